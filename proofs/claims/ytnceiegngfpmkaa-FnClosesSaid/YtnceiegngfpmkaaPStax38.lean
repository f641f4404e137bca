-- Written by plug.py.
import Derived.Test.YtnceiegngfpmkaaPStax0
import Derived.Test.YtnceiegngfpmkaaPStax2
import Derived.Test.YtnceiegngfpmkaaPStax7
import Derived.Test.YtnceiegngfpmkaaPStax15
import Derived.Test.YtnceiegngfpmkaaPStax26
import Derived.Test.YtnceiegngfpmkaaPStax32
import Derived.Test.YtnceiegngfpmkaaPStax34
import Derived.Test.YtnceiegngfpmkaaPStax35
namespace Go.Proofs.Ytnceiegngfpmkaa.PSta
open Go.RowKit Go.Proofs.YtnceiegngfpmkaaW.PrintWords Go.Proofs.YtnceiegngfpmkaaW.PrintLast Go.Proofs.YtnceiegngfpmkaaW.PrintMore
attribute [local go_sem] max2_int min2_int max_two min_two max_three min_three max_four min_four   -- for this text's walks alone
set_option linter.unusedVariables false
set_option linter.unusedSimpArgs false
/-! ### laws_FnCloses: function 5 -/
mutual
def laws_FnCloses.j0 : Nat → List Int → List Int → Bool → Option (Bool)
 | 0, _, _, _ => none
 | k + 1, x0, x1, x32 => if x32 = true then (some true) else ((spec_PairRun.f k (([(⟨1, 1⟩ : S34), (⟨0, 2⟩ : S34)] : List (S34)))).bind fun bt566 => ((spec_PairDrain.f k bt566.1 bt566.2.1 bt566.2.2.1 bt566.2.2.2.1 bt566.2.2.2.2.1).bind fun bt580 => ((laws_at.f x1 0 12).bind fun t594 => (laws_FnCloses.l0 k x0 x1 (([false, false] : List Bool)) t594 0 bt580.1 bt580.2.1 bt580.2.2.1 bt580.2.2.2.1 bt580.2.2.2.2.1))))
def laws_FnCloses.l0 : Nat → List Int → List Int → List Bool → Int → Int → Int → Int → List Int → List Int → Int → Option (Bool)
 | 0, _, _, _, _, _, _, _, _, _, _ => none
 | k + 1, x0, x1, x10, x11, x12, x591000, x591001, x591002, x591003, x591004 => if x12 < (wrap64 (x11 + 2)) then ((laws_at.f x1 (wrap64 (x12 + 1)) 2).bind fun t595 => (if x12 ≥ x11 then (laws_FnCloses.j2 k x0 x1 x10 x11 x12 x591000 x591001 x591002 x591003 x591004 (wrap64 (x12 - x11))) else (laws_FnCloses.j2 k x0 x1 x10 x11 x12 x591000 x591001 x591002 x591003 x591004 t595))) else ((impl_PairDrain.f k x591000 x591001 x591002 x591003 x591004).bind fun bt625 => (if bt625.2.2.2.2.2 = 0 then (laws_FnCloses.l1 k 0 bt625.1 bt625.2.1 bt625.2.2.1 bt625.2.2.2.1 bt625.2.2.2.2.1) else (some false)))
def laws_FnCloses.j2 : Nat → List Int → List Int → List Bool → Int → Int → Int → Int → List Int → List Int → Int → Int → Option (Bool)
 | 0, _, _, _, _, _, _, _, _, _, _, _ => none
 | k + 1, x0, x1, x10, x11, x12, x591000, x591001, x591002, x591003, x591004, x597000 => if x12 ≥ x11 then (laws_FnCloses.j3 k x0 x1 x10 x11 x12 true x591000 x591001 x591002 x591003 x591004 x597000) else ((laws_at.f x0 x12 3).bind fun t597 => (laws_FnCloses.j3 k x0 x1 x10 x11 x12 (t597 == 0) x591000 x591001 x591002 x591003 x591004 x597000))
def laws_FnCloses.j3 : Nat → List Int → List Int → List Bool → Int → Int → Bool → Int → Int → List Int → List Int → Int → Int → Option (Bool)
 | 0, _, _, _, _, _, _, _, _, _, _, _, _ => none
 | k + 1, x0, x1, x10, x11, x12, x77, x591000, x591001, x591002, x591003, x591004, x597000 => if x77 = true then (if 0 ≤ x597000 then (if x597000 < (x10.length : Int) then (if rdOf false x10 x597000 = true then (laws_FnCloses.l0 k x0 x1 x10 x11 (wrap64 (x12 + 1)) x591000 x591001 x591002 x591003 x591004) else (laws_FnCloses.j4 k x0 x1 (x10.set (x597000 : Int).toNat true) x11 x12 x591000 x591001 x591002 x591003 x591004 x597000 3)) else (none)) else (none)) else (laws_FnCloses.j4 k x0 x1 x10 x11 x12 x591000 x591001 x591002 x591003 x591004 x597000 5)
def laws_FnCloses.j4 : Nat → List Int → List Int → List Bool → Int → Int → Int → Int → List Int → List Int → Int → Int → Int → Option (Bool)
 | 0, _, _, _, _, _, _, _, _, _, _, _, _ => none
 | k + 1, x0, x1, x10, x11, x12, x591000, x591001, x591002, x591003, x591004, x597000, x597001 => (impl_PairStep.f k x591000 x591001 x591002 x591003 x591004 x597000 x597001).bind fun bt600 => ((spec_PairStep.f k x591000 x591001 x591002 x591003 x591004 x597000 x597001).bind fun bt612 => (if bt600.2.2.2.2.2.2 = 0 then (if bt600.2.2.2.2.2.1 = bt612.2.2.2.2.2.1 then (if bt600.1 = bt612.1 then (if bt600.2.1 = bt612.2.1 then ((impl_PairOK.f k bt600.1 bt600.2.1 bt600.2.2.1 bt600.2.2.2.1 bt600.2.2.2.2.1).bind fun t624 => (if t624 = true then (laws_FnCloses.l0 k x0 x1 x10 x11 (wrap64 (x12 + 1)) bt600.1 bt600.2.1 bt600.2.2.1 bt600.2.2.2.1 bt600.2.2.2.2.1) else (some false))) else (some false)) else (some false)) else (some false)) else (some false)))
def laws_FnCloses.l1 : Nat → Int → Int → Int → List Int → List Int → Int → Option (Bool)
 | 0, _, _, _, _, _, _ => none
 | k + 1, x21, x591000, x591001, x591002, x591003, x591004 => if x21 < 2 then ((impl_PairStep.f k x591000 x591001 x591002 x591003 x591004 x21 4).bind fun bt635 => (if bt635.2.2.2.2.2.2 = 0 then (laws_FnCloses.l1 k (wrap64 (x21 + 1)) bt635.1 bt635.2.1 bt635.2.2.1 bt635.2.2.2.1 bt635.2.2.2.2.1) else (some false))) else (if x591000 = 0 then (if x591001 = 0 then (some (x591004 == 0)) else (some false)) else (some false))
end
def laws_FnCloses.f (k : Nat) (l0 : List Int) (l1 : List Int) : Option (Bool) := if (l0.length : Int) > 1048576 then (laws_FnCloses.j0 k l0 l1 true) else (laws_FnCloses.j0 k l0 l1 (decide ((l1.length : Int) > 1048576)))
theorem laws_FnCloses.mono_l : ∀ k, (∀ y0 y1 y2, LeO (laws_FnCloses.j0 k y0 y1 y2) (laws_FnCloses.j0 (k + 1) y0 y1 y2)) ∧ (∀ y0 y1 y2 y3 y4 y5 y6 y7 y8 y9, LeO (laws_FnCloses.l0 k y0 y1 y2 y3 y4 y5 y6 y7 y8 y9) (laws_FnCloses.l0 (k + 1) y0 y1 y2 y3 y4 y5 y6 y7 y8 y9)) ∧ (∀ y0 y1 y2 y3 y4 y5 y6 y7 y8 y9 y10, LeO (laws_FnCloses.j2 k y0 y1 y2 y3 y4 y5 y6 y7 y8 y9 y10) (laws_FnCloses.j2 (k + 1) y0 y1 y2 y3 y4 y5 y6 y7 y8 y9 y10)) ∧ (∀ y0 y1 y2 y3 y4 y5 y6 y7 y8 y9 y10 y11, LeO (laws_FnCloses.j3 k y0 y1 y2 y3 y4 y5 y6 y7 y8 y9 y10 y11) (laws_FnCloses.j3 (k + 1) y0 y1 y2 y3 y4 y5 y6 y7 y8 y9 y10 y11)) ∧ (∀ y0 y1 y2 y3 y4 y5 y6 y7 y8 y9 y10 y11, LeO (laws_FnCloses.j4 k y0 y1 y2 y3 y4 y5 y6 y7 y8 y9 y10 y11) (laws_FnCloses.j4 (k + 1) y0 y1 y2 y3 y4 y5 y6 y7 y8 y9 y10 y11)) ∧ (∀ y0 y1 y2 y3 y4 y5, LeO (laws_FnCloses.l1 k y0 y1 y2 y3 y4 y5) (laws_FnCloses.l1 (k + 1) y0 y1 y2 y3 y4 y5))
 | 0 => ⟨fun _ _ _ r h => by simp [laws_FnCloses.j0] at h, fun _ _ _ _ _ _ _ _ _ _ r h => by simp [laws_FnCloses.l0] at h, fun _ _ _ _ _ _ _ _ _ _ _ r h => by simp [laws_FnCloses.j2] at h, fun _ _ _ _ _ _ _ _ _ _ _ _ r h => by simp [laws_FnCloses.j3] at h, fun _ _ _ _ _ _ _ _ _ _ _ _ r h => by simp [laws_FnCloses.j4] at h, fun _ _ _ _ _ _ r h => by simp [laws_FnCloses.l1] at h⟩
 | k + 1 => by
  obtain ⟨ih0, ih1, ih2, ih3, ih4, ih5⟩ := laws_FnCloses.mono_l k
  refine ⟨?_, ?_, ?_, ?_, ?_, ?_⟩
  ·intro y0 y1 y2
   unfold laws_FnCloses.j0
   repeat' first
   | (with_reducible exact ih0 _ _ _)
   | (with_reducible exact ih1 _ _ _ _ _ _ _ _ _ _)
   | (with_reducible exact ih2 _ _ _ _ _ _ _ _ _ _ _)
   | (with_reducible exact ih3 _ _ _ _ _ _ _ _ _ _ _ _)
   | (with_reducible exact ih4 _ _ _ _ _ _ _ _ _ _ _ _)
   | (with_reducible exact ih5 _ _ _ _ _ _)
   | (with_reducible exact impl_PairDrain.mono _ _ _ _ _ _)
   | (with_reducible exact impl_PairOK.mono _ _ _ _ _ _)
   | (with_reducible exact impl_PairStep.mono _ _ _ _ _ _ _ _)
   | (with_reducible exact spec_PairDrain.mono _ _ _ _ _ _)
   | (with_reducible exact spec_PairRun.mono _ _)
   | (with_reducible exact spec_PairStep.mono _ _ _ _ _ _ _ _)
   | (with_reducible exact LeO.refl _)
   | (with_reducible exact LeO.none _)
   | (with_reducible refine LeO.ite ?_ ?_)
   | (with_reducible refine LeO.bind ?_ (fun _ => ?_))
   | exact ih0 _ _ _
   | exact ih1 _ _ _ _ _ _ _ _ _ _
   | exact ih2 _ _ _ _ _ _ _ _ _ _ _
   | exact ih3 _ _ _ _ _ _ _ _ _ _ _ _
   | exact ih4 _ _ _ _ _ _ _ _ _ _ _ _
   | exact ih5 _ _ _ _ _ _
   | exact impl_PairDrain.mono _ _ _ _ _ _
   | exact impl_PairOK.mono _ _ _ _ _ _
   | exact impl_PairStep.mono _ _ _ _ _ _ _ _
   | exact spec_PairDrain.mono _ _ _ _ _ _
   | exact spec_PairRun.mono _ _
   | exact spec_PairStep.mono _ _ _ _ _ _ _ _
   | exact LeO.none _
   | refine LeO.ite ?_ ?_
   | refine LeO.bind ?_ (fun _ => ?_)
  ·intro y0 y1 y2 y3 y4 y5 y6 y7 y8 y9
   unfold laws_FnCloses.l0
   repeat' first
   | (with_reducible exact ih0 _ _ _)
   | (with_reducible exact ih1 _ _ _ _ _ _ _ _ _ _)
   | (with_reducible exact ih2 _ _ _ _ _ _ _ _ _ _ _)
   | (with_reducible exact ih3 _ _ _ _ _ _ _ _ _ _ _ _)
   | (with_reducible exact ih4 _ _ _ _ _ _ _ _ _ _ _ _)
   | (with_reducible exact ih5 _ _ _ _ _ _)
   | (with_reducible exact impl_PairDrain.mono _ _ _ _ _ _)
   | (with_reducible exact impl_PairOK.mono _ _ _ _ _ _)
   | (with_reducible exact impl_PairStep.mono _ _ _ _ _ _ _ _)
   | (with_reducible exact spec_PairDrain.mono _ _ _ _ _ _)
   | (with_reducible exact spec_PairRun.mono _ _)
   | (with_reducible exact spec_PairStep.mono _ _ _ _ _ _ _ _)
   | (with_reducible exact LeO.refl _)
   | (with_reducible exact LeO.none _)
   | (with_reducible refine LeO.ite ?_ ?_)
   | (with_reducible refine LeO.bind ?_ (fun _ => ?_))
   | exact ih0 _ _ _
   | exact ih1 _ _ _ _ _ _ _ _ _ _
   | exact ih2 _ _ _ _ _ _ _ _ _ _ _
   | exact ih3 _ _ _ _ _ _ _ _ _ _ _ _
   | exact ih4 _ _ _ _ _ _ _ _ _ _ _ _
   | exact ih5 _ _ _ _ _ _
   | exact impl_PairDrain.mono _ _ _ _ _ _
   | exact impl_PairOK.mono _ _ _ _ _ _
   | exact impl_PairStep.mono _ _ _ _ _ _ _ _
   | exact spec_PairDrain.mono _ _ _ _ _ _
   | exact spec_PairRun.mono _ _
   | exact spec_PairStep.mono _ _ _ _ _ _ _ _
   | exact LeO.none _
   | refine LeO.ite ?_ ?_
   | refine LeO.bind ?_ (fun _ => ?_)
  ·intro y0 y1 y2 y3 y4 y5 y6 y7 y8 y9 y10
   unfold laws_FnCloses.j2
   repeat' first
   | (with_reducible exact ih0 _ _ _)
   | (with_reducible exact ih1 _ _ _ _ _ _ _ _ _ _)
   | (with_reducible exact ih2 _ _ _ _ _ _ _ _ _ _ _)
   | (with_reducible exact ih3 _ _ _ _ _ _ _ _ _ _ _ _)
   | (with_reducible exact ih4 _ _ _ _ _ _ _ _ _ _ _ _)
   | (with_reducible exact ih5 _ _ _ _ _ _)
   | (with_reducible exact impl_PairDrain.mono _ _ _ _ _ _)
   | (with_reducible exact impl_PairOK.mono _ _ _ _ _ _)
   | (with_reducible exact impl_PairStep.mono _ _ _ _ _ _ _ _)
   | (with_reducible exact spec_PairDrain.mono _ _ _ _ _ _)
   | (with_reducible exact spec_PairRun.mono _ _)
   | (with_reducible exact spec_PairStep.mono _ _ _ _ _ _ _ _)
   | (with_reducible exact LeO.refl _)
   | (with_reducible exact LeO.none _)
   | (with_reducible refine LeO.ite ?_ ?_)
   | (with_reducible refine LeO.bind ?_ (fun _ => ?_))
   | exact ih0 _ _ _
   | exact ih1 _ _ _ _ _ _ _ _ _ _
   | exact ih2 _ _ _ _ _ _ _ _ _ _ _
   | exact ih3 _ _ _ _ _ _ _ _ _ _ _ _
   | exact ih4 _ _ _ _ _ _ _ _ _ _ _ _
   | exact ih5 _ _ _ _ _ _
   | exact impl_PairDrain.mono _ _ _ _ _ _
   | exact impl_PairOK.mono _ _ _ _ _ _
   | exact impl_PairStep.mono _ _ _ _ _ _ _ _
   | exact spec_PairDrain.mono _ _ _ _ _ _
   | exact spec_PairRun.mono _ _
   | exact spec_PairStep.mono _ _ _ _ _ _ _ _
   | exact LeO.none _
   | refine LeO.ite ?_ ?_
   | refine LeO.bind ?_ (fun _ => ?_)
  ·intro y0 y1 y2 y3 y4 y5 y6 y7 y8 y9 y10 y11
   unfold laws_FnCloses.j3
   repeat' first
   | (with_reducible exact ih0 _ _ _)
   | (with_reducible exact ih1 _ _ _ _ _ _ _ _ _ _)
   | (with_reducible exact ih2 _ _ _ _ _ _ _ _ _ _ _)
   | (with_reducible exact ih3 _ _ _ _ _ _ _ _ _ _ _ _)
   | (with_reducible exact ih4 _ _ _ _ _ _ _ _ _ _ _ _)
   | (with_reducible exact ih5 _ _ _ _ _ _)
   | (with_reducible exact impl_PairDrain.mono _ _ _ _ _ _)
   | (with_reducible exact impl_PairOK.mono _ _ _ _ _ _)
   | (with_reducible exact impl_PairStep.mono _ _ _ _ _ _ _ _)
   | (with_reducible exact spec_PairDrain.mono _ _ _ _ _ _)
   | (with_reducible exact spec_PairRun.mono _ _)
   | (with_reducible exact spec_PairStep.mono _ _ _ _ _ _ _ _)
   | (with_reducible exact LeO.refl _)
   | (with_reducible exact LeO.none _)
   | (with_reducible refine LeO.ite ?_ ?_)
   | (with_reducible refine LeO.bind ?_ (fun _ => ?_))
   | exact ih0 _ _ _
   | exact ih1 _ _ _ _ _ _ _ _ _ _
   | exact ih2 _ _ _ _ _ _ _ _ _ _ _
   | exact ih3 _ _ _ _ _ _ _ _ _ _ _ _
   | exact ih4 _ _ _ _ _ _ _ _ _ _ _ _
   | exact ih5 _ _ _ _ _ _
   | exact impl_PairDrain.mono _ _ _ _ _ _
   | exact impl_PairOK.mono _ _ _ _ _ _
   | exact impl_PairStep.mono _ _ _ _ _ _ _ _
   | exact spec_PairDrain.mono _ _ _ _ _ _
   | exact spec_PairRun.mono _ _
   | exact spec_PairStep.mono _ _ _ _ _ _ _ _
   | exact LeO.none _
   | refine LeO.ite ?_ ?_
   | refine LeO.bind ?_ (fun _ => ?_)
  ·intro y0 y1 y2 y3 y4 y5 y6 y7 y8 y9 y10 y11
   unfold laws_FnCloses.j4
   repeat' first
   | (with_reducible exact ih0 _ _ _)
   | (with_reducible exact ih1 _ _ _ _ _ _ _ _ _ _)
   | (with_reducible exact ih2 _ _ _ _ _ _ _ _ _ _ _)
   | (with_reducible exact ih3 _ _ _ _ _ _ _ _ _ _ _ _)
   | (with_reducible exact ih4 _ _ _ _ _ _ _ _ _ _ _ _)
   | (with_reducible exact ih5 _ _ _ _ _ _)
   | (with_reducible exact impl_PairDrain.mono _ _ _ _ _ _)
   | (with_reducible exact impl_PairOK.mono _ _ _ _ _ _)
   | (with_reducible exact impl_PairStep.mono _ _ _ _ _ _ _ _)
   | (with_reducible exact spec_PairDrain.mono _ _ _ _ _ _)
   | (with_reducible exact spec_PairRun.mono _ _)
   | (with_reducible exact spec_PairStep.mono _ _ _ _ _ _ _ _)
   | (with_reducible exact LeO.refl _)
   | (with_reducible exact LeO.none _)
   | (with_reducible refine LeO.ite ?_ ?_)
   | (with_reducible refine LeO.bind ?_ (fun _ => ?_))
   | exact ih0 _ _ _
   | exact ih1 _ _ _ _ _ _ _ _ _ _
   | exact ih2 _ _ _ _ _ _ _ _ _ _ _
   | exact ih3 _ _ _ _ _ _ _ _ _ _ _ _
   | exact ih4 _ _ _ _ _ _ _ _ _ _ _ _
   | exact ih5 _ _ _ _ _ _
   | exact impl_PairDrain.mono _ _ _ _ _ _
   | exact impl_PairOK.mono _ _ _ _ _ _
   | exact impl_PairStep.mono _ _ _ _ _ _ _ _
   | exact spec_PairDrain.mono _ _ _ _ _ _
   | exact spec_PairRun.mono _ _
   | exact spec_PairStep.mono _ _ _ _ _ _ _ _
   | exact LeO.none _
   | refine LeO.ite ?_ ?_
   | refine LeO.bind ?_ (fun _ => ?_)
  ·intro y0 y1 y2 y3 y4 y5
   unfold laws_FnCloses.l1
   repeat' first
   | (with_reducible exact ih0 _ _ _)
   | (with_reducible exact ih1 _ _ _ _ _ _ _ _ _ _)
   | (with_reducible exact ih2 _ _ _ _ _ _ _ _ _ _ _)
   | (with_reducible exact ih3 _ _ _ _ _ _ _ _ _ _ _ _)
   | (with_reducible exact ih4 _ _ _ _ _ _ _ _ _ _ _ _)
   | (with_reducible exact ih5 _ _ _ _ _ _)
   | (with_reducible exact impl_PairDrain.mono _ _ _ _ _ _)
   | (with_reducible exact impl_PairOK.mono _ _ _ _ _ _)
   | (with_reducible exact impl_PairStep.mono _ _ _ _ _ _ _ _)
   | (with_reducible exact spec_PairDrain.mono _ _ _ _ _ _)
   | (with_reducible exact spec_PairRun.mono _ _)
   | (with_reducible exact spec_PairStep.mono _ _ _ _ _ _ _ _)
   | (with_reducible exact LeO.refl _)
   | (with_reducible exact LeO.none _)
   | (with_reducible refine LeO.ite ?_ ?_)
   | (with_reducible refine LeO.bind ?_ (fun _ => ?_))
   | exact ih0 _ _ _
   | exact ih1 _ _ _ _ _ _ _ _ _ _
   | exact ih2 _ _ _ _ _ _ _ _ _ _ _
   | exact ih3 _ _ _ _ _ _ _ _ _ _ _ _
   | exact ih4 _ _ _ _ _ _ _ _ _ _ _ _
   | exact ih5 _ _ _ _ _ _
   | exact impl_PairDrain.mono _ _ _ _ _ _
   | exact impl_PairOK.mono _ _ _ _ _ _
   | exact impl_PairStep.mono _ _ _ _ _ _ _ _
   | exact spec_PairDrain.mono _ _ _ _ _ _
   | exact spec_PairRun.mono _ _
   | exact spec_PairStep.mono _ _ _ _ _ _ _ _
   | exact LeO.none _
   | refine LeO.ite ?_ ?_
   | refine LeO.bind ?_ (fun _ => ?_)
set_option maxHeartbeats 8000000 in
set_option maxRecDepth 100000 in
theorem laws_FnCloses.calls (k : Nat) (A0 : Option Addr) (c0 : Nat) (l0 : List Int) (A1 : Option Addr) (c1 : Nat) (l1 : List Int) (r : Bool) (w : World) (hr0 : Kd.C (Kd.int .u8) w A0 l0.length l0) (hc0 : l0.length ≤ c0) (hr1 : Kd.C (Kd.int .u8) w A1 l1.length l1) (hc1 : l1.length ≤ c1) (h : laws_FnCloses.f k l0 l1 = some r) (hrt : r = true) :
  Calls Try.prog 5 #[.slice A0 l0.length c0, .slice A1 l1.length c1] w fun e w' => e = .returned (.bool r) ∧ Below w.heap.size w w' := by
 have hu34 := Try.underlying34
 have hu37 := Try.underlying37
 have HR0 := Aside0.mk hr0
 have HC0 := Aside0.mk hc0
 clear hr0 hc0
 have HR1 := Aside0.mk hr1
 have HC1 := Aside0.mk hc1
 clear hr1 hc1
 have HB := Aside0.mk (Below.refl w.heap.size w)
 have H : (if (l0.length : Int) > 1048576 then (laws_FnCloses.j0 k l0 l1 true) else (laws_FnCloses.j0 k l0 l1 (decide ((l1.length : Int) > 1048576)))) = some r := h
 clear h
 have HC3 := Aside0.mk H
 clear H
 go_enter Try.func5, Try.ntmps5
 go_upto_region 1 with (fail)
 go_cut [32] (fun v32 wc => ∃ (kq : Nat) (x32_2 : Bool), v32 = .bool x32_2 ∧ Aside0 (laws_FnCloses.j0 kq l0 l1 x32_2 = some r) ∧ Aside0 (kq ≤ k) ∧ Aside0 (Below w.heap.size w wc))
 case first =>
  have H := HC3.out
  clear HC3
  by_cases c4 : (l0.length : Int) > 1048576
  ·rw [if_pos c4] at H
   have c4b0 : decide (1048576 < (l0.length : Int)) = true := decide_eq_true c4
   have c4b1 : decide (1048576 < l0.length) = true := decide_eq_true (by omega)
   clear c4
   (first | rw [c4b0] | (simp only [i64_w, i32_w]; rw [c4b0]) | skip)
   have H' := Aside0.mk H
   clear H
   go_wp2
   go_meet
   case rel => exact ⟨_, (true), (by first | rfl | (simp; done) | (simp [*]; done)), H', ⟨by first | omega | exact Nat.le_refl _⟩, ⟨by repeat (first | (with_reducible first | exact HB.out | apply below_alloc | apply pw_below_drewN | apply below_drew1) | exact HB.out)⟩⟩
  ·rw [if_neg c4] at H
   have c4b0 : decide (1048576 < (l0.length : Int)) = false := decide_eq_false c4
   have c4b1 : decide (1048576 < l0.length) = false := decide_eq_false (by omega)
   clear c4
   (first | rw [c4b0] | (simp only [i64_w, i32_w]; rw [c4b0]) | skip)
   have H' := Aside0.mk H
   clear H
   go_wp2
   go_meet
   case rel => exact ⟨_, (decide ((l1.length : Int) > 1048576)), (by first | rfl | (simp; done) | (simp [*]; done)), H', ⟨by first | omega | exact Nat.le_refl _⟩, ⟨by repeat (first | (with_reducible first | exact HB.out | apply below_alloc | apply pw_below_drewN | apply below_drew1) | exact HB.out)⟩⟩
 case rest =>
  clear HC3
  try clear c1
  try clear p2
  try clear c4
  try clear c4b0
  try clear c4b1
  obtain ⟨kq, x32_2, rfl, HA, HJ2, HB⟩ := hcut
  cases kq with
  | zero => exact absurd HA.out (by simp [laws_FnCloses.j0])
  | succ kj2 =>
   have H := HA.out
   clear HA
   simp only [laws_FnCloses.j0] at H
   by_cases c5 : x32_2 = true
   ·subst c5
    have H1 : (some true) = some r := by rw [if_pos rfl] at H; exact H
    clear H
    have H := H1
    clear H1
    obtain rfl := Option.some.inj H
    go_wp2
    go_ret
    exact ⟨by first | rfl | (simp [errW_none, errW_some] <;> rfl) | (simp [*, errW_none, errW_some] <;> rfl), by repeat (first | (with_reducible first | exact HB.out | apply below_alloc | apply pw_below_drewN | apply below_drew1) | exact HB.out)⟩
   ·replace c5 := Bool.eq_false_iff.mpr c5
    subst c5
    have H1 : ((spec_PairRun.f kj2 (([(⟨1, 1⟩ : S34), (⟨0, 2⟩ : S34)] : List (S34)))).bind fun bt566 => ((spec_PairDrain.f kj2 bt566.1 bt566.2.1 bt566.2.2.1 bt566.2.2.2.1 bt566.2.2.2.2.1).bind fun bt580 => ((laws_at.f l1 0 12).bind fun t594 => (laws_FnCloses.l0 kj2 l0 l1 (([false, false] : List Bool)) t594 0 bt580.1 bt580.2.1 bt580.2.2.1 bt580.2.2.2.1 bt580.2.2.2.2.1)))) = some r := by rw [if_neg (show ¬ (false = true) by decide)] at H; exact H
    clear H
    have H := H1
    clear H1
    obtain ⟨y563, hy563⟩ : ∃ y_ : List (S34), y_ = (([(⟨1, 1⟩ : S34), (⟨0, 2⟩ : S34)] : List (S34))) := ⟨_, rfl⟩
    replace H : ((spec_PairRun.f kj2 y563).bind fun bt566 => ((spec_PairDrain.f kj2 bt566.1 bt566.2.1 bt566.2.2.1 bt566.2.2.2.1 bt566.2.2.2.2.1).bind fun bt580 => ((laws_at.f l1 0 12).bind fun t594 => (laws_FnCloses.l0 kj2 l0 l1 (([false, false] : List Bool)) t594 0 bt580.1 bt580.2.1 bt580.2.2.1 bt580.2.2.2.1 bt580.2.2.2.2.1)))) = some r := by first | (rw [hy563]; with_reducible exact H) | (have H2_ := (Option.bind_some _ _).symm.trans H; rw [hy563]; with_reducible exact H2_) | (have H2_ := (Option.bind_some _ _).symm.trans H; with_reducible exact H2_) | with_reducible exact H | (rw [hy563]; exact H) | exact H
    have Ny563 := Aside0.mk hy563
    clear hy563
    replace H := Option.bind_eq_some_iff.mp H
    obtain ⟨⟨t566, t567, t568, t571, t574, t575, t578⟩, A60, H⟩ := H
    replace H : ((spec_PairDrain.f kj2 t566 t567 t568 t571 t574).bind fun bt580 => ((laws_at.f l1 0 12).bind fun t594 => (laws_FnCloses.l0 kj2 l0 l1 (([false, false] : List Bool)) t594 0 bt580.1 bt580.2.1 bt580.2.2.1 bt580.2.2.2.1 bt580.2.2.2.2.1))) = some r := H
    have A6 := Aside0.mk A60
    clear A60
    replace H := Option.bind_eq_some_iff.mp H
    obtain ⟨⟨t580, t581, t582, t585, t588, t589⟩, A70, H⟩ := H
    replace H : ((laws_at.f l1 0 12).bind fun t594 => (laws_FnCloses.l0 kj2 l0 l1 (([false, false] : List Bool)) t594 0 t580 t581 t582 t585 t588)) = some r := H
    have A7 := Aside0.mk A70
    clear A70
    obtain ⟨y591, hy591⟩ : ∃ y_ : List Bool, y_ = (([false, false] : List Bool)) := ⟨_, rfl⟩
    replace H : ((laws_at.f l1 0 12).bind fun t594 => (laws_FnCloses.l0 kj2 l0 l1 y591 t594 0 t580 t581 t582 t585 t588)) = some r := by first | (rw [hy591]; with_reducible exact H) | (have H2_ := (Option.bind_some _ _).symm.trans H; rw [hy591]; with_reducible exact H2_) | (have H2_ := (Option.bind_some _ _).symm.trans H; with_reducible exact H2_) | with_reducible exact H | (rw [hy591]; exact H) | exact H
    have Ny591 := Aside0.mk hy591
    clear hy591
    replace H := Option.bind_eq_some_iff.mp H
    obtain ⟨t594, A80, H⟩ := H
    replace H : (laws_FnCloses.l0 kj2 l0 l1 y591 t594 0 t580 t581 t582 t585 t588) = some r := H
    have A8 := Aside0.mk A80
    clear A80
    have H' := Aside0.mk H
    clear H
    go_wp2_with (first | ((with_reducible refine gate_dst (N := 35) rfl ?_); (try (refine gate_guard (by rfl) ?_; dsimp only)); refine Kd.R_lit k34 _ 34 ?hg (N := 35) ?hd (xs := ([(⟨1, 1⟩ : S34), (⟨0, 2⟩ : S34)] : List (S34))) (inner := [.int .i64 1, .int .i64 1, .int .i64 0, .int .i64 2]) (ok := fun _ => True) (okp := fun _ => True) ?hr ?hp (fun _ hk => hk) trivial (Below.refl _ _) (Nat.le_refl _) (by simp) ?_; (case hd => rfl); (case hg => rfl); (case hr => first | (go_simp; done) | (go_simp; rfl)); (case hp => exact (Reps.c2 (show Kd.M k34 _ _ _ (⟨1, 1⟩ : S34) [.int .i64 1, .int .i64 1] from (k34_mkM _ _ _ (⟨1, 1⟩ : S34) )) (Reps.c2 (show Kd.M k34 _ _ _ (⟨0, 2⟩ : S34) [.int .i64 0, .int .i64 2] from (k34_mkM _ _ _ (⟨0, 2⟩ : S34) )) (Reps.none _ _)))); intro v564 w9 ho10 hb hg_ hnew_; clear hg_ hnew_; (first | rw [← Ny563.out] at ho10 | (simp only [Int.reduceToNat] at ho10; rw [← Ny563.out] at ho10)); have n0_ := Aside0.mk (Kd.R_lower ho10 (below_size (by repeat (first | (with_reducible first | exact HB.out | apply below_alloc | apply pw_below_drewN | apply below_drew1) | exact HB.out)))); have n1_ := Aside0.mk (below_step (by repeat (first | (with_reducible first | exact HB.out | apply below_alloc | apply pw_below_drewN | apply below_drew1) | exact HB.out)) hb); clear HB; have HO565 := n0_; have HB := n1_; clear n0_ n1_; clear hb ho10; obtain ⟨Ao11, co11, eo11⟩ := Kd.R_slice HO565.out; subst eo11) | ((with_reducible refine gate_callee (f := 16) rfl ?_); refine goesL_ (some 38) rfl rfl Try.func16 (by kernel_rfl) rfl #[.slice Ao11 y563.length co11] rfl (by (try simp only [List.map_toArray, List.map_cons, List.map_nil]); first | done | rfl | (simp only [List.length_drop, List.length_take]; rfl)) ?_; (with_reducible refine (spec_PairRun.calls kj2 _ _ y563 t566 t567 t568 t571 t574 t575 t578 _ ?side1 ?side2 A6.out).mono ?_); (case side1 => repeat (first | exact (Kd.R_reads' HO565.out).2.2 | (with_reducible refine Kd.C_alloc ?_ _) | (with_reducible refine Kd.C_drewN ?_ _) | (with_reducible refine Kd.C_drew ?_))); (case side2 => exact (Kd.R_reads' HO565.out).2.1); rintro e w12 ⟨v569, v572, v576, rfl, ho0, ho1, ho2, hb⟩; refine ⟨_, rfl, ?_⟩; have n0_ := Aside0.mk (Kd.R_below (by (with_reducible repeat (first | apply Kd.R_alloc | apply Kd.R_drewN | apply Kd.R_drew)); exact HO565.out) hb); have n1_ := Aside0.mk (Kd.R_lower ho0 (below_size (by repeat (first | (with_reducible first | exact HB.out | apply below_alloc | apply pw_below_drewN | apply below_drew1) | exact HB.out)))); have n2_ := Aside0.mk (Kd.R_lower ho1 (below_size (by repeat (first | (with_reducible first | exact HB.out | apply below_alloc | apply pw_below_drewN | apply below_drew1) | exact HB.out)))); have n3_ := Aside0.mk (Kd.R_lower ho2 (below_size (by repeat (first | (with_reducible first | exact HB.out | apply below_alloc | apply pw_below_drewN | apply below_drew1) | exact HB.out)))); have n4_ := Aside0.mk (below_step (by repeat (first | (with_reducible first | exact HB.out | apply below_alloc | apply pw_below_drewN | apply below_drew1) | exact HB.out)) hb); clear HO565; clear HB; have HO565 := n0_; have HO570 := n1_; have HO573 := n2_; have HO577 := n3_; have HB := n4_; clear n0_ n1_ n2_ n3_ n4_; (try clear hb); (try clear hb2); (try clear hk); (try clear hi); (try clear ho0); (try clear ho1); (try clear ho2)) | ((with_reducible refine gate_dst (N := 6) rfl ?_); (try (refine gate_guard (by rfl) ?_; dsimp only)); refine box_event ?hg (N := 6) ?hd (cs := #[.int .i64 0, .int .i64 0, .slice none 0 0, .slice none 0 0, .int .i64 0]) (t := 37) ?hr ?_; (case hd => rfl); (case hg => rfl); (case hr => first | (go_simp; done) | (go_simp; rfl)); intro gb579 hg w13 hbox hb; have n0_ := Aside0.mk (Kd.R_below (by (with_reducible repeat (first | apply Kd.R_alloc | apply Kd.R_drewN | apply Kd.R_drew)); exact HO565.out) hb); have n1_ := Aside0.mk (Kd.R_below (by (with_reducible repeat (first | apply Kd.R_alloc | apply Kd.R_drewN | apply Kd.R_drew)); exact HO570.out) hb); have n2_ := Aside0.mk (Kd.R_below (by (with_reducible repeat (first | apply Kd.R_alloc | apply Kd.R_drewN | apply Kd.R_drew)); exact HO573.out) hb); have n3_ := Aside0.mk (Kd.R_below (by (with_reducible repeat (first | apply Kd.R_alloc | apply Kd.R_drewN | apply Kd.R_drew)); exact HO577.out) hb); have n4_ := Aside0.mk (below_step (by repeat (first | (with_reducible first | exact HB.out | apply below_alloc | apply pw_below_drewN | apply below_drew1) | exact HB.out)) hb); have n5_ := Aside0.mk (hbox); have n6_ := Aside0.mk ((by rw [hg]; exact (below_size (by repeat (first | (with_reducible first | exact HB.out | apply below_alloc | apply pw_below_drewN | apply below_drew1) | exact HB.out))) : w.heap.size ≤ gb579)); have n7_ := Aside0.mk ((by rw [hg]; exact (below_size (by repeat (first | (with_reducible first | exact HB.out | apply below_alloc | apply pw_below_drewN | apply below_drew1) | exact HB.out))) : w.heap.size ≤ gb579)); clear HO565; clear HO570; clear HO573; clear HO577; clear HB; have HO565 := n0_; have HO570 := n1_; have HO573 := n2_; have HO577 := n3_; have HB := n4_; have BK579 := n5_; have GW579 := n6_; have GE579 := n7_; clear n0_ n1_ n2_ n3_ n4_ n5_ n6_ n7_; clear hb hbox hg; have hcz14_0 : w13.cell? ⟨gb579, 0, none⟩ = some (.int .i64 0) := (blk_cell BK579.out 0).trans rfl; have hcz14_1 : w13.cell? ⟨gb579, 1, none⟩ = some (.int .i64 0) := (blk_cell BK579.out 1).trans rfl; have hcz14_2 : w13.cell? ⟨gb579, 2, none⟩ = some (.slice none 0 0) := (blk_cell BK579.out 2).trans rfl; have hcz14_3 : w13.cell? ⟨gb579, 3, none⟩ = some (.slice none 0 0) := (blk_cell BK579.out 3).trans rfl; have hcz14_4 : w13.cell? ⟨gb579, 4, none⟩ = some (.int .i64 0) := (blk_cell BK579.out 4).trans rfl; have hfz14_0 := blk_frozen BK579.out 0; have hfz14_1 := blk_frozen BK579.out 1; have hfz14_2 := blk_frozen BK579.out 2; have hfz14_3 := blk_frozen BK579.out 3; have hfz14_4 := blk_frozen BK579.out 4; obtain ⟨Ao15, co15, eo15⟩ := Kd.R_slice HO570.out; subst eo15; obtain ⟨Ao16, co16, eo16⟩ := Kd.R_slice HO573.out; subst eo16) | ((with_reducible refine gate_callee (f := 18) rfl ?_); refine goesL_ (some 44) rfl rfl Try.func18 (by kernel_rfl) rfl #[.agg #[.int .i64 t566, .int .i64 t567, .slice Ao15 t568.length co15, .slice Ao16 t571.length co16, .int .i64 t574]] rfl (by (try simp only [List.map_toArray, List.map_cons, List.map_nil]); first | done | rfl | (simp only [List.length_drop, List.length_take]; rfl)) ?_; (with_reducible refine (spec_PairDrain.calls kj2 t566 t567 _ _ t568 _ _ t571 t574 t580 t581 t582 t585 t588 t589 _ ?side1 ?side2 ?side3 ?side4 A7.out).mono ?_); (case side1 => refine (Kd.R_reads' (e := 3) (base := w.heap.size) (ok := fun k_ => (some k_ ≠ (.slice Ao16 t571.length co16 : Value).ownBlock ∧ some k_ ≠ (v576 : Value).ownBlock)) (n := t568.length) (c := co15) ?_).2.2; exact (by (with_reducible repeat (first | apply Kd.R_alloc | apply Kd.R_drewN | apply Kd.R_drew)); exact (Kd.R_mono (Kd.R_far (p := ⟨gb579, 4, none⟩) (Kd.R_far (p := ⟨gb579, 3, none⟩) (Kd.R_far (p := ⟨gb579, 2, none⟩) (Kd.R_far (p := ⟨gb579, 1, none⟩) (Kd.R_far (p := ⟨gb579, 0, none⟩) (Kd.R_types HO570.out BK579.out (by decide)) (fun _ hk => hk.2) (.int .i64 t566)) (fun _ hk => hk.2) (.int .i64 t567)) (fun _ hk => hk.2) (.slice Ao15 t568.length co15)) (fun _ hk => hk.2) (.slice Ao16 t571.length co16)) (fun _ hk => hk.2) (.int .i64 t574)) (fun _ h_ => h_.1)))); (case side2 => exact (Kd.R_reads' HO570.out).2.1); (case side3 => refine (Kd.R_reads' (e := 3) (base := w.heap.size) (ok := fun k_ => (some k_ ≠ (.slice Ao15 t568.length co15 : Value).ownBlock ∧ some k_ ≠ (v576 : Value).ownBlock)) (n := t571.length) (c := co16) ?_).2.2; exact (by (with_reducible repeat (first | apply Kd.R_alloc | apply Kd.R_drewN | apply Kd.R_drew)); exact (Kd.R_mono (Kd.R_far (p := ⟨gb579, 4, none⟩) (Kd.R_far (p := ⟨gb579, 3, none⟩) (Kd.R_far (p := ⟨gb579, 2, none⟩) (Kd.R_far (p := ⟨gb579, 1, none⟩) (Kd.R_far (p := ⟨gb579, 0, none⟩) (Kd.R_types HO573.out BK579.out (by decide)) (fun _ hk => hk.2) (.int .i64 t566)) (fun _ hk => hk.2) (.int .i64 t567)) (fun _ hk => hk.2) (.slice Ao15 t568.length co15)) (fun _ hk => hk.2) (.slice Ao16 t571.length co16)) (fun _ hk => hk.2) (.int .i64 t574)) (fun _ h_ => h_.1)))); (case side4 => exact (Kd.R_reads' HO573.out).2.1); rintro e w17 ⟨v583, v586, rfl, ho0, ho1, hb⟩; refine ⟨_, rfl, ?_⟩; have n0_ := Aside0.mk (Kd.R_below (by (with_reducible repeat (first | apply Kd.R_alloc | apply Kd.R_drewN | apply Kd.R_drew)); exact (Kd.R_mono (Kd.R_far (p := ⟨gb579, 4, none⟩) (Kd.R_far (p := ⟨gb579, 3, none⟩) (Kd.R_far (p := ⟨gb579, 2, none⟩) (Kd.R_far (p := ⟨gb579, 1, none⟩) (Kd.R_far (p := ⟨gb579, 0, none⟩) (Kd.R_types HO565.out BK579.out (by decide)) (fun _ hk => hk.2) (.int .i64 t566)) (fun _ hk => hk.2) (.int .i64 t567)) (fun _ hk => hk.2) (.slice Ao15 t568.length co15)) (fun _ hk => hk.2) (.slice Ao16 t571.length co16)) (fun _ hk => hk.2) (.int .i64 t574)) (fun _ h_ => h_.1))) hb); have n1_ := Aside0.mk (Kd.R_below (by (with_reducible repeat (first | apply Kd.R_alloc | apply Kd.R_drewN | apply Kd.R_drew)); exact (Kd.R_mono (Kd.R_far (p := ⟨gb579, 4, none⟩) (Kd.R_far (p := ⟨gb579, 3, none⟩) (Kd.R_far (p := ⟨gb579, 2, none⟩) (Kd.R_far (p := ⟨gb579, 1, none⟩) (Kd.R_far (p := ⟨gb579, 0, none⟩) (Kd.R_types HO570.out BK579.out (by decide)) (fun _ hk => hk.2) (.int .i64 t566)) (fun _ hk => hk.2) (.int .i64 t567)) (fun _ hk => hk.2) (.slice Ao15 t568.length co15)) (fun _ hk => hk.2) (.slice Ao16 t571.length co16)) (fun _ hk => hk.2) (.int .i64 t574)) (fun _ h_ => h_.1))) hb); have n2_ := Aside0.mk (Kd.R_below (by (with_reducible repeat (first | apply Kd.R_alloc | apply Kd.R_drewN | apply Kd.R_drew)); exact (Kd.R_mono (Kd.R_far (p := ⟨gb579, 4, none⟩) (Kd.R_far (p := ⟨gb579, 3, none⟩) (Kd.R_far (p := ⟨gb579, 2, none⟩) (Kd.R_far (p := ⟨gb579, 1, none⟩) (Kd.R_far (p := ⟨gb579, 0, none⟩) (Kd.R_types HO573.out BK579.out (by decide)) (fun _ hk => hk.2) (.int .i64 t566)) (fun _ hk => hk.2) (.int .i64 t567)) (fun _ hk => hk.2) (.slice Ao15 t568.length co15)) (fun _ hk => hk.2) (.slice Ao16 t571.length co16)) (fun _ hk => hk.2) (.int .i64 t574)) (fun _ h_ => h_.1))) hb); have n3_ := Aside0.mk (Kd.R_below (by (with_reducible repeat (first | apply Kd.R_alloc | apply Kd.R_drewN | apply Kd.R_drew)); exact (Kd.R_mono (Kd.R_far (p := ⟨gb579, 4, none⟩) (Kd.R_far (p := ⟨gb579, 3, none⟩) (Kd.R_far (p := ⟨gb579, 2, none⟩) (Kd.R_far (p := ⟨gb579, 1, none⟩) (Kd.R_far (p := ⟨gb579, 0, none⟩) (Kd.R_types HO577.out BK579.out (by decide)) (fun _ hk => hk.2) (.int .i64 t566)) (fun _ hk => hk.2) (.int .i64 t567)) (fun _ hk => hk.2) (.slice Ao15 t568.length co15)) (fun _ hk => hk.2) (.slice Ao16 t571.length co16)) (fun _ hk => hk.2) (.int .i64 t574)) (fun _ h_ => h_.1))) hb); have n4_ := Aside0.mk (Kd.V_lower (Kd.V_mono (ok' := fun k_ => some k_ ≠ (.slice Ao11 y563.length co11 : Value).ownBlock ∧ some k_ ≠ (.slice Ao15 t568.length co15 : Value).ownBlock ∧ some k_ ≠ (.slice Ao16 t571.length co16 : Value).ownBlock ∧ some k_ ≠ (v576 : Value).ownBlock ∧ k_ ≠ gb579) ho0 (fun k_ hk_ => ⟨(Kd.fresh' (Kd.R_lt (by (with_reducible repeat (first | apply Kd.R_alloc | apply Kd.R_drewN | apply Kd.R_drew)); exact (Kd.R_mono (Kd.R_far (p := ⟨gb579, 4, none⟩) (Kd.R_far (p := ⟨gb579, 3, none⟩) (Kd.R_far (p := ⟨gb579, 2, none⟩) (Kd.R_far (p := ⟨gb579, 1, none⟩) (Kd.R_far (p := ⟨gb579, 0, none⟩) (Kd.R_types HO565.out BK579.out (by decide)) (fun _ hk => hk.2) (.int .i64 t566)) (fun _ hk => hk.2) (.int .i64 t567)) (fun _ hk => hk.2) (.slice Ao15 t568.length co15)) (fun _ hk => hk.2) (.slice Ao16 t571.length co16)) (fun _ hk => hk.2) (.int .i64 t574)) (fun _ h_ => h_.1)))) k_ hk_), (Kd.fresh' (Kd.R_lt (by (with_reducible repeat (first | apply Kd.R_alloc | apply Kd.R_drewN | apply Kd.R_drew)); exact (Kd.R_mono (Kd.R_far (p := ⟨gb579, 4, none⟩) (Kd.R_far (p := ⟨gb579, 3, none⟩) (Kd.R_far (p := ⟨gb579, 2, none⟩) (Kd.R_far (p := ⟨gb579, 1, none⟩) (Kd.R_far (p := ⟨gb579, 0, none⟩) (Kd.R_types HO570.out BK579.out (by decide)) (fun _ hk => hk.2) (.int .i64 t566)) (fun _ hk => hk.2) (.int .i64 t567)) (fun _ hk => hk.2) (.slice Ao15 t568.length co15)) (fun _ hk => hk.2) (.slice Ao16 t571.length co16)) (fun _ hk => hk.2) (.int .i64 t574)) (fun _ h_ => h_.1)))) k_ hk_), (Kd.fresh' (Kd.R_lt (by (with_reducible repeat (first | apply Kd.R_alloc | apply Kd.R_drewN | apply Kd.R_drew)); exact (Kd.R_mono (Kd.R_far (p := ⟨gb579, 4, none⟩) (Kd.R_far (p := ⟨gb579, 3, none⟩) (Kd.R_far (p := ⟨gb579, 2, none⟩) (Kd.R_far (p := ⟨gb579, 1, none⟩) (Kd.R_far (p := ⟨gb579, 0, none⟩) (Kd.R_types HO573.out BK579.out (by decide)) (fun _ hk => hk.2) (.int .i64 t566)) (fun _ hk => hk.2) (.int .i64 t567)) (fun _ hk => hk.2) (.slice Ao15 t568.length co15)) (fun _ hk => hk.2) (.slice Ao16 t571.length co16)) (fun _ hk => hk.2) (.int .i64 t574)) (fun _ h_ => h_.1)))) k_ hk_), (Kd.fresh' (Kd.R_lt (by (with_reducible repeat (first | apply Kd.R_alloc | apply Kd.R_drewN | apply Kd.R_drew)); exact (Kd.R_mono (Kd.R_far (p := ⟨gb579, 4, none⟩) (Kd.R_far (p := ⟨gb579, 3, none⟩) (Kd.R_far (p := ⟨gb579, 2, none⟩) (Kd.R_far (p := ⟨gb579, 1, none⟩) (Kd.R_far (p := ⟨gb579, 0, none⟩) (Kd.R_types HO577.out BK579.out (by decide)) (fun _ hk => hk.2) (.int .i64 t566)) (fun _ hk => hk.2) (.int .i64 t567)) (fun _ hk => hk.2) (.slice Ao15 t568.length co15)) (fun _ hk => hk.2) (.slice Ao16 t571.length co16)) (fun _ hk => hk.2) (.int .i64 t574)) (fun _ h_ => h_.1)))) k_ hk_), (Kd.freshB (g := gb579) (o := .cells #[.int .i64 t566, .int .i64 t567, .slice Ao15 t568.length co15, .slice Ao16 t571.length co16, .int .i64 t574] 37 (0, 0)) (by (with_reducible repeat (first | refine blk_drewN ?_ _ | refine blk_drew ?_ | refine blk_alloc ?_ _)); refine blk_put (cs := #[.int .i64 t566, .int .i64 t567, .slice Ao15 t568.length co15, .slice Ao16 t571.length co16, .int .i64 0]) ?_ 4 _ rfl; (with_reducible repeat (first | refine blk_drewN ?_ _ | refine blk_drew ?_ | refine blk_alloc ?_ _)); refine blk_put (cs := #[.int .i64 t566, .int .i64 t567, .slice Ao15 t568.length co15, .slice none 0 0, .int .i64 0]) ?_ 3 _ rfl; (with_reducible repeat (first | refine blk_drewN ?_ _ | refine blk_drew ?_ | refine blk_alloc ?_ _)); refine blk_put (cs := #[.int .i64 t566, .int .i64 t567, .slice none 0 0, .slice none 0 0, .int .i64 0]) ?_ 2 _ rfl; (with_reducible repeat (first | refine blk_drewN ?_ _ | refine blk_drew ?_ | refine blk_alloc ?_ _)); refine blk_put (cs := #[.int .i64 t566, .int .i64 0, .slice none 0 0, .slice none 0 0, .int .i64 0]) ?_ 1 _ rfl; (with_reducible repeat (first | refine blk_drewN ?_ _ | refine blk_drew ?_ | refine blk_alloc ?_ _)); refine blk_put (cs := #[.int .i64 0, .int .i64 0, .slice none 0 0, .slice none 0 0, .int .i64 0]) ?_ 0 _ rfl; (with_reducible repeat (first | refine blk_drewN ?_ _ | refine blk_drew ?_ | refine blk_alloc ?_ _)); exact BK579.out) k_ hk_)⟩)) (below_size (by repeat (first | (with_reducible first | exact HB.out | apply below_alloc | apply pw_below_drewN | apply below_drew1 | refine below_set ?_ GE579.out) | exact HB.out)))); have n5_ := Aside0.mk (Kd.V_lower (Kd.V_mono (ok' := fun k_ => some k_ ≠ (.slice Ao11 y563.length co11 : Value).ownBlock ∧ some k_ ≠ (.slice Ao15 t568.length co15 : Value).ownBlock ∧ some k_ ≠ (.slice Ao16 t571.length co16 : Value).ownBlock ∧ some k_ ≠ (v576 : Value).ownBlock ∧ k_ ≠ gb579) ho1 (fun k_ hk_ => ⟨(Kd.fresh' (Kd.R_lt (by (with_reducible repeat (first | apply Kd.R_alloc | apply Kd.R_drewN | apply Kd.R_drew)); exact (Kd.R_mono (Kd.R_far (p := ⟨gb579, 4, none⟩) (Kd.R_far (p := ⟨gb579, 3, none⟩) (Kd.R_far (p := ⟨gb579, 2, none⟩) (Kd.R_far (p := ⟨gb579, 1, none⟩) (Kd.R_far (p := ⟨gb579, 0, none⟩) (Kd.R_types HO565.out BK579.out (by decide)) (fun _ hk => hk.2) (.int .i64 t566)) (fun _ hk => hk.2) (.int .i64 t567)) (fun _ hk => hk.2) (.slice Ao15 t568.length co15)) (fun _ hk => hk.2) (.slice Ao16 t571.length co16)) (fun _ hk => hk.2) (.int .i64 t574)) (fun _ h_ => h_.1)))) k_ hk_), (Kd.fresh' (Kd.R_lt (by (with_reducible repeat (first | apply Kd.R_alloc | apply Kd.R_drewN | apply Kd.R_drew)); exact (Kd.R_mono (Kd.R_far (p := ⟨gb579, 4, none⟩) (Kd.R_far (p := ⟨gb579, 3, none⟩) (Kd.R_far (p := ⟨gb579, 2, none⟩) (Kd.R_far (p := ⟨gb579, 1, none⟩) (Kd.R_far (p := ⟨gb579, 0, none⟩) (Kd.R_types HO570.out BK579.out (by decide)) (fun _ hk => hk.2) (.int .i64 t566)) (fun _ hk => hk.2) (.int .i64 t567)) (fun _ hk => hk.2) (.slice Ao15 t568.length co15)) (fun _ hk => hk.2) (.slice Ao16 t571.length co16)) (fun _ hk => hk.2) (.int .i64 t574)) (fun _ h_ => h_.1)))) k_ hk_), (Kd.fresh' (Kd.R_lt (by (with_reducible repeat (first | apply Kd.R_alloc | apply Kd.R_drewN | apply Kd.R_drew)); exact (Kd.R_mono (Kd.R_far (p := ⟨gb579, 4, none⟩) (Kd.R_far (p := ⟨gb579, 3, none⟩) (Kd.R_far (p := ⟨gb579, 2, none⟩) (Kd.R_far (p := ⟨gb579, 1, none⟩) (Kd.R_far (p := ⟨gb579, 0, none⟩) (Kd.R_types HO573.out BK579.out (by decide)) (fun _ hk => hk.2) (.int .i64 t566)) (fun _ hk => hk.2) (.int .i64 t567)) (fun _ hk => hk.2) (.slice Ao15 t568.length co15)) (fun _ hk => hk.2) (.slice Ao16 t571.length co16)) (fun _ hk => hk.2) (.int .i64 t574)) (fun _ h_ => h_.1)))) k_ hk_), (Kd.fresh' (Kd.R_lt (by (with_reducible repeat (first | apply Kd.R_alloc | apply Kd.R_drewN | apply Kd.R_drew)); exact (Kd.R_mono (Kd.R_far (p := ⟨gb579, 4, none⟩) (Kd.R_far (p := ⟨gb579, 3, none⟩) (Kd.R_far (p := ⟨gb579, 2, none⟩) (Kd.R_far (p := ⟨gb579, 1, none⟩) (Kd.R_far (p := ⟨gb579, 0, none⟩) (Kd.R_types HO577.out BK579.out (by decide)) (fun _ hk => hk.2) (.int .i64 t566)) (fun _ hk => hk.2) (.int .i64 t567)) (fun _ hk => hk.2) (.slice Ao15 t568.length co15)) (fun _ hk => hk.2) (.slice Ao16 t571.length co16)) (fun _ hk => hk.2) (.int .i64 t574)) (fun _ h_ => h_.1)))) k_ hk_), (Kd.freshB (g := gb579) (o := .cells #[.int .i64 t566, .int .i64 t567, .slice Ao15 t568.length co15, .slice Ao16 t571.length co16, .int .i64 t574] 37 (0, 0)) (by (with_reducible repeat (first | refine blk_drewN ?_ _ | refine blk_drew ?_ | refine blk_alloc ?_ _)); refine blk_put (cs := #[.int .i64 t566, .int .i64 t567, .slice Ao15 t568.length co15, .slice Ao16 t571.length co16, .int .i64 0]) ?_ 4 _ rfl; (with_reducible repeat (first | refine blk_drewN ?_ _ | refine blk_drew ?_ | refine blk_alloc ?_ _)); refine blk_put (cs := #[.int .i64 t566, .int .i64 t567, .slice Ao15 t568.length co15, .slice none 0 0, .int .i64 0]) ?_ 3 _ rfl; (with_reducible repeat (first | refine blk_drewN ?_ _ | refine blk_drew ?_ | refine blk_alloc ?_ _)); refine blk_put (cs := #[.int .i64 t566, .int .i64 t567, .slice none 0 0, .slice none 0 0, .int .i64 0]) ?_ 2 _ rfl; (with_reducible repeat (first | refine blk_drewN ?_ _ | refine blk_drew ?_ | refine blk_alloc ?_ _)); refine blk_put (cs := #[.int .i64 t566, .int .i64 0, .slice none 0 0, .slice none 0 0, .int .i64 0]) ?_ 1 _ rfl; (with_reducible repeat (first | refine blk_drewN ?_ _ | refine blk_drew ?_ | refine blk_alloc ?_ _)); refine blk_put (cs := #[.int .i64 0, .int .i64 0, .slice none 0 0, .slice none 0 0, .int .i64 0]) ?_ 0 _ rfl; (with_reducible repeat (first | refine blk_drewN ?_ _ | refine blk_drew ?_ | refine blk_alloc ?_ _)); exact BK579.out) k_ hk_)⟩)) (below_size (by repeat (first | (with_reducible first | exact HB.out | apply below_alloc | apply pw_below_drewN | apply below_drew1 | refine below_set ?_ GE579.out) | exact HB.out)))); have n6_ := Aside0.mk (blk_below (g := gb579) (o := .cells #[.int .i64 t566, .int .i64 t567, .slice Ao15 t568.length co15, .slice Ao16 t571.length co16, .int .i64 t574] 37 (0, 0)) (by (with_reducible repeat (first | refine blk_drewN ?_ _ | refine blk_drew ?_ | refine blk_alloc ?_ _)); refine blk_put (cs := #[.int .i64 t566, .int .i64 t567, .slice Ao15 t568.length co15, .slice Ao16 t571.length co16, .int .i64 0]) ?_ 4 _ rfl; (with_reducible repeat (first | refine blk_drewN ?_ _ | refine blk_drew ?_ | refine blk_alloc ?_ _)); refine blk_put (cs := #[.int .i64 t566, .int .i64 t567, .slice Ao15 t568.length co15, .slice none 0 0, .int .i64 0]) ?_ 3 _ rfl; (with_reducible repeat (first | refine blk_drewN ?_ _ | refine blk_drew ?_ | refine blk_alloc ?_ _)); refine blk_put (cs := #[.int .i64 t566, .int .i64 t567, .slice none 0 0, .slice none 0 0, .int .i64 0]) ?_ 2 _ rfl; (with_reducible repeat (first | refine blk_drewN ?_ _ | refine blk_drew ?_ | refine blk_alloc ?_ _)); refine blk_put (cs := #[.int .i64 t566, .int .i64 0, .slice none 0 0, .slice none 0 0, .int .i64 0]) ?_ 1 _ rfl; (with_reducible repeat (first | refine blk_drewN ?_ _ | refine blk_drew ?_ | refine blk_alloc ?_ _)); refine blk_put (cs := #[.int .i64 0, .int .i64 0, .slice none 0 0, .slice none 0 0, .int .i64 0]) ?_ 0 _ rfl; (with_reducible repeat (first | refine blk_drewN ?_ _ | refine blk_drew ?_ | refine blk_alloc ?_ _)); exact BK579.out) hb); have n7_ := Aside0.mk (below_step (by repeat (first | (with_reducible first | exact HB.out | apply below_alloc | apply pw_below_drewN | apply below_drew1 | refine below_set ?_ GE579.out) | exact HB.out)) hb); clear HO565; clear HO570; clear HO573; clear HO577; clear BK579; clear HB; have HO565 := n0_; have HO570 := n1_; have HO573 := n2_; have HO577 := n3_; have HO584 := n4_; have HO587 := n5_; have BK579 := n6_; have HB := n7_; clear n0_ n1_ n2_ n3_ n4_ n5_ n6_ n7_; (try clear hb); (try clear hb2); (try clear hk); (try clear hi); (try clear ho0); (try clear ho1); have hcz18_0 : w17.cell? ⟨gb579, 0, none⟩ = some (.int .i64 t566) := (blk_cell BK579.out 0).trans rfl; have hcz18_1 : w17.cell? ⟨gb579, 1, none⟩ = some (.int .i64 t567) := (blk_cell BK579.out 1).trans rfl; have hcz18_2 : w17.cell? ⟨gb579, 2, none⟩ = some (.slice Ao15 t568.length co15) := (blk_cell BK579.out 2).trans rfl; have hcz18_3 : w17.cell? ⟨gb579, 3, none⟩ = some (.slice Ao16 t571.length co16) := (blk_cell BK579.out 3).trans rfl; have hcz18_4 : w17.cell? ⟨gb579, 4, none⟩ = some (.int .i64 t574) := (blk_cell BK579.out 4).trans rfl; have hfz18_0 := blk_frozen BK579.out 0; have hfz18_1 := blk_frozen BK579.out 1; have hfz18_2 := blk_frozen BK579.out 2; have hfz18_3 := blk_frozen BK579.out 3; have hfz18_4 := blk_frozen BK579.out 4; obtain ⟨Ao19, co19, eo19⟩ := Kd.V_slice HO584.out; subst eo19; obtain ⟨Ao20, co20, eo20⟩ := Kd.V_slice HO587.out; subst eo20) | ((with_reducible refine gate_dst (N := 9) rfl ?_); (try (refine gate_guard (by rfl) ?_; dsimp only)); refine box_event ?hg (N := 9) ?hd (cs := #[.int .i64 0, .int .i64 0, .slice none 0 0, .slice none 0 0, .int .i64 0]) (t := 37) ?hr ?_; (case hd => rfl); (case hg => rfl); (case hr => first | (go_simp; done) | (go_simp; rfl)); intro gb590 hg w21 hbox hb; have n0_ := Aside0.mk (Kd.R_below (by (with_reducible repeat (first | apply Kd.R_alloc | apply Kd.R_drewN | apply Kd.R_drew)); exact (Kd.R_mono (Kd.R_far (p := ⟨gb579, 4, none⟩) (Kd.R_far (p := ⟨gb579, 3, none⟩) (Kd.R_far (p := ⟨gb579, 2, none⟩) (Kd.R_far (p := ⟨gb579, 1, none⟩) (Kd.R_far (p := ⟨gb579, 0, none⟩) (Kd.R_types HO565.out BK579.out (by decide)) (fun _ hk => hk.2) (.int .i64 t580)) (fun _ hk => hk.2) (.int .i64 t581)) (fun _ hk => hk.2) (.slice Ao19 t582.length co19)) (fun _ hk => hk.2) (.slice Ao20 t585.length co20)) (fun _ hk => hk.2) (.int .i64 t588)) (fun _ h_ => h_.1))) hb); have n1_ := Aside0.mk (Kd.R_below (by (with_reducible repeat (first | apply Kd.R_alloc | apply Kd.R_drewN | apply Kd.R_drew)); exact (Kd.R_mono (Kd.R_far (p := ⟨gb579, 4, none⟩) (Kd.R_far (p := ⟨gb579, 3, none⟩) (Kd.R_far (p := ⟨gb579, 2, none⟩) (Kd.R_far (p := ⟨gb579, 1, none⟩) (Kd.R_far (p := ⟨gb579, 0, none⟩) (Kd.R_types HO570.out BK579.out (by decide)) (fun _ hk => hk.2) (.int .i64 t580)) (fun _ hk => hk.2) (.int .i64 t581)) (fun _ hk => hk.2) (.slice Ao19 t582.length co19)) (fun _ hk => hk.2) (.slice Ao20 t585.length co20)) (fun _ hk => hk.2) (.int .i64 t588)) (fun _ h_ => h_.1))) hb); have n2_ := Aside0.mk (Kd.R_below (by (with_reducible repeat (first | apply Kd.R_alloc | apply Kd.R_drewN | apply Kd.R_drew)); exact (Kd.R_mono (Kd.R_far (p := ⟨gb579, 4, none⟩) (Kd.R_far (p := ⟨gb579, 3, none⟩) (Kd.R_far (p := ⟨gb579, 2, none⟩) (Kd.R_far (p := ⟨gb579, 1, none⟩) (Kd.R_far (p := ⟨gb579, 0, none⟩) (Kd.R_types HO573.out BK579.out (by decide)) (fun _ hk => hk.2) (.int .i64 t580)) (fun _ hk => hk.2) (.int .i64 t581)) (fun _ hk => hk.2) (.slice Ao19 t582.length co19)) (fun _ hk => hk.2) (.slice Ao20 t585.length co20)) (fun _ hk => hk.2) (.int .i64 t588)) (fun _ h_ => h_.1))) hb); have n3_ := Aside0.mk (Kd.R_below (by (with_reducible repeat (first | apply Kd.R_alloc | apply Kd.R_drewN | apply Kd.R_drew)); exact (Kd.R_mono (Kd.R_far (p := ⟨gb579, 4, none⟩) (Kd.R_far (p := ⟨gb579, 3, none⟩) (Kd.R_far (p := ⟨gb579, 2, none⟩) (Kd.R_far (p := ⟨gb579, 1, none⟩) (Kd.R_far (p := ⟨gb579, 0, none⟩) (Kd.R_types HO577.out BK579.out (by decide)) (fun _ hk => hk.2) (.int .i64 t580)) (fun _ hk => hk.2) (.int .i64 t581)) (fun _ hk => hk.2) (.slice Ao19 t582.length co19)) (fun _ hk => hk.2) (.slice Ao20 t585.length co20)) (fun _ hk => hk.2) (.int .i64 t588)) (fun _ h_ => h_.1))) hb); have n4_ := Aside0.mk (Kd.V_below (Kd.V_elderB (by (with_reducible repeat (first | apply Kd.V_alloc | apply Kd.V_drewN | apply Kd.V_drew)); exact (Kd.V_mono (Kd.V_far (p := ⟨gb579, 4, none⟩) (Kd.V_far (p := ⟨gb579, 3, none⟩) (Kd.V_far (p := ⟨gb579, 2, none⟩) (Kd.V_far (p := ⟨gb579, 1, none⟩) (Kd.V_far (p := ⟨gb579, 0, none⟩) (Kd.V_mono HO584.out (fun k_ hk => (⟨hk, hk.2.2.2.2⟩ : _ ∧ k_ ≠ gb579))) (fun _ hk => hk.2) (.int .i64 t580)) (fun _ hk => hk.2) (.int .i64 t581)) (fun _ hk => hk.2) (.slice Ao19 t582.length co19)) (fun _ hk => hk.2) (.slice Ao20 t585.length co20)) (fun _ hk => hk.2) (.int .i64 t588)) (fun _ h_ => h_.1))) gb590 (Nat.le_of_eq hg.symm)) hb); have n5_ := Aside0.mk (Kd.V_below (Kd.V_elderB (by (with_reducible repeat (first | apply Kd.V_alloc | apply Kd.V_drewN | apply Kd.V_drew)); exact (Kd.V_mono (Kd.V_far (p := ⟨gb579, 4, none⟩) (Kd.V_far (p := ⟨gb579, 3, none⟩) (Kd.V_far (p := ⟨gb579, 2, none⟩) (Kd.V_far (p := ⟨gb579, 1, none⟩) (Kd.V_far (p := ⟨gb579, 0, none⟩) (Kd.V_mono HO587.out (fun k_ hk => (⟨hk, hk.2.2.2.2⟩ : _ ∧ k_ ≠ gb579))) (fun _ hk => hk.2) (.int .i64 t580)) (fun _ hk => hk.2) (.int .i64 t581)) (fun _ hk => hk.2) (.slice Ao19 t582.length co19)) (fun _ hk => hk.2) (.slice Ao20 t585.length co20)) (fun _ hk => hk.2) (.int .i64 t588)) (fun _ h_ => h_.1))) gb590 (Nat.le_of_eq hg.symm)) hb); have n6_ := Aside0.mk (blk_below (g := gb579) (o := .cells #[.int .i64 t580, .int .i64 t581, .slice Ao19 t582.length co19, .slice Ao20 t585.length co20, .int .i64 t588] 37 (0, 0)) (by (with_reducible repeat (first | refine blk_drewN ?_ _ | refine blk_drew ?_ | refine blk_alloc ?_ _)); refine blk_put (cs := #[.int .i64 t580, .int .i64 t581, .slice Ao19 t582.length co19, .slice Ao20 t585.length co20, .int .i64 t574]) ?_ 4 _ rfl; (with_reducible repeat (first | refine blk_drewN ?_ _ | refine blk_drew ?_ | refine blk_alloc ?_ _)); refine blk_put (cs := #[.int .i64 t580, .int .i64 t581, .slice Ao19 t582.length co19, .slice Ao16 t571.length co16, .int .i64 t574]) ?_ 3 _ rfl; (with_reducible repeat (first | refine blk_drewN ?_ _ | refine blk_drew ?_ | refine blk_alloc ?_ _)); refine blk_put (cs := #[.int .i64 t580, .int .i64 t581, .slice Ao15 t568.length co15, .slice Ao16 t571.length co16, .int .i64 t574]) ?_ 2 _ rfl; (with_reducible repeat (first | refine blk_drewN ?_ _ | refine blk_drew ?_ | refine blk_alloc ?_ _)); refine blk_put (cs := #[.int .i64 t580, .int .i64 t567, .slice Ao15 t568.length co15, .slice Ao16 t571.length co16, .int .i64 t574]) ?_ 1 _ rfl; (with_reducible repeat (first | refine blk_drewN ?_ _ | refine blk_drew ?_ | refine blk_alloc ?_ _)); refine blk_put (cs := #[.int .i64 t566, .int .i64 t567, .slice Ao15 t568.length co15, .slice Ao16 t571.length co16, .int .i64 t574]) ?_ 0 _ rfl; (with_reducible repeat (first | refine blk_drewN ?_ _ | refine blk_drew ?_ | refine blk_alloc ?_ _)); exact BK579.out) hb); have n7_ := Aside0.mk (below_step (by repeat (first | (with_reducible first | exact HB.out | apply below_alloc | apply pw_below_drewN | apply below_drew1 | refine below_set ?_ GE579.out) | exact HB.out)) hb); have n8_ := Aside0.mk (hbox); have n9_ := Aside0.mk ((by rw [hg]; exact (below_size (by repeat (first | (with_reducible first | exact HB.out | apply below_alloc | apply pw_below_drewN | apply below_drew1 | refine below_set ?_ GE579.out) | exact HB.out))) : w.heap.size ≤ gb590)); have n10_ := Aside0.mk ((by rw [hg]; exact (below_size (by repeat (first | (with_reducible first | exact HB.out | apply below_alloc | apply pw_below_drewN | apply below_drew1 | refine below_set ?_ GE579.out) | exact HB.out))) : w.heap.size ≤ gb590)); have n11_ := Aside0.mk ((by rw [hg]; exact Nat.ne_of_lt (blk_lt (g := gb579) (o := .cells #[.int .i64 t580, .int .i64 t581, .slice Ao19 t582.length co19, .slice Ao20 t585.length co20, .int .i64 t588] 37 (0, 0)) (by (with_reducible repeat (first | refine blk_drewN ?_ _ | refine blk_drew ?_ | refine blk_alloc ?_ _)); refine blk_put (cs := #[.int .i64 t580, .int .i64 t581, .slice Ao19 t582.length co19, .slice Ao20 t585.length co20, .int .i64 t574]) ?_ 4 _ rfl; (with_reducible repeat (first | refine blk_drewN ?_ _ | refine blk_drew ?_ | refine blk_alloc ?_ _)); refine blk_put (cs := #[.int .i64 t580, .int .i64 t581, .slice Ao19 t582.length co19, .slice Ao16 t571.length co16, .int .i64 t574]) ?_ 3 _ rfl; (with_reducible repeat (first | refine blk_drewN ?_ _ | refine blk_drew ?_ | refine blk_alloc ?_ _)); refine blk_put (cs := #[.int .i64 t580, .int .i64 t581, .slice Ao15 t568.length co15, .slice Ao16 t571.length co16, .int .i64 t574]) ?_ 2 _ rfl; (with_reducible repeat (first | refine blk_drewN ?_ _ | refine blk_drew ?_ | refine blk_alloc ?_ _)); refine blk_put (cs := #[.int .i64 t580, .int .i64 t567, .slice Ao15 t568.length co15, .slice Ao16 t571.length co16, .int .i64 t574]) ?_ 1 _ rfl; (with_reducible repeat (first | refine blk_drewN ?_ _ | refine blk_drew ?_ | refine blk_alloc ?_ _)); refine blk_put (cs := #[.int .i64 t566, .int .i64 t567, .slice Ao15 t568.length co15, .slice Ao16 t571.length co16, .int .i64 t574]) ?_ 0 _ rfl; (with_reducible repeat (first | refine blk_drewN ?_ _ | refine blk_drew ?_ | refine blk_alloc ?_ _)); exact BK579.out)) : gb579 ≠ gb590)); have n12_ := Aside0.mk ((by rw [hg]; exact Nat.ne_of_gt (blk_lt (g := gb579) (o := .cells #[.int .i64 t580, .int .i64 t581, .slice Ao19 t582.length co19, .slice Ao20 t585.length co20, .int .i64 t588] 37 (0, 0)) (by (with_reducible repeat (first | refine blk_drewN ?_ _ | refine blk_drew ?_ | refine blk_alloc ?_ _)); refine blk_put (cs := #[.int .i64 t580, .int .i64 t581, .slice Ao19 t582.length co19, .slice Ao20 t585.length co20, .int .i64 t574]) ?_ 4 _ rfl; (with_reducible repeat (first | refine blk_drewN ?_ _ | refine blk_drew ?_ | refine blk_alloc ?_ _)); refine blk_put (cs := #[.int .i64 t580, .int .i64 t581, .slice Ao19 t582.length co19, .slice Ao16 t571.length co16, .int .i64 t574]) ?_ 3 _ rfl; (with_reducible repeat (first | refine blk_drewN ?_ _ | refine blk_drew ?_ | refine blk_alloc ?_ _)); refine blk_put (cs := #[.int .i64 t580, .int .i64 t581, .slice Ao15 t568.length co15, .slice Ao16 t571.length co16, .int .i64 t574]) ?_ 2 _ rfl; (with_reducible repeat (first | refine blk_drewN ?_ _ | refine blk_drew ?_ | refine blk_alloc ?_ _)); refine blk_put (cs := #[.int .i64 t580, .int .i64 t567, .slice Ao15 t568.length co15, .slice Ao16 t571.length co16, .int .i64 t574]) ?_ 1 _ rfl; (with_reducible repeat (first | refine blk_drewN ?_ _ | refine blk_drew ?_ | refine blk_alloc ?_ _)); refine blk_put (cs := #[.int .i64 t566, .int .i64 t567, .slice Ao15 t568.length co15, .slice Ao16 t571.length co16, .int .i64 t574]) ?_ 0 _ rfl; (with_reducible repeat (first | refine blk_drewN ?_ _ | refine blk_drew ?_ | refine blk_alloc ?_ _)); exact BK579.out)) : gb590 ≠ gb579)); clear HO565; clear HO570; clear HO573; clear HO577; clear HO584; clear HO587; clear BK579; clear HB; have HO565 := n0_; have HO570 := n1_; have HO573 := n2_; have HO577 := n3_; have HO584 := n4_; have HO587 := n5_; have BK579 := n6_; have HB := n7_; have BK590 := n8_; have GW590 := n9_; have GE590 := n10_; have NB579_590 := n11_; have NB590_579 := n12_; clear n0_ n1_ n2_ n3_ n4_ n5_ n6_ n7_ n8_ n9_ n10_ n11_ n12_; clear hb hbox hg; have hnb22 := NB590_579.out; have hnc22 := NB579_590.out; have hcz23_0 : w21.cell? ⟨gb590, 0, none⟩ = some (.int .i64 0) := (blk_cell BK590.out 0).trans rfl; have hcz23_1 : w21.cell? ⟨gb590, 1, none⟩ = some (.int .i64 0) := (blk_cell BK590.out 1).trans rfl; have hcz23_2 : w21.cell? ⟨gb590, 2, none⟩ = some (.slice none 0 0) := (blk_cell BK590.out 2).trans rfl; have hcz23_3 : w21.cell? ⟨gb590, 3, none⟩ = some (.slice none 0 0) := (blk_cell BK590.out 3).trans rfl; have hcz23_4 : w21.cell? ⟨gb590, 4, none⟩ = some (.int .i64 0) := (blk_cell BK590.out 4).trans rfl; have hfz23_0 := blk_frozen BK590.out 0; have hfz23_1 := blk_frozen BK590.out 1; have hfz23_2 := blk_frozen BK590.out 2; have hfz23_3 := blk_frozen BK590.out 3; have hfz23_4 := blk_frozen BK590.out 4) | ((with_reducible refine gate_dst (N := 48) rfl ?_); (try (refine gate_guard (by rfl) ?_; dsimp only)); refine Kd.R_lit Kd.bool _ 4 ?hg (N := 48) ?hd (xs := ([false, false] : List Bool)) (inner := [.bool false, .bool false]) (ok := fun _ => True) (okp := fun _ => True) ?hr ?hp (fun _ hk => hk) trivial (Below.refl _ _) (Nat.le_refl _) (by simp) ?_; (case hd => rfl); (case hg => rfl); (case hr => first | (go_simp; done) | (go_simp; rfl)); (case hp => exact (Reps.one (show Kd.M Kd.bool _ _ _ false [.bool false] from rfl) (Reps.one (show Kd.M Kd.bool _ _ _ false [.bool false] from rfl) (Reps.none _ _)))); intro v592 w24 ho25 hb hg_ hnew_; clear hg_ hnew_; (first | rw [← Ny591.out] at ho25 | (simp only [Int.reduceToNat] at ho25; rw [← Ny591.out] at ho25)); have n0_ := Aside0.mk (Kd.R_below (by (with_reducible repeat (first | apply Kd.R_alloc | apply Kd.R_drewN | apply Kd.R_drew)); exact (Kd.R_mono (Kd.R_far (p := ⟨gb590, 4, none⟩) (Kd.R_far (p := ⟨gb590, 3, none⟩) (Kd.R_far (p := ⟨gb590, 2, none⟩) (Kd.R_far (p := ⟨gb590, 1, none⟩) (Kd.R_far (p := ⟨gb590, 0, none⟩) (Kd.R_types HO565.out BK590.out (by decide)) (fun _ hk => hk.2) (.int .i64 t580)) (fun _ hk => hk.2) (.int .i64 t581)) (fun _ hk => hk.2) (.slice Ao19 t582.length co19)) (fun _ hk => hk.2) (.slice Ao20 t585.length co20)) (fun _ hk => hk.2) (.int .i64 t588)) (fun _ h_ => h_.1))) hb); have n1_ := Aside0.mk (Kd.R_below (by (with_reducible repeat (first | apply Kd.R_alloc | apply Kd.R_drewN | apply Kd.R_drew)); exact (Kd.R_mono (Kd.R_far (p := ⟨gb590, 4, none⟩) (Kd.R_far (p := ⟨gb590, 3, none⟩) (Kd.R_far (p := ⟨gb590, 2, none⟩) (Kd.R_far (p := ⟨gb590, 1, none⟩) (Kd.R_far (p := ⟨gb590, 0, none⟩) (Kd.R_types HO570.out BK590.out (by decide)) (fun _ hk => hk.2) (.int .i64 t580)) (fun _ hk => hk.2) (.int .i64 t581)) (fun _ hk => hk.2) (.slice Ao19 t582.length co19)) (fun _ hk => hk.2) (.slice Ao20 t585.length co20)) (fun _ hk => hk.2) (.int .i64 t588)) (fun _ h_ => h_.1))) hb); have n2_ := Aside0.mk (Kd.R_below (by (with_reducible repeat (first | apply Kd.R_alloc | apply Kd.R_drewN | apply Kd.R_drew)); exact (Kd.R_mono (Kd.R_far (p := ⟨gb590, 4, none⟩) (Kd.R_far (p := ⟨gb590, 3, none⟩) (Kd.R_far (p := ⟨gb590, 2, none⟩) (Kd.R_far (p := ⟨gb590, 1, none⟩) (Kd.R_far (p := ⟨gb590, 0, none⟩) (Kd.R_types HO573.out BK590.out (by decide)) (fun _ hk => hk.2) (.int .i64 t580)) (fun _ hk => hk.2) (.int .i64 t581)) (fun _ hk => hk.2) (.slice Ao19 t582.length co19)) (fun _ hk => hk.2) (.slice Ao20 t585.length co20)) (fun _ hk => hk.2) (.int .i64 t588)) (fun _ h_ => h_.1))) hb); have n3_ := Aside0.mk (Kd.R_below (by (with_reducible repeat (first | apply Kd.R_alloc | apply Kd.R_drewN | apply Kd.R_drew)); exact (Kd.R_mono (Kd.R_far (p := ⟨gb590, 4, none⟩) (Kd.R_far (p := ⟨gb590, 3, none⟩) (Kd.R_far (p := ⟨gb590, 2, none⟩) (Kd.R_far (p := ⟨gb590, 1, none⟩) (Kd.R_far (p := ⟨gb590, 0, none⟩) (Kd.R_types HO577.out BK590.out (by decide)) (fun _ hk => hk.2) (.int .i64 t580)) (fun _ hk => hk.2) (.int .i64 t581)) (fun _ hk => hk.2) (.slice Ao19 t582.length co19)) (fun _ hk => hk.2) (.slice Ao20 t585.length co20)) (fun _ hk => hk.2) (.int .i64 t588)) (fun _ h_ => h_.1))) hb); have n4_ := Aside0.mk (Kd.V_elder' (by (with_reducible repeat (first | apply Kd.V_alloc | apply Kd.V_drewN | apply Kd.V_drew)); exact (Kd.V_mono (Kd.V_far (p := ⟨gb590, 4, none⟩) (Kd.V_far (p := ⟨gb590, 3, none⟩) (Kd.V_far (p := ⟨gb590, 2, none⟩) (Kd.V_far (p := ⟨gb590, 1, none⟩) (Kd.V_far (p := ⟨gb590, 0, none⟩) (Kd.V_mono HO584.out (fun k_ hk => (⟨hk, hk.2⟩ : _ ∧ k_ ≠ gb590))) (fun _ hk => hk.2) (.int .i64 t580)) (fun _ hk => hk.2) (.int .i64 t581)) (fun _ hk => hk.2) (.slice Ao19 t582.length co19)) (fun _ hk => hk.2) (.slice Ao20 t585.length co20)) (fun _ hk => hk.2) (.int .i64 t588)) (fun _ h_ => h_.1))) (Kd.R_base ho25) hb); have n5_ := Aside0.mk (Kd.V_elder' (by (with_reducible repeat (first | apply Kd.V_alloc | apply Kd.V_drewN | apply Kd.V_drew)); exact (Kd.V_mono (Kd.V_far (p := ⟨gb590, 4, none⟩) (Kd.V_far (p := ⟨gb590, 3, none⟩) (Kd.V_far (p := ⟨gb590, 2, none⟩) (Kd.V_far (p := ⟨gb590, 1, none⟩) (Kd.V_far (p := ⟨gb590, 0, none⟩) (Kd.V_mono HO587.out (fun k_ hk => (⟨hk, hk.2⟩ : _ ∧ k_ ≠ gb590))) (fun _ hk => hk.2) (.int .i64 t580)) (fun _ hk => hk.2) (.int .i64 t581)) (fun _ hk => hk.2) (.slice Ao19 t582.length co19)) (fun _ hk => hk.2) (.slice Ao20 t585.length co20)) (fun _ hk => hk.2) (.int .i64 t588)) (fun _ h_ => h_.1))) (Kd.R_base ho25) hb); have n6_ := Aside0.mk (Kd.R_lower ho25 (below_size (by repeat (first | (with_reducible first | exact HB.out | apply below_alloc | apply pw_below_drewN | apply below_drew1 | refine below_set ?_ GE579.out | refine below_set ?_ GE590.out) | exact HB.out)))); have n7_ := Aside0.mk (blk_below (g := gb579) (o := .cells #[.int .i64 t580, .int .i64 t581, .slice Ao19 t582.length co19, .slice Ao20 t585.length co20, .int .i64 t588] 37 (0, 0)) (by (with_reducible repeat (first | refine blk_drewN ?_ _ | refine blk_drew ?_ | refine blk_alloc ?_ _)); refine blk_far ?_ NB579_590.out _; (with_reducible repeat (first | refine blk_drewN ?_ _ | refine blk_drew ?_ | refine blk_alloc ?_ _)); refine blk_far ?_ NB579_590.out _; (with_reducible repeat (first | refine blk_drewN ?_ _ | refine blk_drew ?_ | refine blk_alloc ?_ _)); refine blk_far ?_ NB579_590.out _; (with_reducible repeat (first | refine blk_drewN ?_ _ | refine blk_drew ?_ | refine blk_alloc ?_ _)); refine blk_far ?_ NB579_590.out _; (with_reducible repeat (first | refine blk_drewN ?_ _ | refine blk_drew ?_ | refine blk_alloc ?_ _)); refine blk_far ?_ NB579_590.out _; (with_reducible repeat (first | refine blk_drewN ?_ _ | refine blk_drew ?_ | refine blk_alloc ?_ _)); exact BK579.out) hb); have n8_ := Aside0.mk (blk_below (g := gb590) (o := .cells #[.int .i64 t580, .int .i64 t581, .slice Ao19 t582.length co19, .slice Ao20 t585.length co20, .int .i64 t588] 37 (0, 0)) (by (with_reducible repeat (first | refine blk_drewN ?_ _ | refine blk_drew ?_ | refine blk_alloc ?_ _)); refine blk_put (cs := #[.int .i64 t580, .int .i64 t581, .slice Ao19 t582.length co19, .slice Ao20 t585.length co20, .int .i64 0]) ?_ 4 _ rfl; (with_reducible repeat (first | refine blk_drewN ?_ _ | refine blk_drew ?_ | refine blk_alloc ?_ _)); refine blk_put (cs := #[.int .i64 t580, .int .i64 t581, .slice Ao19 t582.length co19, .slice none 0 0, .int .i64 0]) ?_ 3 _ rfl; (with_reducible repeat (first | refine blk_drewN ?_ _ | refine blk_drew ?_ | refine blk_alloc ?_ _)); refine blk_put (cs := #[.int .i64 t580, .int .i64 t581, .slice none 0 0, .slice none 0 0, .int .i64 0]) ?_ 2 _ rfl; (with_reducible repeat (first | refine blk_drewN ?_ _ | refine blk_drew ?_ | refine blk_alloc ?_ _)); refine blk_put (cs := #[.int .i64 t580, .int .i64 0, .slice none 0 0, .slice none 0 0, .int .i64 0]) ?_ 1 _ rfl; (with_reducible repeat (first | refine blk_drewN ?_ _ | refine blk_drew ?_ | refine blk_alloc ?_ _)); refine blk_put (cs := #[.int .i64 0, .int .i64 0, .slice none 0 0, .slice none 0 0, .int .i64 0]) ?_ 0 _ rfl; (with_reducible repeat (first | refine blk_drewN ?_ _ | refine blk_drew ?_ | refine blk_alloc ?_ _)); exact BK590.out) hb); have n9_ := Aside0.mk (below_step (by repeat (first | (with_reducible first | exact HB.out | apply below_alloc | apply pw_below_drewN | apply below_drew1 | refine below_set ?_ GE579.out | refine below_set ?_ GE590.out) | exact HB.out)) hb); clear HO565; clear HO570; clear HO573; clear HO577; clear HO584; clear HO587; clear BK579; clear BK590; clear HB; have HO565 := n0_; have HO570 := n1_; have HO573 := n2_; have HO577 := n3_; have HO584 := n4_; have HO587 := n5_; have HO593 := n6_; have BK579 := n7_; have BK590 := n8_; have HB := n9_; clear n0_ n1_ n2_ n3_ n4_ n5_ n6_ n7_ n8_ n9_; clear hb ho25) | ((with_reducible refine gate_callee (f := 9) rfl ?_); refine goesL_ (some 50) rfl rfl Try.func9 (by kernel_rfl) rfl #[.slice A1 l1.length c1, .int .i64 0, .int .i64 12] rfl (by (try simp only [List.map_toArray, List.map_cons, List.map_nil]); first | done | rfl | (simp only [List.length_drop, List.length_take]; rfl)) ?_; (with_reducible refine (laws_at.calls _ _ l1 0 12 t594 _ ?side1 ?side2 A8.out).mono ?_); (case side1 => repeat (first | exact (Kd.C_below HR1.out HB.out) | (with_reducible refine Kd.C_alloc ?_ _) | (with_reducible refine Kd.C_drewN ?_ _) | (with_reducible refine Kd.C_drew ?_))); (case side2 => exact HC1.out); rintro e w' ⟨rfl, ⟨nd, rfl⟩⟩; refine ⟨_, rfl, ?_⟩))
    go_loopg [12] kj2 (fun kq v12 w' => ∃ (x10_2 : List Bool) (x12_2 : Int) (x591000_2 : Int) (x591001_2 : Int) (x591002_2 : List Int) (x591003_2 : List Int) (x591004_2 : Int) (u591002 : Value) (u591003 : Value), v12 = .int .i64 x12_2 ∧ Aside0 (laws_FnCloses.l0 kq l0 l1 x10_2 t594 x12_2 x591000_2 x591001_2 x591002_2 x591003_2 x591004_2 = some r) ∧ Aside0 (kq ≤ kj2) ∧ Aside0 (Kd.R Kd.bool 4 w' w.heap.size (fun _ => True) v592 x10_2) ∧ Aside0 (Kd.V (Kd.int .i64) 3 w' w.heap.size (fun k_ => some k_ ≠ (v592 : Value).ownBlock ∧ k_ ≠ gb579 ∧ k_ ≠ gb590) (.slice Ao19 t582.length co19) t582) ∧ Aside0 (Kd.V (Kd.int .i64) 3 w' w.heap.size (fun k_ => some k_ ≠ (v592 : Value).ownBlock ∧ k_ ≠ gb579 ∧ k_ ≠ gb590) (.slice Ao20 t585.length co20) t585) ∧ Aside0 (Kd.V (Kd.int .i64) 3 w' w.heap.size (fun k_ => some k_ ≠ (v592 : Value).ownBlock ∧ k_ ≠ gb579 ∧ k_ ≠ gb590) u591002 x591002_2) ∧ Aside0 (Kd.V (Kd.int .i64) 3 w' w.heap.size (fun k_ => some k_ ≠ (v592 : Value).ownBlock ∧ k_ ≠ gb579 ∧ k_ ≠ gb590) u591003 x591003_2) ∧ Aside0 (w'.heap[gb579]? = some (.cells #[.int .i64 t580, .int .i64 t581, (.slice Ao19 t582.length co19), (.slice Ao20 t585.length co20), .int .i64 t588] 37 (0, 0))) ∧ Aside0 (w'.heap[gb590]? = some (.cells #[.int .i64 x591000_2, .int .i64 x591001_2, u591002, u591003, .int .i64 x591004_2] 37 (0, 0))) ∧ Aside0 (Below w.heap.size w w'))
    case atStart => exact ⟨(y591), (0), (t580), (t581), (t582), (t585), (t588), (.slice Ao19 t582.length co19), (.slice Ao20 t585.length co20), (by first | rfl | (simp; done) | (simp [*]; done)), H', ⟨Nat.le_refl _⟩, ⟨by (with_reducible repeat (first | apply Kd.R_alloc | apply Kd.R_drewN | apply Kd.R_drew)); exact HO593.out⟩, ⟨by (with_reducible repeat (first | apply Kd.V_alloc | apply Kd.V_drewN | apply Kd.V_drew)); exact Kd.V_mono HO584.out (fun _ hk => ⟨hk.2, ⟨hk.1.1.2.2.2.2, hk.1.2⟩⟩)⟩, ⟨by (with_reducible repeat (first | apply Kd.V_alloc | apply Kd.V_drewN | apply Kd.V_drew)); exact Kd.V_mono HO587.out (fun _ hk => ⟨hk.2, ⟨hk.1.1.2.2.2.2, hk.1.2⟩⟩)⟩, ⟨by (with_reducible repeat (first | apply Kd.V_alloc | apply Kd.V_drewN | apply Kd.V_drew)); exact Kd.V_mono HO584.out (fun _ hk => ⟨hk.2, ⟨hk.1.1.2.2.2.2, hk.1.2⟩⟩)⟩, ⟨by (with_reducible repeat (first | apply Kd.V_alloc | apply Kd.V_drewN | apply Kd.V_drew)); exact Kd.V_mono HO587.out (fun _ hk => ⟨hk.2, ⟨hk.1.1.2.2.2.2, hk.1.2⟩⟩)⟩, ⟨by (with_reducible repeat (first | refine blk_drewN ?_ _ | refine blk_drew ?_ | refine blk_alloc ?_ _)); exact BK579.out⟩, ⟨by (with_reducible repeat (first | refine blk_drewN ?_ _ | refine blk_drew ?_ | refine blk_alloc ?_ _)); exact BK590.out⟩, ⟨by repeat (first | (with_reducible first | exact HB.out | apply below_alloc | apply pw_below_drewN | apply below_drew1 | refine below_set ?_ GE579.out | refine below_set ?_ GE590.out) | exact HB.out)⟩⟩
    case round =>
     clear H'
     try clear c1
     try clear c2
     try clear p2
     try clear c4
     try clear c4b0
     try clear c4b1
     try clear c5
     try clear c9
     try clear c16
     try clear c18
     try clear c22
     try clear hcz14_0
     try clear hcz14_1
     try clear hcz14_2
     try clear hcz14_3
     try clear hcz14_4
     try clear hcz18_0
     try clear hcz18_1
     try clear hcz18_2
     try clear hcz18_3
     try clear hcz18_4
     try clear hcz23_0
     try clear hcz23_1
     try clear hcz23_2
     try clear hcz23_3
     try clear hcz23_4
     try clear hfz14_0
     try clear hfz14_1
     try clear hfz14_2
     try clear hfz14_3
     try clear hfz14_4
     try clear hfz18_0
     try clear hfz18_1
     try clear hfz18_2
     try clear hfz18_3
     try clear hfz18_4
     try clear hfz23_0
     try clear hfz23_1
     try clear hfz23_2
     try clear hfz23_3
     try clear hfz23_4
     try clear p2
     obtain ⟨x10_2, x12_2, x591000_2, x591001_2, x591002_2, x591003_2, x591004_2, u591002, u591003, rfl, HA, HK2, HO_10, HO_580002, HO_580003, HO_591002, HO_591003, BK579, BK590, HB⟩ := hrel
     cases gk with
     | zero => exact absurd HA.out (by simp [laws_FnCloses.l0])
     | succ k2 =>
      have H := HA.out
      clear HA
      simp only [laws_FnCloses.l0] at H
      by_cases c26 : x12_2 < (wrap64 (t594 + 2))
      ·rw [if_pos c26] at H
       have c26b0 : decide (x12_2 < (wrap64 (t594 + 2))) = true := decide_eq_true c26
       clear c26
       replace H := Option.bind_eq_some_iff.mp H
       obtain ⟨t595, A270, H⟩ := H
       replace H : (if x12_2 ≥ t594 then (laws_FnCloses.j2 k2 l0 l1 x10_2 t594 x12_2 x591000_2 x591001_2 x591002_2 x591003_2 x591004_2 (wrap64 (x12_2 - t594))) else (laws_FnCloses.j2 k2 l0 l1 x10_2 t594 x12_2 x591000_2 x591001_2 x591002_2 x591003_2 x591004_2 t595)) = some r := H
       have A27 := Aside0.mk A270
       clear A270
       have HC28 := Aside0.mk H
       clear H
       go_upto_if 64 with (first | ((with_reducible refine gate_callee (f := 9) rfl ?_); refine goesL_ (some 60) rfl rfl Try.func9 (by kernel_rfl) rfl #[.slice A1 l1.length c1, .int .i64 (wrap64 (x12_2 + 1)), .int .i64 2] rfl (by (try simp only [List.map_toArray, List.map_cons, List.map_nil]); first | done | rfl | (simp only [List.length_drop, List.length_take]; rfl)) ?_; (with_reducible refine (laws_at.calls _ _ l1 (wrap64 (x12_2 + 1)) 2 t595 _ ?side1 ?side2 A27.out).mono ?_); (case side1 => repeat (first | exact (Kd.C_below HR1.out HB.out) | (with_reducible refine Kd.C_alloc ?_ _) | (with_reducible refine Kd.C_drewN ?_ _) | (with_reducible refine Kd.C_drew ?_))); (case side2 => exact HC1.out); rintro e w' ⟨rfl, ⟨nd, rfl⟩⟩; refine ⟨_, rfl, ?_⟩; (try (rw [drewN_self wr]; generalize hq_ : World.drewN wr _ = wr; have n0_ : Aside0 (Kd.R Kd.bool 4 wr w.heap.size (fun _ => True) v592 x10_2) := ⟨by rw [← hq_]; exact (by (with_reducible repeat (first | apply Kd.R_alloc | apply Kd.R_drewN | apply Kd.R_drew)); exact HO_10.out)⟩; have n1_ : Aside0 (Kd.V (Kd.int .i64) 3 wr w.heap.size (fun k_ => some k_ ≠ (v592 : Value).ownBlock ∧ k_ ≠ gb579 ∧ k_ ≠ gb590) (.slice Ao19 t582.length co19) t582) := ⟨by rw [← hq_]; exact (by (with_reducible repeat (first | apply Kd.V_alloc | apply Kd.V_drewN | apply Kd.V_drew)); exact HO_580002.out)⟩; have n2_ : Aside0 (Kd.V (Kd.int .i64) 3 wr w.heap.size (fun k_ => some k_ ≠ (v592 : Value).ownBlock ∧ k_ ≠ gb579 ∧ k_ ≠ gb590) (.slice Ao20 t585.length co20) t585) := ⟨by rw [← hq_]; exact (by (with_reducible repeat (first | apply Kd.V_alloc | apply Kd.V_drewN | apply Kd.V_drew)); exact HO_580003.out)⟩; have n3_ : Aside0 (Kd.V (Kd.int .i64) 3 wr w.heap.size (fun k_ => some k_ ≠ (v592 : Value).ownBlock ∧ k_ ≠ gb579 ∧ k_ ≠ gb590) u591002 x591002_2) := ⟨by rw [← hq_]; exact (by (with_reducible repeat (first | apply Kd.V_alloc | apply Kd.V_drewN | apply Kd.V_drew)); exact HO_591002.out)⟩; have n4_ : Aside0 (Kd.V (Kd.int .i64) 3 wr w.heap.size (fun k_ => some k_ ≠ (v592 : Value).ownBlock ∧ k_ ≠ gb579 ∧ k_ ≠ gb590) u591003 x591003_2) := ⟨by rw [← hq_]; exact (by (with_reducible repeat (first | apply Kd.V_alloc | apply Kd.V_drewN | apply Kd.V_drew)); exact HO_591003.out)⟩; have n5_ : Aside0 (wr.heap[gb579]? = some (.cells #[.int .i64 t580, .int .i64 t581, .slice Ao19 t582.length co19, .slice Ao20 t585.length co20, .int .i64 t588] 37 (0, 0))) := ⟨by rw [← hq_]; exact (by (with_reducible repeat (first | refine blk_drewN ?_ _ | refine blk_drew ?_ | refine blk_alloc ?_ _)); exact BK579.out)⟩; have n6_ : Aside0 (wr.heap[gb590]? = some (.cells #[.int .i64 x591000_2, .int .i64 x591001_2, u591002, u591003, .int .i64 x591004_2] 37 (0, 0))) := ⟨by rw [← hq_]; exact (by (with_reducible repeat (first | refine blk_drewN ?_ _ | refine blk_drew ?_ | refine blk_alloc ?_ _)); exact BK590.out)⟩; have n7_ : Aside0 (Below w.heap.size w wr) := ⟨by rw [← hq_]; exact (by repeat (first | (with_reducible first | exact HB.out | apply below_alloc | apply pw_below_drewN | apply below_drew1 | refine below_set ?_ GE579.out | refine below_set ?_ GE590.out) | exact HB.out))⟩; clear HO_10 HO_580002 HO_580003 HO_591002 HO_591003 BK579 BK590 HB hq_; have HO_10 := n0_; have HO_580002 := n1_; have HO_580003 := n2_; have HO_591002 := n3_; have HO_591003 := n4_; have BK579 := n5_; have BK590 := n6_; have HB := n7_; clear n0_ n1_ n2_ n3_ n4_ n5_ n6_ n7_))) | ((with_reducible refine gate_dst (N := 13) rfl ?_); (try (refine gate_guard (by rfl) ?_; dsimp only)); refine box_event ?hg (N := 13) ?hd (cs := #[.int .i64 0, .int .i64 0]) (t := 34) ?hr ?_; (case hd => rfl); (case hg => rfl); (case hr => first | (go_simp; done) | (go_simp; rfl)); intro gb596 hg w29 hbox hb; have n0_ := Aside0.mk (Kd.R_below (by (with_reducible repeat (first | apply Kd.R_alloc | apply Kd.R_drewN | apply Kd.R_drew)); exact HO_10.out) hb); have n1_ := Aside0.mk (Kd.V_below (Kd.V_elderB (by (with_reducible repeat (first | apply Kd.V_alloc | apply Kd.V_drewN | apply Kd.V_drew)); exact HO_580002.out) gb596 (Nat.le_of_eq hg.symm)) hb); have n2_ := Aside0.mk (Kd.V_below (Kd.V_elderB (by (with_reducible repeat (first | apply Kd.V_alloc | apply Kd.V_drewN | apply Kd.V_drew)); exact HO_580003.out) gb596 (Nat.le_of_eq hg.symm)) hb); have n3_ := Aside0.mk (Kd.V_below (Kd.V_elderB (by (with_reducible repeat (first | apply Kd.V_alloc | apply Kd.V_drewN | apply Kd.V_drew)); exact HO_591002.out) gb596 (Nat.le_of_eq hg.symm)) hb); have n4_ := Aside0.mk (Kd.V_below (Kd.V_elderB (by (with_reducible repeat (first | apply Kd.V_alloc | apply Kd.V_drewN | apply Kd.V_drew)); exact HO_591003.out) gb596 (Nat.le_of_eq hg.symm)) hb); have n5_ := Aside0.mk (blk_below (g := gb579) (o := .cells #[.int .i64 t580, .int .i64 t581, .slice Ao19 t582.length co19, .slice Ao20 t585.length co20, .int .i64 t588] 37 (0, 0)) (by (with_reducible repeat (first | refine blk_drewN ?_ _ | refine blk_drew ?_ | refine blk_alloc ?_ _)); exact BK579.out) hb); have n6_ := Aside0.mk (blk_below (g := gb590) (o := .cells #[.int .i64 x591000_2, .int .i64 x591001_2, u591002, u591003, .int .i64 x591004_2] 37 (0, 0)) (by (with_reducible repeat (first | refine blk_drewN ?_ _ | refine blk_drew ?_ | refine blk_alloc ?_ _)); exact BK590.out) hb); have n7_ := Aside0.mk (below_step (by repeat (first | (with_reducible first | exact HB.out | apply below_alloc | apply pw_below_drewN | apply below_drew1 | refine below_set ?_ GE579.out | refine below_set ?_ GE590.out) | exact HB.out)) hb); have n8_ := Aside0.mk (hbox); have n9_ := Aside0.mk ((by rw [hg]; exact (below_size (by repeat (first | (with_reducible first | exact HB.out | apply below_alloc | apply pw_below_drewN | apply below_drew1 | refine below_set ?_ GE579.out | refine below_set ?_ GE590.out) | exact HB.out))) : w.heap.size ≤ gb596)); have n10_ := Aside0.mk ((by rw [hg]; exact (below_size (by repeat (first | (with_reducible first | exact HB.out | apply below_alloc | apply pw_below_drewN | apply below_drew1 | refine below_set ?_ GE579.out | refine below_set ?_ GE590.out) | exact HB.out))) : w.heap.size ≤ gb596)); have n11_ := Aside0.mk ((by rw [hg]; exact Nat.ne_of_lt (blk_lt (g := gb579) (o := .cells #[.int .i64 t580, .int .i64 t581, .slice Ao19 t582.length co19, .slice Ao20 t585.length co20, .int .i64 t588] 37 (0, 0)) (by (with_reducible repeat (first | refine blk_drewN ?_ _ | refine blk_drew ?_ | refine blk_alloc ?_ _)); exact BK579.out)) : gb579 ≠ gb596)); have n12_ := Aside0.mk ((by rw [hg]; exact Nat.ne_of_gt (blk_lt (g := gb579) (o := .cells #[.int .i64 t580, .int .i64 t581, .slice Ao19 t582.length co19, .slice Ao20 t585.length co20, .int .i64 t588] 37 (0, 0)) (by (with_reducible repeat (first | refine blk_drewN ?_ _ | refine blk_drew ?_ | refine blk_alloc ?_ _)); exact BK579.out)) : gb596 ≠ gb579)); have n13_ := Aside0.mk ((by rw [hg]; exact Nat.ne_of_lt (blk_lt (g := gb590) (o := .cells #[.int .i64 x591000_2, .int .i64 x591001_2, u591002, u591003, .int .i64 x591004_2] 37 (0, 0)) (by (with_reducible repeat (first | refine blk_drewN ?_ _ | refine blk_drew ?_ | refine blk_alloc ?_ _)); exact BK590.out)) : gb590 ≠ gb596)); have n14_ := Aside0.mk ((by rw [hg]; exact Nat.ne_of_gt (blk_lt (g := gb590) (o := .cells #[.int .i64 x591000_2, .int .i64 x591001_2, u591002, u591003, .int .i64 x591004_2] 37 (0, 0)) (by (with_reducible repeat (first | refine blk_drewN ?_ _ | refine blk_drew ?_ | refine blk_alloc ?_ _)); exact BK590.out)) : gb596 ≠ gb590)); clear HO_10; clear HO_580002; clear HO_580003; clear HO_591002; clear HO_591003; clear BK579; clear BK590; clear HB; have HO_10 := n0_; have HO_580002 := n1_; have HO_580003 := n2_; have HO_591002 := n3_; have HO_591003 := n4_; have BK579 := n5_; have BK590 := n6_; have HB := n7_; have BK596 := n8_; have GW596 := n9_; have GE596 := n10_; have NB579_596 := n11_; have NB596_579 := n12_; have NB590_596 := n13_; have NB596_590 := n14_; clear n0_ n1_ n2_ n3_ n4_ n5_ n6_ n7_ n8_ n9_ n10_ n11_ n12_ n13_ n14_; clear hb hbox hg; have hnb30 := NB596_579.out; have hnc30 := NB579_596.out; have hnb31 := NB596_590.out; have hnc31 := NB590_596.out; have hcz32_0 : w29.cell? ⟨gb596, 0, none⟩ = some (.int .i64 0) := (blk_cell BK596.out 0).trans rfl; have hcz32_1 : w29.cell? ⟨gb596, 1, none⟩ = some (.int .i64 0) := (blk_cell BK596.out 1).trans rfl; have hfz32_0 := blk_frozen BK596.out 0; have hfz32_1 := blk_frozen BK596.out 1))
       (try simp only [Act.put, List.setIfInBounds_toArray, List.set_cons_zero, List.set_cons_succ])
       go_cut [] (fun wc => ∃ (kq : Nat) (x597000_27 : Int), Aside0 (laws_FnCloses.j2 kq l0 l1 x10_2 t594 x12_2 x591000_2 x591001_2 x591002_2 x591003_2 x591004_2 x597000_27 = some r) ∧ Aside0 (kq ≤ k2) ∧ Aside0 (Kd.R Kd.bool 4 wc w.heap.size (fun _ => True) v592 x10_2) ∧ Aside0 (Kd.V (Kd.int .i64) 3 wc w.heap.size (fun k_ => some k_ ≠ (v592 : Value).ownBlock ∧ k_ ≠ gb579 ∧ k_ ≠ gb590 ∧ k_ ≠ gb596) (.slice Ao19 t582.length co19) t582) ∧ Aside0 (Kd.V (Kd.int .i64) 3 wc w.heap.size (fun k_ => some k_ ≠ (v592 : Value).ownBlock ∧ k_ ≠ gb579 ∧ k_ ≠ gb590 ∧ k_ ≠ gb596) (.slice Ao20 t585.length co20) t585) ∧ Aside0 (Kd.V (Kd.int .i64) 3 wc w.heap.size (fun k_ => some k_ ≠ (v592 : Value).ownBlock ∧ k_ ≠ gb579 ∧ k_ ≠ gb590 ∧ k_ ≠ gb596) u591002 x591002_2) ∧ Aside0 (Kd.V (Kd.int .i64) 3 wc w.heap.size (fun k_ => some k_ ≠ (v592 : Value).ownBlock ∧ k_ ≠ gb579 ∧ k_ ≠ gb590 ∧ k_ ≠ gb596) u591003 x591003_2) ∧ Aside0 (wc.heap[gb579]? = some (.cells #[.int .i64 t580, .int .i64 t581, (.slice Ao19 t582.length co19), (.slice Ao20 t585.length co20), .int .i64 t588] 37 (0, 0))) ∧ Aside0 (wc.heap[gb590]? = some (.cells #[.int .i64 x591000_2, .int .i64 x591001_2, u591002, u591003, .int .i64 x591004_2] 37 (0, 0))) ∧ Aside0 (wc.heap[gb596]? = some (.cells #[.int .i64 x597000_27, .int .i64 5] 34 (0, 0))) ∧ Aside0 (Below w.heap.size w wc))
       case first =>
        have H := HC28.out
        clear HC28
        by_cases c33 : x12_2 ≥ t594
        ·rw [if_pos c33] at H
         have c33b0 : decide (t594 ≤ x12_2) = true := decide_eq_true c33
         clear c33
         (first | rw [c33b0] | (simp only [i64_w, i32_w]; rw [c33b0]) | skip)
         have H' := Aside0.mk H
         clear H
         have hnb34 := NB596_579.out
         have hnc34 := NB579_596.out
         have hnb35 := NB596_590.out
         have hnc35 := NB590_596.out
         have hcz36_0 : w29.cell? ⟨gb596, 0, none⟩ = some (.int .i64 0) := (blk_cell BK596.out 0).trans rfl
         have hcz36_1 : w29.cell? ⟨gb596, 1, none⟩ = some (.int .i64 0) := (blk_cell BK596.out 1).trans rfl
         have hfz36_0 := blk_frozen BK596.out 0
         have hfz36_1 := blk_frozen BK596.out 1
         go_wp2
         go_meet
         case rel => exact ⟨_, (wrap64 (x12_2 - t594)), H', ⟨by have := HJ2.out; have := HK2.out; first | omega | exact Nat.le_refl _⟩, ⟨by (with_reducible repeat (first | apply Kd.R_alloc | apply Kd.R_drewN | apply Kd.R_drew)); exact Kd.R_mono (Kd.R_far (p := ⟨gb596, 0, none⟩) (Kd.R_far (p := ⟨gb596, 1, none⟩) (Kd.R_far (p := ⟨gb596, 0, none⟩) (Kd.R_types HO_10.out BK596.out (by decide)) (fun _ hk => hk.2) (.int .i64 t595)) (fun _ hk => hk.2) (.int .i64 5)) (fun _ hk => hk.2) (.int .i64 (wrap64 (x12_2 - t594)))) (fun _ hk => trivial)⟩, ⟨by (with_reducible repeat (first | apply Kd.V_alloc | apply Kd.V_drewN | apply Kd.V_drew)); exact Kd.V_mono (Kd.V_far (p := ⟨gb596, 0, none⟩) (Kd.V_far (p := ⟨gb596, 1, none⟩) (Kd.V_far (p := ⟨gb596, 0, none⟩) (Kd.V_mono HO_580002.out (fun k_ hk => (⟨hk, hk.2⟩ : _ ∧ k_ ≠ gb596))) (fun _ hk => hk.2) (.int .i64 t595)) (fun _ hk => hk.2) (.int .i64 5)) (fun _ hk => hk.2) (.int .i64 (wrap64 (x12_2 - t594)))) (fun _ hk => ⟨hk.1.1.1, ⟨hk.1.1.2.1, ⟨hk.1.1.2.2, hk.1.2⟩⟩⟩)⟩, ⟨by (with_reducible repeat (first | apply Kd.V_alloc | apply Kd.V_drewN | apply Kd.V_drew)); exact Kd.V_mono (Kd.V_far (p := ⟨gb596, 0, none⟩) (Kd.V_far (p := ⟨gb596, 1, none⟩) (Kd.V_far (p := ⟨gb596, 0, none⟩) (Kd.V_mono HO_580003.out (fun k_ hk => (⟨hk, hk.2⟩ : _ ∧ k_ ≠ gb596))) (fun _ hk => hk.2) (.int .i64 t595)) (fun _ hk => hk.2) (.int .i64 5)) (fun _ hk => hk.2) (.int .i64 (wrap64 (x12_2 - t594)))) (fun _ hk => ⟨hk.1.1.1, ⟨hk.1.1.2.1, ⟨hk.1.1.2.2, hk.1.2⟩⟩⟩)⟩, ⟨by (with_reducible repeat (first | apply Kd.V_alloc | apply Kd.V_drewN | apply Kd.V_drew)); exact Kd.V_mono (Kd.V_far (p := ⟨gb596, 0, none⟩) (Kd.V_far (p := ⟨gb596, 1, none⟩) (Kd.V_far (p := ⟨gb596, 0, none⟩) (Kd.V_mono HO_591002.out (fun k_ hk => (⟨hk, hk.2⟩ : _ ∧ k_ ≠ gb596))) (fun _ hk => hk.2) (.int .i64 t595)) (fun _ hk => hk.2) (.int .i64 5)) (fun _ hk => hk.2) (.int .i64 (wrap64 (x12_2 - t594)))) (fun _ hk => ⟨hk.1.1.1, ⟨hk.1.1.2.1, ⟨hk.1.1.2.2, hk.1.2⟩⟩⟩)⟩, ⟨by (with_reducible repeat (first | apply Kd.V_alloc | apply Kd.V_drewN | apply Kd.V_drew)); exact Kd.V_mono (Kd.V_far (p := ⟨gb596, 0, none⟩) (Kd.V_far (p := ⟨gb596, 1, none⟩) (Kd.V_far (p := ⟨gb596, 0, none⟩) (Kd.V_mono HO_591003.out (fun k_ hk => (⟨hk, hk.2⟩ : _ ∧ k_ ≠ gb596))) (fun _ hk => hk.2) (.int .i64 t595)) (fun _ hk => hk.2) (.int .i64 5)) (fun _ hk => hk.2) (.int .i64 (wrap64 (x12_2 - t594)))) (fun _ hk => ⟨hk.1.1.1, ⟨hk.1.1.2.1, ⟨hk.1.1.2.2, hk.1.2⟩⟩⟩)⟩, ⟨by (with_reducible repeat (first | refine blk_drewN ?_ _ | refine blk_drew ?_ | refine blk_alloc ?_ _)); refine blk_far ?_ NB579_596.out _; (with_reducible repeat (first | refine blk_drewN ?_ _ | refine blk_drew ?_ | refine blk_alloc ?_ _)); refine blk_far ?_ NB579_596.out _; (with_reducible repeat (first | refine blk_drewN ?_ _ | refine blk_drew ?_ | refine blk_alloc ?_ _)); refine blk_far ?_ NB579_596.out _; (with_reducible repeat (first | refine blk_drewN ?_ _ | refine blk_drew ?_ | refine blk_alloc ?_ _)); exact BK579.out⟩, ⟨by (with_reducible repeat (first | refine blk_drewN ?_ _ | refine blk_drew ?_ | refine blk_alloc ?_ _)); refine blk_far ?_ NB590_596.out _; (with_reducible repeat (first | refine blk_drewN ?_ _ | refine blk_drew ?_ | refine blk_alloc ?_ _)); refine blk_far ?_ NB590_596.out _; (with_reducible repeat (first | refine blk_drewN ?_ _ | refine blk_drew ?_ | refine blk_alloc ?_ _)); refine blk_far ?_ NB590_596.out _; (with_reducible repeat (first | refine blk_drewN ?_ _ | refine blk_drew ?_ | refine blk_alloc ?_ _)); exact BK590.out⟩, ⟨by (with_reducible repeat (first | refine blk_drewN ?_ _ | refine blk_drew ?_ | refine blk_alloc ?_ _)); refine blk_put (cs := #[.int .i64 t595, .int .i64 5]) ?_ 0 _ rfl; (with_reducible repeat (first | refine blk_drewN ?_ _ | refine blk_drew ?_ | refine blk_alloc ?_ _)); refine blk_put (cs := #[.int .i64 t595, .int .i64 0]) ?_ 1 _ rfl; (with_reducible repeat (first | refine blk_drewN ?_ _ | refine blk_drew ?_ | refine blk_alloc ?_ _)); refine blk_put (cs := #[.int .i64 0, .int .i64 0]) ?_ 0 _ rfl; (with_reducible repeat (first | refine blk_drewN ?_ _ | refine blk_drew ?_ | refine blk_alloc ?_ _)); exact BK596.out⟩, ⟨by repeat (first | (with_reducible first | exact HB.out | apply below_alloc | apply pw_below_drewN | apply below_drew1 | refine below_set ?_ GE579.out | refine below_set ?_ GE590.out | refine below_set ?_ GE596.out) | exact HB.out)⟩⟩
        ·rw [if_neg c33] at H
         have c33b0 : decide (t594 ≤ x12_2) = false := decide_eq_false c33
         clear c33
         (first | rw [c33b0] | (simp only [i64_w, i32_w]; rw [c33b0]) | skip)
         have H' := Aside0.mk H
         clear H
         go_wp2
         go_meet
         case rel => exact ⟨_, (t595), H', ⟨by have := HJ2.out; have := HK2.out; first | omega | exact Nat.le_refl _⟩, ⟨by (with_reducible repeat (first | apply Kd.R_alloc | apply Kd.R_drewN | apply Kd.R_drew)); exact Kd.R_mono (Kd.R_far (p := ⟨gb596, 1, none⟩) (Kd.R_far (p := ⟨gb596, 0, none⟩) (Kd.R_types HO_10.out BK596.out (by decide)) (fun _ hk => hk.2) (.int .i64 t595)) (fun _ hk => hk.2) (.int .i64 5)) (fun _ hk => trivial)⟩, ⟨by (with_reducible repeat (first | apply Kd.V_alloc | apply Kd.V_drewN | apply Kd.V_drew)); exact Kd.V_mono (Kd.V_far (p := ⟨gb596, 1, none⟩) (Kd.V_far (p := ⟨gb596, 0, none⟩) (Kd.V_mono HO_580002.out (fun k_ hk => (⟨hk, hk.2⟩ : _ ∧ k_ ≠ gb596))) (fun _ hk => hk.2) (.int .i64 t595)) (fun _ hk => hk.2) (.int .i64 5)) (fun _ hk => ⟨hk.1.1.1, ⟨hk.1.1.2.1, ⟨hk.1.1.2.2, hk.1.2⟩⟩⟩)⟩, ⟨by (with_reducible repeat (first | apply Kd.V_alloc | apply Kd.V_drewN | apply Kd.V_drew)); exact Kd.V_mono (Kd.V_far (p := ⟨gb596, 1, none⟩) (Kd.V_far (p := ⟨gb596, 0, none⟩) (Kd.V_mono HO_580003.out (fun k_ hk => (⟨hk, hk.2⟩ : _ ∧ k_ ≠ gb596))) (fun _ hk => hk.2) (.int .i64 t595)) (fun _ hk => hk.2) (.int .i64 5)) (fun _ hk => ⟨hk.1.1.1, ⟨hk.1.1.2.1, ⟨hk.1.1.2.2, hk.1.2⟩⟩⟩)⟩, ⟨by (with_reducible repeat (first | apply Kd.V_alloc | apply Kd.V_drewN | apply Kd.V_drew)); exact Kd.V_mono (Kd.V_far (p := ⟨gb596, 1, none⟩) (Kd.V_far (p := ⟨gb596, 0, none⟩) (Kd.V_mono HO_591002.out (fun k_ hk => (⟨hk, hk.2⟩ : _ ∧ k_ ≠ gb596))) (fun _ hk => hk.2) (.int .i64 t595)) (fun _ hk => hk.2) (.int .i64 5)) (fun _ hk => ⟨hk.1.1.1, ⟨hk.1.1.2.1, ⟨hk.1.1.2.2, hk.1.2⟩⟩⟩)⟩, ⟨by (with_reducible repeat (first | apply Kd.V_alloc | apply Kd.V_drewN | apply Kd.V_drew)); exact Kd.V_mono (Kd.V_far (p := ⟨gb596, 1, none⟩) (Kd.V_far (p := ⟨gb596, 0, none⟩) (Kd.V_mono HO_591003.out (fun k_ hk => (⟨hk, hk.2⟩ : _ ∧ k_ ≠ gb596))) (fun _ hk => hk.2) (.int .i64 t595)) (fun _ hk => hk.2) (.int .i64 5)) (fun _ hk => ⟨hk.1.1.1, ⟨hk.1.1.2.1, ⟨hk.1.1.2.2, hk.1.2⟩⟩⟩)⟩, ⟨by (with_reducible repeat (first | refine blk_drewN ?_ _ | refine blk_drew ?_ | refine blk_alloc ?_ _)); refine blk_far ?_ NB579_596.out _; (with_reducible repeat (first | refine blk_drewN ?_ _ | refine blk_drew ?_ | refine blk_alloc ?_ _)); refine blk_far ?_ NB579_596.out _; (with_reducible repeat (first | refine blk_drewN ?_ _ | refine blk_drew ?_ | refine blk_alloc ?_ _)); exact BK579.out⟩, ⟨by (with_reducible repeat (first | refine blk_drewN ?_ _ | refine blk_drew ?_ | refine blk_alloc ?_ _)); refine blk_far ?_ NB590_596.out _; (with_reducible repeat (first | refine blk_drewN ?_ _ | refine blk_drew ?_ | refine blk_alloc ?_ _)); refine blk_far ?_ NB590_596.out _; (with_reducible repeat (first | refine blk_drewN ?_ _ | refine blk_drew ?_ | refine blk_alloc ?_ _)); exact BK590.out⟩, ⟨by (with_reducible repeat (first | refine blk_drewN ?_ _ | refine blk_drew ?_ | refine blk_alloc ?_ _)); refine blk_put (cs := #[.int .i64 t595, .int .i64 0]) ?_ 1 _ rfl; (with_reducible repeat (first | refine blk_drewN ?_ _ | refine blk_drew ?_ | refine blk_alloc ?_ _)); refine blk_put (cs := #[.int .i64 0, .int .i64 0]) ?_ 0 _ rfl; (with_reducible repeat (first | refine blk_drewN ?_ _ | refine blk_drew ?_ | refine blk_alloc ?_ _)); exact BK596.out⟩, ⟨by repeat (first | (with_reducible first | exact HB.out | apply below_alloc | apply pw_below_drewN | apply below_drew1 | refine below_set ?_ GE579.out | refine below_set ?_ GE590.out | refine below_set ?_ GE596.out) | exact HB.out)⟩⟩
       case rest =>
        clear HC28
        try clear c1
        try clear c2
        try clear p2
        try clear c3
        try clear c4
        try clear c4b0
        try clear c4b1
        try clear c5
        try clear p6
        try clear c9
        try clear c16
        try clear c18
        try clear c22
        try clear c26
        try clear c26b0
        try clear c30
        try clear c31
        try clear c33
        try clear c33b0
        try clear c34
        try clear c35
        try clear hcz14_0
        try clear hcz14_1
        try clear hcz14_2
        try clear hcz14_3
        try clear hcz14_4
        try clear hcz18_0
        try clear hcz18_1
        try clear hcz18_2
        try clear hcz18_3
        try clear hcz18_4
        try clear hcz23_0
        try clear hcz23_1
        try clear hcz23_2
        try clear hcz23_3
        try clear hcz23_4
        try clear hcz32_0
        try clear hcz32_1
        try clear hcz36_0
        try clear hcz36_1
        try clear hfz14_0
        try clear hfz14_1
        try clear hfz14_2
        try clear hfz14_3
        try clear hfz14_4
        try clear hfz18_0
        try clear hfz18_1
        try clear hfz18_2
        try clear hfz18_3
        try clear hfz18_4
        try clear hfz23_0
        try clear hfz23_1
        try clear hfz23_2
        try clear hfz23_3
        try clear hfz23_4
        try clear hfz32_0
        try clear hfz32_1
        try clear hfz36_0
        try clear hfz36_1
        try clear p2
        obtain ⟨kq, x597000_27, HA, HJ27, HO_10, HO_580002, HO_580003, HO_591002, HO_591003, BK579, BK590, BK596, HB⟩ := hcut
        cases kq with
        | zero => exact absurd HA.out (by simp [laws_FnCloses.j2])
        | succ kj27 =>
         have H := HA.out
         clear HA
         simp only [laws_FnCloses.j2] at H
         have HC37 := Aside0.mk H
         clear H
         go_upto_region 15 with (fail)
         go_cut [77] (fun v77 wc => ∃ (kq : Nat) (x77_36 : Bool), v77 = .bool x77_36 ∧ Aside0 (laws_FnCloses.j3 kq l0 l1 x10_2 t594 x12_2 x77_36 x591000_2 x591001_2 x591002_2 x591003_2 x591004_2 x597000_27 = some r) ∧ Aside0 (kq ≤ kj27) ∧ Aside0 (Kd.R Kd.bool 4 wc w.heap.size (fun _ => True) v592 x10_2) ∧ Aside0 (Kd.V (Kd.int .i64) 3 wc w.heap.size (fun k_ => some k_ ≠ (v592 : Value).ownBlock ∧ k_ ≠ gb579 ∧ k_ ≠ gb590 ∧ k_ ≠ gb596) (.slice Ao19 t582.length co19) t582) ∧ Aside0 (Kd.V (Kd.int .i64) 3 wc w.heap.size (fun k_ => some k_ ≠ (v592 : Value).ownBlock ∧ k_ ≠ gb579 ∧ k_ ≠ gb590 ∧ k_ ≠ gb596) (.slice Ao20 t585.length co20) t585) ∧ Aside0 (Kd.V (Kd.int .i64) 3 wc w.heap.size (fun k_ => some k_ ≠ (v592 : Value).ownBlock ∧ k_ ≠ gb579 ∧ k_ ≠ gb590 ∧ k_ ≠ gb596) u591002 x591002_2) ∧ Aside0 (Kd.V (Kd.int .i64) 3 wc w.heap.size (fun k_ => some k_ ≠ (v592 : Value).ownBlock ∧ k_ ≠ gb579 ∧ k_ ≠ gb590 ∧ k_ ≠ gb596) u591003 x591003_2) ∧ Aside0 (wc.heap[gb579]? = some (.cells #[.int .i64 t580, .int .i64 t581, (.slice Ao19 t582.length co19), (.slice Ao20 t585.length co20), .int .i64 t588] 37 (0, 0))) ∧ Aside0 (wc.heap[gb590]? = some (.cells #[.int .i64 x591000_2, .int .i64 x591001_2, u591002, u591003, .int .i64 x591004_2] 37 (0, 0))) ∧ Aside0 (wc.heap[gb596]? = some (.cells #[.int .i64 x597000_27, .int .i64 5] 34 (0, 0))) ∧ Aside0 (Below w.heap.size w wc))
         case first =>
          have H := HC37.out
          clear HC37
          by_cases c38 : x12_2 ≥ t594
          ·rw [if_pos c38] at H
           have c38b0 : decide (t594 ≤ x12_2) = true := decide_eq_true c38
           clear c38
           (first | rw [c38b0] | (simp only [i64_w, i32_w]; rw [c38b0]) | skip)
           have H' := Aside0.mk H
           clear H
           go_wp2
           go_meet
           case rel => exact ⟨_, (true), (by first | rfl | (simp; done) | (simp [*]; done)), H', ⟨by have := HJ2.out; have := HK2.out; have := HJ27.out; first | omega | exact Nat.le_refl _⟩, ⟨by (with_reducible repeat (first | apply Kd.R_alloc | apply Kd.R_drewN | apply Kd.R_drew)); exact HO_10.out⟩, ⟨by (with_reducible repeat (first | apply Kd.V_alloc | apply Kd.V_drewN | apply Kd.V_drew)); exact HO_580002.out⟩, ⟨by (with_reducible repeat (first | apply Kd.V_alloc | apply Kd.V_drewN | apply Kd.V_drew)); exact HO_580003.out⟩, ⟨by (with_reducible repeat (first | apply Kd.V_alloc | apply Kd.V_drewN | apply Kd.V_drew)); exact HO_591002.out⟩, ⟨by (with_reducible repeat (first | apply Kd.V_alloc | apply Kd.V_drewN | apply Kd.V_drew)); exact HO_591003.out⟩, ⟨by (with_reducible repeat (first | refine blk_drewN ?_ _ | refine blk_drew ?_ | refine blk_alloc ?_ _)); exact BK579.out⟩, ⟨by (with_reducible repeat (first | refine blk_drewN ?_ _ | refine blk_drew ?_ | refine blk_alloc ?_ _)); exact BK590.out⟩, ⟨by (with_reducible repeat (first | refine blk_drewN ?_ _ | refine blk_drew ?_ | refine blk_alloc ?_ _)); exact BK596.out⟩, ⟨by repeat (first | (with_reducible first | exact HB.out | apply below_alloc | apply pw_below_drewN | apply below_drew1 | refine below_set ?_ GE579.out | refine below_set ?_ GE590.out | refine below_set ?_ GE596.out) | exact HB.out)⟩⟩
          ·rw [if_neg c38] at H
           have c38b0 : decide (t594 ≤ x12_2) = false := decide_eq_false c38
           clear c38
           (first | rw [c38b0] | (simp only [i64_w, i32_w]; rw [c38b0]) | skip)
           replace H := Option.bind_eq_some_iff.mp H
           obtain ⟨t597, A390, H⟩ := H
           replace H : (laws_FnCloses.j3 kj27 l0 l1 x10_2 t594 x12_2 (t597 == 0) x591000_2 x591001_2 x591002_2 x591003_2 x591004_2 x597000_27) = some r := H
           have A39 := Aside0.mk A390
           clear A390
           have H' := Aside0.mk H
           clear H
           go_wp2_with (first | (go_at_call 9; (with_reducible refine (laws_at.calls _ _ l0 x12_2 3 t597 _ ?side1 ?side2 A39.out).mono ?_); (case side1 => repeat (first | exact (Kd.C_below HR0.out HB.out) | (with_reducible refine Kd.C_alloc ?_ _) | (with_reducible refine Kd.C_drewN ?_ _) | (with_reducible refine Kd.C_drew ?_))); (case side2 => exact HC0.out); rintro e w' ⟨rfl, ⟨nd, rfl⟩⟩))
           go_meet
           case rel => exact ⟨_, ((t597 == 0)), (by first | rfl | (simp; done) | (simp [*]; done)), H', ⟨by have := HJ2.out; have := HK2.out; have := HJ27.out; first | omega | exact Nat.le_refl _⟩, ⟨by (with_reducible repeat (first | apply Kd.R_alloc | apply Kd.R_drewN | apply Kd.R_drew)); exact HO_10.out⟩, ⟨by (with_reducible repeat (first | apply Kd.V_alloc | apply Kd.V_drewN | apply Kd.V_drew)); exact HO_580002.out⟩, ⟨by (with_reducible repeat (first | apply Kd.V_alloc | apply Kd.V_drewN | apply Kd.V_drew)); exact HO_580003.out⟩, ⟨by (with_reducible repeat (first | apply Kd.V_alloc | apply Kd.V_drewN | apply Kd.V_drew)); exact HO_591002.out⟩, ⟨by (with_reducible repeat (first | apply Kd.V_alloc | apply Kd.V_drewN | apply Kd.V_drew)); exact HO_591003.out⟩, ⟨by (with_reducible repeat (first | refine blk_drewN ?_ _ | refine blk_drew ?_ | refine blk_alloc ?_ _)); exact BK579.out⟩, ⟨by (with_reducible repeat (first | refine blk_drewN ?_ _ | refine blk_drew ?_ | refine blk_alloc ?_ _)); exact BK590.out⟩, ⟨by (with_reducible repeat (first | refine blk_drewN ?_ _ | refine blk_drew ?_ | refine blk_alloc ?_ _)); exact BK596.out⟩, ⟨by repeat (first | (with_reducible first | exact HB.out | apply below_alloc | apply pw_below_drewN | apply below_drew1 | refine below_set ?_ GE579.out | refine below_set ?_ GE590.out | refine below_set ?_ GE596.out) | exact HB.out)⟩⟩
         case rest =>
          clear HC37
          try clear c1
          try clear c2
          try clear p2
          try clear c3
          try clear c4
          try clear c4b0
          try clear c4b1
          try clear c5
          try clear p6
          try clear c9
          try clear c16
          try clear c18
          try clear c22
          try clear c26
          try clear c26b0
          try clear c30
          try clear c31
          try clear c33
          try clear c33b0
          try clear c34
          try clear c35
          try clear c38
          try clear c38b0
          try clear hcz14_0
          try clear hcz14_1
          try clear hcz14_2
          try clear hcz14_3
          try clear hcz14_4
          try clear hcz18_0
          try clear hcz18_1
          try clear hcz18_2
          try clear hcz18_3
          try clear hcz18_4
          try clear hcz23_0
          try clear hcz23_1
          try clear hcz23_2
          try clear hcz23_3
          try clear hcz23_4
          try clear hcz32_0
          try clear hcz32_1
          try clear hcz36_0
          try clear hcz36_1
          try clear hfz14_0
          try clear hfz14_1
          try clear hfz14_2
          try clear hfz14_3
          try clear hfz14_4
          try clear hfz18_0
          try clear hfz18_1
          try clear hfz18_2
          try clear hfz18_3
          try clear hfz18_4
          try clear hfz23_0
          try clear hfz23_1
          try clear hfz23_2
          try clear hfz23_3
          try clear hfz23_4
          try clear hfz32_0
          try clear hfz32_1
          try clear hfz36_0
          try clear hfz36_1
          try clear p2
          try clear p6
          obtain ⟨kq, x77_36, rfl, HA, HJ36, HO_10, HO_580002, HO_580003, HO_591002, HO_591003, BK579, BK590, BK596, HB⟩ := hcut
          cases kq with
          | zero => exact absurd HA.out (by simp [laws_FnCloses.j3])
          | succ kj36 =>
           have H := HA.out
           clear HA
           simp only [laws_FnCloses.j3] at H
           have HC40 := Aside0.mk H
           clear H
           go_upto_if 77 with (fail)
           go_cut [] (fun wc => ∃ (kq : Nat) (x10_39 : List Bool) (x597001_39 : Int), Aside0 (laws_FnCloses.j4 kq l0 l1 x10_39 t594 x12_2 x591000_2 x591001_2 x591002_2 x591003_2 x591004_2 x597000_27 x597001_39 = some r) ∧ Aside0 (kq ≤ kj36) ∧ Aside0 (Kd.R Kd.bool 4 wc w.heap.size (fun _ => True) v592 x10_39) ∧ Aside0 (Kd.V (Kd.int .i64) 3 wc w.heap.size (fun k_ => some k_ ≠ (v592 : Value).ownBlock ∧ k_ ≠ gb579 ∧ k_ ≠ gb590 ∧ k_ ≠ gb596) (.slice Ao19 t582.length co19) t582) ∧ Aside0 (Kd.V (Kd.int .i64) 3 wc w.heap.size (fun k_ => some k_ ≠ (v592 : Value).ownBlock ∧ k_ ≠ gb579 ∧ k_ ≠ gb590 ∧ k_ ≠ gb596) (.slice Ao20 t585.length co20) t585) ∧ Aside0 (Kd.V (Kd.int .i64) 3 wc w.heap.size (fun k_ => some k_ ≠ (v592 : Value).ownBlock ∧ k_ ≠ gb579 ∧ k_ ≠ gb590 ∧ k_ ≠ gb596) u591002 x591002_2) ∧ Aside0 (Kd.V (Kd.int .i64) 3 wc w.heap.size (fun k_ => some k_ ≠ (v592 : Value).ownBlock ∧ k_ ≠ gb579 ∧ k_ ≠ gb590 ∧ k_ ≠ gb596) u591003 x591003_2) ∧ Aside0 (wc.heap[gb579]? = some (.cells #[.int .i64 t580, .int .i64 t581, (.slice Ao19 t582.length co19), (.slice Ao20 t585.length co20), .int .i64 t588] 37 (0, 0))) ∧ Aside0 (wc.heap[gb590]? = some (.cells #[.int .i64 x591000_2, .int .i64 x591001_2, u591002, u591003, .int .i64 x591004_2] 37 (0, 0))) ∧ Aside0 (wc.heap[gb596]? = some (.cells #[.int .i64 x597000_27, .int .i64 x597001_39] 34 (0, 0))) ∧ Aside0 (Below w.heap.size w wc))
           case first =>
            have H := HC40.out
            clear HC40
            by_cases c41 : x77_36 = true
            ·subst c41
             have H1 : (if 0 ≤ x597000_27 then (if x597000_27 < (x10_2.length : Int) then (if rdOf false x10_2 x597000_27 = true then (laws_FnCloses.l0 kj36 l0 l1 x10_2 t594 (wrap64 (x12_2 + 1)) x591000_2 x591001_2 x591002_2 x591003_2 x591004_2) else (laws_FnCloses.j4 kj36 l0 l1 (x10_2.set (x597000_27 : Int).toNat true) t594 x12_2 x591000_2 x591001_2 x591002_2 x591003_2 x591004_2 x597000_27 3)) else (none)) else (none)) = some r := by rw [if_pos rfl] at H; exact H
             clear H
             have H := H1
             clear H1
             by_cases c42 : 0 ≤ x597000_27
             ·rw [if_pos c42] at H
              have c42b0 : decide (0 ≤ x597000_27) = true := decide_eq_true c42
              clear c42
              (first | rw [c42b0] | (simp only [i64_w, i32_w]; rw [c42b0]) | skip)
              by_cases c43 : x597000_27 < (x10_2.length : Int)
              ·rw [if_pos c43] at H
               have c43b0 : decide (x597000_27 < (x10_2.length : Int)) = true := decide_eq_true c43
               clear c43
               obtain ⟨bq44, hbq44⟩ : ∃ b_ : Bool, b_ = (rdOf false x10_2 x597000_27) := ⟨_, rfl⟩
               replace H : (if bq44 = true then (laws_FnCloses.l0 kj36 l0 l1 x10_2 t594 (wrap64 (x12_2 + 1)) x591000_2 x591001_2 x591002_2 x591003_2 x591004_2) else (laws_FnCloses.j4 kj36 l0 l1 (x10_2.set (x597000_27 : Int).toNat true) t594 x12_2 x591000_2 x591001_2 x591002_2 x591003_2 x591004_2 x597000_27 3)) = some r := by rw [← hbq44] at H; exact H
               have Nbq44 := Aside0.mk hbq44
               clear hbq44
               by_cases c45 : bq44 = true
               ·subst c45
                have H1 : (laws_FnCloses.l0 kj36 l0 l1 x10_2 t594 (wrap64 (x12_2 + 1)) x591000_2 x591001_2 x591002_2 x591003_2 x591004_2) = some r := by rw [if_pos rfl] at H; exact H
                clear H
                have H := H1
                clear H1
                have H' := Aside0.mk H
                clear H
                have hnb46 := NB596_579.out
                have hnc46 := NB579_596.out
                have hnb47 := NB596_590.out
                have hnc47 := NB590_596.out
                have hcz48_0 : wc.cell? ⟨gb596, 0, none⟩ = some (.int .i64 x597000_27) := (blk_cell BK596.out 0).trans rfl
                have hcz48_1 : wc.cell? ⟨gb596, 1, none⟩ = some (.int .i64 5) := (blk_cell BK596.out 1).trans rfl
                have hfz48_0 := blk_frozen BK596.out 0
                have hfz48_1 := blk_frozen BK596.out 1
                obtain ⟨Ao49, co49, eo49⟩ := Kd.R_slice HO_10.out
                subst eo49
                have p598 : 0 ≤ (x597000_27 : Int) := of_decide_eq_true (by first | (with_reducible assumption) | assumption)
                have q598 : x597000_27 < (x10_2.length : Int) := of_decide_eq_true (by first | (with_reducible assumption) | assumption)
                obtain ⟨ad598, e598, hx598_0⟩ := Kd.at_bool (Kd.R_reads' HO_10.out).2.2 x597000_27 p598 q598
                (try rw [← Nbq44.out] at hx598_0)
                cases e598
                have hn598_0 : ad598.block ≠ gb596 := Kd.own_blk (Kd.R_ne HO_10.out BK596.out (by decide))
                replace hx598_0 := (cell_far (p := ⟨gb596, 1, none⟩) (by first | (rw [add_block]; exact hn598_0) | (show (Addr.add _ _).block ≠ _; rw [add_block]; exact hn598_0) | exact hn598_0) (.int .i64 3)).trans hx598_0
                clear hn598_0
                replace p598 := eq_true p598
                replace q598 := eq_true q598
                go_wp2
                go_roundg kj36
                case measure => have := HJ2.out; have := HK2.out; have := HJ27.out; have := HJ36.out; omega
                case rel => exact ⟨(x10_2), (wrap64 (x12_2 + 1)), (x591000_2), (x591001_2), (x591002_2), (x591003_2), (x591004_2), (u591002), (u591003), (by first | rfl | (simp; done) | (simp [*]; done)), H', ⟨by have := HJ2.out; have := HK2.out; have := HJ27.out; have := HJ36.out; omega⟩, ⟨by (with_reducible repeat (first | apply Kd.R_alloc | apply Kd.R_drewN | apply Kd.R_drew)); exact Kd.R_mono (Kd.R_far (p := ⟨gb596, 1, none⟩) (Kd.R_types HO_10.out BK596.out (by decide)) (fun _ hk => hk.2) (.int .i64 3)) (fun _ hk => trivial)⟩, ⟨by (with_reducible repeat (first | apply Kd.V_alloc | apply Kd.V_drewN | apply Kd.V_drew)); exact Kd.V_mono (Kd.V_far (p := ⟨gb596, 1, none⟩) (Kd.V_mono HO_580002.out (fun k_ hk => (⟨hk, hk.2.2.2⟩ : _ ∧ k_ ≠ gb596))) (fun _ hk => hk.2) (.int .i64 3)) (fun _ hk => ⟨hk.1.1, ⟨hk.1.2.1, hk.1.2.2.1⟩⟩)⟩, ⟨by (with_reducible repeat (first | apply Kd.V_alloc | apply Kd.V_drewN | apply Kd.V_drew)); exact Kd.V_mono (Kd.V_far (p := ⟨gb596, 1, none⟩) (Kd.V_mono HO_580003.out (fun k_ hk => (⟨hk, hk.2.2.2⟩ : _ ∧ k_ ≠ gb596))) (fun _ hk => hk.2) (.int .i64 3)) (fun _ hk => ⟨hk.1.1, ⟨hk.1.2.1, hk.1.2.2.1⟩⟩)⟩, ⟨by (with_reducible repeat (first | apply Kd.V_alloc | apply Kd.V_drewN | apply Kd.V_drew)); exact Kd.V_mono (Kd.V_far (p := ⟨gb596, 1, none⟩) (Kd.V_mono HO_591002.out (fun k_ hk => (⟨hk, hk.2.2.2⟩ : _ ∧ k_ ≠ gb596))) (fun _ hk => hk.2) (.int .i64 3)) (fun _ hk => ⟨hk.1.1, ⟨hk.1.2.1, hk.1.2.2.1⟩⟩)⟩, ⟨by (with_reducible repeat (first | apply Kd.V_alloc | apply Kd.V_drewN | apply Kd.V_drew)); exact Kd.V_mono (Kd.V_far (p := ⟨gb596, 1, none⟩) (Kd.V_mono HO_591003.out (fun k_ hk => (⟨hk, hk.2.2.2⟩ : _ ∧ k_ ≠ gb596))) (fun _ hk => hk.2) (.int .i64 3)) (fun _ hk => ⟨hk.1.1, ⟨hk.1.2.1, hk.1.2.2.1⟩⟩)⟩, ⟨by (with_reducible repeat (first | refine blk_drewN ?_ _ | refine blk_drew ?_ | refine blk_alloc ?_ _)); refine blk_far ?_ NB579_596.out _; (with_reducible repeat (first | refine blk_drewN ?_ _ | refine blk_drew ?_ | refine blk_alloc ?_ _)); exact BK579.out⟩, ⟨by (with_reducible repeat (first | refine blk_drewN ?_ _ | refine blk_drew ?_ | refine blk_alloc ?_ _)); refine blk_far ?_ NB590_596.out _; (with_reducible repeat (first | refine blk_drewN ?_ _ | refine blk_drew ?_ | refine blk_alloc ?_ _)); exact BK590.out⟩, ⟨by repeat (first | (with_reducible first | exact HB.out | apply below_alloc | apply pw_below_drewN | apply below_drew1 | refine below_set ?_ GE579.out | refine below_set ?_ GE590.out | refine below_set ?_ GE596.out) | exact HB.out)⟩⟩
               ·replace c45 := Bool.eq_false_iff.mpr c45
                subst c45
                have H1 : (laws_FnCloses.j4 kj36 l0 l1 (x10_2.set (x597000_27 : Int).toNat true) t594 x12_2 x591000_2 x591001_2 x591002_2 x591003_2 x591004_2 x597000_27 3) = some r := by rw [if_neg (show ¬ (false = true) by decide)] at H; exact H
                clear H
                have H := H1
                clear H1
                obtain ⟨y599, hy599⟩ : ∃ y_ : List Bool, y_ = (x10_2.set (x597000_27 : Int).toNat true) := ⟨_, rfl⟩
                replace H : (laws_FnCloses.j4 kj36 l0 l1 y599 t594 x12_2 x591000_2 x591001_2 x591002_2 x591003_2 x591004_2 x597000_27 3) = some r := by first | (rw [hy599]; with_reducible exact H) | (have H2_ := (Option.bind_some _ _).symm.trans H; rw [hy599]; with_reducible exact H2_) | (have H2_ := (Option.bind_some _ _).symm.trans H; with_reducible exact H2_) | with_reducible exact H | (rw [hy599]; exact H) | exact H
                have Ny599 := Aside0.mk hy599
                clear hy599
                have H' := Aside0.mk H
                clear H
                have hnb51 := NB596_579.out
                have hnc51 := NB579_596.out
                have hnb52 := NB596_590.out
                have hnc52 := NB590_596.out
                have hcz53_0 : wc.cell? ⟨gb596, 0, none⟩ = some (.int .i64 x597000_27) := (blk_cell BK596.out 0).trans rfl
                have hcz53_1 : wc.cell? ⟨gb596, 1, none⟩ = some (.int .i64 5) := (blk_cell BK596.out 1).trans rfl
                have hfz53_0 := blk_frozen BK596.out 0
                have hfz53_1 := blk_frozen BK596.out 1
                go_wp2_with (first | ((with_reducible refine gate_store (t := 3) (p := 78) rfl ?_); refine store_event (t := 3) (p := 78) (v := ?vo_w54) (w1 := (wc.setCell ⟨gb596, 1, none⟩ (.int .i64 3))) ?hg ?ho ?hn ?hr ?_; (case ho => rfl); (case hg => rfl); (case hn => rfl); (case hr => first | (go_simp; done) | (go_simp; rfl)); intro w54 hw; have n0_ : Aside0 (Kd.R Kd.bool 4 w54 w.heap.size (fun _ => True) v592 x10_2) := ⟨(by rw [hw]; exact (by (with_reducible repeat (first | apply Kd.R_alloc | apply Kd.R_drewN | apply Kd.R_drew)); exact Kd.R_mono (Kd.R_far (p := ⟨gb596, 1, none⟩) (Kd.R_types HO_10.out BK596.out (by decide)) (fun _ hk => hk.2) (.int .i64 3)) (fun _ hk => trivial)))⟩; have n1_ : Aside0 (Kd.V (Kd.int .i64) 3 w54 w.heap.size (fun k_ => some k_ ≠ (v592 : Value).ownBlock ∧ k_ ≠ gb579 ∧ k_ ≠ gb590 ∧ k_ ≠ gb596) (.slice Ao19 t582.length co19) t582) := ⟨(by rw [hw]; exact (by (with_reducible repeat (first | apply Kd.V_alloc | apply Kd.V_drewN | apply Kd.V_drew)); exact Kd.V_mono (Kd.V_far (p := ⟨gb596, 1, none⟩) (Kd.V_mono HO_580002.out (fun k_ hk => (⟨hk, hk.2.2.2⟩ : _ ∧ k_ ≠ gb596))) (fun _ hk => hk.2) (.int .i64 3)) (fun _ hk => ⟨hk.1.1, ⟨hk.1.2.1, ⟨hk.1.2.2.1, hk.1.2.2.2⟩⟩⟩)))⟩; have n2_ : Aside0 (Kd.V (Kd.int .i64) 3 w54 w.heap.size (fun k_ => some k_ ≠ (v592 : Value).ownBlock ∧ k_ ≠ gb579 ∧ k_ ≠ gb590 ∧ k_ ≠ gb596) (.slice Ao20 t585.length co20) t585) := ⟨(by rw [hw]; exact (by (with_reducible repeat (first | apply Kd.V_alloc | apply Kd.V_drewN | apply Kd.V_drew)); exact Kd.V_mono (Kd.V_far (p := ⟨gb596, 1, none⟩) (Kd.V_mono HO_580003.out (fun k_ hk => (⟨hk, hk.2.2.2⟩ : _ ∧ k_ ≠ gb596))) (fun _ hk => hk.2) (.int .i64 3)) (fun _ hk => ⟨hk.1.1, ⟨hk.1.2.1, ⟨hk.1.2.2.1, hk.1.2.2.2⟩⟩⟩)))⟩; have n3_ : Aside0 (Kd.V (Kd.int .i64) 3 w54 w.heap.size (fun k_ => some k_ ≠ (v592 : Value).ownBlock ∧ k_ ≠ gb579 ∧ k_ ≠ gb590 ∧ k_ ≠ gb596) u591002 x591002_2) := ⟨(by rw [hw]; exact (by (with_reducible repeat (first | apply Kd.V_alloc | apply Kd.V_drewN | apply Kd.V_drew)); exact Kd.V_mono (Kd.V_far (p := ⟨gb596, 1, none⟩) (Kd.V_mono HO_591002.out (fun k_ hk => (⟨hk, hk.2.2.2⟩ : _ ∧ k_ ≠ gb596))) (fun _ hk => hk.2) (.int .i64 3)) (fun _ hk => ⟨hk.1.1, ⟨hk.1.2.1, ⟨hk.1.2.2.1, hk.1.2.2.2⟩⟩⟩)))⟩; have n4_ : Aside0 (Kd.V (Kd.int .i64) 3 w54 w.heap.size (fun k_ => some k_ ≠ (v592 : Value).ownBlock ∧ k_ ≠ gb579 ∧ k_ ≠ gb590 ∧ k_ ≠ gb596) u591003 x591003_2) := ⟨(by rw [hw]; exact (by (with_reducible repeat (first | apply Kd.V_alloc | apply Kd.V_drewN | apply Kd.V_drew)); exact Kd.V_mono (Kd.V_far (p := ⟨gb596, 1, none⟩) (Kd.V_mono HO_591003.out (fun k_ hk => (⟨hk, hk.2.2.2⟩ : _ ∧ k_ ≠ gb596))) (fun _ hk => hk.2) (.int .i64 3)) (fun _ hk => ⟨hk.1.1, ⟨hk.1.2.1, ⟨hk.1.2.2.1, hk.1.2.2.2⟩⟩⟩)))⟩; have n5_ : Aside0 (w54.heap[gb579]? = some (.cells #[.int .i64 t580, .int .i64 t581, .slice Ao19 t582.length co19, .slice Ao20 t585.length co20, .int .i64 t588] 37 (0, 0))) := ⟨(by rw [hw]; exact (by (with_reducible repeat (first | refine blk_drewN ?_ _ | refine blk_drew ?_ | refine blk_alloc ?_ _)); refine blk_far ?_ NB579_596.out _; (with_reducible repeat (first | refine blk_drewN ?_ _ | refine blk_drew ?_ | refine blk_alloc ?_ _)); exact BK579.out))⟩; have n6_ : Aside0 (w54.heap[gb590]? = some (.cells #[.int .i64 x591000_2, .int .i64 x591001_2, u591002, u591003, .int .i64 x591004_2] 37 (0, 0))) := ⟨(by rw [hw]; exact (by (with_reducible repeat (first | refine blk_drewN ?_ _ | refine blk_drew ?_ | refine blk_alloc ?_ _)); refine blk_far ?_ NB590_596.out _; (with_reducible repeat (first | refine blk_drewN ?_ _ | refine blk_drew ?_ | refine blk_alloc ?_ _)); exact BK590.out))⟩; have n7_ : Aside0 (w54.heap[gb596]? = some (.cells #[.int .i64 x597000_27, .int .i64 3] 34 (0, 0))) := ⟨(by rw [hw]; exact (by (with_reducible repeat (first | refine blk_drewN ?_ _ | refine blk_drew ?_ | refine blk_alloc ?_ _)); refine blk_put (cs := #[.int .i64 x597000_27, .int .i64 5]) ?_ 1 _ rfl; (with_reducible repeat (first | refine blk_drewN ?_ _ | refine blk_drew ?_ | refine blk_alloc ?_ _)); exact BK596.out))⟩; have n8_ : Aside0 (Below w.heap.size w w54) := ⟨(by rw [hw]; exact (by repeat (first | (with_reducible first | exact HB.out | apply below_alloc | apply pw_below_drewN | apply below_drew1 | refine below_set ?_ GE579.out | refine below_set ?_ GE590.out | refine below_set ?_ GE596.out) | exact HB.out)))⟩; clear hw; clear HO_10; clear HO_580002; clear HO_580003; clear HO_591002; clear HO_591003; clear BK579; clear BK590; clear BK596; clear HB; have HO_10 := n0_; have HO_580002 := n1_; have HO_580003 := n2_; have HO_591002 := n3_; have HO_591003 := n4_; have BK579 := n5_; have BK590 := n6_; have BK596 := n7_; have HB := n8_; clear n0_ n1_ n2_ n3_ n4_ n5_ n6_ n7_ n8_; have hcz55_0 : w54.cell? ⟨gb596, 0, none⟩ = some (.int .i64 x597000_27) := (blk_cell BK596.out 0).trans rfl; have hcz55_1 : w54.cell? ⟨gb596, 1, none⟩ = some (.int .i64 3) := (blk_cell BK596.out 1).trans rfl; have hfz55_0 := blk_frozen BK596.out 0; have hfz55_1 := blk_frozen BK596.out 1; obtain ⟨Ao56, co56, eo56⟩ := Kd.R_slice HO_10.out; subst eo56; have p598 : 0 ≤ (x597000_27 : Int) := of_decide_eq_true (by first | (with_reducible assumption) | assumption); have q598 : x597000_27 < (x10_2.length : Int) := of_decide_eq_true (by first | (with_reducible assumption) | assumption); obtain ⟨ad598, e598, hx598_0⟩ := Kd.at_bool (Kd.R_reads' HO_10.out).2.2 x597000_27 p598 q598; (try rw [← Nbq44.out] at hx598_0); cases e598; replace p598 := eq_true p598; replace q598 := eq_true q598; have p50 : 0 ≤ (x597000_27 : Int) := of_decide_eq_true (by first | (with_reducible assumption) | assumption); have q50 : (x597000_27 : Int) < ((x10_2.length : Int) : Int) := of_decide_eq_true (by first | (with_reducible assumption) | assumption); obtain ⟨go50, co50, eo50, gb50, gl50, cl50, HG50⟩ := Kd.R_form HO_10.out (by omega); (first | cases eo50 | (injection eo50 with ea_ en_ ec_; (first | subst ea_ | (injection ea_ with ea_; subst ea_)); subst ec_; clear en_)); have GB50 := Aside0.mk gb50; have GG50 := Aside0.mk HG50; clear gb50 gl50 HG50; (first | simp only [add_plain] at hx598_0 | skip); obtain ⟨hx50_0, hf50_0⟩ := Kd.R_celln false HO_10.out (x597000_27 : Int) p50 q50; replace p50 := eq_true p50; replace q50 := eq_true q50; obtain ⟨hy57_, hz57_⟩ := Kd.R_celln false HO_10.out (x597000_27 : Int) (of_decide_eq_true (by first | (with_reducible assumption) | assumption)) (of_decide_eq_true (by first | (with_reducible assumption) | assumption)); have HP57 := Kd.R_putg HO_10.out (x597000_27 : Int) true) | ((with_reducible refine gate_store (t := 4) (p := 87) rfl ?_); refine store_event (t := 4) (p := 87) (v := ?vo_w58) (w1 := (w54.setCell ⟨go50, (x597000_27 : Int).toNat, none⟩ (.bool true))) ?hg ?ho ?hn ?hr ?_; (case ho => rfl); (case hg => rfl); (case hn => rfl); (case hr => first | (go_simp; done) | (go_simp; rfl)); intro w58 hw; have hg : w54.grownBy w58 (some go50) := (by rw [hw]; exact HP57.2); have hp_ : Kd.R Kd.bool 4 w58 w.heap.size (fun _ => True) (.slice (some ⟨go50, 0, none⟩) x10_2.length co56) y599 := (by rw [hw, Ny599.out]; exact HP57.1); clear HP57; have n0_ := Aside0.mk (hp_); have n1_ := Aside0.mk (Kd.V_afterv (v := (.slice (some ⟨go50, 0, none⟩) x10_2.length co56)) (v1 := (.slice (some ⟨go50, 0, none⟩) x10_2.length co56)) (ok := (fun k_ => k_ ≠ gb579 ∧ k_ ≠ gb590 ∧ k_ ≠ gb596)) (by (with_reducible repeat (first | apply Kd.V_alloc | apply Kd.V_drewN | apply Kd.V_drew)); exact Kd.V_mono HO_580002.out (fun _ hk => ⟨⟨hk.2.1, ⟨hk.2.2.1, hk.2.2.2⟩⟩, hk.1⟩)) hg (.inl rfl)); have n2_ := Aside0.mk (Kd.V_afterv (v := (.slice (some ⟨go50, 0, none⟩) x10_2.length co56)) (v1 := (.slice (some ⟨go50, 0, none⟩) x10_2.length co56)) (ok := (fun k_ => k_ ≠ gb579 ∧ k_ ≠ gb590 ∧ k_ ≠ gb596)) (by (with_reducible repeat (first | apply Kd.V_alloc | apply Kd.V_drewN | apply Kd.V_drew)); exact Kd.V_mono HO_580003.out (fun _ hk => ⟨⟨hk.2.1, ⟨hk.2.2.1, hk.2.2.2⟩⟩, hk.1⟩)) hg (.inl rfl)); have n3_ := Aside0.mk (Kd.V_afterv (v := (.slice (some ⟨go50, 0, none⟩) x10_2.length co56)) (v1 := (.slice (some ⟨go50, 0, none⟩) x10_2.length co56)) (ok := (fun k_ => k_ ≠ gb579 ∧ k_ ≠ gb590 ∧ k_ ≠ gb596)) (by (with_reducible repeat (first | apply Kd.V_alloc | apply Kd.V_drewN | apply Kd.V_drew)); exact Kd.V_mono HO_591002.out (fun _ hk => ⟨⟨hk.2.1, ⟨hk.2.2.1, hk.2.2.2⟩⟩, hk.1⟩)) hg (.inl rfl)); have n4_ := Aside0.mk (Kd.V_afterv (v := (.slice (some ⟨go50, 0, none⟩) x10_2.length co56)) (v1 := (.slice (some ⟨go50, 0, none⟩) x10_2.length co56)) (ok := (fun k_ => k_ ≠ gb579 ∧ k_ ≠ gb590 ∧ k_ ≠ gb596)) (by (with_reducible repeat (first | apply Kd.V_alloc | apply Kd.V_drewN | apply Kd.V_drew)); exact Kd.V_mono HO_591003.out (fun _ hk => ⟨⟨hk.2.1, ⟨hk.2.2.1, hk.2.2.2⟩⟩, hk.1⟩)) hg (.inl rfl)); have n5_ := Aside0.mk (blk_grown (g := gb579) (o := .cells #[.int .i64 t580, .int .i64 t581, .slice Ao19 t582.length co19, .slice Ao20 t585.length co20, .int .i64 t588] 37 (0, 0)) (by (with_reducible repeat (first | refine blk_drewN ?_ _ | refine blk_drew ?_ | refine blk_alloc ?_ _)); exact BK579.out) hg (Kd.R_ne HO_10.out BK579.out (by decide))); have n6_ := Aside0.mk (blk_grown (g := gb590) (o := .cells #[.int .i64 x591000_2, .int .i64 x591001_2, u591002, u591003, .int .i64 x591004_2] 37 (0, 0)) (by (with_reducible repeat (first | refine blk_drewN ?_ _ | refine blk_drew ?_ | refine blk_alloc ?_ _)); exact BK590.out) hg (Kd.R_ne HO_10.out BK590.out (by decide))); have n7_ := Aside0.mk (blk_grown (g := gb596) (o := .cells #[.int .i64 x597000_27, .int .i64 3] 34 (0, 0)) (by (with_reducible repeat (first | refine blk_drewN ?_ _ | refine blk_drew ?_ | refine blk_alloc ?_ _)); exact BK596.out) hg (Kd.R_ne HO_10.out BK596.out (by decide))); have n8_ := Aside0.mk ((by rw [hw]; exact below_set (HB.out) GB50.out : Below w.heap.size w w58)); clear HO_10; clear HO_580002; clear HO_580003; clear HO_591002; clear HO_591003; clear BK579; clear BK590; clear BK596; clear HB; have HO_10 := n0_; have HO_580002 := n1_; have HO_580003 := n2_; have HO_591002 := n3_; have HO_591003 := n4_; have BK579 := n5_; have BK590 := n6_; have BK596 := n7_; have HB := n8_; clear n0_ n1_ n2_ n3_ n4_ n5_ n6_ n7_ n8_; clear hg hw hp_))
                go_meet
                case rel => exact ⟨_, (y599), (3), H', ⟨by have := HJ2.out; have := HK2.out; have := HJ27.out; have := HJ36.out; first | omega | exact Nat.le_refl _⟩, ⟨by (with_reducible repeat (first | apply Kd.R_alloc | apply Kd.R_drewN | apply Kd.R_drew)); exact HO_10.out⟩, ⟨by (with_reducible repeat (first | apply Kd.V_alloc | apply Kd.V_drewN | apply Kd.V_drew)); exact Kd.V_mono HO_580002.out (fun _ hk => ⟨hk.2, ⟨hk.1.1, ⟨hk.1.2.1, hk.1.2.2⟩⟩⟩)⟩, ⟨by (with_reducible repeat (first | apply Kd.V_alloc | apply Kd.V_drewN | apply Kd.V_drew)); exact Kd.V_mono HO_580003.out (fun _ hk => ⟨hk.2, ⟨hk.1.1, ⟨hk.1.2.1, hk.1.2.2⟩⟩⟩)⟩, ⟨by (with_reducible repeat (first | apply Kd.V_alloc | apply Kd.V_drewN | apply Kd.V_drew)); exact Kd.V_mono HO_591002.out (fun _ hk => ⟨hk.2, ⟨hk.1.1, ⟨hk.1.2.1, hk.1.2.2⟩⟩⟩)⟩, ⟨by (with_reducible repeat (first | apply Kd.V_alloc | apply Kd.V_drewN | apply Kd.V_drew)); exact Kd.V_mono HO_591003.out (fun _ hk => ⟨hk.2, ⟨hk.1.1, ⟨hk.1.2.1, hk.1.2.2⟩⟩⟩)⟩, ⟨by (with_reducible repeat (first | refine blk_drewN ?_ _ | refine blk_drew ?_ | refine blk_alloc ?_ _)); exact BK579.out⟩, ⟨by (with_reducible repeat (first | refine blk_drewN ?_ _ | refine blk_drew ?_ | refine blk_alloc ?_ _)); exact BK590.out⟩, ⟨by (with_reducible repeat (first | refine blk_drewN ?_ _ | refine blk_drew ?_ | refine blk_alloc ?_ _)); exact BK596.out⟩, ⟨by repeat (first | (with_reducible first | exact HB.out | apply below_alloc | apply pw_below_drewN | apply below_drew1 | refine below_set ?_ GE579.out | refine below_set ?_ GE590.out | refine below_set ?_ GE596.out) | exact HB.out)⟩⟩
              ·rw [if_neg c43] at H
               exact absurd H (by simp)
             ·rw [if_neg c42] at H
              exact absurd H (by simp)
            ·replace c41 := Bool.eq_false_iff.mpr c41
             subst c41
             have H1 : (laws_FnCloses.j4 kj36 l0 l1 x10_2 t594 x12_2 x591000_2 x591001_2 x591002_2 x591003_2 x591004_2 x597000_27 5) = some r := by rw [if_neg (show ¬ (false = true) by decide)] at H; exact H
             clear H
             have H := H1
             clear H1
             have H' := Aside0.mk H
             clear H
             go_wp2
             go_meet
             case rel => exact ⟨_, (x10_2), (5), H', ⟨by have := HJ2.out; have := HK2.out; have := HJ27.out; have := HJ36.out; first | omega | exact Nat.le_refl _⟩, ⟨by (with_reducible repeat (first | apply Kd.R_alloc | apply Kd.R_drewN | apply Kd.R_drew)); exact HO_10.out⟩, ⟨by (with_reducible repeat (first | apply Kd.V_alloc | apply Kd.V_drewN | apply Kd.V_drew)); exact HO_580002.out⟩, ⟨by (with_reducible repeat (first | apply Kd.V_alloc | apply Kd.V_drewN | apply Kd.V_drew)); exact HO_580003.out⟩, ⟨by (with_reducible repeat (first | apply Kd.V_alloc | apply Kd.V_drewN | apply Kd.V_drew)); exact HO_591002.out⟩, ⟨by (with_reducible repeat (first | apply Kd.V_alloc | apply Kd.V_drewN | apply Kd.V_drew)); exact HO_591003.out⟩, ⟨by (with_reducible repeat (first | refine blk_drewN ?_ _ | refine blk_drew ?_ | refine blk_alloc ?_ _)); exact BK579.out⟩, ⟨by (with_reducible repeat (first | refine blk_drewN ?_ _ | refine blk_drew ?_ | refine blk_alloc ?_ _)); exact BK590.out⟩, ⟨by (with_reducible repeat (first | refine blk_drewN ?_ _ | refine blk_drew ?_ | refine blk_alloc ?_ _)); exact BK596.out⟩, ⟨by repeat (first | (with_reducible first | exact HB.out | apply below_alloc | apply pw_below_drewN | apply below_drew1 | refine below_set ?_ GE579.out | refine below_set ?_ GE590.out | refine below_set ?_ GE596.out) | exact HB.out)⟩⟩
           case rest =>
            clear HC40
            try clear c1
            try clear c2
            try clear p2
            try clear c3
            try clear c4
            try clear c4b0
            try clear c4b1
            try clear q4
            try clear c5
            try clear p5
            try clear q5
            try clear hx5
            try clear hf5
            try clear p6
            try clear c9
            try clear c16
            try clear c18
            try clear c22
            try clear c26
            try clear c26b0
            try clear c30
            try clear c31
            try clear c33
            try clear c33b0
            try clear c34
            try clear c35
            try clear c38
            try clear c38b0
            try clear c41
            try clear c42
            try clear c42b0
            try clear c43
            try clear c43b0
            try clear q44
            try clear c45
            try clear c46
            try clear c47
            try clear p50
            try clear q50
            try clear hx50
            try clear hf50
            try clear c51
            try clear c52
            try clear hcz14_0
            try clear hcz14_1
            try clear hcz14_2
            try clear hcz14_3
            try clear hcz14_4
            try clear hcz18_0
            try clear hcz18_1
            try clear hcz18_2
            try clear hcz18_3
            try clear hcz18_4
            try clear hcz23_0
            try clear hcz23_1
            try clear hcz23_2
            try clear hcz23_3
            try clear hcz23_4
            try clear hcz32_0
            try clear hcz32_1
            try clear hcz36_0
            try clear hcz36_1
            try clear hcz48_0
            try clear hcz48_1
            try clear hcz53_0
            try clear hcz53_1
            try clear hcz55_0
            try clear hcz55_1
            try clear hfz14_0
            try clear hfz14_1
            try clear hfz14_2
            try clear hfz14_3
            try clear hfz14_4
            try clear hfz18_0
            try clear hfz18_1
            try clear hfz18_2
            try clear hfz18_3
            try clear hfz18_4
            try clear hfz23_0
            try clear hfz23_1
            try clear hfz23_2
            try clear hfz23_3
            try clear hfz23_4
            try clear hfz32_0
            try clear hfz32_1
            try clear hfz36_0
            try clear hfz36_1
            try clear hfz48_0
            try clear hfz48_1
            try clear hfz53_0
            try clear hfz53_1
            try clear hfz55_0
            try clear hfz55_1
            try clear hx50_0
            try clear hx598_0
            try clear p2
            try clear p50
            try clear p598
            try clear p6
            try clear q50
            try clear q598
            obtain ⟨kq, x10_39, x597001_39, HA, HJ39, HO_10, HO_580002, HO_580003, HO_591002, HO_591003, BK579, BK590, BK596, HB⟩ := hcut
            cases kq with
            | zero => exact absurd HA.out (by simp [laws_FnCloses.j4])
            | succ kj39 =>
             have H := HA.out
             clear HA
             simp only [laws_FnCloses.j4] at H
             replace H := Option.bind_eq_some_iff.mp H
             obtain ⟨⟨t600, t601, t602, t605, t608, t609, t610⟩, A590, H⟩ := H
             replace H : ((spec_PairStep.f kj39 x591000_2 x591001_2 x591002_2 x591003_2 x591004_2 x597000_27 x597001_39).bind fun bt612 => (if t610 = 0 then (if t609 = bt612.2.2.2.2.2.1 then (if t600 = bt612.1 then (if t601 = bt612.2.1 then ((impl_PairOK.f kj39 t600 t601 t602 t605 t608).bind fun t624 => (if t624 = true then (laws_FnCloses.l0 kj39 l0 l1 x10_39 t594 (wrap64 (x12_2 + 1)) t600 t601 t602 t605 t608) else (some false))) else (some false)) else (some false)) else (some false)) else (some false))) = some r := H
             have A59 := Aside0.mk A590
             clear A590
             replace H := Option.bind_eq_some_iff.mp H
             obtain ⟨⟨t612, t613, t614, t617, t620, t621, t622⟩, A600, H⟩ := H
             replace H : (if t610 = 0 then (if t609 = t621 then (if t600 = t612 then (if t601 = t613 then ((impl_PairOK.f kj39 t600 t601 t602 t605 t608).bind fun t624 => (if t624 = true then (laws_FnCloses.l0 kj39 l0 l1 x10_39 t594 (wrap64 (x12_2 + 1)) t600 t601 t602 t605 t608) else (some false))) else (some false)) else (some false)) else (some false)) else (some false)) = some r := H
             have A60 := Aside0.mk A600
             clear A600
             by_cases c61 : t610 = 0
             ·rw [if_pos c61] at H
              have c61b0 : (t610 == 0) = true := beq_iff_eq.mpr c61
              have c61b1 : (t610 != 0) = false := bne_eq_false_iff_eq.mpr c61
              clear c61
              by_cases c62 : t609 = t621
              ·rw [if_pos c62] at H
               have c62b0 : (t609 == t621) = true := beq_iff_eq.mpr c62
               have c62b1 : (t609 != t621) = false := bne_eq_false_iff_eq.mpr c62
               clear c62
               by_cases c63 : t600 = t612
               ·rw [if_pos c63] at H
                have c63b0 : (t600 == t612) = true := beq_iff_eq.mpr c63
                have c63b1 : (t600 != t612) = false := bne_eq_false_iff_eq.mpr c63
                clear c63
                by_cases c64 : t601 = t613
                ·rw [if_pos c64] at H
                 have c64b0 : (t601 == t613) = true := beq_iff_eq.mpr c64
                 have c64b1 : (t601 != t613) = false := bne_eq_false_iff_eq.mpr c64
                 clear c64
                 replace H := Option.bind_eq_some_iff.mp H
                 obtain ⟨t624, A650, H⟩ := H
                 replace H : (if t624 = true then (laws_FnCloses.l0 kj39 l0 l1 x10_39 t594 (wrap64 (x12_2 + 1)) t600 t601 t602 t605 t608) else (some false)) = some r := H
                 have A65 := Aside0.mk A650
                 clear A650
                 by_cases c66 : t624 = true
                 ·subst c66
                  have H1 : (laws_FnCloses.l0 kj39 l0 l1 x10_39 t594 (wrap64 (x12_2 + 1)) t600 t601 t602 t605 t608) = some r := by rw [if_pos rfl] at H; exact H
                  clear H
                  have H := H1
                  clear H1
                  have H' := Aside0.mk H
                  clear H
                  have hnb67 := NB590_579.out
                  have hnc67 := NB579_590.out
                  have hnb68 := NB590_596.out
                  have hnc68 := NB596_590.out
                  have hcz69_0 : wc.cell? ⟨gb590, 0, none⟩ = some (.int .i64 x591000_2) := (blk_cell BK590.out 0).trans rfl
                  have hcz69_1 : wc.cell? ⟨gb590, 1, none⟩ = some (.int .i64 x591001_2) := (blk_cell BK590.out 1).trans rfl
                  have hcz69_2 : wc.cell? ⟨gb590, 2, none⟩ = some (u591002) := (blk_cell BK590.out 2).trans rfl
                  have hcz69_3 : wc.cell? ⟨gb590, 3, none⟩ = some (u591003) := (blk_cell BK590.out 3).trans rfl
                  have hcz69_4 : wc.cell? ⟨gb590, 4, none⟩ = some (.int .i64 x591004_2) := (blk_cell BK590.out 4).trans rfl
                  have hfz69_0 := blk_frozen BK590.out 0
                  have hfz69_1 := blk_frozen BK590.out 1
                  have hfz69_2 := blk_frozen BK590.out 2
                  have hfz69_3 := blk_frozen BK590.out 3
                  have hfz69_4 := blk_frozen BK590.out 4
                  have hnb70 := NB596_579.out
                  have hnc70 := NB579_596.out
                  have hcz71_0 : wc.cell? ⟨gb596, 0, none⟩ = some (.int .i64 x597000_27) := (blk_cell BK596.out 0).trans rfl
                  have hcz71_1 : wc.cell? ⟨gb596, 1, none⟩ = some (.int .i64 x597001_39) := (blk_cell BK596.out 1).trans rfl
                  have hfz71_0 := blk_frozen BK596.out 0
                  have hfz71_1 := blk_frozen BK596.out 1
                  obtain ⟨Ao72, co72, eo72⟩ := Kd.V_slice HO_591002.out
                  subst eo72
                  obtain ⟨Ao73, co73, eo73⟩ := Kd.V_slice HO_591003.out
                  subst eo73
                  go_wp2_with (first | ((with_reducible refine gate_callee (f := 19) rfl ?_); refine goesL_ (some 91) rfl rfl Try.func19 (by kernel_rfl) rfl #[.agg #[.int .i64 x591000_2, .int .i64 x591001_2, .slice Ao72 x591002_2.length co72, .slice Ao73 x591003_2.length co73, .int .i64 x591004_2], .agg #[.int .i64 x597000_27, .int .i64 x597001_39]] rfl (by (try simp only [List.map_toArray, List.map_cons, List.map_nil]); first | done | rfl | (simp only [List.length_drop, List.length_take]; rfl)) ?_; (with_reducible refine (impl_PairStep.calls kj39 x591000_2 x591001_2 _ _ x591002_2 _ _ x591003_2 x591004_2 x597000_27 x597001_39 t600 t601 t602 t605 t608 t609 t610 _ ?side1 ?side2 ?side3 ?side4 A59.out).mono ?_); (case side1 => repeat (first | exact (Kd.V_reads' HO_591002.out).2.2 | (with_reducible refine Kd.C_alloc ?_ _) | (with_reducible refine Kd.C_drewN ?_ _) | (with_reducible refine Kd.C_drew ?_))); (case side2 => exact (Kd.V_reads' HO_591002.out).2.1); (case side3 => repeat (first | exact (Kd.V_reads' HO_591003.out).2.2 | (with_reducible refine Kd.C_alloc ?_ _) | (with_reducible refine Kd.C_drewN ?_ _) | (with_reducible refine Kd.C_drew ?_))); (case side4 => exact (Kd.V_reads' HO_591003.out).2.1); rintro e w74 ⟨v603, v606, rfl, ho0, ho1, hb⟩; refine ⟨_, rfl, ?_⟩; have n0_ := Aside0.mk (Kd.R_below (by (with_reducible repeat (first | apply Kd.R_alloc | apply Kd.R_drewN | apply Kd.R_drew)); exact HO_10.out) hb); have n1_ := Aside0.mk (Kd.V_mono (Kd.V_told (Kd.V_told (Kd.V_old (by (with_reducible repeat (first | apply Kd.V_alloc | apply Kd.V_drewN | apply Kd.V_drew)); exact HO_580002.out) hb) (Kd.Q_base ho0)) (Kd.Q_base ho1)) (fun _ h_ => h_.1)); have n2_ := Aside0.mk (Kd.V_mono (Kd.V_told (Kd.V_told (Kd.V_old (by (with_reducible repeat (first | apply Kd.V_alloc | apply Kd.V_drewN | apply Kd.V_drew)); exact HO_580003.out) hb) (Kd.Q_base ho0)) (Kd.Q_base ho1)) (fun _ h_ => h_.1)); have n3_ := Aside0.mk (Kd.V_mono (Kd.V_told (Kd.V_told (Kd.V_old (by (with_reducible repeat (first | apply Kd.V_alloc | apply Kd.V_drewN | apply Kd.V_drew)); exact HO_591002.out) hb) (Kd.Q_base ho0)) (Kd.Q_base ho1)) (fun _ h_ => h_.1)); have n4_ := Aside0.mk (Kd.V_mono (Kd.V_told (Kd.V_told (Kd.V_old (by (with_reducible repeat (first | apply Kd.V_alloc | apply Kd.V_drewN | apply Kd.V_drew)); exact HO_591003.out) hb) (Kd.Q_base ho0)) (Kd.Q_base ho1)) (fun _ h_ => h_.1)); have n5_ := Aside0.mk (Kd.Q_lower ho0 (below_size (by repeat (first | (with_reducible first | exact HB.out | apply below_alloc | apply pw_below_drewN | apply below_drew1 | refine below_set ?_ GE579.out | refine below_set ?_ GE590.out | refine below_set ?_ GE596.out) | exact HB.out)))); have n6_ := Aside0.mk (Kd.Q_lower ho1 (below_size (by repeat (first | (with_reducible first | exact HB.out | apply below_alloc | apply pw_below_drewN | apply below_drew1 | refine below_set ?_ GE579.out | refine below_set ?_ GE590.out | refine below_set ?_ GE596.out) | exact HB.out)))); have n7_ := Aside0.mk (blk_below (g := gb579) (o := .cells #[.int .i64 t580, .int .i64 t581, .slice Ao19 t582.length co19, .slice Ao20 t585.length co20, .int .i64 t588] 37 (0, 0)) (by (with_reducible repeat (first | refine blk_drewN ?_ _ | refine blk_drew ?_ | refine blk_alloc ?_ _)); exact BK579.out) hb); have n8_ := Aside0.mk (blk_below (g := gb590) (o := .cells #[.int .i64 x591000_2, .int .i64 x591001_2, .slice Ao72 x591002_2.length co72, .slice Ao73 x591003_2.length co73, .int .i64 x591004_2] 37 (0, 0)) (by (with_reducible repeat (first | refine blk_drewN ?_ _ | refine blk_drew ?_ | refine blk_alloc ?_ _)); exact BK590.out) hb); have n9_ := Aside0.mk (blk_below (g := gb596) (o := .cells #[.int .i64 x597000_27, .int .i64 x597001_39] 34 (0, 0)) (by (with_reducible repeat (first | refine blk_drewN ?_ _ | refine blk_drew ?_ | refine blk_alloc ?_ _)); exact BK596.out) hb); have n10_ := Aside0.mk (below_step (by repeat (first | (with_reducible first | exact HB.out | apply below_alloc | apply pw_below_drewN | apply below_drew1 | refine below_set ?_ GE579.out | refine below_set ?_ GE590.out | refine below_set ?_ GE596.out) | exact HB.out)) hb); clear HO_10; clear HO_580002; clear HO_580003; clear HO_591002; clear HO_591003; clear BK579; clear BK590; clear BK596; clear HB; have HO_10 := n0_; have HO_580002 := n1_; have HO_580003 := n2_; have HO_591002 := n3_; have HO_591003 := n4_; have HO604 := n5_; have HO607 := n6_; have BK579 := n7_; have BK590 := n8_; have BK596 := n9_; have HB := n10_; clear n0_ n1_ n2_ n3_ n4_ n5_ n6_ n7_ n8_ n9_ n10_; (try clear hb); (try clear hb2); (try clear hk); (try clear hi); (try clear ho0); (try clear ho1)) | ((with_reducible refine gate_dst (N := 14) rfl ?_); (try (refine gate_guard (by rfl) ?_; dsimp only)); refine box_event ?hg (N := 14) ?hd (cs := #[.int .i64 0, .int .i64 0, .slice none 0 0, .slice none 0 0, .int .i64 0]) (t := 37) ?hr ?_; (case hd => rfl); (case hg => rfl); (case hr => first | (go_simp; done) | (go_simp; rfl)); intro gb611 hg w75 hbox hb; have n0_ := Aside0.mk (Kd.R_below (by (with_reducible repeat (first | apply Kd.R_alloc | apply Kd.R_drewN | apply Kd.R_drew)); exact HO_10.out) hb); have n1_ := Aside0.mk (Kd.V_below (Kd.V_elderB (by (with_reducible repeat (first | apply Kd.V_alloc | apply Kd.V_drewN | apply Kd.V_drew)); exact HO_580002.out) gb611 (Nat.le_of_eq hg.symm)) hb); have n2_ := Aside0.mk (Kd.V_below (Kd.V_elderB (by (with_reducible repeat (first | apply Kd.V_alloc | apply Kd.V_drewN | apply Kd.V_drew)); exact HO_580003.out) gb611 (Nat.le_of_eq hg.symm)) hb); have n3_ := Aside0.mk (Kd.V_below (Kd.V_elderB (by (with_reducible repeat (first | apply Kd.V_alloc | apply Kd.V_drewN | apply Kd.V_drew)); exact HO_591002.out) gb611 (Nat.le_of_eq hg.symm)) hb); have n4_ := Aside0.mk (Kd.V_below (Kd.V_elderB (by (with_reducible repeat (first | apply Kd.V_alloc | apply Kd.V_drewN | apply Kd.V_drew)); exact HO_591003.out) gb611 (Nat.le_of_eq hg.symm)) hb); have n5_ := Aside0.mk (Kd.Q_below (by (with_reducible repeat (first | apply Kd.Q_alloc | apply Kd.Q_drewN | apply Kd.Q_drew)); exact HO604.out) hb); have n6_ := Aside0.mk (Kd.Q_below (by (with_reducible repeat (first | apply Kd.Q_alloc | apply Kd.Q_drewN | apply Kd.Q_drew)); exact HO607.out) hb); have n7_ := Aside0.mk (blk_below (g := gb579) (o := .cells #[.int .i64 t580, .int .i64 t581, .slice Ao19 t582.length co19, .slice Ao20 t585.length co20, .int .i64 t588] 37 (0, 0)) (by (with_reducible repeat (first | refine blk_drewN ?_ _ | refine blk_drew ?_ | refine blk_alloc ?_ _)); exact BK579.out) hb); have n8_ := Aside0.mk (blk_below (g := gb590) (o := .cells #[.int .i64 x591000_2, .int .i64 x591001_2, .slice Ao72 x591002_2.length co72, .slice Ao73 x591003_2.length co73, .int .i64 x591004_2] 37 (0, 0)) (by (with_reducible repeat (first | refine blk_drewN ?_ _ | refine blk_drew ?_ | refine blk_alloc ?_ _)); exact BK590.out) hb); have n9_ := Aside0.mk (blk_below (g := gb596) (o := .cells #[.int .i64 x597000_27, .int .i64 x597001_39] 34 (0, 0)) (by (with_reducible repeat (first | refine blk_drewN ?_ _ | refine blk_drew ?_ | refine blk_alloc ?_ _)); exact BK596.out) hb); have n10_ := Aside0.mk (below_step (by repeat (first | (with_reducible first | exact HB.out | apply below_alloc | apply pw_below_drewN | apply below_drew1 | refine below_set ?_ GE579.out | refine below_set ?_ GE590.out | refine below_set ?_ GE596.out) | exact HB.out)) hb); have n11_ := Aside0.mk (hbox); have n12_ := Aside0.mk ((by rw [hg]; exact (below_size (by repeat (first | (with_reducible first | exact HB.out | apply below_alloc | apply pw_below_drewN | apply below_drew1 | refine below_set ?_ GE579.out | refine below_set ?_ GE590.out | refine below_set ?_ GE596.out) | exact HB.out))) : w.heap.size ≤ gb611)); have n13_ := Aside0.mk ((by rw [hg]; exact (below_size (by repeat (first | (with_reducible first | exact HB.out | apply below_alloc | apply pw_below_drewN | apply below_drew1 | refine below_set ?_ GE579.out | refine below_set ?_ GE590.out | refine below_set ?_ GE596.out) | exact HB.out))) : w.heap.size ≤ gb611)); have n14_ := Aside0.mk ((by rw [hg]; exact Nat.ne_of_lt (blk_lt (g := gb579) (o := .cells #[.int .i64 t580, .int .i64 t581, .slice Ao19 t582.length co19, .slice Ao20 t585.length co20, .int .i64 t588] 37 (0, 0)) (by (with_reducible repeat (first | refine blk_drewN ?_ _ | refine blk_drew ?_ | refine blk_alloc ?_ _)); exact BK579.out)) : gb579 ≠ gb611)); have n15_ := Aside0.mk ((by rw [hg]; exact Nat.ne_of_gt (blk_lt (g := gb579) (o := .cells #[.int .i64 t580, .int .i64 t581, .slice Ao19 t582.length co19, .slice Ao20 t585.length co20, .int .i64 t588] 37 (0, 0)) (by (with_reducible repeat (first | refine blk_drewN ?_ _ | refine blk_drew ?_ | refine blk_alloc ?_ _)); exact BK579.out)) : gb611 ≠ gb579)); have n16_ := Aside0.mk ((by rw [hg]; exact Nat.ne_of_lt (blk_lt (g := gb590) (o := .cells #[.int .i64 x591000_2, .int .i64 x591001_2, .slice Ao72 x591002_2.length co72, .slice Ao73 x591003_2.length co73, .int .i64 x591004_2] 37 (0, 0)) (by (with_reducible repeat (first | refine blk_drewN ?_ _ | refine blk_drew ?_ | refine blk_alloc ?_ _)); exact BK590.out)) : gb590 ≠ gb611)); have n17_ := Aside0.mk ((by rw [hg]; exact Nat.ne_of_gt (blk_lt (g := gb590) (o := .cells #[.int .i64 x591000_2, .int .i64 x591001_2, .slice Ao72 x591002_2.length co72, .slice Ao73 x591003_2.length co73, .int .i64 x591004_2] 37 (0, 0)) (by (with_reducible repeat (first | refine blk_drewN ?_ _ | refine blk_drew ?_ | refine blk_alloc ?_ _)); exact BK590.out)) : gb611 ≠ gb590)); have n18_ := Aside0.mk ((by rw [hg]; exact Nat.ne_of_lt (blk_lt (g := gb596) (o := .cells #[.int .i64 x597000_27, .int .i64 x597001_39] 34 (0, 0)) (by (with_reducible repeat (first | refine blk_drewN ?_ _ | refine blk_drew ?_ | refine blk_alloc ?_ _)); exact BK596.out)) : gb596 ≠ gb611)); have n19_ := Aside0.mk ((by rw [hg]; exact Nat.ne_of_gt (blk_lt (g := gb596) (o := .cells #[.int .i64 x597000_27, .int .i64 x597001_39] 34 (0, 0)) (by (with_reducible repeat (first | refine blk_drewN ?_ _ | refine blk_drew ?_ | refine blk_alloc ?_ _)); exact BK596.out)) : gb611 ≠ gb596)); clear HO_10; clear HO_580002; clear HO_580003; clear HO_591002; clear HO_591003; clear HO604; clear HO607; clear BK579; clear BK590; clear BK596; clear HB; have HO_10 := n0_; have HO_580002 := n1_; have HO_580003 := n2_; have HO_591002 := n3_; have HO_591003 := n4_; have HO604 := n5_; have HO607 := n6_; have BK579 := n7_; have BK590 := n8_; have BK596 := n9_; have HB := n10_; have BK611 := n11_; have GW611 := n12_; have GE611 := n13_; have NB579_611 := n14_; have NB611_579 := n15_; have NB590_611 := n16_; have NB611_590 := n17_; have NB596_611 := n18_; have NB611_596 := n19_; clear n0_ n1_ n2_ n3_ n4_ n5_ n6_ n7_ n8_ n9_ n10_ n11_ n12_ n13_ n14_ n15_ n16_ n17_ n18_ n19_; clear hb hbox hg; have hnb76 := NB611_579.out; have hnc76 := NB579_611.out; have hnb77 := NB611_590.out; have hnc77 := NB590_611.out; have hnb78 := NB611_596.out; have hnc78 := NB596_611.out; have hcz79_0 : w75.cell? ⟨gb611, 0, none⟩ = some (.int .i64 0) := (blk_cell BK611.out 0).trans rfl; have hcz79_1 : w75.cell? ⟨gb611, 1, none⟩ = some (.int .i64 0) := (blk_cell BK611.out 1).trans rfl; have hcz79_2 : w75.cell? ⟨gb611, 2, none⟩ = some (.slice none 0 0) := (blk_cell BK611.out 2).trans rfl; have hcz79_3 : w75.cell? ⟨gb611, 3, none⟩ = some (.slice none 0 0) := (blk_cell BK611.out 3).trans rfl; have hcz79_4 : w75.cell? ⟨gb611, 4, none⟩ = some (.int .i64 0) := (blk_cell BK611.out 4).trans rfl; have hfz79_0 := blk_frozen BK611.out 0; have hfz79_1 := blk_frozen BK611.out 1; have hfz79_2 := blk_frozen BK611.out 2; have hfz79_3 := blk_frozen BK611.out 3; have hfz79_4 := blk_frozen BK611.out 4; obtain ⟨Ao80, co80, eo80, _⟩ := Kd.Q_slice HO604.out; subst eo80; obtain ⟨Ao81, co81, eo81, _⟩ := Kd.Q_slice HO607.out; subst eo81; have hcz82_0 : w75.cell? ⟨gb590, 0, none⟩ = some (.int .i64 x591000_2) := (blk_cell BK590.out 0).trans rfl; have hcz82_1 : w75.cell? ⟨gb590, 1, none⟩ = some (.int .i64 x591001_2) := (blk_cell BK590.out 1).trans rfl; have hcz82_2 : w75.cell? ⟨gb590, 2, none⟩ = some (.slice Ao72 x591002_2.length co72) := (blk_cell BK590.out 2).trans rfl; have hcz82_3 : w75.cell? ⟨gb590, 3, none⟩ = some (.slice Ao73 x591003_2.length co73) := (blk_cell BK590.out 3).trans rfl; have hcz82_4 : w75.cell? ⟨gb590, 4, none⟩ = some (.int .i64 x591004_2) := (blk_cell BK590.out 4).trans rfl; have hfz82_0 := blk_frozen BK590.out 0; have hfz82_1 := blk_frozen BK590.out 1; have hfz82_2 := blk_frozen BK590.out 2; have hfz82_3 := blk_frozen BK590.out 3; have hfz82_4 := blk_frozen BK590.out 4; have hcz83_0 : w75.cell? ⟨gb596, 0, none⟩ = some (.int .i64 x597000_27) := (blk_cell BK596.out 0).trans rfl; have hcz83_1 : w75.cell? ⟨gb596, 1, none⟩ = some (.int .i64 x597001_39) := (blk_cell BK596.out 1).trans rfl; have hfz83_0 := blk_frozen BK596.out 0; have hfz83_1 := blk_frozen BK596.out 1) | ((with_reducible refine gate_callee (f := 20) rfl ?_); refine goesL_ (some 98) rfl rfl Try.func20 (by kernel_rfl) rfl #[.agg #[.int .i64 x591000_2, .int .i64 x591001_2, .slice Ao72 x591002_2.length co72, .slice Ao73 x591003_2.length co73, .int .i64 x591004_2], .agg #[.int .i64 x597000_27, .int .i64 x597001_39]] rfl (by (try simp only [List.map_toArray, List.map_cons, List.map_nil]); first | done | rfl | (simp only [List.length_drop, List.length_take]; rfl)) ?_; (with_reducible refine (spec_PairStep.calls kj39 x591000_2 x591001_2 _ _ x591002_2 _ _ x591003_2 x591004_2 x597000_27 x597001_39 t612 t613 t614 t617 t620 t621 t622 _ ?side1 ?side2 ?side3 ?side4 A60.out).mono ?_); (case side1 => refine (Kd.V_reads' (e := 3) (base := w.heap.size) (ok := fun k_ => ((((some k_ ≠ (v592 : Value).ownBlock ∧ (k_ ≠ gb579 ∧ (k_ ≠ gb590 ∧ k_ ≠ gb596))) ∧ some k_ ≠ (.slice Ao80 t602.length co80 : Value).ownBlock) ∧ some k_ ≠ (.slice Ao81 t605.length co81 : Value).ownBlock) ∧ k_ ≠ gb611)) (n := x591002_2.length) (c := co72) ?_).2.2; exact (by (with_reducible repeat (first | apply Kd.V_alloc | apply Kd.V_drewN | apply Kd.V_drew)); exact (Kd.V_mono (Kd.V_far (p := ⟨gb611, 4, none⟩) (Kd.V_far (p := ⟨gb611, 3, none⟩) (Kd.V_far (p := ⟨gb611, 2, none⟩) (Kd.V_far (p := ⟨gb611, 1, none⟩) (Kd.V_far (p := ⟨gb611, 0, none⟩) (Kd.V_mono HO_591002.out (fun k_ hk => (⟨hk, hk.2⟩ : _ ∧ k_ ≠ gb611))) (fun _ hk => hk.2) (.int .i64 t600)) (fun _ hk => hk.2) (.int .i64 t601)) (fun _ hk => hk.2) (.slice Ao80 t602.length co80)) (fun _ hk => hk.2) (.slice Ao81 t605.length co81)) (fun _ hk => hk.2) (.int .i64 t608)) (fun _ h_ => h_.1)))); (case side2 => exact (Kd.V_reads' HO_591002.out).2.1); (case side3 => refine (Kd.V_reads' (e := 3) (base := w.heap.size) (ok := fun k_ => ((((some k_ ≠ (v592 : Value).ownBlock ∧ (k_ ≠ gb579 ∧ (k_ ≠ gb590 ∧ k_ ≠ gb596))) ∧ some k_ ≠ (.slice Ao80 t602.length co80 : Value).ownBlock) ∧ some k_ ≠ (.slice Ao81 t605.length co81 : Value).ownBlock) ∧ k_ ≠ gb611)) (n := x591003_2.length) (c := co73) ?_).2.2; exact (by (with_reducible repeat (first | apply Kd.V_alloc | apply Kd.V_drewN | apply Kd.V_drew)); exact (Kd.V_mono (Kd.V_far (p := ⟨gb611, 4, none⟩) (Kd.V_far (p := ⟨gb611, 3, none⟩) (Kd.V_far (p := ⟨gb611, 2, none⟩) (Kd.V_far (p := ⟨gb611, 1, none⟩) (Kd.V_far (p := ⟨gb611, 0, none⟩) (Kd.V_mono HO_591003.out (fun k_ hk => (⟨hk, hk.2⟩ : _ ∧ k_ ≠ gb611))) (fun _ hk => hk.2) (.int .i64 t600)) (fun _ hk => hk.2) (.int .i64 t601)) (fun _ hk => hk.2) (.slice Ao80 t602.length co80)) (fun _ hk => hk.2) (.slice Ao81 t605.length co81)) (fun _ hk => hk.2) (.int .i64 t608)) (fun _ h_ => h_.1)))); (case side4 => exact (Kd.V_reads' HO_591003.out).2.1); rintro e w84 ⟨v615, v618, rfl, ho0, ho1, hb⟩; refine ⟨_, rfl, ?_⟩; have n0_ := Aside0.mk (Kd.R_below (by (with_reducible repeat (first | apply Kd.R_alloc | apply Kd.R_drewN | apply Kd.R_drew)); exact (Kd.R_mono (Kd.R_far (p := ⟨gb611, 4, none⟩) (Kd.R_far (p := ⟨gb611, 3, none⟩) (Kd.R_far (p := ⟨gb611, 2, none⟩) (Kd.R_far (p := ⟨gb611, 1, none⟩) (Kd.R_far (p := ⟨gb611, 0, none⟩) (Kd.R_types HO_10.out BK611.out (by decide)) (fun _ hk => hk.2) (.int .i64 t600)) (fun _ hk => hk.2) (.int .i64 t601)) (fun _ hk => hk.2) (.slice Ao80 t602.length co80)) (fun _ hk => hk.2) (.slice Ao81 t605.length co81)) (fun _ hk => hk.2) (.int .i64 t608)) (fun _ h_ => h_.1))) hb); have n1_ := Aside0.mk (Kd.V_mono (Kd.V_told (Kd.V_told (Kd.V_old (by (with_reducible repeat (first | apply Kd.V_alloc | apply Kd.V_drewN | apply Kd.V_drew)); exact (Kd.V_mono (Kd.V_far (p := ⟨gb611, 4, none⟩) (Kd.V_far (p := ⟨gb611, 3, none⟩) (Kd.V_far (p := ⟨gb611, 2, none⟩) (Kd.V_far (p := ⟨gb611, 1, none⟩) (Kd.V_far (p := ⟨gb611, 0, none⟩) (Kd.V_mono HO_580002.out (fun k_ hk => (⟨hk, hk.2⟩ : _ ∧ k_ ≠ gb611))) (fun _ hk => hk.2) (.int .i64 t600)) (fun _ hk => hk.2) (.int .i64 t601)) (fun _ hk => hk.2) (.slice Ao80 t602.length co80)) (fun _ hk => hk.2) (.slice Ao81 t605.length co81)) (fun _ hk => hk.2) (.int .i64 t608)) (fun _ h_ => h_.1))) hb) (Kd.R_base ho0)) (Kd.R_base ho1)) (fun _ h_ => h_.1)); have n2_ := Aside0.mk (Kd.V_mono (Kd.V_told (Kd.V_told (Kd.V_old (by (with_reducible repeat (first | apply Kd.V_alloc | apply Kd.V_drewN | apply Kd.V_drew)); exact (Kd.V_mono (Kd.V_far (p := ⟨gb611, 4, none⟩) (Kd.V_far (p := ⟨gb611, 3, none⟩) (Kd.V_far (p := ⟨gb611, 2, none⟩) (Kd.V_far (p := ⟨gb611, 1, none⟩) (Kd.V_far (p := ⟨gb611, 0, none⟩) (Kd.V_mono HO_580003.out (fun k_ hk => (⟨hk, hk.2⟩ : _ ∧ k_ ≠ gb611))) (fun _ hk => hk.2) (.int .i64 t600)) (fun _ hk => hk.2) (.int .i64 t601)) (fun _ hk => hk.2) (.slice Ao80 t602.length co80)) (fun _ hk => hk.2) (.slice Ao81 t605.length co81)) (fun _ hk => hk.2) (.int .i64 t608)) (fun _ h_ => h_.1))) hb) (Kd.R_base ho0)) (Kd.R_base ho1)) (fun _ h_ => h_.1)); have n3_ := Aside0.mk (Kd.V_mono (Kd.V_told (Kd.V_told (Kd.V_old (by (with_reducible repeat (first | apply Kd.V_alloc | apply Kd.V_drewN | apply Kd.V_drew)); exact (Kd.V_mono (Kd.V_far (p := ⟨gb611, 4, none⟩) (Kd.V_far (p := ⟨gb611, 3, none⟩) (Kd.V_far (p := ⟨gb611, 2, none⟩) (Kd.V_far (p := ⟨gb611, 1, none⟩) (Kd.V_far (p := ⟨gb611, 0, none⟩) (Kd.V_mono HO_591002.out (fun k_ hk => (⟨hk, hk.2⟩ : _ ∧ k_ ≠ gb611))) (fun _ hk => hk.2) (.int .i64 t600)) (fun _ hk => hk.2) (.int .i64 t601)) (fun _ hk => hk.2) (.slice Ao80 t602.length co80)) (fun _ hk => hk.2) (.slice Ao81 t605.length co81)) (fun _ hk => hk.2) (.int .i64 t608)) (fun _ h_ => h_.1))) hb) (Kd.R_base ho0)) (Kd.R_base ho1)) (fun _ h_ => h_.1)); have n4_ := Aside0.mk (Kd.V_mono (Kd.V_told (Kd.V_told (Kd.V_old (by (with_reducible repeat (first | apply Kd.V_alloc | apply Kd.V_drewN | apply Kd.V_drew)); exact (Kd.V_mono (Kd.V_far (p := ⟨gb611, 4, none⟩) (Kd.V_far (p := ⟨gb611, 3, none⟩) (Kd.V_far (p := ⟨gb611, 2, none⟩) (Kd.V_far (p := ⟨gb611, 1, none⟩) (Kd.V_far (p := ⟨gb611, 0, none⟩) (Kd.V_mono HO_591003.out (fun k_ hk => (⟨hk, hk.2⟩ : _ ∧ k_ ≠ gb611))) (fun _ hk => hk.2) (.int .i64 t600)) (fun _ hk => hk.2) (.int .i64 t601)) (fun _ hk => hk.2) (.slice Ao80 t602.length co80)) (fun _ hk => hk.2) (.slice Ao81 t605.length co81)) (fun _ hk => hk.2) (.int .i64 t608)) (fun _ h_ => h_.1))) hb) (Kd.R_base ho0)) (Kd.R_base ho1)) (fun _ h_ => h_.1)); have n5_ := Aside0.mk (Kd.Q_mono (Kd.Q_told (Kd.Q_told (Kd.Q_old (by (with_reducible repeat (first | apply Kd.Q_alloc | apply Kd.Q_drewN | apply Kd.Q_drew)); exact (Kd.Q_mono (Kd.Q_far (p := ⟨gb611, 4, none⟩) (Kd.Q_far (p := ⟨gb611, 3, none⟩) (Kd.Q_far (p := ⟨gb611, 2, none⟩) (Kd.Q_far (p := ⟨gb611, 1, none⟩) (Kd.Q_far (p := ⟨gb611, 0, none⟩) (Kd.Q_types HO604.out BK611.out (by decide)) (fun _ hk => hk.2) (.int .i64 t600)) (fun _ hk => hk.2) (.int .i64 t601)) (fun _ hk => hk.2) (.slice Ao80 t602.length co80)) (fun _ hk => hk.2) (.slice Ao81 t605.length co81)) (fun _ hk => hk.2) (.int .i64 t608)) (fun _ h_ => h_.1))) hb) (Kd.R_base ho0)) (Kd.R_base ho1)) (fun _ h_ => h_.1)); have n6_ := Aside0.mk (Kd.Q_mono (Kd.Q_told (Kd.Q_told (Kd.Q_old (by (with_reducible repeat (first | apply Kd.Q_alloc | apply Kd.Q_drewN | apply Kd.Q_drew)); exact (Kd.Q_mono (Kd.Q_far (p := ⟨gb611, 4, none⟩) (Kd.Q_far (p := ⟨gb611, 3, none⟩) (Kd.Q_far (p := ⟨gb611, 2, none⟩) (Kd.Q_far (p := ⟨gb611, 1, none⟩) (Kd.Q_far (p := ⟨gb611, 0, none⟩) (Kd.Q_types HO607.out BK611.out (by decide)) (fun _ hk => hk.2) (.int .i64 t600)) (fun _ hk => hk.2) (.int .i64 t601)) (fun _ hk => hk.2) (.slice Ao80 t602.length co80)) (fun _ hk => hk.2) (.slice Ao81 t605.length co81)) (fun _ hk => hk.2) (.int .i64 t608)) (fun _ h_ => h_.1))) hb) (Kd.R_base ho0)) (Kd.R_base ho1)) (fun _ h_ => h_.1)); have n7_ := Aside0.mk (Kd.R_lower (Kd.R_new' (Kd.R_new' ho0 (Kd.Q_lt (by (with_reducible repeat (first | apply Kd.Q_alloc | apply Kd.Q_drewN | apply Kd.Q_drew)); exact (Kd.Q_mono (Kd.Q_far (p := ⟨gb611, 4, none⟩) (Kd.Q_far (p := ⟨gb611, 3, none⟩) (Kd.Q_far (p := ⟨gb611, 2, none⟩) (Kd.Q_far (p := ⟨gb611, 1, none⟩) (Kd.Q_far (p := ⟨gb611, 0, none⟩) (Kd.Q_types HO604.out BK611.out (by decide)) (fun _ hk => hk.2) (.int .i64 t600)) (fun _ hk => hk.2) (.int .i64 t601)) (fun _ hk => hk.2) (.slice Ao80 t602.length co80)) (fun _ hk => hk.2) (.slice Ao81 t605.length co81)) (fun _ hk => hk.2) (.int .i64 t608)) (fun _ h_ => h_.1))))) (Kd.Q_lt (by (with_reducible repeat (first | apply Kd.Q_alloc | apply Kd.Q_drewN | apply Kd.Q_drew)); exact (Kd.Q_mono (Kd.Q_far (p := ⟨gb611, 4, none⟩) (Kd.Q_far (p := ⟨gb611, 3, none⟩) (Kd.Q_far (p := ⟨gb611, 2, none⟩) (Kd.Q_far (p := ⟨gb611, 1, none⟩) (Kd.Q_far (p := ⟨gb611, 0, none⟩) (Kd.Q_types HO607.out BK611.out (by decide)) (fun _ hk => hk.2) (.int .i64 t600)) (fun _ hk => hk.2) (.int .i64 t601)) (fun _ hk => hk.2) (.slice Ao80 t602.length co80)) (fun _ hk => hk.2) (.slice Ao81 t605.length co81)) (fun _ hk => hk.2) (.int .i64 t608)) (fun _ h_ => h_.1))))) (below_size (by repeat (first | (with_reducible first | exact HB.out | apply below_alloc | apply pw_below_drewN | apply below_drew1 | refine below_set ?_ GE579.out | refine below_set ?_ GE590.out | refine below_set ?_ GE596.out | refine below_set ?_ GE611.out) | exact HB.out)))); have n8_ := Aside0.mk (Kd.R_lower (Kd.R_new' (Kd.R_new' ho1 (Kd.Q_lt (by (with_reducible repeat (first | apply Kd.Q_alloc | apply Kd.Q_drewN | apply Kd.Q_drew)); exact (Kd.Q_mono (Kd.Q_far (p := ⟨gb611, 4, none⟩) (Kd.Q_far (p := ⟨gb611, 3, none⟩) (Kd.Q_far (p := ⟨gb611, 2, none⟩) (Kd.Q_far (p := ⟨gb611, 1, none⟩) (Kd.Q_far (p := ⟨gb611, 0, none⟩) (Kd.Q_types HO604.out BK611.out (by decide)) (fun _ hk => hk.2) (.int .i64 t600)) (fun _ hk => hk.2) (.int .i64 t601)) (fun _ hk => hk.2) (.slice Ao80 t602.length co80)) (fun _ hk => hk.2) (.slice Ao81 t605.length co81)) (fun _ hk => hk.2) (.int .i64 t608)) (fun _ h_ => h_.1))))) (Kd.Q_lt (by (with_reducible repeat (first | apply Kd.Q_alloc | apply Kd.Q_drewN | apply Kd.Q_drew)); exact (Kd.Q_mono (Kd.Q_far (p := ⟨gb611, 4, none⟩) (Kd.Q_far (p := ⟨gb611, 3, none⟩) (Kd.Q_far (p := ⟨gb611, 2, none⟩) (Kd.Q_far (p := ⟨gb611, 1, none⟩) (Kd.Q_far (p := ⟨gb611, 0, none⟩) (Kd.Q_types HO607.out BK611.out (by decide)) (fun _ hk => hk.2) (.int .i64 t600)) (fun _ hk => hk.2) (.int .i64 t601)) (fun _ hk => hk.2) (.slice Ao80 t602.length co80)) (fun _ hk => hk.2) (.slice Ao81 t605.length co81)) (fun _ hk => hk.2) (.int .i64 t608)) (fun _ h_ => h_.1))))) (below_size (by repeat (first | (with_reducible first | exact HB.out | apply below_alloc | apply pw_below_drewN | apply below_drew1 | refine below_set ?_ GE579.out | refine below_set ?_ GE590.out | refine below_set ?_ GE596.out | refine below_set ?_ GE611.out) | exact HB.out)))); have n9_ := Aside0.mk (blk_below (g := gb579) (o := .cells #[.int .i64 t580, .int .i64 t581, .slice Ao19 t582.length co19, .slice Ao20 t585.length co20, .int .i64 t588] 37 (0, 0)) (by (with_reducible repeat (first | refine blk_drewN ?_ _ | refine blk_drew ?_ | refine blk_alloc ?_ _)); refine blk_far ?_ NB579_611.out _; (with_reducible repeat (first | refine blk_drewN ?_ _ | refine blk_drew ?_ | refine blk_alloc ?_ _)); refine blk_far ?_ NB579_611.out _; (with_reducible repeat (first | refine blk_drewN ?_ _ | refine blk_drew ?_ | refine blk_alloc ?_ _)); refine blk_far ?_ NB579_611.out _; (with_reducible repeat (first | refine blk_drewN ?_ _ | refine blk_drew ?_ | refine blk_alloc ?_ _)); refine blk_far ?_ NB579_611.out _; (with_reducible repeat (first | refine blk_drewN ?_ _ | refine blk_drew ?_ | refine blk_alloc ?_ _)); refine blk_far ?_ NB579_611.out _; (with_reducible repeat (first | refine blk_drewN ?_ _ | refine blk_drew ?_ | refine blk_alloc ?_ _)); exact BK579.out) hb); have n10_ := Aside0.mk (blk_below (g := gb590) (o := .cells #[.int .i64 x591000_2, .int .i64 x591001_2, .slice Ao72 x591002_2.length co72, .slice Ao73 x591003_2.length co73, .int .i64 x591004_2] 37 (0, 0)) (by (with_reducible repeat (first | refine blk_drewN ?_ _ | refine blk_drew ?_ | refine blk_alloc ?_ _)); refine blk_far ?_ NB590_611.out _; (with_reducible repeat (first | refine blk_drewN ?_ _ | refine blk_drew ?_ | refine blk_alloc ?_ _)); refine blk_far ?_ NB590_611.out _; (with_reducible repeat (first | refine blk_drewN ?_ _ | refine blk_drew ?_ | refine blk_alloc ?_ _)); refine blk_far ?_ NB590_611.out _; (with_reducible repeat (first | refine blk_drewN ?_ _ | refine blk_drew ?_ | refine blk_alloc ?_ _)); refine blk_far ?_ NB590_611.out _; (with_reducible repeat (first | refine blk_drewN ?_ _ | refine blk_drew ?_ | refine blk_alloc ?_ _)); refine blk_far ?_ NB590_611.out _; (with_reducible repeat (first | refine blk_drewN ?_ _ | refine blk_drew ?_ | refine blk_alloc ?_ _)); exact BK590.out) hb); have n11_ := Aside0.mk (blk_below (g := gb596) (o := .cells #[.int .i64 x597000_27, .int .i64 x597001_39] 34 (0, 0)) (by (with_reducible repeat (first | refine blk_drewN ?_ _ | refine blk_drew ?_ | refine blk_alloc ?_ _)); refine blk_far ?_ NB596_611.out _; (with_reducible repeat (first | refine blk_drewN ?_ _ | refine blk_drew ?_ | refine blk_alloc ?_ _)); refine blk_far ?_ NB596_611.out _; (with_reducible repeat (first | refine blk_drewN ?_ _ | refine blk_drew ?_ | refine blk_alloc ?_ _)); refine blk_far ?_ NB596_611.out _; (with_reducible repeat (first | refine blk_drewN ?_ _ | refine blk_drew ?_ | refine blk_alloc ?_ _)); refine blk_far ?_ NB596_611.out _; (with_reducible repeat (first | refine blk_drewN ?_ _ | refine blk_drew ?_ | refine blk_alloc ?_ _)); refine blk_far ?_ NB596_611.out _; (with_reducible repeat (first | refine blk_drewN ?_ _ | refine blk_drew ?_ | refine blk_alloc ?_ _)); exact BK596.out) hb); have n12_ := Aside0.mk (blk_below (g := gb611) (o := .cells #[.int .i64 t600, .int .i64 t601, .slice Ao80 t602.length co80, .slice Ao81 t605.length co81, .int .i64 t608] 37 (0, 0)) (by (with_reducible repeat (first | refine blk_drewN ?_ _ | refine blk_drew ?_ | refine blk_alloc ?_ _)); refine blk_put (cs := #[.int .i64 t600, .int .i64 t601, .slice Ao80 t602.length co80, .slice Ao81 t605.length co81, .int .i64 0]) ?_ 4 _ rfl; (with_reducible repeat (first | refine blk_drewN ?_ _ | refine blk_drew ?_ | refine blk_alloc ?_ _)); refine blk_put (cs := #[.int .i64 t600, .int .i64 t601, .slice Ao80 t602.length co80, .slice none 0 0, .int .i64 0]) ?_ 3 _ rfl; (with_reducible repeat (first | refine blk_drewN ?_ _ | refine blk_drew ?_ | refine blk_alloc ?_ _)); refine blk_put (cs := #[.int .i64 t600, .int .i64 t601, .slice none 0 0, .slice none 0 0, .int .i64 0]) ?_ 2 _ rfl; (with_reducible repeat (first | refine blk_drewN ?_ _ | refine blk_drew ?_ | refine blk_alloc ?_ _)); refine blk_put (cs := #[.int .i64 t600, .int .i64 0, .slice none 0 0, .slice none 0 0, .int .i64 0]) ?_ 1 _ rfl; (with_reducible repeat (first | refine blk_drewN ?_ _ | refine blk_drew ?_ | refine blk_alloc ?_ _)); refine blk_put (cs := #[.int .i64 0, .int .i64 0, .slice none 0 0, .slice none 0 0, .int .i64 0]) ?_ 0 _ rfl; (with_reducible repeat (first | refine blk_drewN ?_ _ | refine blk_drew ?_ | refine blk_alloc ?_ _)); exact BK611.out) hb); have n13_ := Aside0.mk (below_step (by repeat (first | (with_reducible first | exact HB.out | apply below_alloc | apply pw_below_drewN | apply below_drew1 | refine below_set ?_ GE579.out | refine below_set ?_ GE590.out | refine below_set ?_ GE596.out | refine below_set ?_ GE611.out) | exact HB.out)) hb); clear HO_10; clear HO_580002; clear HO_580003; clear HO_591002; clear HO_591003; clear HO604; clear HO607; clear BK579; clear BK590; clear BK596; clear BK611; clear HB; have HO_10 := n0_; have HO_580002 := n1_; have HO_580003 := n2_; have HO_591002 := n3_; have HO_591003 := n4_; have HO604 := n5_; have HO607 := n6_; have HO616 := n7_; have HO619 := n8_; have BK579 := n9_; have BK590 := n10_; have BK596 := n11_; have BK611 := n12_; have HB := n13_; clear n0_ n1_ n2_ n3_ n4_ n5_ n6_ n7_ n8_ n9_ n10_ n11_ n12_ n13_; (try clear hb); (try clear hb2); (try clear hk); (try clear hi); (try clear ho0); (try clear ho1)) | ((with_reducible refine gate_dst (N := 17) rfl ?_); (try (refine gate_guard (by rfl) ?_; dsimp only)); refine box_event ?hg (N := 17) ?hd (cs := #[.int .i64 0, .int .i64 0, .slice none 0 0, .slice none 0 0, .int .i64 0]) (t := 37) ?hr ?_; (case hd => rfl); (case hg => rfl); (case hr => first | (go_simp; done) | (go_simp; rfl)); intro gb623 hg w85 hbox hb; have n0_ := Aside0.mk (Kd.R_below (by (with_reducible repeat (first | apply Kd.R_alloc | apply Kd.R_drewN | apply Kd.R_drew)); exact HO_10.out) hb); have n1_ := Aside0.mk (Kd.V_below (Kd.V_elderB (by (with_reducible repeat (first | apply Kd.V_alloc | apply Kd.V_drewN | apply Kd.V_drew)); exact HO_580002.out) gb623 (Nat.le_of_eq hg.symm)) hb); have n2_ := Aside0.mk (Kd.V_below (Kd.V_elderB (by (with_reducible repeat (first | apply Kd.V_alloc | apply Kd.V_drewN | apply Kd.V_drew)); exact HO_580003.out) gb623 (Nat.le_of_eq hg.symm)) hb); have n3_ := Aside0.mk (Kd.V_below (Kd.V_elderB (by (with_reducible repeat (first | apply Kd.V_alloc | apply Kd.V_drewN | apply Kd.V_drew)); exact HO_591002.out) gb623 (Nat.le_of_eq hg.symm)) hb); have n4_ := Aside0.mk (Kd.V_below (Kd.V_elderB (by (with_reducible repeat (first | apply Kd.V_alloc | apply Kd.V_drewN | apply Kd.V_drew)); exact HO_591003.out) gb623 (Nat.le_of_eq hg.symm)) hb); have n5_ := Aside0.mk (Kd.Q_below (by (with_reducible repeat (first | apply Kd.Q_alloc | apply Kd.Q_drewN | apply Kd.Q_drew)); exact HO604.out) hb); have n6_ := Aside0.mk (Kd.Q_below (by (with_reducible repeat (first | apply Kd.Q_alloc | apply Kd.Q_drewN | apply Kd.Q_drew)); exact HO607.out) hb); have n7_ := Aside0.mk (Kd.R_below (by (with_reducible repeat (first | apply Kd.R_alloc | apply Kd.R_drewN | apply Kd.R_drew)); exact HO616.out) hb); have n8_ := Aside0.mk (Kd.R_below (by (with_reducible repeat (first | apply Kd.R_alloc | apply Kd.R_drewN | apply Kd.R_drew)); exact HO619.out) hb); have n9_ := Aside0.mk (blk_below (g := gb579) (o := .cells #[.int .i64 t580, .int .i64 t581, .slice Ao19 t582.length co19, .slice Ao20 t585.length co20, .int .i64 t588] 37 (0, 0)) (by (with_reducible repeat (first | refine blk_drewN ?_ _ | refine blk_drew ?_ | refine blk_alloc ?_ _)); exact BK579.out) hb); have n10_ := Aside0.mk (blk_below (g := gb590) (o := .cells #[.int .i64 x591000_2, .int .i64 x591001_2, .slice Ao72 x591002_2.length co72, .slice Ao73 x591003_2.length co73, .int .i64 x591004_2] 37 (0, 0)) (by (with_reducible repeat (first | refine blk_drewN ?_ _ | refine blk_drew ?_ | refine blk_alloc ?_ _)); exact BK590.out) hb); have n11_ := Aside0.mk (blk_below (g := gb596) (o := .cells #[.int .i64 x597000_27, .int .i64 x597001_39] 34 (0, 0)) (by (with_reducible repeat (first | refine blk_drewN ?_ _ | refine blk_drew ?_ | refine blk_alloc ?_ _)); exact BK596.out) hb); have n12_ := Aside0.mk (blk_below (g := gb611) (o := .cells #[.int .i64 t600, .int .i64 t601, .slice Ao80 t602.length co80, .slice Ao81 t605.length co81, .int .i64 t608] 37 (0, 0)) (by (with_reducible repeat (first | refine blk_drewN ?_ _ | refine blk_drew ?_ | refine blk_alloc ?_ _)); exact BK611.out) hb); have n13_ := Aside0.mk (below_step (by repeat (first | (with_reducible first | exact HB.out | apply below_alloc | apply pw_below_drewN | apply below_drew1 | refine below_set ?_ GE579.out | refine below_set ?_ GE590.out | refine below_set ?_ GE596.out | refine below_set ?_ GE611.out) | exact HB.out)) hb); have n14_ := Aside0.mk (hbox); have n15_ := Aside0.mk ((by rw [hg]; exact (below_size (by repeat (first | (with_reducible first | exact HB.out | apply below_alloc | apply pw_below_drewN | apply below_drew1 | refine below_set ?_ GE579.out | refine below_set ?_ GE590.out | refine below_set ?_ GE596.out | refine below_set ?_ GE611.out) | exact HB.out))) : w.heap.size ≤ gb623)); have n16_ := Aside0.mk ((by rw [hg]; exact (below_size (by repeat (first | (with_reducible first | exact HB.out | apply below_alloc | apply pw_below_drewN | apply below_drew1 | refine below_set ?_ GE579.out | refine below_set ?_ GE590.out | refine below_set ?_ GE596.out | refine below_set ?_ GE611.out) | exact HB.out))) : w.heap.size ≤ gb623)); have n17_ := Aside0.mk ((by rw [hg]; exact Nat.ne_of_lt (blk_lt (g := gb579) (o := .cells #[.int .i64 t580, .int .i64 t581, .slice Ao19 t582.length co19, .slice Ao20 t585.length co20, .int .i64 t588] 37 (0, 0)) (by (with_reducible repeat (first | refine blk_drewN ?_ _ | refine blk_drew ?_ | refine blk_alloc ?_ _)); exact BK579.out)) : gb579 ≠ gb623)); have n18_ := Aside0.mk ((by rw [hg]; exact Nat.ne_of_gt (blk_lt (g := gb579) (o := .cells #[.int .i64 t580, .int .i64 t581, .slice Ao19 t582.length co19, .slice Ao20 t585.length co20, .int .i64 t588] 37 (0, 0)) (by (with_reducible repeat (first | refine blk_drewN ?_ _ | refine blk_drew ?_ | refine blk_alloc ?_ _)); exact BK579.out)) : gb623 ≠ gb579)); have n19_ := Aside0.mk ((by rw [hg]; exact Nat.ne_of_lt (blk_lt (g := gb590) (o := .cells #[.int .i64 x591000_2, .int .i64 x591001_2, .slice Ao72 x591002_2.length co72, .slice Ao73 x591003_2.length co73, .int .i64 x591004_2] 37 (0, 0)) (by (with_reducible repeat (first | refine blk_drewN ?_ _ | refine blk_drew ?_ | refine blk_alloc ?_ _)); exact BK590.out)) : gb590 ≠ gb623)); have n20_ := Aside0.mk ((by rw [hg]; exact Nat.ne_of_gt (blk_lt (g := gb590) (o := .cells #[.int .i64 x591000_2, .int .i64 x591001_2, .slice Ao72 x591002_2.length co72, .slice Ao73 x591003_2.length co73, .int .i64 x591004_2] 37 (0, 0)) (by (with_reducible repeat (first | refine blk_drewN ?_ _ | refine blk_drew ?_ | refine blk_alloc ?_ _)); exact BK590.out)) : gb623 ≠ gb590)); have n21_ := Aside0.mk ((by rw [hg]; exact Nat.ne_of_lt (blk_lt (g := gb596) (o := .cells #[.int .i64 x597000_27, .int .i64 x597001_39] 34 (0, 0)) (by (with_reducible repeat (first | refine blk_drewN ?_ _ | refine blk_drew ?_ | refine blk_alloc ?_ _)); exact BK596.out)) : gb596 ≠ gb623)); have n22_ := Aside0.mk ((by rw [hg]; exact Nat.ne_of_gt (blk_lt (g := gb596) (o := .cells #[.int .i64 x597000_27, .int .i64 x597001_39] 34 (0, 0)) (by (with_reducible repeat (first | refine blk_drewN ?_ _ | refine blk_drew ?_ | refine blk_alloc ?_ _)); exact BK596.out)) : gb623 ≠ gb596)); have n23_ := Aside0.mk ((by rw [hg]; exact Nat.ne_of_lt (blk_lt (g := gb611) (o := .cells #[.int .i64 t600, .int .i64 t601, .slice Ao80 t602.length co80, .slice Ao81 t605.length co81, .int .i64 t608] 37 (0, 0)) (by (with_reducible repeat (first | refine blk_drewN ?_ _ | refine blk_drew ?_ | refine blk_alloc ?_ _)); exact BK611.out)) : gb611 ≠ gb623)); have n24_ := Aside0.mk ((by rw [hg]; exact Nat.ne_of_gt (blk_lt (g := gb611) (o := .cells #[.int .i64 t600, .int .i64 t601, .slice Ao80 t602.length co80, .slice Ao81 t605.length co81, .int .i64 t608] 37 (0, 0)) (by (with_reducible repeat (first | refine blk_drewN ?_ _ | refine blk_drew ?_ | refine blk_alloc ?_ _)); exact BK611.out)) : gb623 ≠ gb611)); clear HO_10; clear HO_580002; clear HO_580003; clear HO_591002; clear HO_591003; clear HO604; clear HO607; clear HO616; clear HO619; clear BK579; clear BK590; clear BK596; clear BK611; clear HB; have HO_10 := n0_; have HO_580002 := n1_; have HO_580003 := n2_; have HO_591002 := n3_; have HO_591003 := n4_; have HO604 := n5_; have HO607 := n6_; have HO616 := n7_; have HO619 := n8_; have BK579 := n9_; have BK590 := n10_; have BK596 := n11_; have BK611 := n12_; have HB := n13_; have BK623 := n14_; have GW623 := n15_; have GE623 := n16_; have NB579_623 := n17_; have NB623_579 := n18_; have NB590_623 := n19_; have NB623_590 := n20_; have NB596_623 := n21_; have NB623_596 := n22_; have NB611_623 := n23_; have NB623_611 := n24_; clear n0_ n1_ n2_ n3_ n4_ n5_ n6_ n7_ n8_ n9_ n10_ n11_ n12_ n13_ n14_ n15_ n16_ n17_ n18_ n19_ n20_ n21_ n22_ n23_ n24_; clear hb hbox hg; have hnb86 := NB623_579.out; have hnc86 := NB579_623.out; have hnb87 := NB623_590.out; have hnc87 := NB590_623.out; have hnb88 := NB623_596.out; have hnc88 := NB596_623.out; have hnb89 := NB623_611.out; have hnc89 := NB611_623.out; have hcz90_0 : w85.cell? ⟨gb623, 0, none⟩ = some (.int .i64 0) := (blk_cell BK623.out 0).trans rfl; have hcz90_1 : w85.cell? ⟨gb623, 1, none⟩ = some (.int .i64 0) := (blk_cell BK623.out 1).trans rfl; have hcz90_2 : w85.cell? ⟨gb623, 2, none⟩ = some (.slice none 0 0) := (blk_cell BK623.out 2).trans rfl; have hcz90_3 : w85.cell? ⟨gb623, 3, none⟩ = some (.slice none 0 0) := (blk_cell BK623.out 3).trans rfl; have hcz90_4 : w85.cell? ⟨gb623, 4, none⟩ = some (.int .i64 0) := (blk_cell BK623.out 4).trans rfl; have hfz90_0 := blk_frozen BK623.out 0; have hfz90_1 := blk_frozen BK623.out 1; have hfz90_2 := blk_frozen BK623.out 2; have hfz90_3 := blk_frozen BK623.out 3; have hfz90_4 := blk_frozen BK623.out 4; obtain ⟨Ao91, co91, eo91⟩ := Kd.R_slice HO616.out; subst eo91; obtain ⟨Ao92, co92, eo92⟩ := Kd.R_slice HO619.out; subst eo92; have hcz93_0 : w85.cell? ⟨gb611, 0, none⟩ = some (.int .i64 t600) := (blk_cell BK611.out 0).trans rfl; have hcz93_1 : w85.cell? ⟨gb611, 1, none⟩ = some (.int .i64 t601) := (blk_cell BK611.out 1).trans rfl; have hcz93_2 : w85.cell? ⟨gb611, 2, none⟩ = some (.slice Ao80 t602.length co80) := (blk_cell BK611.out 2).trans rfl; have hcz93_3 : w85.cell? ⟨gb611, 3, none⟩ = some (.slice Ao81 t605.length co81) := (blk_cell BK611.out 3).trans rfl; have hcz93_4 : w85.cell? ⟨gb611, 4, none⟩ = some (.int .i64 t608) := (blk_cell BK611.out 4).trans rfl; have hfz93_0 := blk_frozen BK611.out 0; have hfz93_1 := blk_frozen BK611.out 1; have hfz93_2 := blk_frozen BK611.out 2; have hfz93_3 := blk_frozen BK611.out 3; have hfz93_4 := blk_frozen BK611.out 4) | (go_at_call 21; (with_reducible refine (impl_PairOK.calls kj39 t600 t601 _ _ t602 _ _ t605 t608 true _ ?side1 ?side2 ?side3 ?side4 A65.out).mono ?_); (case side1 => refine (Kd.Q_reads' (e := 3) (base := w.heap.size) (ok := fun k_ => ((some k_ ≠ (.slice Ao81 t605.length co81 : Value).ownBlock ∧ some k_ ≠ (.slice Ao91 t614.length co91 : Value).ownBlock) ∧ some k_ ≠ (.slice Ao92 t617.length co92 : Value).ownBlock)) (n := t602.length) (c := co80) ?_).2.2; exact (by (with_reducible repeat (first | apply Kd.Q_alloc | apply Kd.Q_drewN | apply Kd.Q_drew)); exact (Kd.Q_mono (Kd.Q_far (p := ⟨gb623, 4, none⟩) (Kd.Q_far (p := ⟨gb623, 3, none⟩) (Kd.Q_far (p := ⟨gb623, 2, none⟩) (Kd.Q_far (p := ⟨gb623, 1, none⟩) (Kd.Q_far (p := ⟨gb623, 0, none⟩) (Kd.Q_types HO604.out BK623.out (by decide)) (fun _ hk => hk.2) (.int .i64 t612)) (fun _ hk => hk.2) (.int .i64 t613)) (fun _ hk => hk.2) (.slice Ao91 t614.length co91)) (fun _ hk => hk.2) (.slice Ao92 t617.length co92)) (fun _ hk => hk.2) (.int .i64 t620)) (fun _ h_ => h_.1)))); (case side2 => exact (Kd.Q_reads' HO604.out).2.1); (case side3 => refine (Kd.Q_reads' (e := 3) (base := w.heap.size) (ok := fun k_ => ((some k_ ≠ (.slice Ao80 t602.length co80 : Value).ownBlock ∧ some k_ ≠ (.slice Ao91 t614.length co91 : Value).ownBlock) ∧ some k_ ≠ (.slice Ao92 t617.length co92 : Value).ownBlock)) (n := t605.length) (c := co81) ?_).2.2; exact (by (with_reducible repeat (first | apply Kd.Q_alloc | apply Kd.Q_drewN | apply Kd.Q_drew)); exact (Kd.Q_mono (Kd.Q_far (p := ⟨gb623, 4, none⟩) (Kd.Q_far (p := ⟨gb623, 3, none⟩) (Kd.Q_far (p := ⟨gb623, 2, none⟩) (Kd.Q_far (p := ⟨gb623, 1, none⟩) (Kd.Q_far (p := ⟨gb623, 0, none⟩) (Kd.Q_types HO607.out BK623.out (by decide)) (fun _ hk => hk.2) (.int .i64 t612)) (fun _ hk => hk.2) (.int .i64 t613)) (fun _ hk => hk.2) (.slice Ao91 t614.length co91)) (fun _ hk => hk.2) (.slice Ao92 t617.length co92)) (fun _ hk => hk.2) (.int .i64 t620)) (fun _ h_ => h_.1)))); (case side4 => exact (Kd.Q_reads' HO607.out).2.1); rintro e w94 ⟨rfl, hb⟩; have n0_ := Aside0.mk (Kd.R_below (by (with_reducible repeat (first | apply Kd.R_alloc | apply Kd.R_drewN | apply Kd.R_drew)); exact (Kd.R_mono (Kd.R_far (p := ⟨gb623, 4, none⟩) (Kd.R_far (p := ⟨gb623, 3, none⟩) (Kd.R_far (p := ⟨gb623, 2, none⟩) (Kd.R_far (p := ⟨gb623, 1, none⟩) (Kd.R_far (p := ⟨gb623, 0, none⟩) (Kd.R_types HO_10.out BK623.out (by decide)) (fun _ hk => hk.2) (.int .i64 t612)) (fun _ hk => hk.2) (.int .i64 t613)) (fun _ hk => hk.2) (.slice Ao91 t614.length co91)) (fun _ hk => hk.2) (.slice Ao92 t617.length co92)) (fun _ hk => hk.2) (.int .i64 t620)) (fun _ h_ => h_.1))) hb); have n1_ := Aside0.mk (Kd.V_below (by (with_reducible repeat (first | apply Kd.V_alloc | apply Kd.V_drewN | apply Kd.V_drew)); exact (Kd.V_mono (Kd.V_far (p := ⟨gb623, 4, none⟩) (Kd.V_far (p := ⟨gb623, 3, none⟩) (Kd.V_far (p := ⟨gb623, 2, none⟩) (Kd.V_far (p := ⟨gb623, 1, none⟩) (Kd.V_far (p := ⟨gb623, 0, none⟩) (Kd.V_mono HO_580002.out (fun k_ hk => (⟨hk, hk.2⟩ : _ ∧ k_ ≠ gb623))) (fun _ hk => hk.2) (.int .i64 t612)) (fun _ hk => hk.2) (.int .i64 t613)) (fun _ hk => hk.2) (.slice Ao91 t614.length co91)) (fun _ hk => hk.2) (.slice Ao92 t617.length co92)) (fun _ hk => hk.2) (.int .i64 t620)) (fun _ h_ => h_.1))) hb); have n2_ := Aside0.mk (Kd.V_below (by (with_reducible repeat (first | apply Kd.V_alloc | apply Kd.V_drewN | apply Kd.V_drew)); exact (Kd.V_mono (Kd.V_far (p := ⟨gb623, 4, none⟩) (Kd.V_far (p := ⟨gb623, 3, none⟩) (Kd.V_far (p := ⟨gb623, 2, none⟩) (Kd.V_far (p := ⟨gb623, 1, none⟩) (Kd.V_far (p := ⟨gb623, 0, none⟩) (Kd.V_mono HO_580003.out (fun k_ hk => (⟨hk, hk.2⟩ : _ ∧ k_ ≠ gb623))) (fun _ hk => hk.2) (.int .i64 t612)) (fun _ hk => hk.2) (.int .i64 t613)) (fun _ hk => hk.2) (.slice Ao91 t614.length co91)) (fun _ hk => hk.2) (.slice Ao92 t617.length co92)) (fun _ hk => hk.2) (.int .i64 t620)) (fun _ h_ => h_.1))) hb); have n3_ := Aside0.mk (Kd.V_below (by (with_reducible repeat (first | apply Kd.V_alloc | apply Kd.V_drewN | apply Kd.V_drew)); exact (Kd.V_mono (Kd.V_far (p := ⟨gb623, 4, none⟩) (Kd.V_far (p := ⟨gb623, 3, none⟩) (Kd.V_far (p := ⟨gb623, 2, none⟩) (Kd.V_far (p := ⟨gb623, 1, none⟩) (Kd.V_far (p := ⟨gb623, 0, none⟩) (Kd.V_mono HO_591002.out (fun k_ hk => (⟨hk, hk.2⟩ : _ ∧ k_ ≠ gb623))) (fun _ hk => hk.2) (.int .i64 t612)) (fun _ hk => hk.2) (.int .i64 t613)) (fun _ hk => hk.2) (.slice Ao91 t614.length co91)) (fun _ hk => hk.2) (.slice Ao92 t617.length co92)) (fun _ hk => hk.2) (.int .i64 t620)) (fun _ h_ => h_.1))) hb); have n4_ := Aside0.mk (Kd.V_below (by (with_reducible repeat (first | apply Kd.V_alloc | apply Kd.V_drewN | apply Kd.V_drew)); exact (Kd.V_mono (Kd.V_far (p := ⟨gb623, 4, none⟩) (Kd.V_far (p := ⟨gb623, 3, none⟩) (Kd.V_far (p := ⟨gb623, 2, none⟩) (Kd.V_far (p := ⟨gb623, 1, none⟩) (Kd.V_far (p := ⟨gb623, 0, none⟩) (Kd.V_mono HO_591003.out (fun k_ hk => (⟨hk, hk.2⟩ : _ ∧ k_ ≠ gb623))) (fun _ hk => hk.2) (.int .i64 t612)) (fun _ hk => hk.2) (.int .i64 t613)) (fun _ hk => hk.2) (.slice Ao91 t614.length co91)) (fun _ hk => hk.2) (.slice Ao92 t617.length co92)) (fun _ hk => hk.2) (.int .i64 t620)) (fun _ h_ => h_.1))) hb); have n5_ := Aside0.mk (Kd.Q_below (by (with_reducible repeat (first | apply Kd.Q_alloc | apply Kd.Q_drewN | apply Kd.Q_drew)); exact (Kd.Q_mono (Kd.Q_far (p := ⟨gb623, 4, none⟩) (Kd.Q_far (p := ⟨gb623, 3, none⟩) (Kd.Q_far (p := ⟨gb623, 2, none⟩) (Kd.Q_far (p := ⟨gb623, 1, none⟩) (Kd.Q_far (p := ⟨gb623, 0, none⟩) (Kd.Q_types HO604.out BK623.out (by decide)) (fun _ hk => hk.2) (.int .i64 t612)) (fun _ hk => hk.2) (.int .i64 t613)) (fun _ hk => hk.2) (.slice Ao91 t614.length co91)) (fun _ hk => hk.2) (.slice Ao92 t617.length co92)) (fun _ hk => hk.2) (.int .i64 t620)) (fun _ h_ => h_.1))) hb); have n6_ := Aside0.mk (Kd.Q_below (by (with_reducible repeat (first | apply Kd.Q_alloc | apply Kd.Q_drewN | apply Kd.Q_drew)); exact (Kd.Q_mono (Kd.Q_far (p := ⟨gb623, 4, none⟩) (Kd.Q_far (p := ⟨gb623, 3, none⟩) (Kd.Q_far (p := ⟨gb623, 2, none⟩) (Kd.Q_far (p := ⟨gb623, 1, none⟩) (Kd.Q_far (p := ⟨gb623, 0, none⟩) (Kd.Q_types HO607.out BK623.out (by decide)) (fun _ hk => hk.2) (.int .i64 t612)) (fun _ hk => hk.2) (.int .i64 t613)) (fun _ hk => hk.2) (.slice Ao91 t614.length co91)) (fun _ hk => hk.2) (.slice Ao92 t617.length co92)) (fun _ hk => hk.2) (.int .i64 t620)) (fun _ h_ => h_.1))) hb); have n7_ := Aside0.mk (Kd.R_below (by (with_reducible repeat (first | apply Kd.R_alloc | apply Kd.R_drewN | apply Kd.R_drew)); exact (Kd.R_mono (Kd.R_far (p := ⟨gb623, 4, none⟩) (Kd.R_far (p := ⟨gb623, 3, none⟩) (Kd.R_far (p := ⟨gb623, 2, none⟩) (Kd.R_far (p := ⟨gb623, 1, none⟩) (Kd.R_far (p := ⟨gb623, 0, none⟩) (Kd.R_types HO616.out BK623.out (by decide)) (fun _ hk => hk.2) (.int .i64 t612)) (fun _ hk => hk.2) (.int .i64 t613)) (fun _ hk => hk.2) (.slice Ao91 t614.length co91)) (fun _ hk => hk.2) (.slice Ao92 t617.length co92)) (fun _ hk => hk.2) (.int .i64 t620)) (fun _ h_ => h_.1))) hb); have n8_ := Aside0.mk (Kd.R_below (by (with_reducible repeat (first | apply Kd.R_alloc | apply Kd.R_drewN | apply Kd.R_drew)); exact (Kd.R_mono (Kd.R_far (p := ⟨gb623, 4, none⟩) (Kd.R_far (p := ⟨gb623, 3, none⟩) (Kd.R_far (p := ⟨gb623, 2, none⟩) (Kd.R_far (p := ⟨gb623, 1, none⟩) (Kd.R_far (p := ⟨gb623, 0, none⟩) (Kd.R_types HO619.out BK623.out (by decide)) (fun _ hk => hk.2) (.int .i64 t612)) (fun _ hk => hk.2) (.int .i64 t613)) (fun _ hk => hk.2) (.slice Ao91 t614.length co91)) (fun _ hk => hk.2) (.slice Ao92 t617.length co92)) (fun _ hk => hk.2) (.int .i64 t620)) (fun _ h_ => h_.1))) hb); have n9_ := Aside0.mk (blk_below (g := gb579) (o := .cells #[.int .i64 t580, .int .i64 t581, .slice Ao19 t582.length co19, .slice Ao20 t585.length co20, .int .i64 t588] 37 (0, 0)) (by (with_reducible repeat (first | refine blk_drewN ?_ _ | refine blk_drew ?_ | refine blk_alloc ?_ _)); refine blk_far ?_ NB579_623.out _; (with_reducible repeat (first | refine blk_drewN ?_ _ | refine blk_drew ?_ | refine blk_alloc ?_ _)); refine blk_far ?_ NB579_623.out _; (with_reducible repeat (first | refine blk_drewN ?_ _ | refine blk_drew ?_ | refine blk_alloc ?_ _)); refine blk_far ?_ NB579_623.out _; (with_reducible repeat (first | refine blk_drewN ?_ _ | refine blk_drew ?_ | refine blk_alloc ?_ _)); refine blk_far ?_ NB579_623.out _; (with_reducible repeat (first | refine blk_drewN ?_ _ | refine blk_drew ?_ | refine blk_alloc ?_ _)); refine blk_far ?_ NB579_623.out _; (with_reducible repeat (first | refine blk_drewN ?_ _ | refine blk_drew ?_ | refine blk_alloc ?_ _)); exact BK579.out) hb); have n10_ := Aside0.mk (blk_below (g := gb590) (o := .cells #[.int .i64 x591000_2, .int .i64 x591001_2, .slice Ao72 x591002_2.length co72, .slice Ao73 x591003_2.length co73, .int .i64 x591004_2] 37 (0, 0)) (by (with_reducible repeat (first | refine blk_drewN ?_ _ | refine blk_drew ?_ | refine blk_alloc ?_ _)); refine blk_far ?_ NB590_623.out _; (with_reducible repeat (first | refine blk_drewN ?_ _ | refine blk_drew ?_ | refine blk_alloc ?_ _)); refine blk_far ?_ NB590_623.out _; (with_reducible repeat (first | refine blk_drewN ?_ _ | refine blk_drew ?_ | refine blk_alloc ?_ _)); refine blk_far ?_ NB590_623.out _; (with_reducible repeat (first | refine blk_drewN ?_ _ | refine blk_drew ?_ | refine blk_alloc ?_ _)); refine blk_far ?_ NB590_623.out _; (with_reducible repeat (first | refine blk_drewN ?_ _ | refine blk_drew ?_ | refine blk_alloc ?_ _)); refine blk_far ?_ NB590_623.out _; (with_reducible repeat (first | refine blk_drewN ?_ _ | refine blk_drew ?_ | refine blk_alloc ?_ _)); exact BK590.out) hb); have n11_ := Aside0.mk (blk_below (g := gb596) (o := .cells #[.int .i64 x597000_27, .int .i64 x597001_39] 34 (0, 0)) (by (with_reducible repeat (first | refine blk_drewN ?_ _ | refine blk_drew ?_ | refine blk_alloc ?_ _)); refine blk_far ?_ NB596_623.out _; (with_reducible repeat (first | refine blk_drewN ?_ _ | refine blk_drew ?_ | refine blk_alloc ?_ _)); refine blk_far ?_ NB596_623.out _; (with_reducible repeat (first | refine blk_drewN ?_ _ | refine blk_drew ?_ | refine blk_alloc ?_ _)); refine blk_far ?_ NB596_623.out _; (with_reducible repeat (first | refine blk_drewN ?_ _ | refine blk_drew ?_ | refine blk_alloc ?_ _)); refine blk_far ?_ NB596_623.out _; (with_reducible repeat (first | refine blk_drewN ?_ _ | refine blk_drew ?_ | refine blk_alloc ?_ _)); refine blk_far ?_ NB596_623.out _; (with_reducible repeat (first | refine blk_drewN ?_ _ | refine blk_drew ?_ | refine blk_alloc ?_ _)); exact BK596.out) hb); have n12_ := Aside0.mk (blk_below (g := gb611) (o := .cells #[.int .i64 t600, .int .i64 t601, .slice Ao80 t602.length co80, .slice Ao81 t605.length co81, .int .i64 t608] 37 (0, 0)) (by (with_reducible repeat (first | refine blk_drewN ?_ _ | refine blk_drew ?_ | refine blk_alloc ?_ _)); refine blk_far ?_ NB611_623.out _; (with_reducible repeat (first | refine blk_drewN ?_ _ | refine blk_drew ?_ | refine blk_alloc ?_ _)); refine blk_far ?_ NB611_623.out _; (with_reducible repeat (first | refine blk_drewN ?_ _ | refine blk_drew ?_ | refine blk_alloc ?_ _)); refine blk_far ?_ NB611_623.out _; (with_reducible repeat (first | refine blk_drewN ?_ _ | refine blk_drew ?_ | refine blk_alloc ?_ _)); refine blk_far ?_ NB611_623.out _; (with_reducible repeat (first | refine blk_drewN ?_ _ | refine blk_drew ?_ | refine blk_alloc ?_ _)); refine blk_far ?_ NB611_623.out _; (with_reducible repeat (first | refine blk_drewN ?_ _ | refine blk_drew ?_ | refine blk_alloc ?_ _)); exact BK611.out) hb); have n13_ := Aside0.mk (blk_below (g := gb623) (o := .cells #[.int .i64 t612, .int .i64 t613, .slice Ao91 t614.length co91, .slice Ao92 t617.length co92, .int .i64 t620] 37 (0, 0)) (by (with_reducible repeat (first | refine blk_drewN ?_ _ | refine blk_drew ?_ | refine blk_alloc ?_ _)); refine blk_put (cs := #[.int .i64 t612, .int .i64 t613, .slice Ao91 t614.length co91, .slice Ao92 t617.length co92, .int .i64 0]) ?_ 4 _ rfl; (with_reducible repeat (first | refine blk_drewN ?_ _ | refine blk_drew ?_ | refine blk_alloc ?_ _)); refine blk_put (cs := #[.int .i64 t612, .int .i64 t613, .slice Ao91 t614.length co91, .slice none 0 0, .int .i64 0]) ?_ 3 _ rfl; (with_reducible repeat (first | refine blk_drewN ?_ _ | refine blk_drew ?_ | refine blk_alloc ?_ _)); refine blk_put (cs := #[.int .i64 t612, .int .i64 t613, .slice none 0 0, .slice none 0 0, .int .i64 0]) ?_ 2 _ rfl; (with_reducible repeat (first | refine blk_drewN ?_ _ | refine blk_drew ?_ | refine blk_alloc ?_ _)); refine blk_put (cs := #[.int .i64 t612, .int .i64 0, .slice none 0 0, .slice none 0 0, .int .i64 0]) ?_ 1 _ rfl; (with_reducible repeat (first | refine blk_drewN ?_ _ | refine blk_drew ?_ | refine blk_alloc ?_ _)); refine blk_put (cs := #[.int .i64 0, .int .i64 0, .slice none 0 0, .slice none 0 0, .int .i64 0]) ?_ 0 _ rfl; (with_reducible repeat (first | refine blk_drewN ?_ _ | refine blk_drew ?_ | refine blk_alloc ?_ _)); exact BK623.out) hb); have n14_ := Aside0.mk (below_step (by repeat (first | (with_reducible first | exact HB.out | apply below_alloc | apply pw_below_drewN | apply below_drew1 | refine below_set ?_ GE579.out | refine below_set ?_ GE590.out | refine below_set ?_ GE596.out | refine below_set ?_ GE611.out | refine below_set ?_ GE623.out) | exact HB.out)) hb); clear HO_10; clear HO_580002; clear HO_580003; clear HO_591002; clear HO_591003; clear HO604; clear HO607; clear HO616; clear HO619; clear BK579; clear BK590; clear BK596; clear BK611; clear BK623; clear HB; have HO_10 := n0_; have HO_580002 := n1_; have HO_580003 := n2_; have HO_591002 := n3_; have HO_591003 := n4_; have HO604 := n5_; have HO607 := n6_; have HO616 := n7_; have HO619 := n8_; have BK579 := n9_; have BK590 := n10_; have BK596 := n11_; have BK611 := n12_; have BK623 := n13_; have HB := n14_; clear n0_ n1_ n2_ n3_ n4_ n5_ n6_ n7_ n8_ n9_ n10_ n11_ n12_ n13_ n14_; (try clear hb); (try clear hb2); (try clear hk); (try clear hi); have hcz95_0 : w94.cell? ⟨gb611, 0, none⟩ = some (.int .i64 t600) := (blk_cell BK611.out 0).trans rfl; have hcz95_1 : w94.cell? ⟨gb611, 1, none⟩ = some (.int .i64 t601) := (blk_cell BK611.out 1).trans rfl; have hcz95_2 : w94.cell? ⟨gb611, 2, none⟩ = some (.slice Ao80 t602.length co80) := (blk_cell BK611.out 2).trans rfl; have hcz95_3 : w94.cell? ⟨gb611, 3, none⟩ = some (.slice Ao81 t605.length co81) := (blk_cell BK611.out 3).trans rfl; have hcz95_4 : w94.cell? ⟨gb611, 4, none⟩ = some (.int .i64 t608) := (blk_cell BK611.out 4).trans rfl; have hfz95_0 := blk_frozen BK611.out 0; have hfz95_1 := blk_frozen BK611.out 1; have hfz95_2 := blk_frozen BK611.out 2; have hfz95_3 := blk_frozen BK611.out 3; have hfz95_4 := blk_frozen BK611.out 4; have hcz96_0 : w94.cell? ⟨gb590, 0, none⟩ = some (.int .i64 x591000_2) := (blk_cell BK590.out 0).trans rfl; have hcz96_1 : w94.cell? ⟨gb590, 1, none⟩ = some (.int .i64 x591001_2) := (blk_cell BK590.out 1).trans rfl; have hcz96_2 : w94.cell? ⟨gb590, 2, none⟩ = some (.slice Ao72 x591002_2.length co72) := (blk_cell BK590.out 2).trans rfl; have hcz96_3 : w94.cell? ⟨gb590, 3, none⟩ = some (.slice Ao73 x591003_2.length co73) := (blk_cell BK590.out 3).trans rfl; have hcz96_4 : w94.cell? ⟨gb590, 4, none⟩ = some (.int .i64 x591004_2) := (blk_cell BK590.out 4).trans rfl; have hfz96_0 := blk_frozen BK590.out 0; have hfz96_1 := blk_frozen BK590.out 1; have hfz96_2 := blk_frozen BK590.out 2; have hfz96_3 := blk_frozen BK590.out 3; have hfz96_4 := blk_frozen BK590.out 4))
                  go_roundg kj39
                  case measure => have := HJ2.out; have := HK2.out; have := HJ27.out; have := HJ36.out; have := HJ39.out; omega
                  case rel => exact ⟨(x10_39), (wrap64 (x12_2 + 1)), (t600), (t601), (t602), (t605), (t608), (.slice Ao80 t602.length co80), (.slice Ao81 t605.length co81), (by first | rfl | (simp; done) | (simp [*]; done)), H', ⟨by have := HJ2.out; have := HK2.out; have := HJ27.out; have := HJ36.out; have := HJ39.out; omega⟩, ⟨by (with_reducible repeat (first | apply Kd.R_alloc | apply Kd.R_drewN | apply Kd.R_drew)); exact Kd.R_mono (Kd.R_far (p := ⟨gb590, 4, none⟩) (Kd.R_far (p := ⟨gb590, 3, none⟩) (Kd.R_far (p := ⟨gb590, 2, none⟩) (Kd.R_far (p := ⟨gb590, 1, none⟩) (Kd.R_far (p := ⟨gb590, 0, none⟩) (Kd.R_types HO_10.out BK590.out (by decide)) (fun _ hk => hk.2) (.int .i64 t600)) (fun _ hk => hk.2) (.int .i64 t601)) (fun _ hk => hk.2) (.slice Ao80 t602.length co80)) (fun _ hk => hk.2) (.slice Ao81 t605.length co81)) (fun _ hk => hk.2) (.int .i64 t608)) (fun _ hk => trivial)⟩, ⟨by (with_reducible repeat (first | apply Kd.V_alloc | apply Kd.V_drewN | apply Kd.V_drew)); exact Kd.V_mono (Kd.V_far (p := ⟨gb590, 4, none⟩) (Kd.V_far (p := ⟨gb590, 3, none⟩) (Kd.V_far (p := ⟨gb590, 2, none⟩) (Kd.V_far (p := ⟨gb590, 1, none⟩) (Kd.V_far (p := ⟨gb590, 0, none⟩) (Kd.V_mono HO_580002.out (fun k_ hk => (⟨hk, hk.1.1.1.1.1.1.2.2.1⟩ : _ ∧ k_ ≠ gb590))) (fun _ hk => hk.2) (.int .i64 t600)) (fun _ hk => hk.2) (.int .i64 t601)) (fun _ hk => hk.2) (.slice Ao80 t602.length co80)) (fun _ hk => hk.2) (.slice Ao81 t605.length co81)) (fun _ hk => hk.2) (.int .i64 t608)) (fun _ hk => ⟨hk.1.1.1.1.1.1.1.1, ⟨hk.1.1.1.1.1.1.1.2.1, hk.1.1.1.1.1.1.1.2.2.1⟩⟩)⟩, ⟨by (with_reducible repeat (first | apply Kd.V_alloc | apply Kd.V_drewN | apply Kd.V_drew)); exact Kd.V_mono (Kd.V_far (p := ⟨gb590, 4, none⟩) (Kd.V_far (p := ⟨gb590, 3, none⟩) (Kd.V_far (p := ⟨gb590, 2, none⟩) (Kd.V_far (p := ⟨gb590, 1, none⟩) (Kd.V_far (p := ⟨gb590, 0, none⟩) (Kd.V_mono HO_580003.out (fun k_ hk => (⟨hk, hk.1.1.1.1.1.1.2.2.1⟩ : _ ∧ k_ ≠ gb590))) (fun _ hk => hk.2) (.int .i64 t600)) (fun _ hk => hk.2) (.int .i64 t601)) (fun _ hk => hk.2) (.slice Ao80 t602.length co80)) (fun _ hk => hk.2) (.slice Ao81 t605.length co81)) (fun _ hk => hk.2) (.int .i64 t608)) (fun _ hk => ⟨hk.1.1.1.1.1.1.1.1, ⟨hk.1.1.1.1.1.1.1.2.1, hk.1.1.1.1.1.1.1.2.2.1⟩⟩)⟩, ⟨Kd.Q_V (by (with_reducible repeat (first | apply Kd.Q_alloc | apply Kd.Q_drewN | apply Kd.Q_drew)); exact Kd.Q_mono (Kd.Q_far (p := ⟨gb590, 4, none⟩) (Kd.Q_far (p := ⟨gb590, 3, none⟩) (Kd.Q_far (p := ⟨gb590, 2, none⟩) (Kd.Q_far (p := ⟨gb590, 1, none⟩) (Kd.Q_far (p := ⟨gb590, 0, none⟩) (Kd.Q_types (Kd.Q_types (Kd.Q_types (Kd.Q_apart' HO604.out (Kd.R_typed HO_10.out) (by decide)) BK579.out (by decide)) BK590.out (by decide)) BK590.out (by decide)) (fun _ hk => hk.2) (.int .i64 t600)) (fun _ hk => hk.2) (.int .i64 t601)) (fun _ hk => hk.2) (.slice Ao80 t602.length co80)) (fun _ hk => hk.2) (.slice Ao81 t605.length co81)) (fun _ hk => hk.2) (.int .i64 t608)) (fun _ hk => ⟨hk.1.1.1.2, ⟨hk.1.1.2, hk.1.2⟩⟩))⟩, ⟨Kd.Q_V (by (with_reducible repeat (first | apply Kd.Q_alloc | apply Kd.Q_drewN | apply Kd.Q_drew)); exact Kd.Q_mono (Kd.Q_far (p := ⟨gb590, 4, none⟩) (Kd.Q_far (p := ⟨gb590, 3, none⟩) (Kd.Q_far (p := ⟨gb590, 2, none⟩) (Kd.Q_far (p := ⟨gb590, 1, none⟩) (Kd.Q_far (p := ⟨gb590, 0, none⟩) (Kd.Q_types (Kd.Q_types (Kd.Q_types (Kd.Q_apart' HO607.out (Kd.R_typed HO_10.out) (by decide)) BK579.out (by decide)) BK590.out (by decide)) BK590.out (by decide)) (fun _ hk => hk.2) (.int .i64 t600)) (fun _ hk => hk.2) (.int .i64 t601)) (fun _ hk => hk.2) (.slice Ao80 t602.length co80)) (fun _ hk => hk.2) (.slice Ao81 t605.length co81)) (fun _ hk => hk.2) (.int .i64 t608)) (fun _ hk => ⟨hk.1.1.1.2, ⟨hk.1.1.2, hk.1.2⟩⟩))⟩, ⟨by (with_reducible repeat (first | refine blk_drewN ?_ _ | refine blk_drew ?_ | refine blk_alloc ?_ _)); refine blk_far ?_ NB579_590.out _; (with_reducible repeat (first | refine blk_drewN ?_ _ | refine blk_drew ?_ | refine blk_alloc ?_ _)); refine blk_far ?_ NB579_590.out _; (with_reducible repeat (first | refine blk_drewN ?_ _ | refine blk_drew ?_ | refine blk_alloc ?_ _)); refine blk_far ?_ NB579_590.out _; (with_reducible repeat (first | refine blk_drewN ?_ _ | refine blk_drew ?_ | refine blk_alloc ?_ _)); refine blk_far ?_ NB579_590.out _; (with_reducible repeat (first | refine blk_drewN ?_ _ | refine blk_drew ?_ | refine blk_alloc ?_ _)); refine blk_far ?_ NB579_590.out _; (with_reducible repeat (first | refine blk_drewN ?_ _ | refine blk_drew ?_ | refine blk_alloc ?_ _)); exact BK579.out⟩, ⟨by (with_reducible repeat (first | refine blk_drewN ?_ _ | refine blk_drew ?_ | refine blk_alloc ?_ _)); refine blk_put (cs := #[.int .i64 t600, .int .i64 t601, .slice Ao80 t602.length co80, .slice Ao81 t605.length co81, .int .i64 x591004_2]) ?_ 4 _ rfl; (with_reducible repeat (first | refine blk_drewN ?_ _ | refine blk_drew ?_ | refine blk_alloc ?_ _)); refine blk_put (cs := #[.int .i64 t600, .int .i64 t601, .slice Ao80 t602.length co80, .slice Ao73 x591003_2.length co73, .int .i64 x591004_2]) ?_ 3 _ rfl; (with_reducible repeat (first | refine blk_drewN ?_ _ | refine blk_drew ?_ | refine blk_alloc ?_ _)); refine blk_put (cs := #[.int .i64 t600, .int .i64 t601, .slice Ao72 x591002_2.length co72, .slice Ao73 x591003_2.length co73, .int .i64 x591004_2]) ?_ 2 _ rfl; (with_reducible repeat (first | refine blk_drewN ?_ _ | refine blk_drew ?_ | refine blk_alloc ?_ _)); refine blk_put (cs := #[.int .i64 t600, .int .i64 x591001_2, .slice Ao72 x591002_2.length co72, .slice Ao73 x591003_2.length co73, .int .i64 x591004_2]) ?_ 1 _ rfl; (with_reducible repeat (first | refine blk_drewN ?_ _ | refine blk_drew ?_ | refine blk_alloc ?_ _)); refine blk_put (cs := #[.int .i64 x591000_2, .int .i64 x591001_2, .slice Ao72 x591002_2.length co72, .slice Ao73 x591003_2.length co73, .int .i64 x591004_2]) ?_ 0 _ rfl; (with_reducible repeat (first | refine blk_drewN ?_ _ | refine blk_drew ?_ | refine blk_alloc ?_ _)); exact BK590.out⟩, ⟨by repeat (first | (with_reducible first | exact HB.out | apply below_alloc | apply pw_below_drewN | apply below_drew1 | refine below_set ?_ GE579.out | refine below_set ?_ GE590.out | refine below_set ?_ GE596.out | refine below_set ?_ GE611.out | refine below_set ?_ GE623.out) | exact HB.out)⟩⟩
                 ·replace c66 := Bool.eq_false_iff.mpr c66
                  subst c66
                  have H1 : (some false) = some r := by rw [if_neg (show ¬ (false = true) by decide)] at H; exact H
                  clear H
                  have H := H1
                  clear H1
                  obtain rfl := Option.some.inj H
                  exact absurd hrt (by decide)
                ·rw [if_neg c64] at H
                 have c64b0 : (t601 == t613) = false := beq_eq_false_iff_ne.mpr c64
                 have c64b1 : (t601 != t613) = true := bne_iff_ne.mpr c64
                 obtain rfl := Option.some.inj H
                 exact absurd hrt (by decide)
               ·rw [if_neg c63] at H
                have c63b0 : (t600 == t612) = false := beq_eq_false_iff_ne.mpr c63
                have c63b1 : (t600 != t612) = true := bne_iff_ne.mpr c63
                obtain rfl := Option.some.inj H
                exact absurd hrt (by decide)
              ·rw [if_neg c62] at H
               have c62b0 : (t609 == t621) = false := beq_eq_false_iff_ne.mpr c62
               have c62b1 : (t609 != t621) = true := bne_iff_ne.mpr c62
               obtain rfl := Option.some.inj H
               exact absurd hrt (by decide)
             ·rw [if_neg c61] at H
              have c61b0 : (t610 == 0) = false := beq_eq_false_iff_ne.mpr c61
              have c61b1 : (t610 != 0) = true := bne_iff_ne.mpr c61
              obtain rfl := Option.some.inj H
              exact absurd hrt (by decide)
      ·rw [if_neg c26] at H
       have c26b0 : decide (x12_2 < (wrap64 (t594 + 2))) = false := decide_eq_false c26
       clear c26
       replace H := Option.bind_eq_some_iff.mp H
       obtain ⟨⟨t625, t626, t627, t630, t633, t634⟩, A2310, H⟩ := H
       replace H : (if t634 = 0 then (laws_FnCloses.l1 k2 0 t625 t626 t627 t630 t633) else (some false)) = some r := H
       have A231 := Aside0.mk A2310
       clear A2310
       by_cases c232 : t634 = 0
       ·rw [if_pos c232] at H
        have c232b0 : (t634 == 0) = true := beq_iff_eq.mpr c232
        have c232b1 : (t634 != 0) = false := bne_eq_false_iff_eq.mpr c232
        clear c232
        have H' := Aside0.mk H
        clear H
        have hnb233 := NB590_579.out
        have hnc233 := NB579_590.out
        have hcz234_0 : wr.cell? ⟨gb590, 0, none⟩ = some (.int .i64 x591000_2) := (blk_cell BK590.out 0).trans rfl
        have hcz234_1 : wr.cell? ⟨gb590, 1, none⟩ = some (.int .i64 x591001_2) := (blk_cell BK590.out 1).trans rfl
        have hcz234_2 : wr.cell? ⟨gb590, 2, none⟩ = some (u591002) := (blk_cell BK590.out 2).trans rfl
        have hcz234_3 : wr.cell? ⟨gb590, 3, none⟩ = some (u591003) := (blk_cell BK590.out 3).trans rfl
        have hcz234_4 : wr.cell? ⟨gb590, 4, none⟩ = some (.int .i64 x591004_2) := (blk_cell BK590.out 4).trans rfl
        have hfz234_0 := blk_frozen BK590.out 0
        have hfz234_1 := blk_frozen BK590.out 1
        have hfz234_2 := blk_frozen BK590.out 2
        have hfz234_3 := blk_frozen BK590.out 3
        have hfz234_4 := blk_frozen BK590.out 4
        obtain ⟨Ao235, co235, eo235⟩ := Kd.V_slice HO_591002.out
        subst eo235
        obtain ⟨Ao236, co236, eo236⟩ := Kd.V_slice HO_591003.out
        subst eo236
        go_wp2_with (first | ((with_reducible refine gate_callee (f := 17) rfl ?_); refine goesL_ (some 131) rfl rfl Try.func17 (by kernel_rfl) rfl #[.agg #[.int .i64 x591000_2, .int .i64 x591001_2, .slice Ao235 x591002_2.length co235, .slice Ao236 x591003_2.length co236, .int .i64 x591004_2]] rfl (by (try simp only [List.map_toArray, List.map_cons, List.map_nil]); first | done | rfl | (simp only [List.length_drop, List.length_take]; rfl)) ?_; (with_reducible refine (impl_PairDrain.calls k2 x591000_2 x591001_2 _ _ x591002_2 _ _ x591003_2 x591004_2 t625 t626 t627 t630 t633 t634 _ ?side1 ?side2 ?side3 ?side4 A231.out).mono ?_); (case side1 => repeat (first | exact (Kd.V_reads' HO_591002.out).2.2 | (with_reducible refine Kd.C_alloc ?_ _) | (with_reducible refine Kd.C_drewN ?_ _) | (with_reducible refine Kd.C_drew ?_))); (case side2 => exact (Kd.V_reads' HO_591002.out).2.1); (case side3 => repeat (first | exact (Kd.V_reads' HO_591003.out).2.2 | (with_reducible refine Kd.C_alloc ?_ _) | (with_reducible refine Kd.C_drewN ?_ _) | (with_reducible refine Kd.C_drew ?_))); (case side4 => exact (Kd.V_reads' HO_591003.out).2.1); rintro e w237 ⟨v628, v631, rfl, ho0, ho1, hb⟩; refine ⟨_, rfl, ?_⟩; have n0_ := Aside0.mk (Kd.R_below (by (with_reducible repeat (first | apply Kd.R_alloc | apply Kd.R_drewN | apply Kd.R_drew)); exact HO_10.out) hb); have n1_ := Aside0.mk (Kd.V_mono (Kd.V_told (Kd.V_told (Kd.V_old (by (with_reducible repeat (first | apply Kd.V_alloc | apply Kd.V_drewN | apply Kd.V_drew)); exact HO_580002.out) hb) (Kd.Q_base ho0)) (Kd.Q_base ho1)) (fun _ h_ => h_.1)); have n2_ := Aside0.mk (Kd.V_mono (Kd.V_told (Kd.V_told (Kd.V_old (by (with_reducible repeat (first | apply Kd.V_alloc | apply Kd.V_drewN | apply Kd.V_drew)); exact HO_580003.out) hb) (Kd.Q_base ho0)) (Kd.Q_base ho1)) (fun _ h_ => h_.1)); have n3_ := Aside0.mk (Kd.V_mono (Kd.V_told (Kd.V_told (Kd.V_old (by (with_reducible repeat (first | apply Kd.V_alloc | apply Kd.V_drewN | apply Kd.V_drew)); exact HO_591002.out) hb) (Kd.Q_base ho0)) (Kd.Q_base ho1)) (fun _ h_ => h_.1)); have n4_ := Aside0.mk (Kd.V_mono (Kd.V_told (Kd.V_told (Kd.V_old (by (with_reducible repeat (first | apply Kd.V_alloc | apply Kd.V_drewN | apply Kd.V_drew)); exact HO_591003.out) hb) (Kd.Q_base ho0)) (Kd.Q_base ho1)) (fun _ h_ => h_.1)); have n5_ := Aside0.mk (Kd.Q_lower ho0 (below_size (by repeat (first | (with_reducible first | exact HB.out | apply below_alloc | apply pw_below_drewN | apply below_drew1 | refine below_set ?_ GE579.out | refine below_set ?_ GE590.out) | exact HB.out)))); have n6_ := Aside0.mk (Kd.Q_lower ho1 (below_size (by repeat (first | (with_reducible first | exact HB.out | apply below_alloc | apply pw_below_drewN | apply below_drew1 | refine below_set ?_ GE579.out | refine below_set ?_ GE590.out) | exact HB.out)))); have n7_ := Aside0.mk (blk_below (g := gb579) (o := .cells #[.int .i64 t580, .int .i64 t581, .slice Ao19 t582.length co19, .slice Ao20 t585.length co20, .int .i64 t588] 37 (0, 0)) (by (with_reducible repeat (first | refine blk_drewN ?_ _ | refine blk_drew ?_ | refine blk_alloc ?_ _)); exact BK579.out) hb); have n8_ := Aside0.mk (blk_below (g := gb590) (o := .cells #[.int .i64 x591000_2, .int .i64 x591001_2, .slice Ao235 x591002_2.length co235, .slice Ao236 x591003_2.length co236, .int .i64 x591004_2] 37 (0, 0)) (by (with_reducible repeat (first | refine blk_drewN ?_ _ | refine blk_drew ?_ | refine blk_alloc ?_ _)); exact BK590.out) hb); have n9_ := Aside0.mk (below_step (by repeat (first | (with_reducible first | exact HB.out | apply below_alloc | apply pw_below_drewN | apply below_drew1 | refine below_set ?_ GE579.out | refine below_set ?_ GE590.out) | exact HB.out)) hb); clear HO_10; clear HO_580002; clear HO_580003; clear HO_591002; clear HO_591003; clear BK579; clear BK590; clear HB; have HO_10 := n0_; have HO_580002 := n1_; have HO_580003 := n2_; have HO_591002 := n3_; have HO_591003 := n4_; have HO629 := n5_; have HO632 := n6_; have BK579 := n7_; have BK590 := n8_; have HB := n9_; clear n0_ n1_ n2_ n3_ n4_ n5_ n6_ n7_ n8_ n9_; (try clear hb); (try clear hb2); (try clear hk); (try clear hi); (try clear ho0); (try clear ho1); have hcz238_0 : w237.cell? ⟨gb590, 0, none⟩ = some (.int .i64 x591000_2) := (blk_cell BK590.out 0).trans rfl; have hcz238_1 : w237.cell? ⟨gb590, 1, none⟩ = some (.int .i64 x591001_2) := (blk_cell BK590.out 1).trans rfl; have hcz238_2 : w237.cell? ⟨gb590, 2, none⟩ = some (.slice Ao235 x591002_2.length co235) := (blk_cell BK590.out 2).trans rfl; have hcz238_3 : w237.cell? ⟨gb590, 3, none⟩ = some (.slice Ao236 x591003_2.length co236) := (blk_cell BK590.out 3).trans rfl; have hcz238_4 : w237.cell? ⟨gb590, 4, none⟩ = some (.int .i64 x591004_2) := (blk_cell BK590.out 4).trans rfl; have hfz238_0 := blk_frozen BK590.out 0; have hfz238_1 := blk_frozen BK590.out 1; have hfz238_2 := blk_frozen BK590.out 2; have hfz238_3 := blk_frozen BK590.out 3; have hfz238_4 := blk_frozen BK590.out 4; obtain ⟨Ao239, co239, eo239, _⟩ := Kd.Q_slice HO629.out; subst eo239; obtain ⟨Ao240, co240, eo240, _⟩ := Kd.Q_slice HO632.out; subst eo240))
        go_loopg [21] k2 (fun kq v21 w' => ∃ (x21_3 : Int) (x591000_3 : Int) (x591001_3 : Int) (x591002_3 : List Int) (x591003_3 : List Int) (x591004_3 : Int) (u591002 : Value) (u591003 : Value), v21 = .int .i64 x21_3 ∧ Aside0 (laws_FnCloses.l1 kq x21_3 x591000_3 x591001_3 x591002_3 x591003_3 x591004_3 = some r) ∧ Aside0 (kq ≤ k2) ∧ Aside0 (Kd.V (Kd.int .i64) 3 w' w.heap.size (fun k_ => some k_ ≠ (u591002 : Value).ownBlock ∧ some k_ ≠ (u591003 : Value).ownBlock ∧ k_ ≠ gb579 ∧ k_ ≠ gb590) (.slice Ao19 t582.length co19) t582) ∧ Aside0 (Kd.V (Kd.int .i64) 3 w' w.heap.size (fun k_ => some k_ ≠ (u591002 : Value).ownBlock ∧ some k_ ≠ (u591003 : Value).ownBlock ∧ k_ ≠ gb579 ∧ k_ ≠ gb590) (.slice Ao20 t585.length co20) t585) ∧ Aside0 (Kd.Q (Kd.int .i64) 3 w' w.heap.size (fun k_ => some k_ ≠ (u591003 : Value).ownBlock) u591002 x591002_3) ∧ Aside0 (Kd.Q (Kd.int .i64) 3 w' w.heap.size (fun k_ => some k_ ≠ (u591002 : Value).ownBlock) u591003 x591003_3) ∧ Aside0 (w'.heap[gb579]? = some (.cells #[.int .i64 t580, .int .i64 t581, (.slice Ao19 t582.length co19), (.slice Ao20 t585.length co20), .int .i64 t588] 37 (0, 0))) ∧ Aside0 (w'.heap[gb590]? = some (.cells #[.int .i64 x591000_3, .int .i64 x591001_3, u591002, u591003, .int .i64 x591004_3] 37 (0, 0))) ∧ Aside0 (Below w.heap.size w w'))
        case atStart => exact ⟨(0), (t625), (t626), (t627), (t630), (t633), (.slice Ao239 t627.length co239), (.slice Ao240 t630.length co240), (by first | rfl | (simp; done) | (simp [*]; done)), H', ⟨Nat.le_refl _⟩, ⟨by (with_reducible repeat (first | apply Kd.V_alloc | apply Kd.V_drewN | apply Kd.V_drew)); exact Kd.V_mono (Kd.V_far (p := ⟨gb590, 4, none⟩) (Kd.V_far (p := ⟨gb590, 3, none⟩) (Kd.V_far (p := ⟨gb590, 2, none⟩) (Kd.V_far (p := ⟨gb590, 1, none⟩) (Kd.V_far (p := ⟨gb590, 0, none⟩) (Kd.V_mono HO_580002.out (fun k_ hk => (⟨hk, hk.1.1.2.2⟩ : _ ∧ k_ ≠ gb590))) (fun _ hk => hk.2) (.int .i64 t625)) (fun _ hk => hk.2) (.int .i64 t626)) (fun _ hk => hk.2) (.slice Ao239 t627.length co239)) (fun _ hk => hk.2) (.slice Ao240 t630.length co240)) (fun _ hk => hk.2) (.int .i64 t633)) (fun _ hk => ⟨hk.1.1.2, ⟨hk.1.2, ⟨hk.1.1.1.2.1, hk.1.1.1.2.2⟩⟩⟩)⟩, ⟨by (with_reducible repeat (first | apply Kd.V_alloc | apply Kd.V_drewN | apply Kd.V_drew)); exact Kd.V_mono (Kd.V_far (p := ⟨gb590, 4, none⟩) (Kd.V_far (p := ⟨gb590, 3, none⟩) (Kd.V_far (p := ⟨gb590, 2, none⟩) (Kd.V_far (p := ⟨gb590, 1, none⟩) (Kd.V_far (p := ⟨gb590, 0, none⟩) (Kd.V_mono HO_580003.out (fun k_ hk => (⟨hk, hk.1.1.2.2⟩ : _ ∧ k_ ≠ gb590))) (fun _ hk => hk.2) (.int .i64 t625)) (fun _ hk => hk.2) (.int .i64 t626)) (fun _ hk => hk.2) (.slice Ao239 t627.length co239)) (fun _ hk => hk.2) (.slice Ao240 t630.length co240)) (fun _ hk => hk.2) (.int .i64 t633)) (fun _ hk => ⟨hk.1.1.2, ⟨hk.1.2, ⟨hk.1.1.1.2.1, hk.1.1.1.2.2⟩⟩⟩)⟩, ⟨by (with_reducible repeat (first | apply Kd.Q_alloc | apply Kd.Q_drewN | apply Kd.Q_drew)); exact Kd.Q_mono (Kd.Q_far (p := ⟨gb590, 4, none⟩) (Kd.Q_far (p := ⟨gb590, 3, none⟩) (Kd.Q_far (p := ⟨gb590, 2, none⟩) (Kd.Q_far (p := ⟨gb590, 1, none⟩) (Kd.Q_far (p := ⟨gb590, 0, none⟩) (Kd.Q_types HO629.out BK590.out (by decide)) (fun _ hk => hk.2) (.int .i64 t625)) (fun _ hk => hk.2) (.int .i64 t626)) (fun _ hk => hk.2) (.slice Ao239 t627.length co239)) (fun _ hk => hk.2) (.slice Ao240 t630.length co240)) (fun _ hk => hk.2) (.int .i64 t633)) (fun _ hk => hk.1)⟩, ⟨by (with_reducible repeat (first | apply Kd.Q_alloc | apply Kd.Q_drewN | apply Kd.Q_drew)); exact Kd.Q_mono (Kd.Q_far (p := ⟨gb590, 4, none⟩) (Kd.Q_far (p := ⟨gb590, 3, none⟩) (Kd.Q_far (p := ⟨gb590, 2, none⟩) (Kd.Q_far (p := ⟨gb590, 1, none⟩) (Kd.Q_far (p := ⟨gb590, 0, none⟩) (Kd.Q_types HO632.out BK590.out (by decide)) (fun _ hk => hk.2) (.int .i64 t625)) (fun _ hk => hk.2) (.int .i64 t626)) (fun _ hk => hk.2) (.slice Ao239 t627.length co239)) (fun _ hk => hk.2) (.slice Ao240 t630.length co240)) (fun _ hk => hk.2) (.int .i64 t633)) (fun _ hk => hk.1)⟩, ⟨by (with_reducible repeat (first | refine blk_drewN ?_ _ | refine blk_drew ?_ | refine blk_alloc ?_ _)); refine blk_far ?_ NB579_590.out _; (with_reducible repeat (first | refine blk_drewN ?_ _ | refine blk_drew ?_ | refine blk_alloc ?_ _)); refine blk_far ?_ NB579_590.out _; (with_reducible repeat (first | refine blk_drewN ?_ _ | refine blk_drew ?_ | refine blk_alloc ?_ _)); refine blk_far ?_ NB579_590.out _; (with_reducible repeat (first | refine blk_drewN ?_ _ | refine blk_drew ?_ | refine blk_alloc ?_ _)); refine blk_far ?_ NB579_590.out _; (with_reducible repeat (first | refine blk_drewN ?_ _ | refine blk_drew ?_ | refine blk_alloc ?_ _)); refine blk_far ?_ NB579_590.out _; (with_reducible repeat (first | refine blk_drewN ?_ _ | refine blk_drew ?_ | refine blk_alloc ?_ _)); exact BK579.out⟩, ⟨by (with_reducible repeat (first | refine blk_drewN ?_ _ | refine blk_drew ?_ | refine blk_alloc ?_ _)); refine blk_put (cs := #[.int .i64 t625, .int .i64 t626, .slice Ao239 t627.length co239, .slice Ao240 t630.length co240, .int .i64 x591004_2]) ?_ 4 _ rfl; (with_reducible repeat (first | refine blk_drewN ?_ _ | refine blk_drew ?_ | refine blk_alloc ?_ _)); refine blk_put (cs := #[.int .i64 t625, .int .i64 t626, .slice Ao239 t627.length co239, .slice Ao236 x591003_2.length co236, .int .i64 x591004_2]) ?_ 3 _ rfl; (with_reducible repeat (first | refine blk_drewN ?_ _ | refine blk_drew ?_ | refine blk_alloc ?_ _)); refine blk_put (cs := #[.int .i64 t625, .int .i64 t626, .slice Ao235 x591002_2.length co235, .slice Ao236 x591003_2.length co236, .int .i64 x591004_2]) ?_ 2 _ rfl; (with_reducible repeat (first | refine blk_drewN ?_ _ | refine blk_drew ?_ | refine blk_alloc ?_ _)); refine blk_put (cs := #[.int .i64 t625, .int .i64 x591001_2, .slice Ao235 x591002_2.length co235, .slice Ao236 x591003_2.length co236, .int .i64 x591004_2]) ?_ 1 _ rfl; (with_reducible repeat (first | refine blk_drewN ?_ _ | refine blk_drew ?_ | refine blk_alloc ?_ _)); refine blk_put (cs := #[.int .i64 x591000_2, .int .i64 x591001_2, .slice Ao235 x591002_2.length co235, .slice Ao236 x591003_2.length co236, .int .i64 x591004_2]) ?_ 0 _ rfl; (with_reducible repeat (first | refine blk_drewN ?_ _ | refine blk_drew ?_ | refine blk_alloc ?_ _)); exact BK590.out⟩, ⟨by repeat (first | (with_reducible first | exact HB.out | apply below_alloc | apply pw_below_drewN | apply below_drew1 | refine below_set ?_ GE579.out | refine below_set ?_ GE590.out) | exact HB.out)⟩⟩
        case round =>
         clear H'
         try clear c1
         try clear c2
         try clear p2
         try clear c3
         try clear c4
         try clear c4b0
         try clear c4b1
         try clear q4
         try clear c5
         try clear p5
         try clear q5
         try clear hx5
         try clear hf5
         try clear c6
         try clear p6
         try clear c7
         try clear c8
         try clear c9
         try clear c10
         try clear c11
         try clear c12
         try clear c13
         try clear c14
         try clear c15
         try clear c16
         try clear c17
         try clear c18
         try clear c19
         try clear c20
         try clear c21
         try clear c22
         try clear c23
         try clear c26
         try clear c26b0
         try clear c30
         try clear c31
         try clear c33
         try clear c33b0
         try clear c34
         try clear c35
         try clear c38
         try clear c38b0
         try clear c41
         try clear c42
         try clear c42b0
         try clear c43
         try clear c43b0
         try clear q44
         try clear c45
         try clear c46
         try clear c47
         try clear p50
         try clear q50
         try clear hx50
         try clear hf50
         try clear c51
         try clear c52
         try clear p59
         try clear q59
         try clear hx59
         try clear c61
         try clear c61b0
         try clear c61b1
         try clear c62
         try clear c62b0
         try clear c62b1
         try clear c63
         try clear c63b0
         try clear c63b1
         try clear c64
         try clear c64b0
         try clear c64b1
         try clear p64
         try clear c66
         try clear c67
         try clear c68
         try clear c70
         try clear c76
         try clear c77
         try clear c78
         try clear c86
         try clear c87
         try clear c88
         try clear c89
         try clear c97
         try clear c98
         try clear c100
         try clear c106
         try clear c107
         try clear c108
         try clear c116
         try clear c117
         try clear c118
         try clear c119
         try clear c125
         try clear c126
         try clear c128
         try clear c134
         try clear c135
         try clear c136
         try clear c144
         try clear c145
         try clear c146
         try clear c147
         try clear c152
         try clear c153
         try clear c155
         try clear c161
         try clear c162
         try clear c163
         try clear c171
         try clear c172
         try clear c173
         try clear c174
         try clear c179
         try clear c180
         try clear c182
         try clear c188
         try clear c189
         try clear c190
         try clear c198
         try clear c199
         try clear c200
         try clear c201
         try clear c205
         try clear c206
         try clear c208
         try clear c214
         try clear c215
         try clear c216
         try clear c224
         try clear c225
         try clear c226
         try clear c227
         try clear c232
         try clear c232b0
         try clear c232b1
         try clear c233
         try clear hcz101_0
         try clear hcz101_1
         try clear hcz109_0
         try clear hcz109_1
         try clear hcz109_2
         try clear hcz109_3
         try clear hcz109_4
         try clear hcz112_0
         try clear hcz112_1
         try clear hcz112_2
         try clear hcz112_3
         try clear hcz112_4
         try clear hcz113_0
         try clear hcz113_1
         try clear hcz120_0
         try clear hcz120_1
         try clear hcz120_2
         try clear hcz120_3
         try clear hcz120_4
         try clear hcz123_0
         try clear hcz123_1
         try clear hcz123_2
         try clear hcz123_3
         try clear hcz123_4
         try clear hcz127_0
         try clear hcz127_1
         try clear hcz127_2
         try clear hcz127_3
         try clear hcz127_4
         try clear hcz129_0
         try clear hcz129_1
         try clear hcz137_0
         try clear hcz137_1
         try clear hcz137_2
         try clear hcz137_3
         try clear hcz137_4
         try clear hcz140_0
         try clear hcz140_1
         try clear hcz140_2
         try clear hcz140_3
         try clear hcz140_4
         try clear hcz141_0
         try clear hcz141_1
         try clear hcz148_0
         try clear hcz148_1
         try clear hcz148_2
         try clear hcz148_3
         try clear hcz148_4
         try clear hcz14_0
         try clear hcz14_1
         try clear hcz14_2
         try clear hcz14_3
         try clear hcz14_4
         try clear hcz151_0
         try clear hcz151_1
         try clear hcz151_2
         try clear hcz151_3
         try clear hcz151_4
         try clear hcz154_0
         try clear hcz154_1
         try clear hcz154_2
         try clear hcz154_3
         try clear hcz154_4
         try clear hcz156_0
         try clear hcz156_1
         try clear hcz164_0
         try clear hcz164_1
         try clear hcz164_2
         try clear hcz164_3
         try clear hcz164_4
         try clear hcz167_0
         try clear hcz167_1
         try clear hcz167_2
         try clear hcz167_3
         try clear hcz167_4
         try clear hcz168_0
         try clear hcz168_1
         try clear hcz175_0
         try clear hcz175_1
         try clear hcz175_2
         try clear hcz175_3
         try clear hcz175_4
         try clear hcz178_0
         try clear hcz178_1
         try clear hcz178_2
         try clear hcz178_3
         try clear hcz178_4
         try clear hcz181_0
         try clear hcz181_1
         try clear hcz181_2
         try clear hcz181_3
         try clear hcz181_4
         try clear hcz183_0
         try clear hcz183_1
         try clear hcz18_0
         try clear hcz18_1
         try clear hcz18_2
         try clear hcz18_3
         try clear hcz18_4
         try clear hcz191_0
         try clear hcz191_1
         try clear hcz191_2
         try clear hcz191_3
         try clear hcz191_4
         try clear hcz194_0
         try clear hcz194_1
         try clear hcz194_2
         try clear hcz194_3
         try clear hcz194_4
         try clear hcz195_0
         try clear hcz195_1
         try clear hcz202_0
         try clear hcz202_1
         try clear hcz202_2
         try clear hcz202_3
         try clear hcz202_4
         try clear hcz207_0
         try clear hcz207_1
         try clear hcz207_2
         try clear hcz207_3
         try clear hcz207_4
         try clear hcz209_0
         try clear hcz209_1
         try clear hcz217_0
         try clear hcz217_1
         try clear hcz217_2
         try clear hcz217_3
         try clear hcz217_4
         try clear hcz220_0
         try clear hcz220_1
         try clear hcz220_2
         try clear hcz220_3
         try clear hcz220_4
         try clear hcz221_0
         try clear hcz221_1
         try clear hcz228_0
         try clear hcz228_1
         try clear hcz228_2
         try clear hcz228_3
         try clear hcz228_4
         try clear hcz234_0
         try clear hcz234_1
         try clear hcz234_2
         try clear hcz234_3
         try clear hcz234_4
         try clear hcz238_0
         try clear hcz238_1
         try clear hcz238_2
         try clear hcz238_3
         try clear hcz238_4
         try clear hcz23_0
         try clear hcz23_1
         try clear hcz23_2
         try clear hcz23_3
         try clear hcz23_4
         try clear hcz32_0
         try clear hcz32_1
         try clear hcz36_0
         try clear hcz36_1
         try clear hcz48_0
         try clear hcz48_1
         try clear hcz53_0
         try clear hcz53_1
         try clear hcz55_0
         try clear hcz55_1
         try clear hcz69_0
         try clear hcz69_1
         try clear hcz69_2
         try clear hcz69_3
         try clear hcz69_4
         try clear hcz71_0
         try clear hcz71_1
         try clear hcz79_0
         try clear hcz79_1
         try clear hcz79_2
         try clear hcz79_3
         try clear hcz79_4
         try clear hcz82_0
         try clear hcz82_1
         try clear hcz82_2
         try clear hcz82_3
         try clear hcz82_4
         try clear hcz83_0
         try clear hcz83_1
         try clear hcz90_0
         try clear hcz90_1
         try clear hcz90_2
         try clear hcz90_3
         try clear hcz90_4
         try clear hcz93_0
         try clear hcz93_1
         try clear hcz93_2
         try clear hcz93_3
         try clear hcz93_4
         try clear hcz95_0
         try clear hcz95_1
         try clear hcz95_2
         try clear hcz95_3
         try clear hcz95_4
         try clear hcz96_0
         try clear hcz96_1
         try clear hcz96_2
         try clear hcz96_3
         try clear hcz96_4
         try clear hcz99_0
         try clear hcz99_1
         try clear hcz99_2
         try clear hcz99_3
         try clear hcz99_4
         try clear hfz101_0
         try clear hfz101_1
         try clear hfz109_0
         try clear hfz109_1
         try clear hfz109_2
         try clear hfz109_3
         try clear hfz109_4
         try clear hfz112_0
         try clear hfz112_1
         try clear hfz112_2
         try clear hfz112_3
         try clear hfz112_4
         try clear hfz113_0
         try clear hfz113_1
         try clear hfz120_0
         try clear hfz120_1
         try clear hfz120_2
         try clear hfz120_3
         try clear hfz120_4
         try clear hfz123_0
         try clear hfz123_1
         try clear hfz123_2
         try clear hfz123_3
         try clear hfz123_4
         try clear hfz127_0
         try clear hfz127_1
         try clear hfz127_2
         try clear hfz127_3
         try clear hfz127_4
         try clear hfz129_0
         try clear hfz129_1
         try clear hfz137_0
         try clear hfz137_1
         try clear hfz137_2
         try clear hfz137_3
         try clear hfz137_4
         try clear hfz140_0
         try clear hfz140_1
         try clear hfz140_2
         try clear hfz140_3
         try clear hfz140_4
         try clear hfz141_0
         try clear hfz141_1
         try clear hfz148_0
         try clear hfz148_1
         try clear hfz148_2
         try clear hfz148_3
         try clear hfz148_4
         try clear hfz14_0
         try clear hfz14_1
         try clear hfz14_2
         try clear hfz14_3
         try clear hfz14_4
         try clear hfz151_0
         try clear hfz151_1
         try clear hfz151_2
         try clear hfz151_3
         try clear hfz151_4
         try clear hfz154_0
         try clear hfz154_1
         try clear hfz154_2
         try clear hfz154_3
         try clear hfz154_4
         try clear hfz156_0
         try clear hfz156_1
         try clear hfz164_0
         try clear hfz164_1
         try clear hfz164_2
         try clear hfz164_3
         try clear hfz164_4
         try clear hfz167_0
         try clear hfz167_1
         try clear hfz167_2
         try clear hfz167_3
         try clear hfz167_4
         try clear hfz168_0
         try clear hfz168_1
         try clear hfz175_0
         try clear hfz175_1
         try clear hfz175_2
         try clear hfz175_3
         try clear hfz175_4
         try clear hfz178_0
         try clear hfz178_1
         try clear hfz178_2
         try clear hfz178_3
         try clear hfz178_4
         try clear hfz181_0
         try clear hfz181_1
         try clear hfz181_2
         try clear hfz181_3
         try clear hfz181_4
         try clear hfz183_0
         try clear hfz183_1
         try clear hfz18_0
         try clear hfz18_1
         try clear hfz18_2
         try clear hfz18_3
         try clear hfz18_4
         try clear hfz191_0
         try clear hfz191_1
         try clear hfz191_2
         try clear hfz191_3
         try clear hfz191_4
         try clear hfz194_0
         try clear hfz194_1
         try clear hfz194_2
         try clear hfz194_3
         try clear hfz194_4
         try clear hfz195_0
         try clear hfz195_1
         try clear hfz202_0
         try clear hfz202_1
         try clear hfz202_2
         try clear hfz202_3
         try clear hfz202_4
         try clear hfz207_0
         try clear hfz207_1
         try clear hfz207_2
         try clear hfz207_3
         try clear hfz207_4
         try clear hfz209_0
         try clear hfz209_1
         try clear hfz217_0
         try clear hfz217_1
         try clear hfz217_2
         try clear hfz217_3
         try clear hfz217_4
         try clear hfz220_0
         try clear hfz220_1
         try clear hfz220_2
         try clear hfz220_3
         try clear hfz220_4
         try clear hfz221_0
         try clear hfz221_1
         try clear hfz228_0
         try clear hfz228_1
         try clear hfz228_2
         try clear hfz228_3
         try clear hfz228_4
         try clear hfz234_0
         try clear hfz234_1
         try clear hfz234_2
         try clear hfz234_3
         try clear hfz234_4
         try clear hfz238_0
         try clear hfz238_1
         try clear hfz238_2
         try clear hfz238_3
         try clear hfz238_4
         try clear hfz23_0
         try clear hfz23_1
         try clear hfz23_2
         try clear hfz23_3
         try clear hfz23_4
         try clear hfz32_0
         try clear hfz32_1
         try clear hfz36_0
         try clear hfz36_1
         try clear hfz48_0
         try clear hfz48_1
         try clear hfz53_0
         try clear hfz53_1
         try clear hfz55_0
         try clear hfz55_1
         try clear hfz69_0
         try clear hfz69_1
         try clear hfz69_2
         try clear hfz69_3
         try clear hfz69_4
         try clear hfz71_0
         try clear hfz71_1
         try clear hfz79_0
         try clear hfz79_1
         try clear hfz79_2
         try clear hfz79_3
         try clear hfz79_4
         try clear hfz82_0
         try clear hfz82_1
         try clear hfz82_2
         try clear hfz82_3
         try clear hfz82_4
         try clear hfz83_0
         try clear hfz83_1
         try clear hfz90_0
         try clear hfz90_1
         try clear hfz90_2
         try clear hfz90_3
         try clear hfz90_4
         try clear hfz93_0
         try clear hfz93_1
         try clear hfz93_2
         try clear hfz93_3
         try clear hfz93_4
         try clear hfz95_0
         try clear hfz95_1
         try clear hfz95_2
         try clear hfz95_3
         try clear hfz95_4
         try clear hfz96_0
         try clear hfz96_1
         try clear hfz96_2
         try clear hfz96_3
         try clear hfz96_4
         try clear hfz99_0
         try clear hfz99_1
         try clear hfz99_2
         try clear hfz99_3
         try clear hfz99_4
         try clear hx50_0
         try clear hx598_0
         try clear p2
         try clear p5
         try clear p50
         try clear p598
         try clear p6
         try clear q4
         try clear q44
         try clear q5
         try clear q50
         try clear q598
         obtain ⟨x21_3, x591000_3, x591001_3, x591002_3, x591003_3, x591004_3, u591002, u591003, rfl, HA, HK3, HO_580002, HO_580003, HO_591002, HO_591003, BK579, BK590, HB⟩ := hrel
         cases gk with
         | zero => exact absurd HA.out (by simp [laws_FnCloses.l1])
         | succ k3 =>
          have H := HA.out
          clear HA
          simp only [laws_FnCloses.l1] at H
          by_cases c241 : x21_3 < 2
          ·rw [if_pos c241] at H
           have c241b0 : decide (x21_3 < 2) = true := decide_eq_true c241
           clear c241
           replace H := Option.bind_eq_some_iff.mp H
           obtain ⟨⟨t635, t636, t637, t640, t643, t644, t645⟩, A2420, H⟩ := H
           replace H : (if t645 = 0 then (laws_FnCloses.l1 k3 (wrap64 (x21_3 + 1)) t635 t636 t637 t640 t643) else (some false)) = some r := H
           have A242 := Aside0.mk A2420
           clear A2420
           by_cases c243 : t645 = 0
           ·rw [if_pos c243] at H
            have c243b0 : (t645 == 0) = true := beq_iff_eq.mpr c243
            have c243b1 : (t645 != 0) = false := bne_eq_false_iff_eq.mpr c243
            clear c243
            have H' := Aside0.mk H
            clear H
            have hnb244 := NB590_579.out
            have hnc244 := NB579_590.out
            have hcz245_0 : wr.cell? ⟨gb590, 0, none⟩ = some (.int .i64 x591000_3) := (blk_cell BK590.out 0).trans rfl
            have hcz245_1 : wr.cell? ⟨gb590, 1, none⟩ = some (.int .i64 x591001_3) := (blk_cell BK590.out 1).trans rfl
            have hcz245_2 : wr.cell? ⟨gb590, 2, none⟩ = some (u591002) := (blk_cell BK590.out 2).trans rfl
            have hcz245_3 : wr.cell? ⟨gb590, 3, none⟩ = some (u591003) := (blk_cell BK590.out 3).trans rfl
            have hcz245_4 : wr.cell? ⟨gb590, 4, none⟩ = some (.int .i64 x591004_3) := (blk_cell BK590.out 4).trans rfl
            have hfz245_0 := blk_frozen BK590.out 0
            have hfz245_1 := blk_frozen BK590.out 1
            have hfz245_2 := blk_frozen BK590.out 2
            have hfz245_3 := blk_frozen BK590.out 3
            have hfz245_4 := blk_frozen BK590.out 4
            obtain ⟨Ao246, co246, eo246, _⟩ := Kd.Q_slice HO_591002.out
            subst eo246
            obtain ⟨Ao247, co247, eo247, _⟩ := Kd.Q_slice HO_591003.out
            subst eo247
            go_wp2_with (first | ((with_reducible refine gate_callee (f := 19) rfl ?_); refine goesL_ (some 144) rfl rfl Try.func19 (by kernel_rfl) rfl #[.agg #[.int .i64 x591000_3, .int .i64 x591001_3, .slice Ao246 x591002_3.length co246, .slice Ao247 x591003_3.length co247, .int .i64 x591004_3], .agg #[.int .i64 x21_3, .int .i64 4]] rfl (by (try simp only [List.map_toArray, List.map_cons, List.map_nil]); first | done | rfl | (simp only [List.length_drop, List.length_take]; rfl)) ?_; (with_reducible refine (impl_PairStep.calls k3 x591000_3 x591001_3 _ _ x591002_3 _ _ x591003_3 x591004_3 x21_3 4 t635 t636 t637 t640 t643 t644 t645 _ ?side1 ?side2 ?side3 ?side4 A242.out).mono ?_); (case side1 => repeat (first | exact (Kd.Q_reads' HO_591002.out).2.2 | (with_reducible refine Kd.C_alloc ?_ _) | (with_reducible refine Kd.C_drewN ?_ _) | (with_reducible refine Kd.C_drew ?_))); (case side2 => exact (Kd.Q_reads' HO_591002.out).2.1); (case side3 => repeat (first | exact (Kd.Q_reads' HO_591003.out).2.2 | (with_reducible refine Kd.C_alloc ?_ _) | (with_reducible refine Kd.C_drewN ?_ _) | (with_reducible refine Kd.C_drew ?_))); (case side4 => exact (Kd.Q_reads' HO_591003.out).2.1); rintro e w248 ⟨v638, v641, rfl, ho0, ho1, hb⟩; refine ⟨_, rfl, ?_⟩; have n0_ := Aside0.mk (Kd.V_mono (Kd.V_told (Kd.V_told (Kd.V_old (by (with_reducible repeat (first | apply Kd.V_alloc | apply Kd.V_drewN | apply Kd.V_drew)); exact HO_580002.out) hb) (Kd.Q_base ho0)) (Kd.Q_base ho1)) (fun _ h_ => h_.1)); have n1_ := Aside0.mk (Kd.V_mono (Kd.V_told (Kd.V_told (Kd.V_old (by (with_reducible repeat (first | apply Kd.V_alloc | apply Kd.V_drewN | apply Kd.V_drew)); exact HO_580003.out) hb) (Kd.Q_base ho0)) (Kd.Q_base ho1)) (fun _ h_ => h_.1)); have n2_ := Aside0.mk (Kd.Q_mono (Kd.Q_told (Kd.Q_told (Kd.Q_old (by (with_reducible repeat (first | apply Kd.Q_alloc | apply Kd.Q_drewN | apply Kd.Q_drew)); exact HO_591002.out) hb) (Kd.Q_base ho0)) (Kd.Q_base ho1)) (fun _ h_ => h_.1)); have n3_ := Aside0.mk (Kd.Q_mono (Kd.Q_told (Kd.Q_told (Kd.Q_old (by (with_reducible repeat (first | apply Kd.Q_alloc | apply Kd.Q_drewN | apply Kd.Q_drew)); exact HO_591003.out) hb) (Kd.Q_base ho0)) (Kd.Q_base ho1)) (fun _ h_ => h_.1)); have n4_ := Aside0.mk (Kd.Q_lower (Kd.Q_new' (Kd.Q_new' ho0 (Kd.Q_lt (by (with_reducible repeat (first | apply Kd.Q_alloc | apply Kd.Q_drewN | apply Kd.Q_drew)); exact HO_591002.out))) (Kd.Q_lt (by (with_reducible repeat (first | apply Kd.Q_alloc | apply Kd.Q_drewN | apply Kd.Q_drew)); exact HO_591003.out))) (below_size (by repeat (first | (with_reducible first | exact HB.out | apply below_alloc | apply pw_below_drewN | apply below_drew1 | refine below_set ?_ GE579.out | refine below_set ?_ GE590.out) | exact HB.out)))); have n5_ := Aside0.mk (Kd.Q_lower (Kd.Q_new' (Kd.Q_new' ho1 (Kd.Q_lt (by (with_reducible repeat (first | apply Kd.Q_alloc | apply Kd.Q_drewN | apply Kd.Q_drew)); exact HO_591002.out))) (Kd.Q_lt (by (with_reducible repeat (first | apply Kd.Q_alloc | apply Kd.Q_drewN | apply Kd.Q_drew)); exact HO_591003.out))) (below_size (by repeat (first | (with_reducible first | exact HB.out | apply below_alloc | apply pw_below_drewN | apply below_drew1 | refine below_set ?_ GE579.out | refine below_set ?_ GE590.out) | exact HB.out)))); have n6_ := Aside0.mk (blk_below (g := gb579) (o := .cells #[.int .i64 t580, .int .i64 t581, .slice Ao19 t582.length co19, .slice Ao20 t585.length co20, .int .i64 t588] 37 (0, 0)) (by (with_reducible repeat (first | refine blk_drewN ?_ _ | refine blk_drew ?_ | refine blk_alloc ?_ _)); exact BK579.out) hb); have n7_ := Aside0.mk (blk_below (g := gb590) (o := .cells #[.int .i64 x591000_3, .int .i64 x591001_3, .slice Ao246 x591002_3.length co246, .slice Ao247 x591003_3.length co247, .int .i64 x591004_3] 37 (0, 0)) (by (with_reducible repeat (first | refine blk_drewN ?_ _ | refine blk_drew ?_ | refine blk_alloc ?_ _)); exact BK590.out) hb); have n8_ := Aside0.mk (below_step (by repeat (first | (with_reducible first | exact HB.out | apply below_alloc | apply pw_below_drewN | apply below_drew1 | refine below_set ?_ GE579.out | refine below_set ?_ GE590.out) | exact HB.out)) hb); clear HO_580002; clear HO_580003; clear HO_591002; clear HO_591003; clear BK579; clear BK590; clear HB; have HO_580002 := n0_; have HO_580003 := n1_; have HO_591002 := n2_; have HO_591003 := n3_; have HO639 := n4_; have HO642 := n5_; have BK579 := n6_; have BK590 := n7_; have HB := n8_; clear n0_ n1_ n2_ n3_ n4_ n5_ n6_ n7_ n8_; (try clear hb); (try clear hb2); (try clear hk); (try clear hi); (try clear ho0); (try clear ho1)) | ((with_reducible refine gate_dst (N := 22) rfl ?_); (try (refine gate_guard (by rfl) ?_; dsimp only)); refine box_event ?hg (N := 22) ?hd (cs := #[.int .i64 0, .int .i64 0, .slice none 0 0, .slice none 0 0, .int .i64 0]) (t := 37) ?hr ?_; (case hd => rfl); (case hg => rfl); (case hr => first | (go_simp; done) | (go_simp; rfl)); intro gb646 hg w249 hbox hb; have n0_ := Aside0.mk (Kd.V_below (Kd.V_elderB (by (with_reducible repeat (first | apply Kd.V_alloc | apply Kd.V_drewN | apply Kd.V_drew)); exact HO_580002.out) gb646 (Nat.le_of_eq hg.symm)) hb); have n1_ := Aside0.mk (Kd.V_below (Kd.V_elderB (by (with_reducible repeat (first | apply Kd.V_alloc | apply Kd.V_drewN | apply Kd.V_drew)); exact HO_580003.out) gb646 (Nat.le_of_eq hg.symm)) hb); have n2_ := Aside0.mk (Kd.Q_below (by (with_reducible repeat (first | apply Kd.Q_alloc | apply Kd.Q_drewN | apply Kd.Q_drew)); exact HO_591002.out) hb); have n3_ := Aside0.mk (Kd.Q_below (by (with_reducible repeat (first | apply Kd.Q_alloc | apply Kd.Q_drewN | apply Kd.Q_drew)); exact HO_591003.out) hb); have n4_ := Aside0.mk (Kd.Q_below (by (with_reducible repeat (first | apply Kd.Q_alloc | apply Kd.Q_drewN | apply Kd.Q_drew)); exact HO639.out) hb); have n5_ := Aside0.mk (Kd.Q_below (by (with_reducible repeat (first | apply Kd.Q_alloc | apply Kd.Q_drewN | apply Kd.Q_drew)); exact HO642.out) hb); have n6_ := Aside0.mk (blk_below (g := gb579) (o := .cells #[.int .i64 t580, .int .i64 t581, .slice Ao19 t582.length co19, .slice Ao20 t585.length co20, .int .i64 t588] 37 (0, 0)) (by (with_reducible repeat (first | refine blk_drewN ?_ _ | refine blk_drew ?_ | refine blk_alloc ?_ _)); exact BK579.out) hb); have n7_ := Aside0.mk (blk_below (g := gb590) (o := .cells #[.int .i64 x591000_3, .int .i64 x591001_3, .slice Ao246 x591002_3.length co246, .slice Ao247 x591003_3.length co247, .int .i64 x591004_3] 37 (0, 0)) (by (with_reducible repeat (first | refine blk_drewN ?_ _ | refine blk_drew ?_ | refine blk_alloc ?_ _)); exact BK590.out) hb); have n8_ := Aside0.mk (below_step (by repeat (first | (with_reducible first | exact HB.out | apply below_alloc | apply pw_below_drewN | apply below_drew1 | refine below_set ?_ GE579.out | refine below_set ?_ GE590.out) | exact HB.out)) hb); have n9_ := Aside0.mk (hbox); have n10_ := Aside0.mk ((by rw [hg]; exact (below_size (by repeat (first | (with_reducible first | exact HB.out | apply below_alloc | apply pw_below_drewN | apply below_drew1 | refine below_set ?_ GE579.out | refine below_set ?_ GE590.out) | exact HB.out))) : w.heap.size ≤ gb646)); have n11_ := Aside0.mk ((by rw [hg]; exact (below_size (by repeat (first | (with_reducible first | exact HB.out | apply below_alloc | apply pw_below_drewN | apply below_drew1 | refine below_set ?_ GE579.out | refine below_set ?_ GE590.out) | exact HB.out))) : w.heap.size ≤ gb646)); have n12_ := Aside0.mk ((by rw [hg]; exact Nat.ne_of_lt (blk_lt (g := gb579) (o := .cells #[.int .i64 t580, .int .i64 t581, .slice Ao19 t582.length co19, .slice Ao20 t585.length co20, .int .i64 t588] 37 (0, 0)) (by (with_reducible repeat (first | refine blk_drewN ?_ _ | refine blk_drew ?_ | refine blk_alloc ?_ _)); exact BK579.out)) : gb579 ≠ gb646)); have n13_ := Aside0.mk ((by rw [hg]; exact Nat.ne_of_gt (blk_lt (g := gb579) (o := .cells #[.int .i64 t580, .int .i64 t581, .slice Ao19 t582.length co19, .slice Ao20 t585.length co20, .int .i64 t588] 37 (0, 0)) (by (with_reducible repeat (first | refine blk_drewN ?_ _ | refine blk_drew ?_ | refine blk_alloc ?_ _)); exact BK579.out)) : gb646 ≠ gb579)); have n14_ := Aside0.mk ((by rw [hg]; exact Nat.ne_of_lt (blk_lt (g := gb590) (o := .cells #[.int .i64 x591000_3, .int .i64 x591001_3, .slice Ao246 x591002_3.length co246, .slice Ao247 x591003_3.length co247, .int .i64 x591004_3] 37 (0, 0)) (by (with_reducible repeat (first | refine blk_drewN ?_ _ | refine blk_drew ?_ | refine blk_alloc ?_ _)); exact BK590.out)) : gb590 ≠ gb646)); have n15_ := Aside0.mk ((by rw [hg]; exact Nat.ne_of_gt (blk_lt (g := gb590) (o := .cells #[.int .i64 x591000_3, .int .i64 x591001_3, .slice Ao246 x591002_3.length co246, .slice Ao247 x591003_3.length co247, .int .i64 x591004_3] 37 (0, 0)) (by (with_reducible repeat (first | refine blk_drewN ?_ _ | refine blk_drew ?_ | refine blk_alloc ?_ _)); exact BK590.out)) : gb646 ≠ gb590)); clear HO_580002; clear HO_580003; clear HO_591002; clear HO_591003; clear HO639; clear HO642; clear BK579; clear BK590; clear HB; have HO_580002 := n0_; have HO_580003 := n1_; have HO_591002 := n2_; have HO_591003 := n3_; have HO639 := n4_; have HO642 := n5_; have BK579 := n6_; have BK590 := n7_; have HB := n8_; have BK646 := n9_; have GW646 := n10_; have GE646 := n11_; have NB579_646 := n12_; have NB646_579 := n13_; have NB590_646 := n14_; have NB646_590 := n15_; clear n0_ n1_ n2_ n3_ n4_ n5_ n6_ n7_ n8_ n9_ n10_ n11_ n12_ n13_ n14_ n15_; clear hb hbox hg; have hnb250 := NB646_579.out; have hnc250 := NB579_646.out; have hnb251 := NB646_590.out; have hnc251 := NB590_646.out; have hcz252_0 : w249.cell? ⟨gb646, 0, none⟩ = some (.int .i64 0) := (blk_cell BK646.out 0).trans rfl; have hcz252_1 : w249.cell? ⟨gb646, 1, none⟩ = some (.int .i64 0) := (blk_cell BK646.out 1).trans rfl; have hcz252_2 : w249.cell? ⟨gb646, 2, none⟩ = some (.slice none 0 0) := (blk_cell BK646.out 2).trans rfl; have hcz252_3 : w249.cell? ⟨gb646, 3, none⟩ = some (.slice none 0 0) := (blk_cell BK646.out 3).trans rfl; have hcz252_4 : w249.cell? ⟨gb646, 4, none⟩ = some (.int .i64 0) := (blk_cell BK646.out 4).trans rfl; have hfz252_0 := blk_frozen BK646.out 0; have hfz252_1 := blk_frozen BK646.out 1; have hfz252_2 := blk_frozen BK646.out 2; have hfz252_3 := blk_frozen BK646.out 3; have hfz252_4 := blk_frozen BK646.out 4; obtain ⟨Ao253, co253, eo253, _⟩ := Kd.Q_slice HO639.out; subst eo253; obtain ⟨Ao254, co254, eo254, _⟩ := Kd.Q_slice HO642.out; subst eo254; have hcz255_0 : w249.cell? ⟨gb590, 0, none⟩ = some (.int .i64 x591000_3) := (blk_cell BK590.out 0).trans rfl; have hcz255_1 : w249.cell? ⟨gb590, 1, none⟩ = some (.int .i64 x591001_3) := (blk_cell BK590.out 1).trans rfl; have hcz255_2 : w249.cell? ⟨gb590, 2, none⟩ = some (.slice Ao246 x591002_3.length co246) := (blk_cell BK590.out 2).trans rfl; have hcz255_3 : w249.cell? ⟨gb590, 3, none⟩ = some (.slice Ao247 x591003_3.length co247) := (blk_cell BK590.out 3).trans rfl; have hcz255_4 : w249.cell? ⟨gb590, 4, none⟩ = some (.int .i64 x591004_3) := (blk_cell BK590.out 4).trans rfl; have hfz255_0 := blk_frozen BK590.out 0; have hfz255_1 := blk_frozen BK590.out 1; have hfz255_2 := blk_frozen BK590.out 2; have hfz255_3 := blk_frozen BK590.out 3; have hfz255_4 := blk_frozen BK590.out 4))
            go_roundg k3
            case measure => have := HJ2.out; have := HK2.out; have := HK3.out; omega
            case rel => exact ⟨(wrap64 (x21_3 + 1)), (t635), (t636), (t637), (t640), (t643), (.slice Ao253 t637.length co253), (.slice Ao254 t640.length co254), (by first | rfl | (simp; done) | (simp [*]; done)), H', ⟨by have := HJ2.out; have := HK2.out; have := HK3.out; omega⟩, ⟨by (with_reducible repeat (first | apply Kd.V_alloc | apply Kd.V_drewN | apply Kd.V_drew)); exact Kd.V_mono (Kd.V_far (p := ⟨gb590, 4, none⟩) (Kd.V_far (p := ⟨gb590, 3, none⟩) (Kd.V_far (p := ⟨gb590, 2, none⟩) (Kd.V_far (p := ⟨gb590, 1, none⟩) (Kd.V_far (p := ⟨gb590, 0, none⟩) (Kd.V_far (p := ⟨gb646, 4, none⟩) (Kd.V_far (p := ⟨gb646, 3, none⟩) (Kd.V_far (p := ⟨gb646, 2, none⟩) (Kd.V_far (p := ⟨gb646, 1, none⟩) (Kd.V_far (p := ⟨gb646, 0, none⟩) (Kd.V_mono (Kd.V_mono HO_580002.out (fun k_ hk => (⟨hk, hk.2⟩ : _ ∧ k_ ≠ gb646))) (fun k_ hk => (⟨hk, hk.1.1.1.1.2.2.2⟩ : _ ∧ k_ ≠ gb590))) (fun _ hk => hk.1.2) (.int .i64 t635)) (fun _ hk => hk.1.2) (.int .i64 t636)) (fun _ hk => hk.1.2) (.slice Ao253 t637.length co253)) (fun _ hk => hk.1.2) (.slice Ao254 t640.length co254)) (fun _ hk => hk.1.2) (.int .i64 t643)) (fun _ hk => hk.2) (.int .i64 t635)) (fun _ hk => hk.2) (.int .i64 t636)) (fun _ hk => hk.2) (.slice Ao253 t637.length co253)) (fun _ hk => hk.2) (.slice Ao254 t640.length co254)) (fun _ hk => hk.2) (.int .i64 t643)) (fun _ hk => ⟨hk.1.1.1.1.2, ⟨hk.1.1.1.2, ⟨hk.1.1.1.1.1.2.2.1, hk.1.1.1.1.1.2.2.2⟩⟩⟩)⟩, ⟨by (with_reducible repeat (first | apply Kd.V_alloc | apply Kd.V_drewN | apply Kd.V_drew)); exact Kd.V_mono (Kd.V_far (p := ⟨gb590, 4, none⟩) (Kd.V_far (p := ⟨gb590, 3, none⟩) (Kd.V_far (p := ⟨gb590, 2, none⟩) (Kd.V_far (p := ⟨gb590, 1, none⟩) (Kd.V_far (p := ⟨gb590, 0, none⟩) (Kd.V_far (p := ⟨gb646, 4, none⟩) (Kd.V_far (p := ⟨gb646, 3, none⟩) (Kd.V_far (p := ⟨gb646, 2, none⟩) (Kd.V_far (p := ⟨gb646, 1, none⟩) (Kd.V_far (p := ⟨gb646, 0, none⟩) (Kd.V_mono (Kd.V_mono HO_580003.out (fun k_ hk => (⟨hk, hk.2⟩ : _ ∧ k_ ≠ gb646))) (fun k_ hk => (⟨hk, hk.1.1.1.1.2.2.2⟩ : _ ∧ k_ ≠ gb590))) (fun _ hk => hk.1.2) (.int .i64 t635)) (fun _ hk => hk.1.2) (.int .i64 t636)) (fun _ hk => hk.1.2) (.slice Ao253 t637.length co253)) (fun _ hk => hk.1.2) (.slice Ao254 t640.length co254)) (fun _ hk => hk.1.2) (.int .i64 t643)) (fun _ hk => hk.2) (.int .i64 t635)) (fun _ hk => hk.2) (.int .i64 t636)) (fun _ hk => hk.2) (.slice Ao253 t637.length co253)) (fun _ hk => hk.2) (.slice Ao254 t640.length co254)) (fun _ hk => hk.2) (.int .i64 t643)) (fun _ hk => ⟨hk.1.1.1.1.2, ⟨hk.1.1.1.2, ⟨hk.1.1.1.1.1.2.2.1, hk.1.1.1.1.1.2.2.2⟩⟩⟩)⟩, ⟨by (with_reducible repeat (first | apply Kd.Q_alloc | apply Kd.Q_drewN | apply Kd.Q_drew)); exact Kd.Q_mono (Kd.Q_far (p := ⟨gb590, 4, none⟩) (Kd.Q_far (p := ⟨gb590, 3, none⟩) (Kd.Q_far (p := ⟨gb590, 2, none⟩) (Kd.Q_far (p := ⟨gb590, 1, none⟩) (Kd.Q_far (p := ⟨gb590, 0, none⟩) (Kd.Q_far (p := ⟨gb646, 4, none⟩) (Kd.Q_far (p := ⟨gb646, 3, none⟩) (Kd.Q_far (p := ⟨gb646, 2, none⟩) (Kd.Q_far (p := ⟨gb646, 1, none⟩) (Kd.Q_far (p := ⟨gb646, 0, none⟩) (Kd.Q_types (Kd.Q_types HO639.out BK646.out (by decide)) BK590.out (by decide)) (fun _ hk => hk.1.2) (.int .i64 t635)) (fun _ hk => hk.1.2) (.int .i64 t636)) (fun _ hk => hk.1.2) (.slice Ao253 t637.length co253)) (fun _ hk => hk.1.2) (.slice Ao254 t640.length co254)) (fun _ hk => hk.1.2) (.int .i64 t643)) (fun _ hk => hk.2) (.int .i64 t635)) (fun _ hk => hk.2) (.int .i64 t636)) (fun _ hk => hk.2) (.slice Ao253 t637.length co253)) (fun _ hk => hk.2) (.slice Ao254 t640.length co254)) (fun _ hk => hk.2) (.int .i64 t643)) (fun _ hk => hk.1.1.1.1)⟩, ⟨by (with_reducible repeat (first | apply Kd.Q_alloc | apply Kd.Q_drewN | apply Kd.Q_drew)); exact Kd.Q_mono (Kd.Q_far (p := ⟨gb590, 4, none⟩) (Kd.Q_far (p := ⟨gb590, 3, none⟩) (Kd.Q_far (p := ⟨gb590, 2, none⟩) (Kd.Q_far (p := ⟨gb590, 1, none⟩) (Kd.Q_far (p := ⟨gb590, 0, none⟩) (Kd.Q_far (p := ⟨gb646, 4, none⟩) (Kd.Q_far (p := ⟨gb646, 3, none⟩) (Kd.Q_far (p := ⟨gb646, 2, none⟩) (Kd.Q_far (p := ⟨gb646, 1, none⟩) (Kd.Q_far (p := ⟨gb646, 0, none⟩) (Kd.Q_types (Kd.Q_types HO642.out BK646.out (by decide)) BK590.out (by decide)) (fun _ hk => hk.1.2) (.int .i64 t635)) (fun _ hk => hk.1.2) (.int .i64 t636)) (fun _ hk => hk.1.2) (.slice Ao253 t637.length co253)) (fun _ hk => hk.1.2) (.slice Ao254 t640.length co254)) (fun _ hk => hk.1.2) (.int .i64 t643)) (fun _ hk => hk.2) (.int .i64 t635)) (fun _ hk => hk.2) (.int .i64 t636)) (fun _ hk => hk.2) (.slice Ao253 t637.length co253)) (fun _ hk => hk.2) (.slice Ao254 t640.length co254)) (fun _ hk => hk.2) (.int .i64 t643)) (fun _ hk => hk.1.1.1.1)⟩, ⟨by (with_reducible repeat (first | refine blk_drewN ?_ _ | refine blk_drew ?_ | refine blk_alloc ?_ _)); refine blk_far ?_ NB579_590.out _; (with_reducible repeat (first | refine blk_drewN ?_ _ | refine blk_drew ?_ | refine blk_alloc ?_ _)); refine blk_far ?_ NB579_590.out _; (with_reducible repeat (first | refine blk_drewN ?_ _ | refine blk_drew ?_ | refine blk_alloc ?_ _)); refine blk_far ?_ NB579_590.out _; (with_reducible repeat (first | refine blk_drewN ?_ _ | refine blk_drew ?_ | refine blk_alloc ?_ _)); refine blk_far ?_ NB579_590.out _; (with_reducible repeat (first | refine blk_drewN ?_ _ | refine blk_drew ?_ | refine blk_alloc ?_ _)); refine blk_far ?_ NB579_590.out _; (with_reducible repeat (first | refine blk_drewN ?_ _ | refine blk_drew ?_ | refine blk_alloc ?_ _)); refine blk_far ?_ NB579_646.out _; (with_reducible repeat (first | refine blk_drewN ?_ _ | refine blk_drew ?_ | refine blk_alloc ?_ _)); refine blk_far ?_ NB579_646.out _; (with_reducible repeat (first | refine blk_drewN ?_ _ | refine blk_drew ?_ | refine blk_alloc ?_ _)); refine blk_far ?_ NB579_646.out _; (with_reducible repeat (first | refine blk_drewN ?_ _ | refine blk_drew ?_ | refine blk_alloc ?_ _)); refine blk_far ?_ NB579_646.out _; (with_reducible repeat (first | refine blk_drewN ?_ _ | refine blk_drew ?_ | refine blk_alloc ?_ _)); refine blk_far ?_ NB579_646.out _; (with_reducible repeat (first | refine blk_drewN ?_ _ | refine blk_drew ?_ | refine blk_alloc ?_ _)); exact BK579.out⟩, ⟨by (with_reducible repeat (first | refine blk_drewN ?_ _ | refine blk_drew ?_ | refine blk_alloc ?_ _)); refine blk_put (cs := #[.int .i64 t635, .int .i64 t636, .slice Ao253 t637.length co253, .slice Ao254 t640.length co254, .int .i64 x591004_3]) ?_ 4 _ rfl; (with_reducible repeat (first | refine blk_drewN ?_ _ | refine blk_drew ?_ | refine blk_alloc ?_ _)); refine blk_put (cs := #[.int .i64 t635, .int .i64 t636, .slice Ao253 t637.length co253, .slice Ao247 x591003_3.length co247, .int .i64 x591004_3]) ?_ 3 _ rfl; (with_reducible repeat (first | refine blk_drewN ?_ _ | refine blk_drew ?_ | refine blk_alloc ?_ _)); refine blk_put (cs := #[.int .i64 t635, .int .i64 t636, .slice Ao246 x591002_3.length co246, .slice Ao247 x591003_3.length co247, .int .i64 x591004_3]) ?_ 2 _ rfl; (with_reducible repeat (first | refine blk_drewN ?_ _ | refine blk_drew ?_ | refine blk_alloc ?_ _)); refine blk_put (cs := #[.int .i64 t635, .int .i64 x591001_3, .slice Ao246 x591002_3.length co246, .slice Ao247 x591003_3.length co247, .int .i64 x591004_3]) ?_ 1 _ rfl; (with_reducible repeat (first | refine blk_drewN ?_ _ | refine blk_drew ?_ | refine blk_alloc ?_ _)); refine blk_put (cs := #[.int .i64 x591000_3, .int .i64 x591001_3, .slice Ao246 x591002_3.length co246, .slice Ao247 x591003_3.length co247, .int .i64 x591004_3]) ?_ 0 _ rfl; (with_reducible repeat (first | refine blk_drewN ?_ _ | refine blk_drew ?_ | refine blk_alloc ?_ _)); refine blk_far ?_ NB590_646.out _; (with_reducible repeat (first | refine blk_drewN ?_ _ | refine blk_drew ?_ | refine blk_alloc ?_ _)); refine blk_far ?_ NB590_646.out _; (with_reducible repeat (first | refine blk_drewN ?_ _ | refine blk_drew ?_ | refine blk_alloc ?_ _)); refine blk_far ?_ NB590_646.out _; (with_reducible repeat (first | refine blk_drewN ?_ _ | refine blk_drew ?_ | refine blk_alloc ?_ _)); refine blk_far ?_ NB590_646.out _; (with_reducible repeat (first | refine blk_drewN ?_ _ | refine blk_drew ?_ | refine blk_alloc ?_ _)); refine blk_far ?_ NB590_646.out _; (with_reducible repeat (first | refine blk_drewN ?_ _ | refine blk_drew ?_ | refine blk_alloc ?_ _)); exact BK590.out⟩, ⟨by repeat (first | (with_reducible first | exact HB.out | apply below_alloc | apply pw_below_drewN | apply below_drew1 | refine below_set ?_ GE579.out | refine below_set ?_ GE590.out | refine below_set ?_ GE646.out) | exact HB.out)⟩⟩
           ·rw [if_neg c243] at H
            have c243b0 : (t645 == 0) = false := beq_eq_false_iff_ne.mpr c243
            have c243b1 : (t645 != 0) = true := bne_iff_ne.mpr c243
            obtain rfl := Option.some.inj H
            exact absurd hrt (by decide)
          ·rw [if_neg c241] at H
           have c241b0 : decide (x21_3 < 2) = false := decide_eq_false c241
           clear c241
           by_cases c267 : x591000_3 = 0
           ·rw [if_pos c267] at H
            have c267b0 : (x591000_3 == 0) = true := beq_iff_eq.mpr c267
            have c267b1 : (x591000_3 != 0) = false := bne_eq_false_iff_eq.mpr c267
            clear c267
            by_cases c268 : x591001_3 = 0
            ·rw [if_pos c268] at H
             have c268b0 : (x591001_3 == 0) = true := beq_iff_eq.mpr c268
             have c268b1 : (x591001_3 != 0) = false := bne_eq_false_iff_eq.mpr c268
             clear c268
             obtain rfl := Option.some.inj H
             have hnb269 := NB590_579.out
             have hnc269 := NB579_590.out
             have hcz270_0 : wr.cell? ⟨gb590, 0, none⟩ = some (.int .i64 x591000_3) := (blk_cell BK590.out 0).trans rfl
             have hcz270_1 : wr.cell? ⟨gb590, 1, none⟩ = some (.int .i64 x591001_3) := (blk_cell BK590.out 1).trans rfl
             have hcz270_2 : wr.cell? ⟨gb590, 2, none⟩ = some (u591002) := (blk_cell BK590.out 2).trans rfl
             have hcz270_3 : wr.cell? ⟨gb590, 3, none⟩ = some (u591003) := (blk_cell BK590.out 3).trans rfl
             have hcz270_4 : wr.cell? ⟨gb590, 4, none⟩ = some (.int .i64 x591004_3) := (blk_cell BK590.out 4).trans rfl
             have hfz270_0 := blk_frozen BK590.out 0
             have hfz270_1 := blk_frozen BK590.out 1
             have hfz270_2 := blk_frozen BK590.out 2
             have hfz270_3 := blk_frozen BK590.out 3
             have hfz270_4 := blk_frozen BK590.out 4
             go_wp2
             go_ret
             exact ⟨by first | rfl | (simp [errW_none, errW_some] <;> rfl) | (simp [*, errW_none, errW_some] <;> rfl), by repeat (first | (with_reducible first | exact HB.out | apply below_alloc | apply pw_below_drewN | apply below_drew1 | refine below_set ?_ GE579.out | refine below_set ?_ GE590.out) | exact HB.out)⟩
            ·rw [if_neg c268] at H
             have c268b0 : (x591001_3 == 0) = false := beq_eq_false_iff_ne.mpr c268
             have c268b1 : (x591001_3 != 0) = true := bne_iff_ne.mpr c268
             obtain rfl := Option.some.inj H
             exact absurd hrt (by decide)
           ·rw [if_neg c267] at H
            have c267b0 : (x591000_3 == 0) = false := beq_eq_false_iff_ne.mpr c267
            have c267b1 : (x591000_3 != 0) = true := bne_iff_ne.mpr c267
            obtain rfl := Option.some.inj H
            exact absurd hrt (by decide)
       ·rw [if_neg c232] at H
        have c232b0 : (t634 == 0) = false := beq_eq_false_iff_ne.mpr c232
        have c232b1 : (t634 != 0) = true := bne_iff_ne.mpr c232
        obtain rfl := Option.some.inj H
        exact absurd hrt (by decide)
/-- THE ONE PURE STATEMENT of laws_FnCloses: yours. -/
def laws_FnCloses.Pure : Prop := ∀ (l0 : List Int) (l1 : List Int), l0.length ≤ maxLen → l0.length * 1 ≤ 140737488351232 → (∀ x ∈ l0, (Lit.int .u8 x).wf = true) → l1.length ≤ maxLen → l1.length * 1 ≤ 140737488351232 → (∀ x ∈ l1, (Lit.int .u8 x).wf = true) → ∃ k, laws_FnCloses.f k l0 l1 = some true
theorem laws_FnCloses.walk (P : laws_FnCloses.Pure) (a0 : Option Addr) (len0 cap0 : Nat) (z0 : List Int) (a1 : Option Addr) (len1 cap1 : Nat) (z1 : List Int) (w : World) (w0 : (a0 = none ∧ len0 = 0 ∧ cap0 = 0 ∧ z0 = []) ∨ ∃ x, a0 = some x ∧ len0 ≤ cap0 ∧ cap0 ≤ maxLen ∧ z0.length = cap0 ∧ (∀ i, i < z0.length → w.cell? (x.add i) = some (.int .u8 (z0.getD i 0))) ∧ ∀ n ∈ z0, (Lit.int .u8 n).wf = true) (y0 : len0 * 1 ≤ 140737488351232) (w1 : (a1 = none ∧ len1 = 0 ∧ cap1 = 0 ∧ z1 = []) ∨ ∃ x, a1 = some x ∧ len1 ≤ cap1 ∧ cap1 ≤ maxLen ∧ z1.length = cap1 ∧ (∀ i, i < z1.length → w.cell? (x.add i) = some (.int .u8 (z1.getD i 0))) ∧ ∀ n ∈ z1, (Lit.int .u8 n).wf = true) (y1 : len1 * 1 ≤ 140737488351232) :
  Calls Try.prog 5 #[.slice a0 len0 cap0, .slice a1 len1 cap1] w fun e w' => e = .returned (.bool true) ∧ Below w.heap.size w w' := by
 obtain ⟨l0, rfl, hr0, hm0, hw0, hc0⟩ := ReadsInt.ofRowC w0
 obtain ⟨l1, rfl, hr1, hm1, hw1, hc1⟩ := ReadsInt.ofRowC w1
 obtain ⟨k, h⟩ := P l0 l1 hm0 y0 hw0 hm1 y1 hw1
 refine (laws_FnCloses.calls k _ _ l0 _ _ l1 true w (Kd.C_of_reads (d := (0 : Int)) (h1 := fun _ => rfl) hr0) hc0 (Kd.C_of_reads (d := (0 : Int)) (h1 := fun _ => rfl) hr1) hc1 h rfl).mono ?_
 rintro e w' ⟨rfl, hd⟩
 exact ⟨rfl, hd⟩
end Go.Proofs.Ytnceiegngfpmkaa.PSta
