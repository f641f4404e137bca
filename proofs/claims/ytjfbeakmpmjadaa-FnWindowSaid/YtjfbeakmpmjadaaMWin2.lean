/- Texts of this claim, merged: what functions come to, and plain laws over it. -/
import Derived.Test.YtjfbeakmpmjadaaMWin0
import Derived.Test.YtjfbeakmpmjadaaMWin1
namespace Go.Proofs.Ytjfbeakmpmjadaa.PWin
open Go.RowKit Go.Proofs.YtjfbeakmpmjadaaW.PrintWords Go.Proofs.YtjfbeakmpmjadaaW.PrintLast Go.Proofs.YtjfbeakmpmjadaaW.PrintMore
attribute [local go_sem] max2_int min2_int max_two min_two max_three min_three max_four min_four   -- for this text's walks alone
set_option linter.unusedVariables false
set_option linter.unusedSimpArgs false

attribute [local go_sem high] eqA26
/-! ### laws_FnWindow: function 5 -/
mutual
def laws_FnWindow.j0 : Nat → List (S30) → List Int → Bool → Int → Int → Int → Int → Int → Int → Int → Option (Bool)
  | 0, _, _, _, _, _, _, _, _, _, _ => none
  | k + 1, x3, x5, x54, x239000, x239001, x239002, x239003, x239004, x239005, x239006 => if x54 = true then (some false) else ((impl_NewCubic.f).bind fun bt253 => (laws_FnWindow.l0 k x3 x5 bt253.1 0 x239000 x239001 x239002 x239003 x239004 x239005 x239006))
def laws_FnWindow.l0 : Nat → List (S30) → List Int → Int → Int → Int → Int → Int → Int → Int → Int → Int → Option (Bool)
  | 0, _, _, _, _, _, _, _, _, _, _, _ => none
  | k + 1, x3, x5, x10, x11, x239000, x239001, x239002, x239003, x239004, x239005, x239006 => if x11 < (x3.length : Int) then (if 0 ≤ x11 then (if x11 < (x5.length : Int) then (if ((rd_T30 x3 x11).f0) = 1 then (if (rd x5 x11) < x10 then (some false) else (if (rd x5 x11) > (wrap64 (x10 + ((rd_T30 x3 x11).f1))) then (some false) else (laws_FnWindow.l0 k x3 x5 (rd x5 x11) (wrap64 (x11 + 1)) x239000 x239001 x239002 x239003 x239004 x239005 x239006))) else (if ((rd_T30 x3 x11).f0) = 2 then (if (rd x5 x11) = (mx 2 (wrap64 (Int.tdiv (wrap64 (x10 * 7)) 10))) then (laws_FnWindow.l0 k x3 x5 (rd x5 x11) (wrap64 (x11 + 1)) x239000 x239001 x239002 x239003 x239004 x239005 x239006) else (some false)) else (if ((rd_T30 x3 x11).f0) = 3 then (if (rd x5 x11) = 1 then (laws_FnWindow.l0 k x3 x5 (rd x5 x11) (wrap64 (x11 + 1)) x239000 x239001 x239002 x239003 x239004 x239005 x239006) else (some false)) else (if (rd x5 x11) = x10 then (laws_FnWindow.l0 k x3 x5 (rd x5 x11) (wrap64 (x11 + 1)) x239000 x239001 x239002 x239003 x239004 x239005 x239006) else (some false))))) else (none)) else (none)) else (some (x10 == x239000))
end
def laws_FnWindow.f (k : Nat) (l0 : List Int) : Option (Bool) := if (l0.length : Int) > 1048576 then (some true) else ((spec_PaceActsOf.f k l0).bind fun t224 => ((impl_CubicRun.f k t224).bind fun bt227 => ((spec_CubicRun.f k t224).bind fun bt239 => (if bt227.2.2.2.2.2.2.2.2 = 0 then ((laws_sameInts.f k bt227.2.2.2.2.2.2.2.1 bt239.2.2.2.2.2.2.2.1).bind fun t251 => (if t251 = true then (if (!(bt227.1 == bt239.1) || (!(bt227.2.1 == bt239.2.1) || (!(bt227.2.2.1 == bt239.2.2.1) || (!(bt227.2.2.2.1 == bt239.2.2.2.1) || (!(bt227.2.2.2.2.1 == bt239.2.2.2.2.1) || (!(bt227.2.2.2.2.2.1 == bt239.2.2.2.2.2.1) || (!(bt227.2.2.2.2.2.2.1 == bt239.2.2.2.2.2.2.1)))))))) = true then (laws_FnWindow.j0 k t224 bt227.2.2.2.2.2.2.2.1 true bt227.1 bt227.2.1 bt227.2.2.1 bt227.2.2.2.1 bt227.2.2.2.2.1 bt227.2.2.2.2.2.1 bt227.2.2.2.2.2.2.1) else (if (bt227.2.2.2.2.2.2.2.1.length : Int) = (t224.length : Int) then ((impl_CubicOK.f k bt227.1 bt227.2.1 bt227.2.2.1 bt227.2.2.2.1 bt227.2.2.2.2.1 bt227.2.2.2.2.2.1 bt227.2.2.2.2.2.2.1).bind fun t252 => (laws_FnWindow.j0 k t224 bt227.2.2.2.2.2.2.2.1 (!t252) bt227.1 bt227.2.1 bt227.2.2.1 bt227.2.2.2.1 bt227.2.2.2.2.1 bt227.2.2.2.2.2.1 bt227.2.2.2.2.2.2.1)) else (laws_FnWindow.j0 k t224 bt227.2.2.2.2.2.2.2.1 true bt227.1 bt227.2.1 bt227.2.2.1 bt227.2.2.2.1 bt227.2.2.2.2.1 bt227.2.2.2.2.2.1 bt227.2.2.2.2.2.2.1))) else (laws_FnWindow.j0 k t224 bt227.2.2.2.2.2.2.2.1 true bt227.1 bt227.2.1 bt227.2.2.1 bt227.2.2.2.1 bt227.2.2.2.2.1 bt227.2.2.2.2.2.1 bt227.2.2.2.2.2.2.1))) else (laws_FnWindow.j0 k t224 bt227.2.2.2.2.2.2.2.1 true bt227.1 bt227.2.1 bt227.2.2.1 bt227.2.2.2.1 bt227.2.2.2.2.1 bt227.2.2.2.2.2.1 bt227.2.2.2.2.2.2.1)))))
theorem laws_FnWindow.mono_l : ∀ k, (∀ y0 y1 y2 y3 y4 y5 y6 y7 y8 y9, LeO (laws_FnWindow.j0 k y0 y1 y2 y3 y4 y5 y6 y7 y8 y9) (laws_FnWindow.j0 (k + 1) y0 y1 y2 y3 y4 y5 y6 y7 y8 y9)) ∧ (∀ y0 y1 y2 y3 y4 y5 y6 y7 y8 y9 y10, LeO (laws_FnWindow.l0 k y0 y1 y2 y3 y4 y5 y6 y7 y8 y9 y10) (laws_FnWindow.l0 (k + 1) y0 y1 y2 y3 y4 y5 y6 y7 y8 y9 y10))
  | 0 => ⟨fun _ _ _ _ _ _ _ _ _ _ r h => by simp [laws_FnWindow.j0] at h, fun _ _ _ _ _ _ _ _ _ _ _ r h => by simp [laws_FnWindow.l0] at h⟩
  | k + 1 => by
    obtain ⟨ih0, ih1⟩ := laws_FnWindow.mono_l k
    refine ⟨?_, ?_⟩
    · intro y0 y1 y2 y3 y4 y5 y6 y7 y8 y9
      unfold laws_FnWindow.j0
      repeat' first
      | (with_reducible exact ih0 _ _ _ _ _ _ _ _ _ _)
      | (with_reducible exact ih1 _ _ _ _ _ _ _ _ _ _ _)
      | (with_reducible exact impl_CubicOK.mono _ _ _ _ _ _ _ _)
      | (with_reducible exact impl_CubicRun.mono _ _)
      | (with_reducible exact laws_sameInts.mono _ _ _)
      | (with_reducible exact spec_CubicRun.mono _ _)
      | (with_reducible exact spec_PaceActsOf.mono _ _)
      | (with_reducible exact LeO.refl _)
      | (with_reducible exact LeO.none _)
      | (with_reducible refine LeO.ite ?_ ?_)
      | (with_reducible refine LeO.bind ?_ (fun _ => ?_))
      | exact ih0 _ _ _ _ _ _ _ _ _ _
      | exact ih1 _ _ _ _ _ _ _ _ _ _ _
      | exact impl_CubicOK.mono _ _ _ _ _ _ _ _
      | exact impl_CubicRun.mono _ _
      | exact laws_sameInts.mono _ _ _
      | exact spec_CubicRun.mono _ _
      | exact spec_PaceActsOf.mono _ _
      | exact LeO.none _
      | refine LeO.ite ?_ ?_
      | refine LeO.bind ?_ (fun _ => ?_)
    · intro y0 y1 y2 y3 y4 y5 y6 y7 y8 y9 y10
      unfold laws_FnWindow.l0
      repeat' first
      | (with_reducible exact ih0 _ _ _ _ _ _ _ _ _ _)
      | (with_reducible exact ih1 _ _ _ _ _ _ _ _ _ _ _)
      | (with_reducible exact impl_CubicOK.mono _ _ _ _ _ _ _ _)
      | (with_reducible exact impl_CubicRun.mono _ _)
      | (with_reducible exact laws_sameInts.mono _ _ _)
      | (with_reducible exact spec_CubicRun.mono _ _)
      | (with_reducible exact spec_PaceActsOf.mono _ _)
      | (with_reducible exact LeO.refl _)
      | (with_reducible exact LeO.none _)
      | (with_reducible refine LeO.ite ?_ ?_)
      | (with_reducible refine LeO.bind ?_ (fun _ => ?_))
      | exact ih0 _ _ _ _ _ _ _ _ _ _
      | exact ih1 _ _ _ _ _ _ _ _ _ _ _
      | exact impl_CubicOK.mono _ _ _ _ _ _ _ _
      | exact impl_CubicRun.mono _ _
      | exact laws_sameInts.mono _ _ _
      | exact spec_CubicRun.mono _ _
      | exact spec_PaceActsOf.mono _ _
      | exact LeO.none _
      | refine LeO.ite ?_ ?_
      | refine LeO.bind ?_ (fun _ => ?_)
theorem laws_FnWindow.mono : ∀ a0 k, LeO (laws_FnWindow.f k a0) (laws_FnWindow.f (k + 1) a0) := by
  intro a0 k
  obtain ⟨ih0, ih1⟩ := laws_FnWindow.mono_l k
  unfold laws_FnWindow.f
  repeat' first
      | (with_reducible exact ih0 _ _ _ _ _ _ _ _ _ _)
      | (with_reducible exact ih1 _ _ _ _ _ _ _ _ _ _ _)
      | (with_reducible exact impl_CubicOK.mono _ _ _ _ _ _ _ _)
      | (with_reducible exact impl_CubicRun.mono _ _)
      | (with_reducible exact laws_sameInts.mono _ _ _)
      | (with_reducible exact spec_CubicRun.mono _ _)
      | (with_reducible exact spec_PaceActsOf.mono _ _)
      | (with_reducible exact LeO.refl _)
      | (with_reducible exact LeO.none _)
      | (with_reducible refine LeO.ite ?_ ?_)
      | (with_reducible refine LeO.bind ?_ (fun _ => ?_))
      | exact ih0 _ _ _ _ _ _ _ _ _ _
      | exact ih1 _ _ _ _ _ _ _ _ _ _ _
      | exact impl_CubicOK.mono _ _ _ _ _ _ _ _
      | exact impl_CubicRun.mono _ _
      | exact laws_sameInts.mono _ _ _
      | exact spec_CubicRun.mono _ _
      | exact spec_PaceActsOf.mono _ _
      | exact LeO.none _
      | refine LeO.ite ?_ ?_
      | refine LeO.bind ?_ (fun _ => ?_)
set_option maxHeartbeats 8000000 in
set_option maxRecDepth 100000 in
theorem laws_FnWindow.calls (k : Nat) (A0 : Option Addr) (c0 : Nat) (l0 : List Int) (r : Bool) (w : World) (hr0 : Kd.C (Kd.int .u8) w A0 l0.length l0) (hc0 : l0.length ≤ c0) (h : laws_FnWindow.f k l0 = some r) :
    Calls Try.prog 5 #[.slice A0 l0.length c0] w fun e w' => e = .returned (.bool r) ∧ Below w.heap.size w w' := by
  have hu26 := Try.underlying26
  have HR0 := Aside0.mk hr0
  have HC0 := Aside0.mk hc0
  clear hr0 hc0
  have HB := Aside0.mk (Below.refl w.heap.size w)
  have H : (if (l0.length : Int) > 1048576 then (some true) else ((spec_PaceActsOf.f k l0).bind fun t224 => ((impl_CubicRun.f k t224).bind fun bt227 => ((spec_CubicRun.f k t224).bind fun bt239 => (if bt227.2.2.2.2.2.2.2.2 = 0 then ((laws_sameInts.f k bt227.2.2.2.2.2.2.2.1 bt239.2.2.2.2.2.2.2.1).bind fun t251 => (if t251 = true then (if (!(bt227.1 == bt239.1) || (!(bt227.2.1 == bt239.2.1) || (!(bt227.2.2.1 == bt239.2.2.1) || (!(bt227.2.2.2.1 == bt239.2.2.2.1) || (!(bt227.2.2.2.2.1 == bt239.2.2.2.2.1) || (!(bt227.2.2.2.2.2.1 == bt239.2.2.2.2.2.1) || (!(bt227.2.2.2.2.2.2.1 == bt239.2.2.2.2.2.2.1)))))))) = true then (laws_FnWindow.j0 k t224 bt227.2.2.2.2.2.2.2.1 true bt227.1 bt227.2.1 bt227.2.2.1 bt227.2.2.2.1 bt227.2.2.2.2.1 bt227.2.2.2.2.2.1 bt227.2.2.2.2.2.2.1) else (if (bt227.2.2.2.2.2.2.2.1.length : Int) = (t224.length : Int) then ((impl_CubicOK.f k bt227.1 bt227.2.1 bt227.2.2.1 bt227.2.2.2.1 bt227.2.2.2.2.1 bt227.2.2.2.2.2.1 bt227.2.2.2.2.2.2.1).bind fun t252 => (laws_FnWindow.j0 k t224 bt227.2.2.2.2.2.2.2.1 (!t252) bt227.1 bt227.2.1 bt227.2.2.1 bt227.2.2.2.1 bt227.2.2.2.2.1 bt227.2.2.2.2.2.1 bt227.2.2.2.2.2.2.1)) else (laws_FnWindow.j0 k t224 bt227.2.2.2.2.2.2.2.1 true bt227.1 bt227.2.1 bt227.2.2.1 bt227.2.2.2.1 bt227.2.2.2.2.1 bt227.2.2.2.2.2.1 bt227.2.2.2.2.2.2.1))) else (laws_FnWindow.j0 k t224 bt227.2.2.2.2.2.2.2.1 true bt227.1 bt227.2.1 bt227.2.2.1 bt227.2.2.2.1 bt227.2.2.2.2.1 bt227.2.2.2.2.2.1 bt227.2.2.2.2.2.2.1))) else (laws_FnWindow.j0 k t224 bt227.2.2.2.2.2.2.2.1 true bt227.1 bt227.2.1 bt227.2.2.1 bt227.2.2.2.1 bt227.2.2.2.2.1 bt227.2.2.2.2.2.1 bt227.2.2.2.2.2.2.1)))))) = some r := h
  clear h
  by_cases c2 : (l0.length : Int) > 1048576
  · rw [if_pos c2] at H
    have c2b0 : decide (1048576 < (l0.length : Int)) = true := decide_eq_true c2
    have c2b1 : decide (1048576 < l0.length) = true := decide_eq_true (by omega)
    clear c2
    obtain rfl := Option.some.inj H
    go_enter Try.func5, Try.ntmps5
    go_wp2
    go_ret
    exact ⟨by first | rfl | (simp [errW_none, errW_some] <;> rfl) | (simp [*, errW_none, errW_some] <;> rfl), by repeat (first | (with_reducible first | exact HB.out | apply below_alloc | apply pw_below_drewN | apply below_drew1) | exact HB.out)⟩
  · rw [if_neg c2] at H
    have c2b0 : decide (1048576 < (l0.length : Int)) = false := decide_eq_false c2
    have c2b1 : decide (1048576 < l0.length) = false := decide_eq_false (by omega)
    clear c2
    replace H := Option.bind_eq_some_iff.mp H
    obtain ⟨t224, A30, H⟩ := H
    replace H : ((impl_CubicRun.f k t224).bind fun bt227 => ((spec_CubicRun.f k t224).bind fun bt239 => (if bt227.2.2.2.2.2.2.2.2 = 0 then ((laws_sameInts.f k bt227.2.2.2.2.2.2.2.1 bt239.2.2.2.2.2.2.2.1).bind fun t251 => (if t251 = true then (if (!(bt227.1 == bt239.1) || (!(bt227.2.1 == bt239.2.1) || (!(bt227.2.2.1 == bt239.2.2.1) || (!(bt227.2.2.2.1 == bt239.2.2.2.1) || (!(bt227.2.2.2.2.1 == bt239.2.2.2.2.1) || (!(bt227.2.2.2.2.2.1 == bt239.2.2.2.2.2.1) || (!(bt227.2.2.2.2.2.2.1 == bt239.2.2.2.2.2.2.1)))))))) = true then (laws_FnWindow.j0 k t224 bt227.2.2.2.2.2.2.2.1 true bt227.1 bt227.2.1 bt227.2.2.1 bt227.2.2.2.1 bt227.2.2.2.2.1 bt227.2.2.2.2.2.1 bt227.2.2.2.2.2.2.1) else (if (bt227.2.2.2.2.2.2.2.1.length : Int) = (t224.length : Int) then ((impl_CubicOK.f k bt227.1 bt227.2.1 bt227.2.2.1 bt227.2.2.2.1 bt227.2.2.2.2.1 bt227.2.2.2.2.2.1 bt227.2.2.2.2.2.2.1).bind fun t252 => (laws_FnWindow.j0 k t224 bt227.2.2.2.2.2.2.2.1 (!t252) bt227.1 bt227.2.1 bt227.2.2.1 bt227.2.2.2.1 bt227.2.2.2.2.1 bt227.2.2.2.2.2.1 bt227.2.2.2.2.2.2.1)) else (laws_FnWindow.j0 k t224 bt227.2.2.2.2.2.2.2.1 true bt227.1 bt227.2.1 bt227.2.2.1 bt227.2.2.2.1 bt227.2.2.2.2.1 bt227.2.2.2.2.2.1 bt227.2.2.2.2.2.2.1))) else (laws_FnWindow.j0 k t224 bt227.2.2.2.2.2.2.2.1 true bt227.1 bt227.2.1 bt227.2.2.1 bt227.2.2.2.1 bt227.2.2.2.2.1 bt227.2.2.2.2.2.1 bt227.2.2.2.2.2.2.1))) else (laws_FnWindow.j0 k t224 bt227.2.2.2.2.2.2.2.1 true bt227.1 bt227.2.1 bt227.2.2.1 bt227.2.2.2.1 bt227.2.2.2.2.1 bt227.2.2.2.2.2.1 bt227.2.2.2.2.2.2.1)))) = some r := H
    have A3 := Aside0.mk A30
    clear A30
    replace H := Option.bind_eq_some_iff.mp H
    obtain ⟨⟨t227, t228, t229, t230, t231, t232, t233, t234, t237⟩, A40, H⟩ := H
    replace H : ((spec_CubicRun.f k t224).bind fun bt239 => (if t237 = 0 then ((laws_sameInts.f k t234 bt239.2.2.2.2.2.2.2.1).bind fun t251 => (if t251 = true then (if (!(t227 == bt239.1) || (!(t228 == bt239.2.1) || (!(t229 == bt239.2.2.1) || (!(t230 == bt239.2.2.2.1) || (!(t231 == bt239.2.2.2.2.1) || (!(t232 == bt239.2.2.2.2.2.1) || (!(t233 == bt239.2.2.2.2.2.2.1)))))))) = true then (laws_FnWindow.j0 k t224 t234 true t227 t228 t229 t230 t231 t232 t233) else (if (t234.length : Int) = (t224.length : Int) then ((impl_CubicOK.f k t227 t228 t229 t230 t231 t232 t233).bind fun t252 => (laws_FnWindow.j0 k t224 t234 (!t252) t227 t228 t229 t230 t231 t232 t233)) else (laws_FnWindow.j0 k t224 t234 true t227 t228 t229 t230 t231 t232 t233))) else (laws_FnWindow.j0 k t224 t234 true t227 t228 t229 t230 t231 t232 t233))) else (laws_FnWindow.j0 k t224 t234 true t227 t228 t229 t230 t231 t232 t233))) = some r := H
    have A4 := Aside0.mk A40
    clear A40
    replace H := Option.bind_eq_some_iff.mp H
    obtain ⟨⟨t239, t240, t241, t242, t243, t244, t245, t246, t249⟩, A50, H⟩ := H
    replace H : (if t237 = 0 then ((laws_sameInts.f k t234 t246).bind fun t251 => (if t251 = true then (if (!(t227 == t239) || (!(t228 == t240) || (!(t229 == t241) || (!(t230 == t242) || (!(t231 == t243) || (!(t232 == t244) || (!(t233 == t245)))))))) = true then (laws_FnWindow.j0 k t224 t234 true t227 t228 t229 t230 t231 t232 t233) else (if (t234.length : Int) = (t224.length : Int) then ((impl_CubicOK.f k t227 t228 t229 t230 t231 t232 t233).bind fun t252 => (laws_FnWindow.j0 k t224 t234 (!t252) t227 t228 t229 t230 t231 t232 t233)) else (laws_FnWindow.j0 k t224 t234 true t227 t228 t229 t230 t231 t232 t233))) else (laws_FnWindow.j0 k t224 t234 true t227 t228 t229 t230 t231 t232 t233))) else (laws_FnWindow.j0 k t224 t234 true t227 t228 t229 t230 t231 t232 t233)) = some r := H
    have A5 := Aside0.mk A50
    clear A50
    have HC6 := Aside0.mk H
    clear H
    go_enter Try.func5, Try.ntmps5
    go_upto_region 6 with (first | ((with_reducible refine gate_callee (f := 20) rfl ?_); refine goesL_ (some 17) rfl rfl Try.func20 (by kernel_rfl) rfl #[.slice A0 l0.length c0] rfl (by (try simp only [List.map_toArray, List.map_cons, List.map_nil]); first | done | rfl | (simp only [List.length_drop, List.length_take]; rfl)) ?_; (with_reducible refine (spec_PaceActsOf.calls k _ _ l0 t224 _ ?side1 ?side2 A3.out).mono ?_); (case side1 => repeat (first | exact HR0.out | (with_reducible refine Kd.C_alloc ?_ _) | (with_reducible refine Kd.C_drewN ?_ _) | (with_reducible refine Kd.C_drew ?_))); (case side2 => exact HC0.out); rintro e w7 ⟨v225, rfl, ho0, hb⟩; refine ⟨_, rfl, ?_⟩; have n0_ := Aside0.mk (Kd.R_lower ho0 (below_size (by repeat (first | (with_reducible first | exact HB.out | apply below_alloc | apply pw_below_drewN | apply below_drew1) | exact HB.out)))); have n1_ := Aside0.mk (below_step (by repeat (first | (with_reducible first | exact HB.out | apply below_alloc | apply pw_below_drewN | apply below_drew1) | exact HB.out)) hb); clear HB; have HO226 := n0_; have HB := n1_; clear n0_ n1_; (try clear hb); (try clear hb2); (try clear hk); (try clear hi); (try clear ho0); obtain ⟨Ao8, co8, eo8⟩ := Kd.R_slice HO226.out; subst eo8) | ((with_reducible refine gate_callee (f := 14) rfl ?_); refine goesL_ (some 20) rfl rfl Try.func14 (by kernel_rfl) rfl #[.slice Ao8 t224.length co8] rfl (by (try simp only [List.map_toArray, List.map_cons, List.map_nil]); first | done | rfl | (simp only [List.length_drop, List.length_take]; rfl)) ?_; (with_reducible refine (impl_CubicRun.calls k _ _ t224 t227 t228 t229 t230 t231 t232 t233 t234 t237 _ ?side1 ?side2 A4.out).mono ?_); (case side1 => repeat (first | exact (Kd.R_reads' HO226.out).2.2 | (with_reducible refine Kd.C_alloc ?_ _) | (with_reducible refine Kd.C_drewN ?_ _) | (with_reducible refine Kd.C_drew ?_))); (case side2 => exact (Kd.R_reads' HO226.out).2.1); rintro e w9 ⟨v235, rfl, ho0, hb⟩; refine ⟨_, rfl, ?_⟩; have n0_ := Aside0.mk (Kd.R_below (by (with_reducible repeat (first | apply Kd.R_alloc | apply Kd.R_drewN | apply Kd.R_drew)); exact HO226.out) hb); have n1_ := Aside0.mk (Kd.R_lower ho0 (below_size (by repeat (first | (with_reducible first | exact HB.out | apply below_alloc | apply pw_below_drewN | apply below_drew1) | exact HB.out)))); have n2_ := Aside0.mk (below_step (by repeat (first | (with_reducible first | exact HB.out | apply below_alloc | apply pw_below_drewN | apply below_drew1) | exact HB.out)) hb); clear HO226; clear HB; have HO226 := n0_; have HO236 := n1_; have HB := n2_; clear n0_ n1_ n2_; (try clear hb); (try clear hb2); (try clear hk); (try clear hi); (try clear ho0)) | ((with_reducible refine gate_dst (N := 4) rfl ?_); (try (refine gate_guard (by rfl) ?_; dsimp only)); refine box_event ?hg (N := 4) ?hd (cs := #[.int .i64 0, .int .i64 0, .int .i64 0, .int .i64 0, .int .i64 0, .int .i64 0, .int .i64 0]) (t := 26) ?hr ?_; (case hd => rfl); (case hg => rfl); (case hr => first | (go_simp; done) | (go_simp; rfl)); intro gb238 hg w10 hbox hb; have n0_ := Aside0.mk (Kd.R_below (by (with_reducible repeat (first | apply Kd.R_alloc | apply Kd.R_drewN | apply Kd.R_drew)); exact HO226.out) hb); have n1_ := Aside0.mk (Kd.R_below (by (with_reducible repeat (first | apply Kd.R_alloc | apply Kd.R_drewN | apply Kd.R_drew)); exact HO236.out) hb); have n2_ := Aside0.mk (below_step (by repeat (first | (with_reducible first | exact HB.out | apply below_alloc | apply pw_below_drewN | apply below_drew1) | exact HB.out)) hb); have n3_ := Aside0.mk (hbox); have n4_ := Aside0.mk ((by rw [hg]; exact (below_size (by repeat (first | (with_reducible first | exact HB.out | apply below_alloc | apply pw_below_drewN | apply below_drew1) | exact HB.out))) : w.heap.size ≤ gb238)); have n5_ := Aside0.mk ((by rw [hg]; exact (below_size (by repeat (first | (with_reducible first | exact HB.out | apply below_alloc | apply pw_below_drewN | apply below_drew1) | exact HB.out))) : w.heap.size ≤ gb238)); clear HO226; clear HO236; clear HB; have HO226 := n0_; have HO236 := n1_; have HB := n2_; have BK238 := n3_; have GW238 := n4_; have GE238 := n5_; clear n0_ n1_ n2_ n3_ n4_ n5_; clear hb hbox hg; have hcz11_0 : w10.cell? ⟨gb238, 0, none⟩ = some (.int .i64 0) := (blk_cell BK238.out 0).trans rfl; have hcz11_1 : w10.cell? ⟨gb238, 1, none⟩ = some (.int .i64 0) := (blk_cell BK238.out 1).trans rfl; have hcz11_2 : w10.cell? ⟨gb238, 2, none⟩ = some (.int .i64 0) := (blk_cell BK238.out 2).trans rfl; have hcz11_3 : w10.cell? ⟨gb238, 3, none⟩ = some (.int .i64 0) := (blk_cell BK238.out 3).trans rfl; have hcz11_4 : w10.cell? ⟨gb238, 4, none⟩ = some (.int .i64 0) := (blk_cell BK238.out 4).trans rfl; have hcz11_5 : w10.cell? ⟨gb238, 5, none⟩ = some (.int .i64 0) := (blk_cell BK238.out 5).trans rfl; have hcz11_6 : w10.cell? ⟨gb238, 6, none⟩ = some (.int .i64 0) := (blk_cell BK238.out 6).trans rfl; have hfz11_0 := blk_frozen BK238.out 0; have hfz11_1 := blk_frozen BK238.out 1; have hfz11_2 := blk_frozen BK238.out 2; have hfz11_3 := blk_frozen BK238.out 3; have hfz11_4 := blk_frozen BK238.out 4; have hfz11_5 := blk_frozen BK238.out 5; have hfz11_6 := blk_frozen BK238.out 6) | ((with_reducible refine gate_callee (f := 12) rfl ?_); refine goesL_ (some 26) rfl rfl Try.func12 (by kernel_rfl) rfl #[.slice Ao8 t224.length co8] rfl (by (try simp only [List.map_toArray, List.map_cons, List.map_nil]); first | done | rfl | (simp only [List.length_drop, List.length_take]; rfl)) ?_; (with_reducible refine (spec_CubicRun.calls k _ _ t224 t239 t240 t241 t242 t243 t244 t245 t246 t249 _ ?side1 ?side2 A5.out).mono ?_); (case side1 => refine (Kd.R_reads' (e := 30) (base := w.heap.size) (ok := fun k_ => True) (n := t224.length) (c := co8) ?_).2.2; exact (by (with_reducible repeat (first | apply Kd.R_alloc | apply Kd.R_drewN | apply Kd.R_drew)); exact (Kd.R_mono (Kd.R_far (p := ⟨gb238, 6, none⟩) (Kd.R_far (p := ⟨gb238, 5, none⟩) (Kd.R_far (p := ⟨gb238, 4, none⟩) (Kd.R_far (p := ⟨gb238, 3, none⟩) (Kd.R_far (p := ⟨gb238, 2, none⟩) (Kd.R_far (p := ⟨gb238, 1, none⟩) (Kd.R_far (p := ⟨gb238, 0, none⟩) (Kd.R_types HO226.out BK238.out (by decide)) (fun _ hk => hk.2) (.int .i64 t227)) (fun _ hk => hk.2) (.int .i64 t228)) (fun _ hk => hk.2) (.int .i64 t229)) (fun _ hk => hk.2) (.int .i64 t230)) (fun _ hk => hk.2) (.int .i64 t231)) (fun _ hk => hk.2) (.int .i64 t232)) (fun _ hk => hk.2) (.int .i64 t233)) (fun _ h_ => h_.1)))); (case side2 => exact (Kd.R_reads' HO226.out).2.1); rintro e w12 ⟨v247, rfl, ho0, hb⟩; refine ⟨_, rfl, ?_⟩; have n0_ := Aside0.mk (Kd.R_below (by (with_reducible repeat (first | apply Kd.R_alloc | apply Kd.R_drewN | apply Kd.R_drew)); exact (Kd.R_mono (Kd.R_far (p := ⟨gb238, 6, none⟩) (Kd.R_far (p := ⟨gb238, 5, none⟩) (Kd.R_far (p := ⟨gb238, 4, none⟩) (Kd.R_far (p := ⟨gb238, 3, none⟩) (Kd.R_far (p := ⟨gb238, 2, none⟩) (Kd.R_far (p := ⟨gb238, 1, none⟩) (Kd.R_far (p := ⟨gb238, 0, none⟩) (Kd.R_types HO226.out BK238.out (by decide)) (fun _ hk => hk.2) (.int .i64 t227)) (fun _ hk => hk.2) (.int .i64 t228)) (fun _ hk => hk.2) (.int .i64 t229)) (fun _ hk => hk.2) (.int .i64 t230)) (fun _ hk => hk.2) (.int .i64 t231)) (fun _ hk => hk.2) (.int .i64 t232)) (fun _ hk => hk.2) (.int .i64 t233)) (fun _ h_ => h_.1))) hb); have n1_ := Aside0.mk (Kd.R_elder' (by (with_reducible repeat (first | apply Kd.R_alloc | apply Kd.R_drewN | apply Kd.R_drew)); exact (Kd.R_mono (Kd.R_far (p := ⟨gb238, 6, none⟩) (Kd.R_far (p := ⟨gb238, 5, none⟩) (Kd.R_far (p := ⟨gb238, 4, none⟩) (Kd.R_far (p := ⟨gb238, 3, none⟩) (Kd.R_far (p := ⟨gb238, 2, none⟩) (Kd.R_far (p := ⟨gb238, 1, none⟩) (Kd.R_far (p := ⟨gb238, 0, none⟩) (Kd.R_types HO236.out BK238.out (by decide)) (fun _ hk => hk.2) (.int .i64 t227)) (fun _ hk => hk.2) (.int .i64 t228)) (fun _ hk => hk.2) (.int .i64 t229)) (fun _ hk => hk.2) (.int .i64 t230)) (fun _ hk => hk.2) (.int .i64 t231)) (fun _ hk => hk.2) (.int .i64 t232)) (fun _ hk => hk.2) (.int .i64 t233)) (fun _ h_ => h_.1))) (Kd.R_base ho0) hb); have n2_ := Aside0.mk (Kd.R_lower (Kd.R_new' ho0 (Kd.R_lt (by (with_reducible repeat (first | apply Kd.R_alloc | apply Kd.R_drewN | apply Kd.R_drew)); exact (Kd.R_mono (Kd.R_far (p := ⟨gb238, 6, none⟩) (Kd.R_far (p := ⟨gb238, 5, none⟩) (Kd.R_far (p := ⟨gb238, 4, none⟩) (Kd.R_far (p := ⟨gb238, 3, none⟩) (Kd.R_far (p := ⟨gb238, 2, none⟩) (Kd.R_far (p := ⟨gb238, 1, none⟩) (Kd.R_far (p := ⟨gb238, 0, none⟩) (Kd.R_types HO236.out BK238.out (by decide)) (fun _ hk => hk.2) (.int .i64 t227)) (fun _ hk => hk.2) (.int .i64 t228)) (fun _ hk => hk.2) (.int .i64 t229)) (fun _ hk => hk.2) (.int .i64 t230)) (fun _ hk => hk.2) (.int .i64 t231)) (fun _ hk => hk.2) (.int .i64 t232)) (fun _ hk => hk.2) (.int .i64 t233)) (fun _ h_ => h_.1))))) (below_size (by repeat (first | (with_reducible first | exact HB.out | apply below_alloc | apply pw_below_drewN | apply below_drew1 | refine below_set ?_ GE238.out) | exact HB.out)))); have n3_ := Aside0.mk (blk_below (g := gb238) (o := .cells #[.int .i64 t227, .int .i64 t228, .int .i64 t229, .int .i64 t230, .int .i64 t231, .int .i64 t232, .int .i64 t233] 26 (0, 0)) (by (with_reducible repeat (first | refine blk_drewN ?_ _ | refine blk_drew ?_ | refine blk_alloc ?_ _)); refine blk_put (cs := #[.int .i64 t227, .int .i64 t228, .int .i64 t229, .int .i64 t230, .int .i64 t231, .int .i64 t232, .int .i64 0]) ?_ 6 _ rfl; (with_reducible repeat (first | refine blk_drewN ?_ _ | refine blk_drew ?_ | refine blk_alloc ?_ _)); refine blk_put (cs := #[.int .i64 t227, .int .i64 t228, .int .i64 t229, .int .i64 t230, .int .i64 t231, .int .i64 0, .int .i64 0]) ?_ 5 _ rfl; (with_reducible repeat (first | refine blk_drewN ?_ _ | refine blk_drew ?_ | refine blk_alloc ?_ _)); refine blk_put (cs := #[.int .i64 t227, .int .i64 t228, .int .i64 t229, .int .i64 t230, .int .i64 0, .int .i64 0, .int .i64 0]) ?_ 4 _ rfl; (with_reducible repeat (first | refine blk_drewN ?_ _ | refine blk_drew ?_ | refine blk_alloc ?_ _)); refine blk_put (cs := #[.int .i64 t227, .int .i64 t228, .int .i64 t229, .int .i64 0, .int .i64 0, .int .i64 0, .int .i64 0]) ?_ 3 _ rfl; (with_reducible repeat (first | refine blk_drewN ?_ _ | refine blk_drew ?_ | refine blk_alloc ?_ _)); refine blk_put (cs := #[.int .i64 t227, .int .i64 t228, .int .i64 0, .int .i64 0, .int .i64 0, .int .i64 0, .int .i64 0]) ?_ 2 _ rfl; (with_reducible repeat (first | refine blk_drewN ?_ _ | refine blk_drew ?_ | refine blk_alloc ?_ _)); refine blk_put (cs := #[.int .i64 t227, .int .i64 0, .int .i64 0, .int .i64 0, .int .i64 0, .int .i64 0, .int .i64 0]) ?_ 1 _ rfl; (with_reducible repeat (first | refine blk_drewN ?_ _ | refine blk_drew ?_ | refine blk_alloc ?_ _)); refine blk_put (cs := #[.int .i64 0, .int .i64 0, .int .i64 0, .int .i64 0, .int .i64 0, .int .i64 0, .int .i64 0]) ?_ 0 _ rfl; (with_reducible repeat (first | refine blk_drewN ?_ _ | refine blk_drew ?_ | refine blk_alloc ?_ _)); exact BK238.out) hb); have n4_ := Aside0.mk (below_step (by repeat (first | (with_reducible first | exact HB.out | apply below_alloc | apply pw_below_drewN | apply below_drew1 | refine below_set ?_ GE238.out) | exact HB.out)) hb); clear HO226; clear HO236; clear BK238; clear HB; have HO226 := n0_; have HO236 := n1_; have HO248 := n2_; have BK238 := n3_; have HB := n4_; clear n0_ n1_ n2_ n3_ n4_; (try clear hb); (try clear hb2); (try clear hk); (try clear hi); (try clear ho0)) | ((with_reducible refine gate_dst (N := 7) rfl ?_); (try (refine gate_guard (by rfl) ?_; dsimp only)); refine box_event ?hg (N := 7) ?hd (cs := #[.int .i64 0, .int .i64 0, .int .i64 0, .int .i64 0, .int .i64 0, .int .i64 0, .int .i64 0]) (t := 26) ?hr ?_; (case hd => rfl); (case hg => rfl); (case hr => first | (go_simp; done) | (go_simp; rfl)); intro gb250 hg w13 hbox hb; have n0_ := Aside0.mk (Kd.R_below (by (with_reducible repeat (first | apply Kd.R_alloc | apply Kd.R_drewN | apply Kd.R_drew)); exact HO226.out) hb); have n1_ := Aside0.mk (Kd.R_below (by (with_reducible repeat (first | apply Kd.R_alloc | apply Kd.R_drewN | apply Kd.R_drew)); exact HO236.out) hb); have n2_ := Aside0.mk (Kd.R_below (by (with_reducible repeat (first | apply Kd.R_alloc | apply Kd.R_drewN | apply Kd.R_drew)); exact HO248.out) hb); have n3_ := Aside0.mk (blk_below (g := gb238) (o := .cells #[.int .i64 t227, .int .i64 t228, .int .i64 t229, .int .i64 t230, .int .i64 t231, .int .i64 t232, .int .i64 t233] 26 (0, 0)) (by (with_reducible repeat (first | refine blk_drewN ?_ _ | refine blk_drew ?_ | refine blk_alloc ?_ _)); exact BK238.out) hb); have n4_ := Aside0.mk (below_step (by repeat (first | (with_reducible first | exact HB.out | apply below_alloc | apply pw_below_drewN | apply below_drew1 | refine below_set ?_ GE238.out) | exact HB.out)) hb); have n5_ := Aside0.mk (hbox); have n6_ := Aside0.mk ((by rw [hg]; exact (below_size (by repeat (first | (with_reducible first | exact HB.out | apply below_alloc | apply pw_below_drewN | apply below_drew1 | refine below_set ?_ GE238.out) | exact HB.out))) : w.heap.size ≤ gb250)); have n7_ := Aside0.mk ((by rw [hg]; exact (below_size (by repeat (first | (with_reducible first | exact HB.out | apply below_alloc | apply pw_below_drewN | apply below_drew1 | refine below_set ?_ GE238.out) | exact HB.out))) : w.heap.size ≤ gb250)); have n8_ := Aside0.mk ((by rw [hg]; exact Nat.ne_of_lt (blk_lt (g := gb238) (o := .cells #[.int .i64 t227, .int .i64 t228, .int .i64 t229, .int .i64 t230, .int .i64 t231, .int .i64 t232, .int .i64 t233] 26 (0, 0)) (by (with_reducible repeat (first | refine blk_drewN ?_ _ | refine blk_drew ?_ | refine blk_alloc ?_ _)); exact BK238.out)) : gb238 ≠ gb250)); have n9_ := Aside0.mk ((by rw [hg]; exact Nat.ne_of_gt (blk_lt (g := gb238) (o := .cells #[.int .i64 t227, .int .i64 t228, .int .i64 t229, .int .i64 t230, .int .i64 t231, .int .i64 t232, .int .i64 t233] 26 (0, 0)) (by (with_reducible repeat (first | refine blk_drewN ?_ _ | refine blk_drew ?_ | refine blk_alloc ?_ _)); exact BK238.out)) : gb250 ≠ gb238)); clear HO226; clear HO236; clear HO248; clear BK238; clear HB; have HO226 := n0_; have HO236 := n1_; have HO248 := n2_; have BK238 := n3_; have HB := n4_; have BK250 := n5_; have GW250 := n6_; have GE250 := n7_; have NB238_250 := n8_; have NB250_238 := n9_; clear n0_ n1_ n2_ n3_ n4_ n5_ n6_ n7_ n8_ n9_; clear hb hbox hg; have hnb14 := NB250_238.out; have hnc14 := NB238_250.out; have hcz15_0 : w13.cell? ⟨gb250, 0, none⟩ = some (.int .i64 0) := (blk_cell BK250.out 0).trans rfl; have hcz15_1 : w13.cell? ⟨gb250, 1, none⟩ = some (.int .i64 0) := (blk_cell BK250.out 1).trans rfl; have hcz15_2 : w13.cell? ⟨gb250, 2, none⟩ = some (.int .i64 0) := (blk_cell BK250.out 2).trans rfl; have hcz15_3 : w13.cell? ⟨gb250, 3, none⟩ = some (.int .i64 0) := (blk_cell BK250.out 3).trans rfl; have hcz15_4 : w13.cell? ⟨gb250, 4, none⟩ = some (.int .i64 0) := (blk_cell BK250.out 4).trans rfl; have hcz15_5 : w13.cell? ⟨gb250, 5, none⟩ = some (.int .i64 0) := (blk_cell BK250.out 5).trans rfl; have hcz15_6 : w13.cell? ⟨gb250, 6, none⟩ = some (.int .i64 0) := (blk_cell BK250.out 6).trans rfl; have hfz15_0 := blk_frozen BK250.out 0; have hfz15_1 := blk_frozen BK250.out 1; have hfz15_2 := blk_frozen BK250.out 2; have hfz15_3 := blk_frozen BK250.out 3; have hfz15_4 := blk_frozen BK250.out 4; have hfz15_5 := blk_frozen BK250.out 5; have hfz15_6 := blk_frozen BK250.out 6))
    (try simp only [Act.put, List.setIfInBounds_toArray, List.set_cons_zero, List.set_cons_succ])
    go_cut [54] (fun v54 wc => ∃ (kq : Nat) (x54_5 : Bool), v54 = .bool x54_5 ∧ Aside0 (laws_FnWindow.j0 kq t224 t234 x54_5 t227 t228 t229 t230 t231 t232 t233 = some r) ∧ Aside0 (kq ≤ k) ∧ Aside0 (Kd.R k30 30 wc w.heap.size (fun _ => True) (.slice Ao8 t224.length co8) t224) ∧ Aside0 (Kd.R (Kd.int .i64) 3 wc w.heap.size (fun _ => True) v235 t234) ∧ Aside0 (wc.heap[gb238]? = some (.cells #[.int .i64 t227, .int .i64 t228, .int .i64 t229, .int .i64 t230, .int .i64 t231, .int .i64 t232, .int .i64 t233] 26 (0, 0))) ∧ Aside0 (wc.heap[gb250]? = some (.cells #[.int .i64 t239, .int .i64 t240, .int .i64 t241, .int .i64 t242, .int .i64 t243, .int .i64 t244, .int .i64 t245] 26 (0, 0))) ∧ Aside0 (Below w.heap.size w wc))
    case first =>
      have H := HC6.out
      clear HC6
      by_cases c16 : t237 = 0
      · rw [if_pos c16] at H
        have c16b0 : (t237 == 0) = true := beq_iff_eq.mpr c16
        have c16b1 : (t237 != 0) = false := bne_eq_false_iff_eq.mpr c16
        clear c16
        (first | rw [c16b0] | (simp only [i64_w, i32_w]; rw [c16b0]) | skip)
        replace H := Option.bind_eq_some_iff.mp H
        obtain ⟨t251, A170, H⟩ := H
        replace H : (if t251 = true then (if (!(t227 == t239) || (!(t228 == t240) || (!(t229 == t241) || (!(t230 == t242) || (!(t231 == t243) || (!(t232 == t244) || (!(t233 == t245)))))))) = true then (laws_FnWindow.j0 k t224 t234 true t227 t228 t229 t230 t231 t232 t233) else (if (t234.length : Int) = (t224.length : Int) then ((impl_CubicOK.f k t227 t228 t229 t230 t231 t232 t233).bind fun t252 => (laws_FnWindow.j0 k t224 t234 (!t252) t227 t228 t229 t230 t231 t232 t233)) else (laws_FnWindow.j0 k t224 t234 true t227 t228 t229 t230 t231 t232 t233))) else (laws_FnWindow.j0 k t224 t234 true t227 t228 t229 t230 t231 t232 t233)) = some r := H
        have A17 := Aside0.mk A170
        clear A170
        by_cases c18 : t251 = true
        · subst c18
          have H1 : (if (!(t227 == t239) || (!(t228 == t240) || (!(t229 == t241) || (!(t230 == t242) || (!(t231 == t243) || (!(t232 == t244) || (!(t233 == t245)))))))) = true then (laws_FnWindow.j0 k t224 t234 true t227 t228 t229 t230 t231 t232 t233) else (if (t234.length : Int) = (t224.length : Int) then ((impl_CubicOK.f k t227 t228 t229 t230 t231 t232 t233).bind fun t252 => (laws_FnWindow.j0 k t224 t234 (!t252) t227 t228 t229 t230 t231 t232 t233)) else (laws_FnWindow.j0 k t224 t234 true t227 t228 t229 t230 t231 t232 t233))) = some r := by rw [if_pos rfl] at H; exact H
          clear H
          have H := H1
          clear H1
          by_cases c19 : (!(t227 == t239) || (!(t228 == t240) || (!(t229 == t241) || (!(t230 == t242) || (!(t231 == t243) || (!(t232 == t244) || (!(t233 == t245)))))))) = true
          · rw [if_pos c19] at H
            have c19b0 : (!(t227 == t239) || (!(t228 == t240) || (!(t229 == t241) || (!(t230 == t242) || (!(t231 == t243) || (!(t232 == t244) || (!(t233 == t245)))))))) = true := c19
            clear c19
            have H' := Aside0.mk H
            clear H
            obtain ⟨Ao20, co20, eo20⟩ := Kd.R_slice HO236.out
            subst eo20
            obtain ⟨Ao21, co21, eo21⟩ := Kd.R_slice HO248.out
            subst eo21
            go_wp2_with (first | (go_at_call 21; (with_reducible refine (laws_sameInts.calls k _ _ t234 _ _ t246 true _ ?side1 ?side2 ?side3 ?side4 A17.out).mono ?_); (case side1 => refine (Kd.R_reads' (e := 3) (base := w.heap.size) (ok := fun k_ => (True ∧ some k_ ≠ (.slice Ao21 t246.length co21 : Value).ownBlock)) (n := t234.length) (c := co20) ?_).2.2; exact (by (with_reducible repeat (first | apply Kd.R_alloc | apply Kd.R_drewN | apply Kd.R_drew)); exact (Kd.R_mono (Kd.R_far (p := ⟨gb250, 6, none⟩) (Kd.R_far (p := ⟨gb250, 5, none⟩) (Kd.R_far (p := ⟨gb250, 4, none⟩) (Kd.R_far (p := ⟨gb250, 3, none⟩) (Kd.R_far (p := ⟨gb250, 2, none⟩) (Kd.R_far (p := ⟨gb250, 1, none⟩) (Kd.R_far (p := ⟨gb250, 0, none⟩) (Kd.R_types HO236.out BK250.out (by decide)) (fun _ hk => hk.2) (.int .i64 t239)) (fun _ hk => hk.2) (.int .i64 t240)) (fun _ hk => hk.2) (.int .i64 t241)) (fun _ hk => hk.2) (.int .i64 t242)) (fun _ hk => hk.2) (.int .i64 t243)) (fun _ hk => hk.2) (.int .i64 t244)) (fun _ hk => hk.2) (.int .i64 t245)) (fun _ h_ => h_.1)))); (case side2 => exact (Kd.R_reads' HO236.out).2.1); (case side3 => refine (Kd.R_reads' (e := 3) (base := w.heap.size) (ok := fun k_ => (True ∧ some k_ ≠ (.slice Ao20 t234.length co20 : Value).ownBlock)) (n := t246.length) (c := co21) ?_).2.2; exact (by (with_reducible repeat (first | apply Kd.R_alloc | apply Kd.R_drewN | apply Kd.R_drew)); exact (Kd.R_mono (Kd.R_far (p := ⟨gb250, 6, none⟩) (Kd.R_far (p := ⟨gb250, 5, none⟩) (Kd.R_far (p := ⟨gb250, 4, none⟩) (Kd.R_far (p := ⟨gb250, 3, none⟩) (Kd.R_far (p := ⟨gb250, 2, none⟩) (Kd.R_far (p := ⟨gb250, 1, none⟩) (Kd.R_far (p := ⟨gb250, 0, none⟩) (Kd.R_types HO248.out BK250.out (by decide)) (fun _ hk => hk.2) (.int .i64 t239)) (fun _ hk => hk.2) (.int .i64 t240)) (fun _ hk => hk.2) (.int .i64 t241)) (fun _ hk => hk.2) (.int .i64 t242)) (fun _ hk => hk.2) (.int .i64 t243)) (fun _ hk => hk.2) (.int .i64 t244)) (fun _ hk => hk.2) (.int .i64 t245)) (fun _ h_ => h_.1)))); (case side4 => exact (Kd.R_reads' HO248.out).2.1); rintro e w' ⟨rfl, ⟨nd, rfl⟩⟩; have hnb22 := NB238_250.out; have hnc22 := NB250_238.out; have hcz23_0 : w13.cell? ⟨gb238, 0, none⟩ = some (.int .i64 t227) := (blk_cell BK238.out 0).trans rfl; have hcz23_1 : w13.cell? ⟨gb238, 1, none⟩ = some (.int .i64 t228) := (blk_cell BK238.out 1).trans rfl; have hcz23_2 : w13.cell? ⟨gb238, 2, none⟩ = some (.int .i64 t229) := (blk_cell BK238.out 2).trans rfl; have hcz23_3 : w13.cell? ⟨gb238, 3, none⟩ = some (.int .i64 t230) := (blk_cell BK238.out 3).trans rfl; have hcz23_4 : w13.cell? ⟨gb238, 4, none⟩ = some (.int .i64 t231) := (blk_cell BK238.out 4).trans rfl; have hcz23_5 : w13.cell? ⟨gb238, 5, none⟩ = some (.int .i64 t232) := (blk_cell BK238.out 5).trans rfl; have hcz23_6 : w13.cell? ⟨gb238, 6, none⟩ = some (.int .i64 t233) := (blk_cell BK238.out 6).trans rfl; have hfz23_0 := blk_frozen BK238.out 0; have hfz23_1 := blk_frozen BK238.out 1; have hfz23_2 := blk_frozen BK238.out 2; have hfz23_3 := blk_frozen BK238.out 3; have hfz23_4 := blk_frozen BK238.out 4; have hfz23_5 := blk_frozen BK238.out 5; have hfz23_6 := blk_frozen BK238.out 6; have hcz24_0 : w13.cell? ⟨gb250, 0, none⟩ = some (.int .i64 0) := (blk_cell BK250.out 0).trans rfl; have hcz24_1 : w13.cell? ⟨gb250, 1, none⟩ = some (.int .i64 0) := (blk_cell BK250.out 1).trans rfl; have hcz24_2 : w13.cell? ⟨gb250, 2, none⟩ = some (.int .i64 0) := (blk_cell BK250.out 2).trans rfl; have hcz24_3 : w13.cell? ⟨gb250, 3, none⟩ = some (.int .i64 0) := (blk_cell BK250.out 3).trans rfl; have hcz24_4 : w13.cell? ⟨gb250, 4, none⟩ = some (.int .i64 0) := (blk_cell BK250.out 4).trans rfl; have hcz24_5 : w13.cell? ⟨gb250, 5, none⟩ = some (.int .i64 0) := (blk_cell BK250.out 5).trans rfl; have hcz24_6 : w13.cell? ⟨gb250, 6, none⟩ = some (.int .i64 0) := (blk_cell BK250.out 6).trans rfl; have hfz24_0 := blk_frozen BK250.out 0; have hfz24_1 := blk_frozen BK250.out 1; have hfz24_2 := blk_frozen BK250.out 2; have hfz24_3 := blk_frozen BK250.out 3; have hfz24_4 := blk_frozen BK250.out 4; have hfz24_5 := blk_frozen BK250.out 5; have hfz24_6 := blk_frozen BK250.out 6))
            go_meet
            case rel => exact ⟨_, (true), (by first | rfl | (simp; done) | (simp [*]; done)), H', ⟨by first | omega | exact Nat.le_refl _⟩, ⟨by (with_reducible repeat (first | apply Kd.R_alloc | apply Kd.R_drewN | apply Kd.R_drew)); exact Kd.R_mono (Kd.R_far (p := ⟨gb250, 6, none⟩) (Kd.R_far (p := ⟨gb250, 5, none⟩) (Kd.R_far (p := ⟨gb250, 4, none⟩) (Kd.R_far (p := ⟨gb250, 3, none⟩) (Kd.R_far (p := ⟨gb250, 2, none⟩) (Kd.R_far (p := ⟨gb250, 1, none⟩) (Kd.R_far (p := ⟨gb250, 0, none⟩) (Kd.R_types HO226.out BK250.out (by decide)) (fun _ hk => hk.2) (.int .i64 t239)) (fun _ hk => hk.2) (.int .i64 t240)) (fun _ hk => hk.2) (.int .i64 t241)) (fun _ hk => hk.2) (.int .i64 t242)) (fun _ hk => hk.2) (.int .i64 t243)) (fun _ hk => hk.2) (.int .i64 t244)) (fun _ hk => hk.2) (.int .i64 t245)) (fun _ hk => trivial)⟩, ⟨by (with_reducible repeat (first | apply Kd.R_alloc | apply Kd.R_drewN | apply Kd.R_drew)); exact Kd.R_mono (Kd.R_far (p := ⟨gb250, 6, none⟩) (Kd.R_far (p := ⟨gb250, 5, none⟩) (Kd.R_far (p := ⟨gb250, 4, none⟩) (Kd.R_far (p := ⟨gb250, 3, none⟩) (Kd.R_far (p := ⟨gb250, 2, none⟩) (Kd.R_far (p := ⟨gb250, 1, none⟩) (Kd.R_far (p := ⟨gb250, 0, none⟩) (Kd.R_types HO236.out BK250.out (by decide)) (fun _ hk => hk.2) (.int .i64 t239)) (fun _ hk => hk.2) (.int .i64 t240)) (fun _ hk => hk.2) (.int .i64 t241)) (fun _ hk => hk.2) (.int .i64 t242)) (fun _ hk => hk.2) (.int .i64 t243)) (fun _ hk => hk.2) (.int .i64 t244)) (fun _ hk => hk.2) (.int .i64 t245)) (fun _ hk => trivial)⟩, ⟨by (with_reducible repeat (first | refine blk_drewN ?_ _ | refine blk_drew ?_ | refine blk_alloc ?_ _)); refine blk_far ?_ NB238_250.out _; (with_reducible repeat (first | refine blk_drewN ?_ _ | refine blk_drew ?_ | refine blk_alloc ?_ _)); refine blk_far ?_ NB238_250.out _; (with_reducible repeat (first | refine blk_drewN ?_ _ | refine blk_drew ?_ | refine blk_alloc ?_ _)); refine blk_far ?_ NB238_250.out _; (with_reducible repeat (first | refine blk_drewN ?_ _ | refine blk_drew ?_ | refine blk_alloc ?_ _)); refine blk_far ?_ NB238_250.out _; (with_reducible repeat (first | refine blk_drewN ?_ _ | refine blk_drew ?_ | refine blk_alloc ?_ _)); refine blk_far ?_ NB238_250.out _; (with_reducible repeat (first | refine blk_drewN ?_ _ | refine blk_drew ?_ | refine blk_alloc ?_ _)); refine blk_far ?_ NB238_250.out _; (with_reducible repeat (first | refine blk_drewN ?_ _ | refine blk_drew ?_ | refine blk_alloc ?_ _)); refine blk_far ?_ NB238_250.out _; (with_reducible repeat (first | refine blk_drewN ?_ _ | refine blk_drew ?_ | refine blk_alloc ?_ _)); exact BK238.out⟩, ⟨by (with_reducible repeat (first | refine blk_drewN ?_ _ | refine blk_drew ?_ | refine blk_alloc ?_ _)); refine blk_put (cs := #[.int .i64 t239, .int .i64 t240, .int .i64 t241, .int .i64 t242, .int .i64 t243, .int .i64 t244, .int .i64 0]) ?_ 6 _ rfl; (with_reducible repeat (first | refine blk_drewN ?_ _ | refine blk_drew ?_ | refine blk_alloc ?_ _)); refine blk_put (cs := #[.int .i64 t239, .int .i64 t240, .int .i64 t241, .int .i64 t242, .int .i64 t243, .int .i64 0, .int .i64 0]) ?_ 5 _ rfl; (with_reducible repeat (first | refine blk_drewN ?_ _ | refine blk_drew ?_ | refine blk_alloc ?_ _)); refine blk_put (cs := #[.int .i64 t239, .int .i64 t240, .int .i64 t241, .int .i64 t242, .int .i64 0, .int .i64 0, .int .i64 0]) ?_ 4 _ rfl; (with_reducible repeat (first | refine blk_drewN ?_ _ | refine blk_drew ?_ | refine blk_alloc ?_ _)); refine blk_put (cs := #[.int .i64 t239, .int .i64 t240, .int .i64 t241, .int .i64 0, .int .i64 0, .int .i64 0, .int .i64 0]) ?_ 3 _ rfl; (with_reducible repeat (first | refine blk_drewN ?_ _ | refine blk_drew ?_ | refine blk_alloc ?_ _)); refine blk_put (cs := #[.int .i64 t239, .int .i64 t240, .int .i64 0, .int .i64 0, .int .i64 0, .int .i64 0, .int .i64 0]) ?_ 2 _ rfl; (with_reducible repeat (first | refine blk_drewN ?_ _ | refine blk_drew ?_ | refine blk_alloc ?_ _)); refine blk_put (cs := #[.int .i64 t239, .int .i64 0, .int .i64 0, .int .i64 0, .int .i64 0, .int .i64 0, .int .i64 0]) ?_ 1 _ rfl; (with_reducible repeat (first | refine blk_drewN ?_ _ | refine blk_drew ?_ | refine blk_alloc ?_ _)); refine blk_put (cs := #[.int .i64 0, .int .i64 0, .int .i64 0, .int .i64 0, .int .i64 0, .int .i64 0, .int .i64 0]) ?_ 0 _ rfl; (with_reducible repeat (first | refine blk_drewN ?_ _ | refine blk_drew ?_ | refine blk_alloc ?_ _)); exact BK250.out⟩, ⟨by repeat (first | (with_reducible first | exact HB.out | apply below_alloc | apply pw_below_drewN | apply below_drew1 | refine below_set ?_ GE238.out | refine below_set ?_ GE250.out) | exact HB.out)⟩⟩
          · rw [if_neg c19] at H
            have c19b0 : (!(t227 == t239) || (!(t228 == t240) || (!(t229 == t241) || (!(t230 == t242) || (!(t231 == t243) || (!(t232 == t244) || (!(t233 == t245)))))))) = false := by simpa using c19
            clear c19
            by_cases c25 : (t234.length : Int) = (t224.length : Int)
            · rw [if_pos c25] at H
              have c25b0 : ((t234.length : Int) == (t224.length : Int)) = true := beq_iff_eq.mpr c25
              have c25b1 : ((t234.length : Int) != (t224.length : Int)) = false := bne_eq_false_iff_eq.mpr c25
              have c25b2 : (t234.length == t224.length) = true := by first | simpa using c25 | (simp at c25 ⊢; omega)
              clear c25
              replace H := Option.bind_eq_some_iff.mp H
              obtain ⟨t252, A260, H⟩ := H
              replace H : (laws_FnWindow.j0 k t224 t234 (!t252) t227 t228 t229 t230 t231 t232 t233) = some r := H
              have A26 := Aside0.mk A260
              clear A260
              have H' := Aside0.mk H
              clear H
              obtain ⟨Ao27, co27, eo27⟩ := Kd.R_slice HO236.out
              subst eo27
              obtain ⟨Ao28, co28, eo28⟩ := Kd.R_slice HO248.out
              subst eo28
              go_wp2_with (first | (go_at_call 21; (with_reducible refine (laws_sameInts.calls k _ _ t234 _ _ t246 true _ ?side1 ?side2 ?side3 ?side4 A17.out).mono ?_); (case side1 => refine (Kd.R_reads' (e := 3) (base := w.heap.size) (ok := fun k_ => (True ∧ some k_ ≠ (.slice Ao28 t246.length co28 : Value).ownBlock)) (n := t234.length) (c := co27) ?_).2.2; exact (by (with_reducible repeat (first | apply Kd.R_alloc | apply Kd.R_drewN | apply Kd.R_drew)); exact (Kd.R_mono (Kd.R_far (p := ⟨gb250, 6, none⟩) (Kd.R_far (p := ⟨gb250, 5, none⟩) (Kd.R_far (p := ⟨gb250, 4, none⟩) (Kd.R_far (p := ⟨gb250, 3, none⟩) (Kd.R_far (p := ⟨gb250, 2, none⟩) (Kd.R_far (p := ⟨gb250, 1, none⟩) (Kd.R_far (p := ⟨gb250, 0, none⟩) (Kd.R_types HO236.out BK250.out (by decide)) (fun _ hk => hk.2) (.int .i64 t239)) (fun _ hk => hk.2) (.int .i64 t240)) (fun _ hk => hk.2) (.int .i64 t241)) (fun _ hk => hk.2) (.int .i64 t242)) (fun _ hk => hk.2) (.int .i64 t243)) (fun _ hk => hk.2) (.int .i64 t244)) (fun _ hk => hk.2) (.int .i64 t245)) (fun _ h_ => h_.1)))); (case side2 => exact (Kd.R_reads' HO236.out).2.1); (case side3 => refine (Kd.R_reads' (e := 3) (base := w.heap.size) (ok := fun k_ => (True ∧ some k_ ≠ (.slice Ao27 t234.length co27 : Value).ownBlock)) (n := t246.length) (c := co28) ?_).2.2; exact (by (with_reducible repeat (first | apply Kd.R_alloc | apply Kd.R_drewN | apply Kd.R_drew)); exact (Kd.R_mono (Kd.R_far (p := ⟨gb250, 6, none⟩) (Kd.R_far (p := ⟨gb250, 5, none⟩) (Kd.R_far (p := ⟨gb250, 4, none⟩) (Kd.R_far (p := ⟨gb250, 3, none⟩) (Kd.R_far (p := ⟨gb250, 2, none⟩) (Kd.R_far (p := ⟨gb250, 1, none⟩) (Kd.R_far (p := ⟨gb250, 0, none⟩) (Kd.R_types HO248.out BK250.out (by decide)) (fun _ hk => hk.2) (.int .i64 t239)) (fun _ hk => hk.2) (.int .i64 t240)) (fun _ hk => hk.2) (.int .i64 t241)) (fun _ hk => hk.2) (.int .i64 t242)) (fun _ hk => hk.2) (.int .i64 t243)) (fun _ hk => hk.2) (.int .i64 t244)) (fun _ hk => hk.2) (.int .i64 t245)) (fun _ h_ => h_.1)))); (case side4 => exact (Kd.R_reads' HO248.out).2.1); rintro e w' ⟨rfl, ⟨nd, rfl⟩⟩; have hnb29 := NB238_250.out; have hnc29 := NB250_238.out; have hcz30_0 : w13.cell? ⟨gb238, 0, none⟩ = some (.int .i64 t227) := (blk_cell BK238.out 0).trans rfl; have hcz30_1 : w13.cell? ⟨gb238, 1, none⟩ = some (.int .i64 t228) := (blk_cell BK238.out 1).trans rfl; have hcz30_2 : w13.cell? ⟨gb238, 2, none⟩ = some (.int .i64 t229) := (blk_cell BK238.out 2).trans rfl; have hcz30_3 : w13.cell? ⟨gb238, 3, none⟩ = some (.int .i64 t230) := (blk_cell BK238.out 3).trans rfl; have hcz30_4 : w13.cell? ⟨gb238, 4, none⟩ = some (.int .i64 t231) := (blk_cell BK238.out 4).trans rfl; have hcz30_5 : w13.cell? ⟨gb238, 5, none⟩ = some (.int .i64 t232) := (blk_cell BK238.out 5).trans rfl; have hcz30_6 : w13.cell? ⟨gb238, 6, none⟩ = some (.int .i64 t233) := (blk_cell BK238.out 6).trans rfl; have hfz30_0 := blk_frozen BK238.out 0; have hfz30_1 := blk_frozen BK238.out 1; have hfz30_2 := blk_frozen BK238.out 2; have hfz30_3 := blk_frozen BK238.out 3; have hfz30_4 := blk_frozen BK238.out 4; have hfz30_5 := blk_frozen BK238.out 5; have hfz30_6 := blk_frozen BK238.out 6; have hcz31_0 : w13.cell? ⟨gb250, 0, none⟩ = some (.int .i64 0) := (blk_cell BK250.out 0).trans rfl; have hcz31_1 : w13.cell? ⟨gb250, 1, none⟩ = some (.int .i64 0) := (blk_cell BK250.out 1).trans rfl; have hcz31_2 : w13.cell? ⟨gb250, 2, none⟩ = some (.int .i64 0) := (blk_cell BK250.out 2).trans rfl; have hcz31_3 : w13.cell? ⟨gb250, 3, none⟩ = some (.int .i64 0) := (blk_cell BK250.out 3).trans rfl; have hcz31_4 : w13.cell? ⟨gb250, 4, none⟩ = some (.int .i64 0) := (blk_cell BK250.out 4).trans rfl; have hcz31_5 : w13.cell? ⟨gb250, 5, none⟩ = some (.int .i64 0) := (blk_cell BK250.out 5).trans rfl; have hcz31_6 : w13.cell? ⟨gb250, 6, none⟩ = some (.int .i64 0) := (blk_cell BK250.out 6).trans rfl; have hfz31_0 := blk_frozen BK250.out 0; have hfz31_1 := blk_frozen BK250.out 1; have hfz31_2 := blk_frozen BK250.out 2; have hfz31_3 := blk_frozen BK250.out 3; have hfz31_4 := blk_frozen BK250.out 4; have hfz31_5 := blk_frozen BK250.out 5; have hfz31_6 := blk_frozen BK250.out 6) | (go_at_call 22; (with_reducible refine (impl_CubicOK.calls k t227 t228 t229 t230 t231 t232 t233 t252 _ A26.out).mono ?_); rintro e w32 ⟨rfl, hb⟩; have n0_ := Aside0.mk (Kd.R_below (by (with_reducible repeat (first | apply Kd.R_alloc | apply Kd.R_drewN | apply Kd.R_drew)); exact (Kd.R_mono (Kd.R_far (p := ⟨gb250, 6, none⟩) (Kd.R_far (p := ⟨gb250, 5, none⟩) (Kd.R_far (p := ⟨gb250, 4, none⟩) (Kd.R_far (p := ⟨gb250, 3, none⟩) (Kd.R_far (p := ⟨gb250, 2, none⟩) (Kd.R_far (p := ⟨gb250, 1, none⟩) (Kd.R_far (p := ⟨gb250, 0, none⟩) (Kd.R_types HO226.out BK250.out (by decide)) (fun _ hk => hk.2) (.int .i64 t239)) (fun _ hk => hk.2) (.int .i64 t240)) (fun _ hk => hk.2) (.int .i64 t241)) (fun _ hk => hk.2) (.int .i64 t242)) (fun _ hk => hk.2) (.int .i64 t243)) (fun _ hk => hk.2) (.int .i64 t244)) (fun _ hk => hk.2) (.int .i64 t245)) (fun _ h_ => h_.1))) hb); have n1_ := Aside0.mk (Kd.R_below (by (with_reducible repeat (first | apply Kd.R_alloc | apply Kd.R_drewN | apply Kd.R_drew)); exact (Kd.R_mono (Kd.R_far (p := ⟨gb250, 6, none⟩) (Kd.R_far (p := ⟨gb250, 5, none⟩) (Kd.R_far (p := ⟨gb250, 4, none⟩) (Kd.R_far (p := ⟨gb250, 3, none⟩) (Kd.R_far (p := ⟨gb250, 2, none⟩) (Kd.R_far (p := ⟨gb250, 1, none⟩) (Kd.R_far (p := ⟨gb250, 0, none⟩) (Kd.R_types HO236.out BK250.out (by decide)) (fun _ hk => hk.2) (.int .i64 t239)) (fun _ hk => hk.2) (.int .i64 t240)) (fun _ hk => hk.2) (.int .i64 t241)) (fun _ hk => hk.2) (.int .i64 t242)) (fun _ hk => hk.2) (.int .i64 t243)) (fun _ hk => hk.2) (.int .i64 t244)) (fun _ hk => hk.2) (.int .i64 t245)) (fun _ h_ => h_.1))) hb); have n2_ := Aside0.mk (Kd.R_below (by (with_reducible repeat (first | apply Kd.R_alloc | apply Kd.R_drewN | apply Kd.R_drew)); exact (Kd.R_mono (Kd.R_far (p := ⟨gb250, 6, none⟩) (Kd.R_far (p := ⟨gb250, 5, none⟩) (Kd.R_far (p := ⟨gb250, 4, none⟩) (Kd.R_far (p := ⟨gb250, 3, none⟩) (Kd.R_far (p := ⟨gb250, 2, none⟩) (Kd.R_far (p := ⟨gb250, 1, none⟩) (Kd.R_far (p := ⟨gb250, 0, none⟩) (Kd.R_types HO248.out BK250.out (by decide)) (fun _ hk => hk.2) (.int .i64 t239)) (fun _ hk => hk.2) (.int .i64 t240)) (fun _ hk => hk.2) (.int .i64 t241)) (fun _ hk => hk.2) (.int .i64 t242)) (fun _ hk => hk.2) (.int .i64 t243)) (fun _ hk => hk.2) (.int .i64 t244)) (fun _ hk => hk.2) (.int .i64 t245)) (fun _ h_ => h_.1))) hb); have n3_ := Aside0.mk (blk_below (g := gb238) (o := .cells #[.int .i64 t227, .int .i64 t228, .int .i64 t229, .int .i64 t230, .int .i64 t231, .int .i64 t232, .int .i64 t233] 26 (0, 0)) (by (with_reducible repeat (first | refine blk_drewN ?_ _ | refine blk_drew ?_ | refine blk_alloc ?_ _)); refine blk_far ?_ NB238_250.out _; (with_reducible repeat (first | refine blk_drewN ?_ _ | refine blk_drew ?_ | refine blk_alloc ?_ _)); refine blk_far ?_ NB238_250.out _; (with_reducible repeat (first | refine blk_drewN ?_ _ | refine blk_drew ?_ | refine blk_alloc ?_ _)); refine blk_far ?_ NB238_250.out _; (with_reducible repeat (first | refine blk_drewN ?_ _ | refine blk_drew ?_ | refine blk_alloc ?_ _)); refine blk_far ?_ NB238_250.out _; (with_reducible repeat (first | refine blk_drewN ?_ _ | refine blk_drew ?_ | refine blk_alloc ?_ _)); refine blk_far ?_ NB238_250.out _; (with_reducible repeat (first | refine blk_drewN ?_ _ | refine blk_drew ?_ | refine blk_alloc ?_ _)); refine blk_far ?_ NB238_250.out _; (with_reducible repeat (first | refine blk_drewN ?_ _ | refine blk_drew ?_ | refine blk_alloc ?_ _)); refine blk_far ?_ NB238_250.out _; (with_reducible repeat (first | refine blk_drewN ?_ _ | refine blk_drew ?_ | refine blk_alloc ?_ _)); exact BK238.out) hb); have n4_ := Aside0.mk (blk_below (g := gb250) (o := .cells #[.int .i64 t239, .int .i64 t240, .int .i64 t241, .int .i64 t242, .int .i64 t243, .int .i64 t244, .int .i64 t245] 26 (0, 0)) (by (with_reducible repeat (first | refine blk_drewN ?_ _ | refine blk_drew ?_ | refine blk_alloc ?_ _)); refine blk_put (cs := #[.int .i64 t239, .int .i64 t240, .int .i64 t241, .int .i64 t242, .int .i64 t243, .int .i64 t244, .int .i64 0]) ?_ 6 _ rfl; (with_reducible repeat (first | refine blk_drewN ?_ _ | refine blk_drew ?_ | refine blk_alloc ?_ _)); refine blk_put (cs := #[.int .i64 t239, .int .i64 t240, .int .i64 t241, .int .i64 t242, .int .i64 t243, .int .i64 0, .int .i64 0]) ?_ 5 _ rfl; (with_reducible repeat (first | refine blk_drewN ?_ _ | refine blk_drew ?_ | refine blk_alloc ?_ _)); refine blk_put (cs := #[.int .i64 t239, .int .i64 t240, .int .i64 t241, .int .i64 t242, .int .i64 0, .int .i64 0, .int .i64 0]) ?_ 4 _ rfl; (with_reducible repeat (first | refine blk_drewN ?_ _ | refine blk_drew ?_ | refine blk_alloc ?_ _)); refine blk_put (cs := #[.int .i64 t239, .int .i64 t240, .int .i64 t241, .int .i64 0, .int .i64 0, .int .i64 0, .int .i64 0]) ?_ 3 _ rfl; (with_reducible repeat (first | refine blk_drewN ?_ _ | refine blk_drew ?_ | refine blk_alloc ?_ _)); refine blk_put (cs := #[.int .i64 t239, .int .i64 t240, .int .i64 0, .int .i64 0, .int .i64 0, .int .i64 0, .int .i64 0]) ?_ 2 _ rfl; (with_reducible repeat (first | refine blk_drewN ?_ _ | refine blk_drew ?_ | refine blk_alloc ?_ _)); refine blk_put (cs := #[.int .i64 t239, .int .i64 0, .int .i64 0, .int .i64 0, .int .i64 0, .int .i64 0, .int .i64 0]) ?_ 1 _ rfl; (with_reducible repeat (first | refine blk_drewN ?_ _ | refine blk_drew ?_ | refine blk_alloc ?_ _)); refine blk_put (cs := #[.int .i64 0, .int .i64 0, .int .i64 0, .int .i64 0, .int .i64 0, .int .i64 0, .int .i64 0]) ?_ 0 _ rfl; (with_reducible repeat (first | refine blk_drewN ?_ _ | refine blk_drew ?_ | refine blk_alloc ?_ _)); exact BK250.out) hb); have n5_ := Aside0.mk (below_step (by repeat (first | (with_reducible first | exact HB.out | apply below_alloc | apply pw_below_drewN | apply below_drew1 | refine below_set ?_ GE238.out | refine below_set ?_ GE250.out) | exact HB.out)) hb); clear HO226; clear HO236; clear HO248; clear BK238; clear BK250; clear HB; have HO226 := n0_; have HO236 := n1_; have HO248 := n2_; have BK238 := n3_; have BK250 := n4_; have HB := n5_; clear n0_ n1_ n2_ n3_ n4_ n5_; (try clear hb); (try clear hb2); (try clear hk); (try clear hi)))
              go_meet
              case rel => exact ⟨_, (!t252), (by first | rfl | (simp; done) | (simp [*]; done)), H', ⟨by first | omega | exact Nat.le_refl _⟩, ⟨by (with_reducible repeat (first | apply Kd.R_alloc | apply Kd.R_drewN | apply Kd.R_drew)); exact HO226.out⟩, ⟨by (with_reducible repeat (first | apply Kd.R_alloc | apply Kd.R_drewN | apply Kd.R_drew)); exact Kd.R_mono HO236.out (fun _ hk => trivial)⟩, ⟨by (with_reducible repeat (first | refine blk_drewN ?_ _ | refine blk_drew ?_ | refine blk_alloc ?_ _)); exact BK238.out⟩, ⟨by (with_reducible repeat (first | refine blk_drewN ?_ _ | refine blk_drew ?_ | refine blk_alloc ?_ _)); exact BK250.out⟩, ⟨by repeat (first | (with_reducible first | exact HB.out | apply below_alloc | apply pw_below_drewN | apply below_drew1 | refine below_set ?_ GE238.out | refine below_set ?_ GE250.out) | exact HB.out)⟩⟩
            · rw [if_neg c25] at H
              have c25b0 : ((t234.length : Int) == (t224.length : Int)) = false := beq_eq_false_iff_ne.mpr c25
              have c25b1 : ((t234.length : Int) != (t224.length : Int)) = true := bne_iff_ne.mpr c25
              have c25b2 : (t234.length == t224.length) = false := by first | simpa using c25 | (simp at c25 ⊢; omega)
              have H' := Aside0.mk H
              clear H
              obtain ⟨Ao33, co33, eo33⟩ := Kd.R_slice HO236.out
              subst eo33
              obtain ⟨Ao34, co34, eo34⟩ := Kd.R_slice HO248.out
              subst eo34
              go_wp2_with (first | (go_at_call 21; (with_reducible refine (laws_sameInts.calls k _ _ t234 _ _ t246 true _ ?side1 ?side2 ?side3 ?side4 A17.out).mono ?_); (case side1 => refine (Kd.R_reads' (e := 3) (base := w.heap.size) (ok := fun k_ => (True ∧ some k_ ≠ (.slice Ao34 t246.length co34 : Value).ownBlock)) (n := t234.length) (c := co33) ?_).2.2; exact (by (with_reducible repeat (first | apply Kd.R_alloc | apply Kd.R_drewN | apply Kd.R_drew)); exact (Kd.R_mono (Kd.R_far (p := ⟨gb250, 6, none⟩) (Kd.R_far (p := ⟨gb250, 5, none⟩) (Kd.R_far (p := ⟨gb250, 4, none⟩) (Kd.R_far (p := ⟨gb250, 3, none⟩) (Kd.R_far (p := ⟨gb250, 2, none⟩) (Kd.R_far (p := ⟨gb250, 1, none⟩) (Kd.R_far (p := ⟨gb250, 0, none⟩) (Kd.R_types HO236.out BK250.out (by decide)) (fun _ hk => hk.2) (.int .i64 t239)) (fun _ hk => hk.2) (.int .i64 t240)) (fun _ hk => hk.2) (.int .i64 t241)) (fun _ hk => hk.2) (.int .i64 t242)) (fun _ hk => hk.2) (.int .i64 t243)) (fun _ hk => hk.2) (.int .i64 t244)) (fun _ hk => hk.2) (.int .i64 t245)) (fun _ h_ => h_.1)))); (case side2 => exact (Kd.R_reads' HO236.out).2.1); (case side3 => refine (Kd.R_reads' (e := 3) (base := w.heap.size) (ok := fun k_ => (True ∧ some k_ ≠ (.slice Ao33 t234.length co33 : Value).ownBlock)) (n := t246.length) (c := co34) ?_).2.2; exact (by (with_reducible repeat (first | apply Kd.R_alloc | apply Kd.R_drewN | apply Kd.R_drew)); exact (Kd.R_mono (Kd.R_far (p := ⟨gb250, 6, none⟩) (Kd.R_far (p := ⟨gb250, 5, none⟩) (Kd.R_far (p := ⟨gb250, 4, none⟩) (Kd.R_far (p := ⟨gb250, 3, none⟩) (Kd.R_far (p := ⟨gb250, 2, none⟩) (Kd.R_far (p := ⟨gb250, 1, none⟩) (Kd.R_far (p := ⟨gb250, 0, none⟩) (Kd.R_types HO248.out BK250.out (by decide)) (fun _ hk => hk.2) (.int .i64 t239)) (fun _ hk => hk.2) (.int .i64 t240)) (fun _ hk => hk.2) (.int .i64 t241)) (fun _ hk => hk.2) (.int .i64 t242)) (fun _ hk => hk.2) (.int .i64 t243)) (fun _ hk => hk.2) (.int .i64 t244)) (fun _ hk => hk.2) (.int .i64 t245)) (fun _ h_ => h_.1)))); (case side4 => exact (Kd.R_reads' HO248.out).2.1); rintro e w' ⟨rfl, ⟨nd, rfl⟩⟩; have hnb35 := NB238_250.out; have hnc35 := NB250_238.out; have hcz36_0 : w13.cell? ⟨gb238, 0, none⟩ = some (.int .i64 t227) := (blk_cell BK238.out 0).trans rfl; have hcz36_1 : w13.cell? ⟨gb238, 1, none⟩ = some (.int .i64 t228) := (blk_cell BK238.out 1).trans rfl; have hcz36_2 : w13.cell? ⟨gb238, 2, none⟩ = some (.int .i64 t229) := (blk_cell BK238.out 2).trans rfl; have hcz36_3 : w13.cell? ⟨gb238, 3, none⟩ = some (.int .i64 t230) := (blk_cell BK238.out 3).trans rfl; have hcz36_4 : w13.cell? ⟨gb238, 4, none⟩ = some (.int .i64 t231) := (blk_cell BK238.out 4).trans rfl; have hcz36_5 : w13.cell? ⟨gb238, 5, none⟩ = some (.int .i64 t232) := (blk_cell BK238.out 5).trans rfl; have hcz36_6 : w13.cell? ⟨gb238, 6, none⟩ = some (.int .i64 t233) := (blk_cell BK238.out 6).trans rfl; have hfz36_0 := blk_frozen BK238.out 0; have hfz36_1 := blk_frozen BK238.out 1; have hfz36_2 := blk_frozen BK238.out 2; have hfz36_3 := blk_frozen BK238.out 3; have hfz36_4 := blk_frozen BK238.out 4; have hfz36_5 := blk_frozen BK238.out 5; have hfz36_6 := blk_frozen BK238.out 6; have hcz37_0 : w13.cell? ⟨gb250, 0, none⟩ = some (.int .i64 0) := (blk_cell BK250.out 0).trans rfl; have hcz37_1 : w13.cell? ⟨gb250, 1, none⟩ = some (.int .i64 0) := (blk_cell BK250.out 1).trans rfl; have hcz37_2 : w13.cell? ⟨gb250, 2, none⟩ = some (.int .i64 0) := (blk_cell BK250.out 2).trans rfl; have hcz37_3 : w13.cell? ⟨gb250, 3, none⟩ = some (.int .i64 0) := (blk_cell BK250.out 3).trans rfl; have hcz37_4 : w13.cell? ⟨gb250, 4, none⟩ = some (.int .i64 0) := (blk_cell BK250.out 4).trans rfl; have hcz37_5 : w13.cell? ⟨gb250, 5, none⟩ = some (.int .i64 0) := (blk_cell BK250.out 5).trans rfl; have hcz37_6 : w13.cell? ⟨gb250, 6, none⟩ = some (.int .i64 0) := (blk_cell BK250.out 6).trans rfl; have hfz37_0 := blk_frozen BK250.out 0; have hfz37_1 := blk_frozen BK250.out 1; have hfz37_2 := blk_frozen BK250.out 2; have hfz37_3 := blk_frozen BK250.out 3; have hfz37_4 := blk_frozen BK250.out 4; have hfz37_5 := blk_frozen BK250.out 5; have hfz37_6 := blk_frozen BK250.out 6))
              go_meet
              case rel => exact ⟨_, (true), (by first | rfl | (simp; done) | (simp [*]; done)), H', ⟨by first | omega | exact Nat.le_refl _⟩, ⟨by (with_reducible repeat (first | apply Kd.R_alloc | apply Kd.R_drewN | apply Kd.R_drew)); exact Kd.R_mono (Kd.R_far (p := ⟨gb250, 6, none⟩) (Kd.R_far (p := ⟨gb250, 5, none⟩) (Kd.R_far (p := ⟨gb250, 4, none⟩) (Kd.R_far (p := ⟨gb250, 3, none⟩) (Kd.R_far (p := ⟨gb250, 2, none⟩) (Kd.R_far (p := ⟨gb250, 1, none⟩) (Kd.R_far (p := ⟨gb250, 0, none⟩) (Kd.R_types HO226.out BK250.out (by decide)) (fun _ hk => hk.2) (.int .i64 t239)) (fun _ hk => hk.2) (.int .i64 t240)) (fun _ hk => hk.2) (.int .i64 t241)) (fun _ hk => hk.2) (.int .i64 t242)) (fun _ hk => hk.2) (.int .i64 t243)) (fun _ hk => hk.2) (.int .i64 t244)) (fun _ hk => hk.2) (.int .i64 t245)) (fun _ hk => trivial)⟩, ⟨by (with_reducible repeat (first | apply Kd.R_alloc | apply Kd.R_drewN | apply Kd.R_drew)); exact Kd.R_mono (Kd.R_far (p := ⟨gb250, 6, none⟩) (Kd.R_far (p := ⟨gb250, 5, none⟩) (Kd.R_far (p := ⟨gb250, 4, none⟩) (Kd.R_far (p := ⟨gb250, 3, none⟩) (Kd.R_far (p := ⟨gb250, 2, none⟩) (Kd.R_far (p := ⟨gb250, 1, none⟩) (Kd.R_far (p := ⟨gb250, 0, none⟩) (Kd.R_types HO236.out BK250.out (by decide)) (fun _ hk => hk.2) (.int .i64 t239)) (fun _ hk => hk.2) (.int .i64 t240)) (fun _ hk => hk.2) (.int .i64 t241)) (fun _ hk => hk.2) (.int .i64 t242)) (fun _ hk => hk.2) (.int .i64 t243)) (fun _ hk => hk.2) (.int .i64 t244)) (fun _ hk => hk.2) (.int .i64 t245)) (fun _ hk => trivial)⟩, ⟨by (with_reducible repeat (first | refine blk_drewN ?_ _ | refine blk_drew ?_ | refine blk_alloc ?_ _)); refine blk_far ?_ NB238_250.out _; (with_reducible repeat (first | refine blk_drewN ?_ _ | refine blk_drew ?_ | refine blk_alloc ?_ _)); refine blk_far ?_ NB238_250.out _; (with_reducible repeat (first | refine blk_drewN ?_ _ | refine blk_drew ?_ | refine blk_alloc ?_ _)); refine blk_far ?_ NB238_250.out _; (with_reducible repeat (first | refine blk_drewN ?_ _ | refine blk_drew ?_ | refine blk_alloc ?_ _)); refine blk_far ?_ NB238_250.out _; (with_reducible repeat (first | refine blk_drewN ?_ _ | refine blk_drew ?_ | refine blk_alloc ?_ _)); refine blk_far ?_ NB238_250.out _; (with_reducible repeat (first | refine blk_drewN ?_ _ | refine blk_drew ?_ | refine blk_alloc ?_ _)); refine blk_far ?_ NB238_250.out _; (with_reducible repeat (first | refine blk_drewN ?_ _ | refine blk_drew ?_ | refine blk_alloc ?_ _)); refine blk_far ?_ NB238_250.out _; (with_reducible repeat (first | refine blk_drewN ?_ _ | refine blk_drew ?_ | refine blk_alloc ?_ _)); exact BK238.out⟩, ⟨by (with_reducible repeat (first | refine blk_drewN ?_ _ | refine blk_drew ?_ | refine blk_alloc ?_ _)); refine blk_put (cs := #[.int .i64 t239, .int .i64 t240, .int .i64 t241, .int .i64 t242, .int .i64 t243, .int .i64 t244, .int .i64 0]) ?_ 6 _ rfl; (with_reducible repeat (first | refine blk_drewN ?_ _ | refine blk_drew ?_ | refine blk_alloc ?_ _)); refine blk_put (cs := #[.int .i64 t239, .int .i64 t240, .int .i64 t241, .int .i64 t242, .int .i64 t243, .int .i64 0, .int .i64 0]) ?_ 5 _ rfl; (with_reducible repeat (first | refine blk_drewN ?_ _ | refine blk_drew ?_ | refine blk_alloc ?_ _)); refine blk_put (cs := #[.int .i64 t239, .int .i64 t240, .int .i64 t241, .int .i64 t242, .int .i64 0, .int .i64 0, .int .i64 0]) ?_ 4 _ rfl; (with_reducible repeat (first | refine blk_drewN ?_ _ | refine blk_drew ?_ | refine blk_alloc ?_ _)); refine blk_put (cs := #[.int .i64 t239, .int .i64 t240, .int .i64 t241, .int .i64 0, .int .i64 0, .int .i64 0, .int .i64 0]) ?_ 3 _ rfl; (with_reducible repeat (first | refine blk_drewN ?_ _ | refine blk_drew ?_ | refine blk_alloc ?_ _)); refine blk_put (cs := #[.int .i64 t239, .int .i64 t240, .int .i64 0, .int .i64 0, .int .i64 0, .int .i64 0, .int .i64 0]) ?_ 2 _ rfl; (with_reducible repeat (first | refine blk_drewN ?_ _ | refine blk_drew ?_ | refine blk_alloc ?_ _)); refine blk_put (cs := #[.int .i64 t239, .int .i64 0, .int .i64 0, .int .i64 0, .int .i64 0, .int .i64 0, .int .i64 0]) ?_ 1 _ rfl; (with_reducible repeat (first | refine blk_drewN ?_ _ | refine blk_drew ?_ | refine blk_alloc ?_ _)); refine blk_put (cs := #[.int .i64 0, .int .i64 0, .int .i64 0, .int .i64 0, .int .i64 0, .int .i64 0, .int .i64 0]) ?_ 0 _ rfl; (with_reducible repeat (first | refine blk_drewN ?_ _ | refine blk_drew ?_ | refine blk_alloc ?_ _)); exact BK250.out⟩, ⟨by repeat (first | (with_reducible first | exact HB.out | apply below_alloc | apply pw_below_drewN | apply below_drew1 | refine below_set ?_ GE238.out | refine below_set ?_ GE250.out) | exact HB.out)⟩⟩
        · replace c18 := Bool.eq_false_iff.mpr c18
          subst c18
          have H1 : (laws_FnWindow.j0 k t224 t234 true t227 t228 t229 t230 t231 t232 t233) = some r := by rw [if_neg (show ¬ (false = true) by decide)] at H; exact H
          clear H
          have H := H1
          clear H1
          have H' := Aside0.mk H
          clear H
          obtain ⟨Ao38, co38, eo38⟩ := Kd.R_slice HO236.out
          subst eo38
          obtain ⟨Ao39, co39, eo39⟩ := Kd.R_slice HO248.out
          subst eo39
          go_wp2_with (first | (go_at_call 21; (with_reducible refine (laws_sameInts.calls k _ _ t234 _ _ t246 false _ ?side1 ?side2 ?side3 ?side4 A17.out).mono ?_); (case side1 => refine (Kd.R_reads' (e := 3) (base := w.heap.size) (ok := fun k_ => (True ∧ some k_ ≠ (.slice Ao39 t246.length co39 : Value).ownBlock)) (n := t234.length) (c := co38) ?_).2.2; exact (by (with_reducible repeat (first | apply Kd.R_alloc | apply Kd.R_drewN | apply Kd.R_drew)); exact (Kd.R_mono (Kd.R_far (p := ⟨gb250, 6, none⟩) (Kd.R_far (p := ⟨gb250, 5, none⟩) (Kd.R_far (p := ⟨gb250, 4, none⟩) (Kd.R_far (p := ⟨gb250, 3, none⟩) (Kd.R_far (p := ⟨gb250, 2, none⟩) (Kd.R_far (p := ⟨gb250, 1, none⟩) (Kd.R_far (p := ⟨gb250, 0, none⟩) (Kd.R_types HO236.out BK250.out (by decide)) (fun _ hk => hk.2) (.int .i64 t239)) (fun _ hk => hk.2) (.int .i64 t240)) (fun _ hk => hk.2) (.int .i64 t241)) (fun _ hk => hk.2) (.int .i64 t242)) (fun _ hk => hk.2) (.int .i64 t243)) (fun _ hk => hk.2) (.int .i64 t244)) (fun _ hk => hk.2) (.int .i64 t245)) (fun _ h_ => h_.1)))); (case side2 => exact (Kd.R_reads' HO236.out).2.1); (case side3 => refine (Kd.R_reads' (e := 3) (base := w.heap.size) (ok := fun k_ => (True ∧ some k_ ≠ (.slice Ao38 t234.length co38 : Value).ownBlock)) (n := t246.length) (c := co39) ?_).2.2; exact (by (with_reducible repeat (first | apply Kd.R_alloc | apply Kd.R_drewN | apply Kd.R_drew)); exact (Kd.R_mono (Kd.R_far (p := ⟨gb250, 6, none⟩) (Kd.R_far (p := ⟨gb250, 5, none⟩) (Kd.R_far (p := ⟨gb250, 4, none⟩) (Kd.R_far (p := ⟨gb250, 3, none⟩) (Kd.R_far (p := ⟨gb250, 2, none⟩) (Kd.R_far (p := ⟨gb250, 1, none⟩) (Kd.R_far (p := ⟨gb250, 0, none⟩) (Kd.R_types HO248.out BK250.out (by decide)) (fun _ hk => hk.2) (.int .i64 t239)) (fun _ hk => hk.2) (.int .i64 t240)) (fun _ hk => hk.2) (.int .i64 t241)) (fun _ hk => hk.2) (.int .i64 t242)) (fun _ hk => hk.2) (.int .i64 t243)) (fun _ hk => hk.2) (.int .i64 t244)) (fun _ hk => hk.2) (.int .i64 t245)) (fun _ h_ => h_.1)))); (case side4 => exact (Kd.R_reads' HO248.out).2.1); rintro e w' ⟨rfl, ⟨nd, rfl⟩⟩))
          go_meet
          case rel => exact ⟨_, (true), (by first | rfl | (simp; done) | (simp [*]; done)), H', ⟨by first | omega | exact Nat.le_refl _⟩, ⟨by (with_reducible repeat (first | apply Kd.R_alloc | apply Kd.R_drewN | apply Kd.R_drew)); exact Kd.R_mono (Kd.R_far (p := ⟨gb250, 6, none⟩) (Kd.R_far (p := ⟨gb250, 5, none⟩) (Kd.R_far (p := ⟨gb250, 4, none⟩) (Kd.R_far (p := ⟨gb250, 3, none⟩) (Kd.R_far (p := ⟨gb250, 2, none⟩) (Kd.R_far (p := ⟨gb250, 1, none⟩) (Kd.R_far (p := ⟨gb250, 0, none⟩) (Kd.R_types HO226.out BK250.out (by decide)) (fun _ hk => hk.2) (.int .i64 t239)) (fun _ hk => hk.2) (.int .i64 t240)) (fun _ hk => hk.2) (.int .i64 t241)) (fun _ hk => hk.2) (.int .i64 t242)) (fun _ hk => hk.2) (.int .i64 t243)) (fun _ hk => hk.2) (.int .i64 t244)) (fun _ hk => hk.2) (.int .i64 t245)) (fun _ hk => trivial)⟩, ⟨by (with_reducible repeat (first | apply Kd.R_alloc | apply Kd.R_drewN | apply Kd.R_drew)); exact Kd.R_mono (Kd.R_far (p := ⟨gb250, 6, none⟩) (Kd.R_far (p := ⟨gb250, 5, none⟩) (Kd.R_far (p := ⟨gb250, 4, none⟩) (Kd.R_far (p := ⟨gb250, 3, none⟩) (Kd.R_far (p := ⟨gb250, 2, none⟩) (Kd.R_far (p := ⟨gb250, 1, none⟩) (Kd.R_far (p := ⟨gb250, 0, none⟩) (Kd.R_types HO236.out BK250.out (by decide)) (fun _ hk => hk.2) (.int .i64 t239)) (fun _ hk => hk.2) (.int .i64 t240)) (fun _ hk => hk.2) (.int .i64 t241)) (fun _ hk => hk.2) (.int .i64 t242)) (fun _ hk => hk.2) (.int .i64 t243)) (fun _ hk => hk.2) (.int .i64 t244)) (fun _ hk => hk.2) (.int .i64 t245)) (fun _ hk => trivial)⟩, ⟨by (with_reducible repeat (first | refine blk_drewN ?_ _ | refine blk_drew ?_ | refine blk_alloc ?_ _)); refine blk_far ?_ NB238_250.out _; (with_reducible repeat (first | refine blk_drewN ?_ _ | refine blk_drew ?_ | refine blk_alloc ?_ _)); refine blk_far ?_ NB238_250.out _; (with_reducible repeat (first | refine blk_drewN ?_ _ | refine blk_drew ?_ | refine blk_alloc ?_ _)); refine blk_far ?_ NB238_250.out _; (with_reducible repeat (first | refine blk_drewN ?_ _ | refine blk_drew ?_ | refine blk_alloc ?_ _)); refine blk_far ?_ NB238_250.out _; (with_reducible repeat (first | refine blk_drewN ?_ _ | refine blk_drew ?_ | refine blk_alloc ?_ _)); refine blk_far ?_ NB238_250.out _; (with_reducible repeat (first | refine blk_drewN ?_ _ | refine blk_drew ?_ | refine blk_alloc ?_ _)); refine blk_far ?_ NB238_250.out _; (with_reducible repeat (first | refine blk_drewN ?_ _ | refine blk_drew ?_ | refine blk_alloc ?_ _)); refine blk_far ?_ NB238_250.out _; (with_reducible repeat (first | refine blk_drewN ?_ _ | refine blk_drew ?_ | refine blk_alloc ?_ _)); exact BK238.out⟩, ⟨by (with_reducible repeat (first | refine blk_drewN ?_ _ | refine blk_drew ?_ | refine blk_alloc ?_ _)); refine blk_put (cs := #[.int .i64 t239, .int .i64 t240, .int .i64 t241, .int .i64 t242, .int .i64 t243, .int .i64 t244, .int .i64 0]) ?_ 6 _ rfl; (with_reducible repeat (first | refine blk_drewN ?_ _ | refine blk_drew ?_ | refine blk_alloc ?_ _)); refine blk_put (cs := #[.int .i64 t239, .int .i64 t240, .int .i64 t241, .int .i64 t242, .int .i64 t243, .int .i64 0, .int .i64 0]) ?_ 5 _ rfl; (with_reducible repeat (first | refine blk_drewN ?_ _ | refine blk_drew ?_ | refine blk_alloc ?_ _)); refine blk_put (cs := #[.int .i64 t239, .int .i64 t240, .int .i64 t241, .int .i64 t242, .int .i64 0, .int .i64 0, .int .i64 0]) ?_ 4 _ rfl; (with_reducible repeat (first | refine blk_drewN ?_ _ | refine blk_drew ?_ | refine blk_alloc ?_ _)); refine blk_put (cs := #[.int .i64 t239, .int .i64 t240, .int .i64 t241, .int .i64 0, .int .i64 0, .int .i64 0, .int .i64 0]) ?_ 3 _ rfl; (with_reducible repeat (first | refine blk_drewN ?_ _ | refine blk_drew ?_ | refine blk_alloc ?_ _)); refine blk_put (cs := #[.int .i64 t239, .int .i64 t240, .int .i64 0, .int .i64 0, .int .i64 0, .int .i64 0, .int .i64 0]) ?_ 2 _ rfl; (with_reducible repeat (first | refine blk_drewN ?_ _ | refine blk_drew ?_ | refine blk_alloc ?_ _)); refine blk_put (cs := #[.int .i64 t239, .int .i64 0, .int .i64 0, .int .i64 0, .int .i64 0, .int .i64 0, .int .i64 0]) ?_ 1 _ rfl; (with_reducible repeat (first | refine blk_drewN ?_ _ | refine blk_drew ?_ | refine blk_alloc ?_ _)); refine blk_put (cs := #[.int .i64 0, .int .i64 0, .int .i64 0, .int .i64 0, .int .i64 0, .int .i64 0, .int .i64 0]) ?_ 0 _ rfl; (with_reducible repeat (first | refine blk_drewN ?_ _ | refine blk_drew ?_ | refine blk_alloc ?_ _)); exact BK250.out⟩, ⟨by repeat (first | (with_reducible first | exact HB.out | apply below_alloc | apply pw_below_drewN | apply below_drew1 | refine below_set ?_ GE238.out | refine below_set ?_ GE250.out) | exact HB.out)⟩⟩
      · rw [if_neg c16] at H
        have c16b0 : (t237 == 0) = false := beq_eq_false_iff_ne.mpr c16
        have c16b1 : (t237 != 0) = true := bne_iff_ne.mpr c16
        (first | rw [c16b0] | (simp only [i64_w, i32_w]; rw [c16b0]) | skip)
        have H' := Aside0.mk H
        clear H
        go_wp2
        go_meet
        case rel => exact ⟨_, (true), (by first | rfl | (simp; done) | (simp [*]; done)), H', ⟨by first | omega | exact Nat.le_refl _⟩, ⟨by (with_reducible repeat (first | apply Kd.R_alloc | apply Kd.R_drewN | apply Kd.R_drew)); exact Kd.R_mono (Kd.R_far (p := ⟨gb250, 6, none⟩) (Kd.R_far (p := ⟨gb250, 5, none⟩) (Kd.R_far (p := ⟨gb250, 4, none⟩) (Kd.R_far (p := ⟨gb250, 3, none⟩) (Kd.R_far (p := ⟨gb250, 2, none⟩) (Kd.R_far (p := ⟨gb250, 1, none⟩) (Kd.R_far (p := ⟨gb250, 0, none⟩) (Kd.R_types HO226.out BK250.out (by decide)) (fun _ hk => hk.2) (.int .i64 t239)) (fun _ hk => hk.2) (.int .i64 t240)) (fun _ hk => hk.2) (.int .i64 t241)) (fun _ hk => hk.2) (.int .i64 t242)) (fun _ hk => hk.2) (.int .i64 t243)) (fun _ hk => hk.2) (.int .i64 t244)) (fun _ hk => hk.2) (.int .i64 t245)) (fun _ hk => trivial)⟩, ⟨by (with_reducible repeat (first | apply Kd.R_alloc | apply Kd.R_drewN | apply Kd.R_drew)); exact Kd.R_mono (Kd.R_far (p := ⟨gb250, 6, none⟩) (Kd.R_far (p := ⟨gb250, 5, none⟩) (Kd.R_far (p := ⟨gb250, 4, none⟩) (Kd.R_far (p := ⟨gb250, 3, none⟩) (Kd.R_far (p := ⟨gb250, 2, none⟩) (Kd.R_far (p := ⟨gb250, 1, none⟩) (Kd.R_far (p := ⟨gb250, 0, none⟩) (Kd.R_types HO236.out BK250.out (by decide)) (fun _ hk => hk.2) (.int .i64 t239)) (fun _ hk => hk.2) (.int .i64 t240)) (fun _ hk => hk.2) (.int .i64 t241)) (fun _ hk => hk.2) (.int .i64 t242)) (fun _ hk => hk.2) (.int .i64 t243)) (fun _ hk => hk.2) (.int .i64 t244)) (fun _ hk => hk.2) (.int .i64 t245)) (fun _ hk => trivial)⟩, ⟨by (with_reducible repeat (first | refine blk_drewN ?_ _ | refine blk_drew ?_ | refine blk_alloc ?_ _)); refine blk_far ?_ NB238_250.out _; (with_reducible repeat (first | refine blk_drewN ?_ _ | refine blk_drew ?_ | refine blk_alloc ?_ _)); refine blk_far ?_ NB238_250.out _; (with_reducible repeat (first | refine blk_drewN ?_ _ | refine blk_drew ?_ | refine blk_alloc ?_ _)); refine blk_far ?_ NB238_250.out _; (with_reducible repeat (first | refine blk_drewN ?_ _ | refine blk_drew ?_ | refine blk_alloc ?_ _)); refine blk_far ?_ NB238_250.out _; (with_reducible repeat (first | refine blk_drewN ?_ _ | refine blk_drew ?_ | refine blk_alloc ?_ _)); refine blk_far ?_ NB238_250.out _; (with_reducible repeat (first | refine blk_drewN ?_ _ | refine blk_drew ?_ | refine blk_alloc ?_ _)); refine blk_far ?_ NB238_250.out _; (with_reducible repeat (first | refine blk_drewN ?_ _ | refine blk_drew ?_ | refine blk_alloc ?_ _)); refine blk_far ?_ NB238_250.out _; (with_reducible repeat (first | refine blk_drewN ?_ _ | refine blk_drew ?_ | refine blk_alloc ?_ _)); exact BK238.out⟩, ⟨by (with_reducible repeat (first | refine blk_drewN ?_ _ | refine blk_drew ?_ | refine blk_alloc ?_ _)); refine blk_put (cs := #[.int .i64 t239, .int .i64 t240, .int .i64 t241, .int .i64 t242, .int .i64 t243, .int .i64 t244, .int .i64 0]) ?_ 6 _ rfl; (with_reducible repeat (first | refine blk_drewN ?_ _ | refine blk_drew ?_ | refine blk_alloc ?_ _)); refine blk_put (cs := #[.int .i64 t239, .int .i64 t240, .int .i64 t241, .int .i64 t242, .int .i64 t243, .int .i64 0, .int .i64 0]) ?_ 5 _ rfl; (with_reducible repeat (first | refine blk_drewN ?_ _ | refine blk_drew ?_ | refine blk_alloc ?_ _)); refine blk_put (cs := #[.int .i64 t239, .int .i64 t240, .int .i64 t241, .int .i64 t242, .int .i64 0, .int .i64 0, .int .i64 0]) ?_ 4 _ rfl; (with_reducible repeat (first | refine blk_drewN ?_ _ | refine blk_drew ?_ | refine blk_alloc ?_ _)); refine blk_put (cs := #[.int .i64 t239, .int .i64 t240, .int .i64 t241, .int .i64 0, .int .i64 0, .int .i64 0, .int .i64 0]) ?_ 3 _ rfl; (with_reducible repeat (first | refine blk_drewN ?_ _ | refine blk_drew ?_ | refine blk_alloc ?_ _)); refine blk_put (cs := #[.int .i64 t239, .int .i64 t240, .int .i64 0, .int .i64 0, .int .i64 0, .int .i64 0, .int .i64 0]) ?_ 2 _ rfl; (with_reducible repeat (first | refine blk_drewN ?_ _ | refine blk_drew ?_ | refine blk_alloc ?_ _)); refine blk_put (cs := #[.int .i64 t239, .int .i64 0, .int .i64 0, .int .i64 0, .int .i64 0, .int .i64 0, .int .i64 0]) ?_ 1 _ rfl; (with_reducible repeat (first | refine blk_drewN ?_ _ | refine blk_drew ?_ | refine blk_alloc ?_ _)); refine blk_put (cs := #[.int .i64 0, .int .i64 0, .int .i64 0, .int .i64 0, .int .i64 0, .int .i64 0, .int .i64 0]) ?_ 0 _ rfl; (with_reducible repeat (first | refine blk_drewN ?_ _ | refine blk_drew ?_ | refine blk_alloc ?_ _)); exact BK250.out⟩, ⟨by repeat (first | (with_reducible first | exact HB.out | apply below_alloc | apply pw_below_drewN | apply below_drew1 | refine below_set ?_ GE238.out | refine below_set ?_ GE250.out) | exact HB.out)⟩⟩
    case rest =>
      clear HC6
      try clear c1
      try clear c2
      try clear c2b0
      try clear c2b1
      try clear p2
      try clear c3
      try clear c5
      try clear c12
      try clear c14
      try clear c16
      try clear c16b0
      try clear c16b1
      try clear c18
      try clear c19
      try clear c19b0
      try clear c20
      try clear c22
      try clear c25
      try clear c25b0
      try clear c25b1
      try clear c25b2
      try clear c29
      try clear c35
      try clear hcz11_0
      try clear hcz11_1
      try clear hcz11_2
      try clear hcz11_3
      try clear hcz11_4
      try clear hcz11_5
      try clear hcz11_6
      try clear hcz15_0
      try clear hcz15_1
      try clear hcz15_2
      try clear hcz15_3
      try clear hcz15_4
      try clear hcz15_5
      try clear hcz15_6
      try clear hcz23_0
      try clear hcz23_1
      try clear hcz23_2
      try clear hcz23_3
      try clear hcz23_4
      try clear hcz23_5
      try clear hcz23_6
      try clear hcz24_0
      try clear hcz24_1
      try clear hcz24_2
      try clear hcz24_3
      try clear hcz24_4
      try clear hcz24_5
      try clear hcz24_6
      try clear hcz30_0
      try clear hcz30_1
      try clear hcz30_2
      try clear hcz30_3
      try clear hcz30_4
      try clear hcz30_5
      try clear hcz30_6
      try clear hcz31_0
      try clear hcz31_1
      try clear hcz31_2
      try clear hcz31_3
      try clear hcz31_4
      try clear hcz31_5
      try clear hcz31_6
      try clear hcz36_0
      try clear hcz36_1
      try clear hcz36_2
      try clear hcz36_3
      try clear hcz36_4
      try clear hcz36_5
      try clear hcz36_6
      try clear hcz37_0
      try clear hcz37_1
      try clear hcz37_2
      try clear hcz37_3
      try clear hcz37_4
      try clear hcz37_5
      try clear hcz37_6
      try clear hfz11_0
      try clear hfz11_1
      try clear hfz11_2
      try clear hfz11_3
      try clear hfz11_4
      try clear hfz11_5
      try clear hfz11_6
      try clear hfz15_0
      try clear hfz15_1
      try clear hfz15_2
      try clear hfz15_3
      try clear hfz15_4
      try clear hfz15_5
      try clear hfz15_6
      try clear hfz23_0
      try clear hfz23_1
      try clear hfz23_2
      try clear hfz23_3
      try clear hfz23_4
      try clear hfz23_5
      try clear hfz23_6
      try clear hfz24_0
      try clear hfz24_1
      try clear hfz24_2
      try clear hfz24_3
      try clear hfz24_4
      try clear hfz24_5
      try clear hfz24_6
      try clear hfz30_0
      try clear hfz30_1
      try clear hfz30_2
      try clear hfz30_3
      try clear hfz30_4
      try clear hfz30_5
      try clear hfz30_6
      try clear hfz31_0
      try clear hfz31_1
      try clear hfz31_2
      try clear hfz31_3
      try clear hfz31_4
      try clear hfz31_5
      try clear hfz31_6
      try clear hfz36_0
      try clear hfz36_1
      try clear hfz36_2
      try clear hfz36_3
      try clear hfz36_4
      try clear hfz36_5
      try clear hfz36_6
      try clear hfz37_0
      try clear hfz37_1
      try clear hfz37_2
      try clear hfz37_3
      try clear hfz37_4
      try clear hfz37_5
      try clear hfz37_6
      obtain ⟨kq, x54_5, rfl, HA, HJ5, HO_3, HO_5, BK238, BK250, HB⟩ := hcut
      cases kq with
      | zero => exact absurd HA.out (by simp [laws_FnWindow.j0])
      | succ kj5 =>
        have H := HA.out
        clear HA
        simp only [laws_FnWindow.j0] at H
        by_cases c40 : x54_5 = true
        · subst c40
          have H1 : (some false) = some r := by rw [if_pos rfl] at H; exact H
          clear H
          have H := H1
          clear H1
          obtain rfl := Option.some.inj H
          go_wp2
          go_ret
          exact ⟨by first | rfl | (simp [errW_none, errW_some] <;> rfl) | (simp [*, errW_none, errW_some] <;> rfl), by repeat (first | (with_reducible first | exact HB.out | apply below_alloc | apply pw_below_drewN | apply below_drew1 | refine below_set ?_ GE238.out | refine below_set ?_ GE250.out) | exact HB.out)⟩
        · replace c40 := Bool.eq_false_iff.mpr c40
          subst c40
          have H1 : ((impl_NewCubic.f).bind fun bt253 => (laws_FnWindow.l0 kj5 t224 t234 bt253.1 0 t227 t228 t229 t230 t231 t232 t233)) = some r := by rw [if_neg (show ¬ (false = true) by decide)] at H; exact H
          clear H
          have H := H1
          clear H1
          replace H := Option.bind_eq_some_iff.mp H
          obtain ⟨⟨t253, t254, t255, t256, t257, t258, t259⟩, A410, H⟩ := H
          replace H : (laws_FnWindow.l0 kj5 t224 t234 t253 0 t227 t228 t229 t230 t231 t232 t233) = some r := H
          have A41 := Aside0.mk A410
          clear A410
          have H' := Aside0.mk H
          clear H
          have hfld : ∀ w : World, (Instr.field 26 (.agg #[.int .i64 t253, .int .i64 t254, .int .i64 t255, .int .i64 t256, .int .i64 t257, .int .i64 t258, .int .i64 t259]) 0).run Try.prog w = .ok (.int .i64 t253) w := fun w => by kernel_rfl
          go_wp2_with (first | ((with_reducible refine gate_callee (f := 23) rfl ?_); refine goesL_ (some 55) rfl rfl Try.func23 (by kernel_rfl) rfl #[] rfl (by (try simp only [List.map_toArray, List.map_cons, List.map_nil]); first | done | rfl | (simp only [List.length_drop, List.length_take]; rfl)) ?_; (with_reducible refine (impl_NewCubic.calls  t253 t254 t255 t256 t257 t258 t259 _ A41.out).mono ?_); rintro e w42 ⟨rfl, hb⟩; refine ⟨_, rfl, ?_⟩; have n0_ := Aside0.mk (Kd.R_below (by (with_reducible repeat (first | apply Kd.R_alloc | apply Kd.R_drewN | apply Kd.R_drew)); exact HO_3.out) hb); have n1_ := Aside0.mk (Kd.R_below (by (with_reducible repeat (first | apply Kd.R_alloc | apply Kd.R_drewN | apply Kd.R_drew)); exact HO_5.out) hb); have n2_ := Aside0.mk (blk_below (g := gb238) (o := .cells #[.int .i64 t227, .int .i64 t228, .int .i64 t229, .int .i64 t230, .int .i64 t231, .int .i64 t232, .int .i64 t233] 26 (0, 0)) (by (with_reducible repeat (first | refine blk_drewN ?_ _ | refine blk_drew ?_ | refine blk_alloc ?_ _)); exact BK238.out) hb); have n3_ := Aside0.mk (blk_below (g := gb250) (o := .cells #[.int .i64 t239, .int .i64 t240, .int .i64 t241, .int .i64 t242, .int .i64 t243, .int .i64 t244, .int .i64 t245] 26 (0, 0)) (by (with_reducible repeat (first | refine blk_drewN ?_ _ | refine blk_drew ?_ | refine blk_alloc ?_ _)); exact BK250.out) hb); have n4_ := Aside0.mk (below_step (by repeat (first | (with_reducible first | exact HB.out | apply below_alloc | apply pw_below_drewN | apply below_drew1 | refine below_set ?_ GE238.out | refine below_set ?_ GE250.out) | exact HB.out)) hb); clear HO_3; clear HO_5; clear BK238; clear BK250; clear HB; have HO_3 := n0_; have HO_5 := n1_; have BK238 := n2_; have BK250 := n3_; have HB := n4_; clear n0_ n1_ n2_ n3_ n4_; (try clear hb); (try clear hb2); (try clear hk); (try clear hi)))
          go_loopg [10, 11] kj5 (fun kq v10 v11 w' => ∃ (x10_2 : Int) (x11_2 : Int), v10 = .int .i64 x10_2 ∧ v11 = .int .i64 x11_2 ∧ Aside0 (laws_FnWindow.l0 kq t224 t234 x10_2 x11_2 t227 t228 t229 t230 t231 t232 t233 = some r) ∧ Aside0 (kq ≤ kj5) ∧ Aside0 (Kd.R k30 30 w' w.heap.size (fun _ => True) (.slice Ao8 t224.length co8) t224) ∧ Aside0 (Kd.R (Kd.int .i64) 3 w' w.heap.size (fun _ => True) v235 t234) ∧ Aside0 (w'.heap[gb238]? = some (.cells #[.int .i64 t227, .int .i64 t228, .int .i64 t229, .int .i64 t230, .int .i64 t231, .int .i64 t232, .int .i64 t233] 26 (0, 0))) ∧ Aside0 (w'.heap[gb250]? = some (.cells #[.int .i64 t239, .int .i64 t240, .int .i64 t241, .int .i64 t242, .int .i64 t243, .int .i64 t244, .int .i64 t245] 26 (0, 0))) ∧ Aside0 (Below w.heap.size w w'))
          case atStart => exact ⟨(t253), (0), (by first | rfl | (simp; done) | (simp [*]; done)), (by first | rfl | (simp; done) | (simp [*]; done)), H', ⟨Nat.le_refl _⟩, ⟨by (with_reducible repeat (first | apply Kd.R_alloc | apply Kd.R_drewN | apply Kd.R_drew)); exact HO_3.out⟩, ⟨by (with_reducible repeat (first | apply Kd.R_alloc | apply Kd.R_drewN | apply Kd.R_drew)); exact HO_5.out⟩, ⟨by (with_reducible repeat (first | refine blk_drewN ?_ _ | refine blk_drew ?_ | refine blk_alloc ?_ _)); exact BK238.out⟩, ⟨by (with_reducible repeat (first | refine blk_drewN ?_ _ | refine blk_drew ?_ | refine blk_alloc ?_ _)); exact BK250.out⟩, ⟨by repeat (first | (with_reducible first | exact HB.out | apply below_alloc | apply pw_below_drewN | apply below_drew1 | refine below_set ?_ GE238.out | refine below_set ?_ GE250.out) | exact HB.out)⟩⟩
          case round =>
            clear H'
            try clear c1
            try clear c2
            try clear c2b0
            try clear c2b1
            try clear p2
            try clear c3
            try clear c4
            try clear c5
            try clear c12
            try clear c14
            try clear c16
            try clear c16b0
            try clear c16b1
            try clear c18
            try clear c19
            try clear c19b0
            try clear c20
            try clear c22
            try clear c23
            try clear c25
            try clear c25b0
            try clear c25b1
            try clear c25b2
            try clear c29
            try clear c35
            try clear c40
            try clear hcz11_0
            try clear hcz11_1
            try clear hcz11_2
            try clear hcz11_3
            try clear hcz11_4
            try clear hcz11_5
            try clear hcz11_6
            try clear hcz15_0
            try clear hcz15_1
            try clear hcz15_2
            try clear hcz15_3
            try clear hcz15_4
            try clear hcz15_5
            try clear hcz15_6
            try clear hcz23_0
            try clear hcz23_1
            try clear hcz23_2
            try clear hcz23_3
            try clear hcz23_4
            try clear hcz23_5
            try clear hcz23_6
            try clear hcz24_0
            try clear hcz24_1
            try clear hcz24_2
            try clear hcz24_3
            try clear hcz24_4
            try clear hcz24_5
            try clear hcz24_6
            try clear hcz30_0
            try clear hcz30_1
            try clear hcz30_2
            try clear hcz30_3
            try clear hcz30_4
            try clear hcz30_5
            try clear hcz30_6
            try clear hcz31_0
            try clear hcz31_1
            try clear hcz31_2
            try clear hcz31_3
            try clear hcz31_4
            try clear hcz31_5
            try clear hcz31_6
            try clear hcz36_0
            try clear hcz36_1
            try clear hcz36_2
            try clear hcz36_3
            try clear hcz36_4
            try clear hcz36_5
            try clear hcz36_6
            try clear hcz37_0
            try clear hcz37_1
            try clear hcz37_2
            try clear hcz37_3
            try clear hcz37_4
            try clear hcz37_5
            try clear hcz37_6
            try clear hfz11_0
            try clear hfz11_1
            try clear hfz11_2
            try clear hfz11_3
            try clear hfz11_4
            try clear hfz11_5
            try clear hfz11_6
            try clear hfz15_0
            try clear hfz15_1
            try clear hfz15_2
            try clear hfz15_3
            try clear hfz15_4
            try clear hfz15_5
            try clear hfz15_6
            try clear hfz23_0
            try clear hfz23_1
            try clear hfz23_2
            try clear hfz23_3
            try clear hfz23_4
            try clear hfz23_5
            try clear hfz23_6
            try clear hfz24_0
            try clear hfz24_1
            try clear hfz24_2
            try clear hfz24_3
            try clear hfz24_4
            try clear hfz24_5
            try clear hfz24_6
            try clear hfz30_0
            try clear hfz30_1
            try clear hfz30_2
            try clear hfz30_3
            try clear hfz30_4
            try clear hfz30_5
            try clear hfz30_6
            try clear hfz31_0
            try clear hfz31_1
            try clear hfz31_2
            try clear hfz31_3
            try clear hfz31_4
            try clear hfz31_5
            try clear hfz31_6
            try clear hfz36_0
            try clear hfz36_1
            try clear hfz36_2
            try clear hfz36_3
            try clear hfz36_4
            try clear hfz36_5
            try clear hfz36_6
            try clear hfz37_0
            try clear hfz37_1
            try clear hfz37_2
            try clear hfz37_3
            try clear hfz37_4
            try clear hfz37_5
            try clear hfz37_6
            try clear p2
            obtain ⟨x10_2, x11_2, rfl, rfl, HA, HK2, HO_3, HO_5, BK238, BK250, HB⟩ := hrel
            cases gk with
            | zero => exact absurd HA.out (by simp [laws_FnWindow.l0])
            | succ k2 =>
              have H := HA.out
              clear HA
              simp only [laws_FnWindow.l0] at H
              by_cases c43 : x11_2 < (t224.length : Int)
              · rw [if_pos c43] at H
                have c43b0 : decide (x11_2 < (t224.length : Int)) = true := decide_eq_true c43
                clear c43
                by_cases c44 : 0 ≤ x11_2
                · rw [if_pos c44] at H
                  have c44b0 : decide (0 ≤ x11_2) = true := decide_eq_true c44
                  clear c44
                  by_cases c45 : x11_2 < (t234.length : Int)
                  · rw [if_pos c45] at H
                    have c45b0 : decide (x11_2 < (t234.length : Int)) = true := decide_eq_true c45
                    clear c45
                    by_cases c46 : ((rd_T30 t224 x11_2).f0) = 1
                    · rw [if_pos c46] at H
                      have c46b0 : (((rd_T30 t224 x11_2).f0) == 1) = true := beq_iff_eq.mpr c46
                      have c46b1 : (((rd_T30 t224 x11_2).f0) != 1) = false := bne_eq_false_iff_eq.mpr c46
                      clear c46
                      by_cases c47 : (rd t234 x11_2) < x10_2
                      · rw [if_pos c47] at H
                        have c47b0 : decide ((rd t234 x11_2) < x10_2) = true := decide_eq_true c47
                        clear c47
                        obtain rfl := Option.some.inj H
                        obtain ⟨Ao48, co48, eo48⟩ := Kd.R_slice HO_5.out
                        subst eo48
                        have p260 : 0 ≤ (x11_2 : Int) := of_decide_eq_true (by first | (with_reducible assumption) | assumption)
                        have q260 : x11_2 < (t234.length : Int) := of_decide_eq_true (by first | (with_reducible assumption) | assumption)
                        obtain ⟨ad260, e260, hx260_0⟩ := Kd.at_int (Kd.R_reads' HO_5.out).2.2 x11_2 p260 q260
                        cases e260
                        replace p260 := eq_true p260
                        replace q260 := eq_true q260
                        have p261 : 0 ≤ (x11_2 : Int) := of_decide_eq_true (by first | (with_reducible assumption) | assumption)
                        have q261 : x11_2 < (t224.length : Int) := of_decide_eq_true (by first | (with_reducible assumption) | assumption)
                        obtain ⟨ad261, e261, hx261_0, hx261_1⟩ := at_T30 (Kd.R_reads' HO_3.out).2.2 x11_2 p261 q261
                        cases e261
                        replace p261 := eq_true p261
                        replace q261 := eq_true q261
                        go_wp2
                        go_ret
                        exact ⟨by first | rfl | (simp [errW_none, errW_some] <;> rfl) | (simp [*, errW_none, errW_some] <;> rfl), by repeat (first | (with_reducible first | exact HB.out | apply below_alloc | apply pw_below_drewN | apply below_drew1 | refine below_set ?_ GE238.out | refine below_set ?_ GE250.out) | exact HB.out)⟩
                      · rw [if_neg c47] at H
                        have c47b0 : decide ((rd t234 x11_2) < x10_2) = false := decide_eq_false c47
                        clear c47
                        by_cases c49 : (rd t234 x11_2) > (wrap64 (x10_2 + ((rd_T30 t224 x11_2).f1)))
                        · rw [if_pos c49] at H
                          have c49b0 : decide ((wrap64 (x10_2 + ((rd_T30 t224 x11_2).f1))) < (rd t234 x11_2)) = true := decide_eq_true c49
                          clear c49
                          obtain rfl := Option.some.inj H
                          obtain ⟨Ao50, co50, eo50⟩ := Kd.R_slice HO_5.out
                          subst eo50
                          have p260 : 0 ≤ (x11_2 : Int) := of_decide_eq_true (by first | (with_reducible assumption) | assumption)
                          have q260 : x11_2 < (t234.length : Int) := of_decide_eq_true (by first | (with_reducible assumption) | assumption)
                          obtain ⟨ad260, e260, hx260_0⟩ := Kd.at_int (Kd.R_reads' HO_5.out).2.2 x11_2 p260 q260
                          cases e260
                          replace p260 := eq_true p260
                          replace q260 := eq_true q260
                          have p261 : 0 ≤ (x11_2 : Int) := of_decide_eq_true (by first | (with_reducible assumption) | assumption)
                          have q261 : x11_2 < (t224.length : Int) := of_decide_eq_true (by first | (with_reducible assumption) | assumption)
                          obtain ⟨ad261, e261, hx261_0, hx261_1⟩ := at_T30 (Kd.R_reads' HO_3.out).2.2 x11_2 p261 q261
                          cases e261
                          replace p261 := eq_true p261
                          replace q261 := eq_true q261
                          have p262 : 0 ≤ (x11_2 : Int) := of_decide_eq_true (by first | (with_reducible assumption) | assumption)
                          have q262 : x11_2 < (t224.length : Int) := of_decide_eq_true (by first | (with_reducible assumption) | assumption)
                          obtain ⟨ad262, e262, hx262_0, hx262_1⟩ := at_T30 (Kd.R_reads' HO_3.out).2.2 x11_2 p262 q262
                          obtain rfl : ad261 = ad262 := (by injection e262)
                          replace p262 := eq_true p262
                          replace q262 := eq_true q262
                          go_wp2
                          go_ret
                          exact ⟨by first | rfl | (simp [errW_none, errW_some] <;> rfl) | (simp [*, errW_none, errW_some] <;> rfl), by repeat (first | (with_reducible first | exact HB.out | apply below_alloc | apply pw_below_drewN | apply below_drew1 | refine below_set ?_ GE238.out | refine below_set ?_ GE250.out) | exact HB.out)⟩
                        · rw [if_neg c49] at H
                          have c49b0 : decide ((wrap64 (x10_2 + ((rd_T30 t224 x11_2).f1))) < (rd t234 x11_2)) = false := decide_eq_false c49
                          clear c49
                          have H' := Aside0.mk H
                          clear H
                          obtain ⟨Ao51, co51, eo51⟩ := Kd.R_slice HO_5.out
                          subst eo51
                          have p260 : 0 ≤ (x11_2 : Int) := of_decide_eq_true (by first | (with_reducible assumption) | assumption)
                          have q260 : x11_2 < (t234.length : Int) := of_decide_eq_true (by first | (with_reducible assumption) | assumption)
                          obtain ⟨ad260, e260, hx260_0⟩ := Kd.at_int (Kd.R_reads' HO_5.out).2.2 x11_2 p260 q260
                          cases e260
                          replace p260 := eq_true p260
                          replace q260 := eq_true q260
                          have p261 : 0 ≤ (x11_2 : Int) := of_decide_eq_true (by first | (with_reducible assumption) | assumption)
                          have q261 : x11_2 < (t224.length : Int) := of_decide_eq_true (by first | (with_reducible assumption) | assumption)
                          obtain ⟨ad261, e261, hx261_0, hx261_1⟩ := at_T30 (Kd.R_reads' HO_3.out).2.2 x11_2 p261 q261
                          cases e261
                          replace p261 := eq_true p261
                          replace q261 := eq_true q261
                          have p262 : 0 ≤ (x11_2 : Int) := of_decide_eq_true (by first | (with_reducible assumption) | assumption)
                          have q262 : x11_2 < (t224.length : Int) := of_decide_eq_true (by first | (with_reducible assumption) | assumption)
                          obtain ⟨ad262, e262, hx262_0, hx262_1⟩ := at_T30 (Kd.R_reads' HO_3.out).2.2 x11_2 p262 q262
                          obtain rfl : ad261 = ad262 := (by injection e262)
                          replace p262 := eq_true p262
                          replace q262 := eq_true q262
                          go_wp2
                          go_roundg k2
                          case measure => have := HJ5.out; have := HK2.out; omega
                          case rel => exact ⟨(rd t234 x11_2), (wrap64 (x11_2 + 1)), (by first | rfl | (simp; done) | (simp [*]; done)), (by first | rfl | (simp; done) | (simp [*]; done)), H', ⟨by have := HJ5.out; have := HK2.out; omega⟩, ⟨by (with_reducible repeat (first | apply Kd.R_alloc | apply Kd.R_drewN | apply Kd.R_drew)); exact HO_3.out⟩, ⟨by (with_reducible repeat (first | apply Kd.R_alloc | apply Kd.R_drewN | apply Kd.R_drew)); exact HO_5.out⟩, ⟨by (with_reducible repeat (first | refine blk_drewN ?_ _ | refine blk_drew ?_ | refine blk_alloc ?_ _)); exact BK238.out⟩, ⟨by (with_reducible repeat (first | refine blk_drewN ?_ _ | refine blk_drew ?_ | refine blk_alloc ?_ _)); exact BK250.out⟩, ⟨by repeat (first | (with_reducible first | exact HB.out | apply below_alloc | apply pw_below_drewN | apply below_drew1 | refine below_set ?_ GE238.out | refine below_set ?_ GE250.out) | exact HB.out)⟩⟩
                    · rw [if_neg c46] at H
                      have c46b0 : (((rd_T30 t224 x11_2).f0) == 1) = false := beq_eq_false_iff_ne.mpr c46
                      have c46b1 : (((rd_T30 t224 x11_2).f0) != 1) = true := bne_iff_ne.mpr c46
                      by_cases c52 : ((rd_T30 t224 x11_2).f0) = 2
                      · rw [if_pos c52] at H
                        have c52b0 : (((rd_T30 t224 x11_2).f0) == 2) = true := beq_iff_eq.mpr c52
                        have c52b1 : (((rd_T30 t224 x11_2).f0) != 2) = false := bne_eq_false_iff_eq.mpr c52
                        clear c52
                        obtain ⟨ji53, hji53⟩ : ∃ j_ : Int, (mx 2 (wrap64 (Int.tdiv (wrap64 (x10_2 * 7)) 10))) = j_ := ⟨_, rfl⟩
                        replace H : (if (rd t234 x11_2) = (ji53) then (laws_FnWindow.l0 k2 t224 t234 (rd t234 x11_2) (wrap64 (x11_2 + 1)) t227 t228 t229 t230 t231 t232 t233) else (some false)) = some r := by first | (rw [hji53] at H; exact H) | (simp only [hji53] at H ⊢; exact H)
                        have hji53_ : (if 2 < (wrap64 (Int.tdiv (wrap64 (x10_2 * 7)) 10)) then (wrap64 (Int.tdiv (wrap64 (x10_2 * 7)) 10)) else 2) = ji53 := hji53
                        by_cases c54 : (rd t234 x11_2) = (ji53)
                        · rw [if_pos c54] at H
                          have c54b0 : ((rd t234 x11_2) == (ji53)) = true := beq_iff_eq.mpr c54
                          have c54b1 : ((rd t234 x11_2) != (ji53)) = false := bne_eq_false_iff_eq.mpr c54
                          clear c54
                          have H' := Aside0.mk H
                          clear H
                          obtain ⟨Ao55, co55, eo55⟩ := Kd.R_slice HO_5.out
                          subst eo55
                          have p260 : 0 ≤ (x11_2 : Int) := of_decide_eq_true (by first | (with_reducible assumption) | assumption)
                          have q260 : x11_2 < (t234.length : Int) := of_decide_eq_true (by first | (with_reducible assumption) | assumption)
                          obtain ⟨ad260, e260, hx260_0⟩ := Kd.at_int (Kd.R_reads' HO_5.out).2.2 x11_2 p260 q260
                          cases e260
                          replace p260 := eq_true p260
                          replace q260 := eq_true q260
                          have p261 : 0 ≤ (x11_2 : Int) := of_decide_eq_true (by first | (with_reducible assumption) | assumption)
                          have q261 : x11_2 < (t224.length : Int) := of_decide_eq_true (by first | (with_reducible assumption) | assumption)
                          obtain ⟨ad261, e261, hx261_0, hx261_1⟩ := at_T30 (Kd.R_reads' HO_3.out).2.2 x11_2 p261 q261
                          cases e261
                          replace p261 := eq_true p261
                          replace q261 := eq_true q261
                          go_wp2
                          go_roundg k2
                          case measure => have := HJ5.out; have := HK2.out; omega
                          case rel => exact ⟨(rd t234 x11_2), (wrap64 (x11_2 + 1)), (by first | rfl | (simp; done) | (simp [*]; done)), (by first | rfl | (simp; done) | (simp [*]; done)), H', ⟨by have := HJ5.out; have := HK2.out; omega⟩, ⟨by (with_reducible repeat (first | apply Kd.R_alloc | apply Kd.R_drewN | apply Kd.R_drew)); exact HO_3.out⟩, ⟨by (with_reducible repeat (first | apply Kd.R_alloc | apply Kd.R_drewN | apply Kd.R_drew)); exact HO_5.out⟩, ⟨by (with_reducible repeat (first | refine blk_drewN ?_ _ | refine blk_drew ?_ | refine blk_alloc ?_ _)); exact BK238.out⟩, ⟨by (with_reducible repeat (first | refine blk_drewN ?_ _ | refine blk_drew ?_ | refine blk_alloc ?_ _)); exact BK250.out⟩, ⟨by repeat (first | (with_reducible first | exact HB.out | apply below_alloc | apply pw_below_drewN | apply below_drew1 | refine below_set ?_ GE238.out | refine below_set ?_ GE250.out) | exact HB.out)⟩⟩
                        · rw [if_neg c54] at H
                          have c54b0 : ((rd t234 x11_2) == (ji53)) = false := beq_eq_false_iff_ne.mpr c54
                          have c54b1 : ((rd t234 x11_2) != (ji53)) = true := bne_iff_ne.mpr c54
                          obtain rfl := Option.some.inj H
                          obtain ⟨Ao56, co56, eo56⟩ := Kd.R_slice HO_5.out
                          subst eo56
                          have p260 : 0 ≤ (x11_2 : Int) := of_decide_eq_true (by first | (with_reducible assumption) | assumption)
                          have q260 : x11_2 < (t234.length : Int) := of_decide_eq_true (by first | (with_reducible assumption) | assumption)
                          obtain ⟨ad260, e260, hx260_0⟩ := Kd.at_int (Kd.R_reads' HO_5.out).2.2 x11_2 p260 q260
                          cases e260
                          replace p260 := eq_true p260
                          replace q260 := eq_true q260
                          have p261 : 0 ≤ (x11_2 : Int) := of_decide_eq_true (by first | (with_reducible assumption) | assumption)
                          have q261 : x11_2 < (t224.length : Int) := of_decide_eq_true (by first | (with_reducible assumption) | assumption)
                          obtain ⟨ad261, e261, hx261_0, hx261_1⟩ := at_T30 (Kd.R_reads' HO_3.out).2.2 x11_2 p261 q261
                          cases e261
                          replace p261 := eq_true p261
                          replace q261 := eq_true q261
                          go_wp2
                          go_ret
                          exact ⟨by first | rfl | (simp [errW_none, errW_some] <;> rfl) | (simp only [← hji53]; first | rfl | (simp [errW_none, errW_some] <;> rfl)) | (simp [*, errW_none, errW_some] <;> rfl), by repeat (first | (with_reducible first | exact HB.out | apply below_alloc | apply pw_below_drewN | apply below_drew1 | refine below_set ?_ GE238.out | refine below_set ?_ GE250.out) | exact HB.out)⟩
                      · rw [if_neg c52] at H
                        have c52b0 : (((rd_T30 t224 x11_2).f0) == 2) = false := beq_eq_false_iff_ne.mpr c52
                        have c52b1 : (((rd_T30 t224 x11_2).f0) != 2) = true := bne_iff_ne.mpr c52
                        by_cases c57 : ((rd_T30 t224 x11_2).f0) = 3
                        · rw [if_pos c57] at H
                          have c57b0 : (((rd_T30 t224 x11_2).f0) == 3) = true := beq_iff_eq.mpr c57
                          have c57b1 : (((rd_T30 t224 x11_2).f0) != 3) = false := bne_eq_false_iff_eq.mpr c57
                          clear c57
                          by_cases c58 : (rd t234 x11_2) = 1
                          · rw [if_pos c58] at H
                            have c58b0 : ((rd t234 x11_2) == 1) = true := beq_iff_eq.mpr c58
                            have c58b1 : ((rd t234 x11_2) != 1) = false := bne_eq_false_iff_eq.mpr c58
                            clear c58
                            have H' := Aside0.mk H
                            clear H
                            obtain ⟨Ao59, co59, eo59⟩ := Kd.R_slice HO_5.out
                            subst eo59
                            have p260 : 0 ≤ (x11_2 : Int) := of_decide_eq_true (by first | (with_reducible assumption) | assumption)
                            have q260 : x11_2 < (t234.length : Int) := of_decide_eq_true (by first | (with_reducible assumption) | assumption)
                            obtain ⟨ad260, e260, hx260_0⟩ := Kd.at_int (Kd.R_reads' HO_5.out).2.2 x11_2 p260 q260
                            cases e260
                            replace p260 := eq_true p260
                            replace q260 := eq_true q260
                            have p261 : 0 ≤ (x11_2 : Int) := of_decide_eq_true (by first | (with_reducible assumption) | assumption)
                            have q261 : x11_2 < (t224.length : Int) := of_decide_eq_true (by first | (with_reducible assumption) | assumption)
                            obtain ⟨ad261, e261, hx261_0, hx261_1⟩ := at_T30 (Kd.R_reads' HO_3.out).2.2 x11_2 p261 q261
                            cases e261
                            replace p261 := eq_true p261
                            replace q261 := eq_true q261
                            go_wp2
                            go_roundg k2
                            case measure => have := HJ5.out; have := HK2.out; omega
                            case rel => exact ⟨(rd t234 x11_2), (wrap64 (x11_2 + 1)), (by first | rfl | (simp; done) | (simp [*]; done)), (by first | rfl | (simp; done) | (simp [*]; done)), H', ⟨by have := HJ5.out; have := HK2.out; omega⟩, ⟨by (with_reducible repeat (first | apply Kd.R_alloc | apply Kd.R_drewN | apply Kd.R_drew)); exact HO_3.out⟩, ⟨by (with_reducible repeat (first | apply Kd.R_alloc | apply Kd.R_drewN | apply Kd.R_drew)); exact HO_5.out⟩, ⟨by (with_reducible repeat (first | refine blk_drewN ?_ _ | refine blk_drew ?_ | refine blk_alloc ?_ _)); exact BK238.out⟩, ⟨by (with_reducible repeat (first | refine blk_drewN ?_ _ | refine blk_drew ?_ | refine blk_alloc ?_ _)); exact BK250.out⟩, ⟨by repeat (first | (with_reducible first | exact HB.out | apply below_alloc | apply pw_below_drewN | apply below_drew1 | refine below_set ?_ GE238.out | refine below_set ?_ GE250.out) | exact HB.out)⟩⟩
                          · rw [if_neg c58] at H
                            have c58b0 : ((rd t234 x11_2) == 1) = false := beq_eq_false_iff_ne.mpr c58
                            have c58b1 : ((rd t234 x11_2) != 1) = true := bne_iff_ne.mpr c58
                            obtain rfl := Option.some.inj H
                            obtain ⟨Ao60, co60, eo60⟩ := Kd.R_slice HO_5.out
                            subst eo60
                            have p260 : 0 ≤ (x11_2 : Int) := of_decide_eq_true (by first | (with_reducible assumption) | assumption)
                            have q260 : x11_2 < (t234.length : Int) := of_decide_eq_true (by first | (with_reducible assumption) | assumption)
                            obtain ⟨ad260, e260, hx260_0⟩ := Kd.at_int (Kd.R_reads' HO_5.out).2.2 x11_2 p260 q260
                            cases e260
                            replace p260 := eq_true p260
                            replace q260 := eq_true q260
                            have p261 : 0 ≤ (x11_2 : Int) := of_decide_eq_true (by first | (with_reducible assumption) | assumption)
                            have q261 : x11_2 < (t224.length : Int) := of_decide_eq_true (by first | (with_reducible assumption) | assumption)
                            obtain ⟨ad261, e261, hx261_0, hx261_1⟩ := at_T30 (Kd.R_reads' HO_3.out).2.2 x11_2 p261 q261
                            cases e261
                            replace p261 := eq_true p261
                            replace q261 := eq_true q261
                            go_wp2
                            go_ret
                            exact ⟨by first | rfl | (simp [errW_none, errW_some] <;> rfl) | (simp [*, errW_none, errW_some] <;> rfl), by repeat (first | (with_reducible first | exact HB.out | apply below_alloc | apply pw_below_drewN | apply below_drew1 | refine below_set ?_ GE238.out | refine below_set ?_ GE250.out) | exact HB.out)⟩
                        · rw [if_neg c57] at H
                          have c57b0 : (((rd_T30 t224 x11_2).f0) == 3) = false := beq_eq_false_iff_ne.mpr c57
                          have c57b1 : (((rd_T30 t224 x11_2).f0) != 3) = true := bne_iff_ne.mpr c57
                          by_cases c61 : (rd t234 x11_2) = x10_2
                          · rw [if_pos c61] at H
                            have c61b0 : ((rd t234 x11_2) == x10_2) = true := beq_iff_eq.mpr c61
                            have c61b1 : ((rd t234 x11_2) != x10_2) = false := bne_eq_false_iff_eq.mpr c61
                            clear c61
                            have H' := Aside0.mk H
                            clear H
                            obtain ⟨Ao62, co62, eo62⟩ := Kd.R_slice HO_5.out
                            subst eo62
                            have p260 : 0 ≤ (x11_2 : Int) := of_decide_eq_true (by first | (with_reducible assumption) | assumption)
                            have q260 : x11_2 < (t234.length : Int) := of_decide_eq_true (by first | (with_reducible assumption) | assumption)
                            obtain ⟨ad260, e260, hx260_0⟩ := Kd.at_int (Kd.R_reads' HO_5.out).2.2 x11_2 p260 q260
                            cases e260
                            replace p260 := eq_true p260
                            replace q260 := eq_true q260
                            have p261 : 0 ≤ (x11_2 : Int) := of_decide_eq_true (by first | (with_reducible assumption) | assumption)
                            have q261 : x11_2 < (t224.length : Int) := of_decide_eq_true (by first | (with_reducible assumption) | assumption)
                            obtain ⟨ad261, e261, hx261_0, hx261_1⟩ := at_T30 (Kd.R_reads' HO_3.out).2.2 x11_2 p261 q261
                            cases e261
                            replace p261 := eq_true p261
                            replace q261 := eq_true q261
                            go_wp2
                            go_roundg k2
                            case measure => have := HJ5.out; have := HK2.out; omega
                            case rel => exact ⟨(rd t234 x11_2), (wrap64 (x11_2 + 1)), (by first | rfl | (simp; done) | (simp [*]; done)), (by first | rfl | (simp; done) | (simp [*]; done)), H', ⟨by have := HJ5.out; have := HK2.out; omega⟩, ⟨by (with_reducible repeat (first | apply Kd.R_alloc | apply Kd.R_drewN | apply Kd.R_drew)); exact HO_3.out⟩, ⟨by (with_reducible repeat (first | apply Kd.R_alloc | apply Kd.R_drewN | apply Kd.R_drew)); exact HO_5.out⟩, ⟨by (with_reducible repeat (first | refine blk_drewN ?_ _ | refine blk_drew ?_ | refine blk_alloc ?_ _)); exact BK238.out⟩, ⟨by (with_reducible repeat (first | refine blk_drewN ?_ _ | refine blk_drew ?_ | refine blk_alloc ?_ _)); exact BK250.out⟩, ⟨by repeat (first | (with_reducible first | exact HB.out | apply below_alloc | apply pw_below_drewN | apply below_drew1 | refine below_set ?_ GE238.out | refine below_set ?_ GE250.out) | exact HB.out)⟩⟩
                          · rw [if_neg c61] at H
                            have c61b0 : ((rd t234 x11_2) == x10_2) = false := beq_eq_false_iff_ne.mpr c61
                            have c61b1 : ((rd t234 x11_2) != x10_2) = true := bne_iff_ne.mpr c61
                            obtain rfl := Option.some.inj H
                            obtain ⟨Ao63, co63, eo63⟩ := Kd.R_slice HO_5.out
                            subst eo63
                            have p260 : 0 ≤ (x11_2 : Int) := of_decide_eq_true (by first | (with_reducible assumption) | assumption)
                            have q260 : x11_2 < (t234.length : Int) := of_decide_eq_true (by first | (with_reducible assumption) | assumption)
                            obtain ⟨ad260, e260, hx260_0⟩ := Kd.at_int (Kd.R_reads' HO_5.out).2.2 x11_2 p260 q260
                            cases e260
                            replace p260 := eq_true p260
                            replace q260 := eq_true q260
                            have p261 : 0 ≤ (x11_2 : Int) := of_decide_eq_true (by first | (with_reducible assumption) | assumption)
                            have q261 : x11_2 < (t224.length : Int) := of_decide_eq_true (by first | (with_reducible assumption) | assumption)
                            obtain ⟨ad261, e261, hx261_0, hx261_1⟩ := at_T30 (Kd.R_reads' HO_3.out).2.2 x11_2 p261 q261
                            cases e261
                            replace p261 := eq_true p261
                            replace q261 := eq_true q261
                            go_wp2
                            go_ret
                            exact ⟨by first | rfl | (simp [errW_none, errW_some] <;> rfl) | (simp [*, errW_none, errW_some] <;> rfl), by repeat (first | (with_reducible first | exact HB.out | apply below_alloc | apply pw_below_drewN | apply below_drew1 | refine below_set ?_ GE238.out | refine below_set ?_ GE250.out) | exact HB.out)⟩
                  · rw [if_neg c45] at H
                    exact absurd H (by simp)
                · rw [if_neg c44] at H
                  exact absurd H (by simp)
              · rw [if_neg c43] at H
                have c43b0 : decide (x11_2 < (t224.length : Int)) = false := decide_eq_false c43
                clear c43
                obtain rfl := Option.some.inj H
                have hnb64 := NB238_250.out
                have hnc64 := NB250_238.out
                have hcz65_0 : wr.cell? ⟨gb238, 0, none⟩ = some (.int .i64 t227) := (blk_cell BK238.out 0).trans rfl
                have hcz65_1 : wr.cell? ⟨gb238, 1, none⟩ = some (.int .i64 t228) := (blk_cell BK238.out 1).trans rfl
                have hcz65_2 : wr.cell? ⟨gb238, 2, none⟩ = some (.int .i64 t229) := (blk_cell BK238.out 2).trans rfl
                have hcz65_3 : wr.cell? ⟨gb238, 3, none⟩ = some (.int .i64 t230) := (blk_cell BK238.out 3).trans rfl
                have hcz65_4 : wr.cell? ⟨gb238, 4, none⟩ = some (.int .i64 t231) := (blk_cell BK238.out 4).trans rfl
                have hcz65_5 : wr.cell? ⟨gb238, 5, none⟩ = some (.int .i64 t232) := (blk_cell BK238.out 5).trans rfl
                have hcz65_6 : wr.cell? ⟨gb238, 6, none⟩ = some (.int .i64 t233) := (blk_cell BK238.out 6).trans rfl
                have hfz65_0 := blk_frozen BK238.out 0
                have hfz65_1 := blk_frozen BK238.out 1
                have hfz65_2 := blk_frozen BK238.out 2
                have hfz65_3 := blk_frozen BK238.out 3
                have hfz65_4 := blk_frozen BK238.out 4
                have hfz65_5 := blk_frozen BK238.out 5
                have hfz65_6 := blk_frozen BK238.out 6
                go_wp2
                go_ret
                exact ⟨by first | rfl | (simp [errW_none, errW_some] <;> rfl) | (simp [*, errW_none, errW_some] <;> rfl), by repeat (first | (with_reducible first | exact HB.out | apply below_alloc | apply pw_below_drewN | apply below_drew1 | refine below_set ?_ GE238.out | refine below_set ?_ GE250.out) | exact HB.out)⟩

/-- THE ONE PURE STATEMENT of laws_FnWindow: yours. -/
def laws_FnWindow.Pure : Prop := ∀ (l0 : List Int), l0.length ≤ maxLen → l0.length * 1 ≤ 140737488351232 → (∀ x ∈ l0, (Lit.int .u8 x).wf = true) → ∃ k, laws_FnWindow.f k l0 = some true
theorem laws_FnWindow.walk (P : laws_FnWindow.Pure) (a0 : Option Addr) (len0 cap0 : Nat) (z0 : List Int) (w : World) (w0 : (a0 = none ∧ len0 = 0 ∧ cap0 = 0 ∧ z0 = []) ∨ ∃ x, a0 = some x ∧ len0 ≤ cap0 ∧ cap0 ≤ maxLen ∧ z0.length = cap0 ∧ (∀ i, i < z0.length → w.cell? (x.add i) = some (.int .u8 (z0.getD i 0))) ∧ ∀ n ∈ z0, (Lit.int .u8 n).wf = true) (y0 : len0 * 1 ≤ 140737488351232) :
    Calls Try.prog 5 #[.slice a0 len0 cap0] w fun e w' => e = .returned (.bool true) ∧ Below w.heap.size w w' := by
  obtain ⟨l0, rfl, hr0, hm0, hw0, hc0⟩ := ReadsInt.ofRowC w0
  obtain ⟨k, h⟩ := P l0 hm0 y0 hw0
  refine (laws_FnWindow.calls k _ _ l0 true w (Kd.C_of_reads (d := (0 : Int)) (h1 := fun _ => rfl) hr0) hc0 h).mono ?_
  rintro e w' ⟨rfl, hd⟩
  exact ⟨rfl, hd⟩

end Go.Proofs.Ytjfbeakmpmjadaa.PWin

namespace Go.Proofs.Ytjfbeakmpmjadaa.Pure
open Go.RowKit Go.Proofs.Ytjfbeakmpmjadaa.PWin Go.Proofs.YtjfbeakmpmjadaaW.PrintWords Go.Proofs.YtjfbeakmpmjadaaW.PrintLast
set_option linter.unusedVariables false
theorem w64 {x : Int} (h : -9223372036854775808 ≤ x) (h' : x ≤ 9223372036854775807) : wrap64 x = x := by unfold wrap64; omega
theorem cube_mono {a b : Int} (h0 : 0 ≤ a) (h : a ≤ b) : a * a * a ≤ b * b * b := by
  have h1 : a * a ≤ b * b := Int.mul_le_mul h h h0 (by omega)
  exact Int.mul_le_mul h1 h h0 (Int.mul_nonneg (by omega) (by omega))
theorem cube_nn {a : Int} (h0 : 0 ≤ a) : 0 ≤ a * a * a := Int.mul_nonneg (Int.mul_nonneg h0 h0) h0
theorem cube_w {a : Int} (h0 : 0 ≤ a) (h : a ≤ 1048576) : wrap64 (wrap64 (a * a) * a) = a * a * a := by
  have h1 : a * a ≤ 1048576 * 1048576 := Int.mul_le_mul h h h0 (by omega)
  have h2 : 0 ≤ a * a := Int.mul_nonneg h0 h0
  have h3 := cube_mono h0 h
  have h4 := cube_nn h0
  rw [w64 (x := a * a) (by omega) (by omega), w64 (by omega) (by omega)]
structure Root (N r : Int) : Prop where
  lo : 0 ≤ r
  hi : r ≤ 1048576
  le : r * r * r ≤ N
  gt : r = 1048576 ∨ N < (r + 1) * (r + 1) * (r + 1)
theorem Root.unique {N r q : Int} (h : Root N r) (g : Root N q) : r = q := by
  have key : ∀ {a b : Int}, Root N a → Root N b → a ≤ b := by
    intro a b ha hb
    by_cases hc : a ≤ b
    · exact hc
    · have h1 : b + 1 ≤ a := by omega
      have h2 := cube_mono (by have := hb.lo; omega) h1
      rcases hb.gt with h3 | h3
      · have := ha.hi; omega
      · have := ha.le; omega
  have h1 := key h g
  have h2 := key g h
  omega
theorem spec_root_l0 (N : Int) (h0 : 0 ≤ N) : ∀ (d k : Nat) (lo hi : Int), 0 ≤ lo → lo ≤ hi → hi ≤ 1048576 → hi - lo < 2 ^ d → d < k → lo * lo * lo ≤ N → (hi = 1048576 ∨ N < (hi + 1) * (hi + 1) * (hi + 1)) → ∃ r, spec_l16Root.l0 k N lo hi = some r ∧ Root N r
  | 0, k, lo, hi, h1, h2, h3, h4, h5, h6, h7 => by
    obtain ⟨k, rfl⟩ : ∃ m, k = m + 1 := ⟨k - 1, by omega⟩
    have : lo = hi := by omega
    subst this
    exact ⟨lo, by simp only [spec_l16Root.l0]; rw [if_neg (by omega)], h1, h3, h6, h7⟩
  | d + 1, k, lo, hi, h1, h2, h3, h4, h5, h6, h7 => by
    obtain ⟨k, rfl⟩ : ∃ m, k = m + 1 := ⟨k - 1, by omega⟩
    simp only [spec_l16Root.l0]
    by_cases hlt : lo < hi
    · rw [if_pos hlt, w64 (x := lo + hi) (by omega) (by omega), w64 (x := lo + hi + 1) (by omega) (by omega), Int.tdiv_eq_ediv_of_nonneg (by omega), w64 (x := (lo + hi + 1) / 2) (by omega) (by omega)]
      have hp : (2 : Int) ^ (d + 1) = 2 * 2 ^ d := by rw [Int.pow_succ]; omega
      generalize hm : (lo + hi + 1) / 2 = m
      have m1 : lo < m := by omega
      have m2 : m ≤ hi := by omega
      rw [cube_w (by omega) (by omega)]
      by_cases hc : m * m * m ≤ N
      · rw [if_pos hc]; exact spec_root_l0 N h0 d k m hi (by omega) m2 h3 (by omega) (by omega) hc h7
      · rw [if_neg hc, w64 (by omega) (by omega)]; exact spec_root_l0 N h0 d k lo (m - 1) h1 (by omega) (by omega) (by omega) (by omega) h6 (.inr (by rw [show m - 1 + 1 = m by omega]; omega))
    · rw [if_neg hlt]
      have : lo = hi := by omega
      subst this
      exact ⟨lo, rfl, h1, h3, h6, h7⟩
theorem impl_root_l0 (N : Int) (h0 : 0 ≤ N) : ∀ (j k : Nat) (x : Int), j ≤ 20 → 0 ≤ x → x ≤ 1048576 → j + 1 < k → x * x * x ≤ N → (1048576 < x + 2 * 2 ^ j ∨ N < (x + 2 * 2 ^ j) * (x + 2 * 2 ^ j) * (x + 2 * 2 ^ j)) → ∃ r, impl_cubeRoot.l0 k N x (2 ^ j) = some r ∧ Root N r := by
  intro j
  induction j with
  | zero =>
    intro k x hj h1 h2 hk h3 h4
    obtain ⟨k, rfl⟩ : ∃ m, k = m + 2 := ⟨k - 2, by omega⟩
    have e1 : (1 : Int) / 2 = 0 := by decide
    simp only [impl_cubeRoot.l0, Int.pow_zero, e1]
    rw [if_pos (by decide), w64 (x := x + 1) (by omega) (by omega)]
    simp only [gt_iff_lt, Int.lt_irrefl, if_false]
    rw [Int.pow_zero] at h4
    by_cases hc : x + 1 ≤ 1048576
    · rw [if_pos hc, cube_w (by omega) hc]
      by_cases hn : (x + 1) * (x + 1) * (x + 1) ≤ N
      · rw [if_pos hn]; exact ⟨_, rfl, by omega, hc, hn, by rcases h4 with h4 | h4; left; omega; right; rw [show x + 1 + 1 = x + 2 * 1 by omega]; exact h4⟩
      · rw [if_neg hn]; exact ⟨_, rfl, h1, h2, h3, .inr (by omega)⟩
    · rw [if_neg hc]; exact ⟨_, rfl, h1, h2, h3, .inl (by omega)⟩
  | succ j ih =>
    intro k x hj h1 h2 hk h3 h4
    obtain ⟨k, rfl⟩ : ∃ m, k = m + 1 := ⟨k - 1, by omega⟩
    have hp : (2 : Int) ^ (j + 1) = 2 * 2 ^ j := by rw [Int.pow_succ]; omega
    have hpos : (0 : Int) < 2 ^ j := Int.pow_pos (by decide)
    have hle : (2 : Int) ^ j ≤ 2 ^ 20 := by exact_mod_cast Nat.pow_le_pow_right (by decide) (show j ≤ 20 by omega)
    have e20 : (2 : Int) ^ 20 = 1048576 := by decide
    simp only [impl_cubeRoot.l0]
    rw [hp] at h4 ⊢
    generalize (2 : Int) ^ j = b at *
    rw [if_pos (show 2 * b > 0 by omega), w64 (x := x + 2 * b) (by omega) (by omega), show 2 * b / 2 = b by omega]
    by_cases hc : x + 2 * b ≤ 1048576
    · rw [if_pos hc, cube_w (by omega) hc]
      by_cases hn : (x + 2 * b) * (x + 2 * b) * (x + 2 * b) ≤ N
      · rw [if_pos hn]; exact ih k _ (by omega) (by omega) hc (by omega) hn (by rw [show x + 2 * b + 2 * b = x + 2 * (2 * b) by omega]; exact h4)
      · rw [if_neg hn]; exact ih k _ (by omega) h1 h2 (by omega) h3 (.inr (by omega))
    · rw [if_neg hc]; exact ih k _ (by omega) h1 h2 (by omega) h3 (.inl (by omega))
theorem roots (N : Int) (h0 : 0 ≤ N) (k : Nat) (hk : 40 ≤ k) : ∃ r, spec_l16Root.f k N = some r ∧ impl_cubeRoot.f k N = some r ∧ 0 ≤ r ∧ r ≤ 1048576 ∧ (r = 1048576 ∨ N < (r + 1) * (r + 1) * (r + 1)) ∧ r * r * r ≤ N := by
  obtain ⟨r, e, hr⟩ := spec_root_l0 N h0 21 k 0 1048576 (by omega) (by omega) (by omega) (by decide) (by omega) (by simpa using h0) (.inl rfl)
  obtain ⟨q, e', hq⟩ := impl_root_l0 N h0 20 k 0 (by omega) (by omega) (by omega) (by omega) (by simpa using h0) (.inl (by decide))
  have := hr.unique hq
  subst this
  exact ⟨r, e, by rw [impl_cubeRoot.f]; exact e', hr.lo, hr.hi, hr.gt, hr.le⟩
theorem curves (m o t : Int) (h1 : 0 ≤ m) (h2 : m ≤ 100000) (h3 : 0 ≤ o) (h4 : o ≤ 1000000) (h5 : 0 ≤ t) (h6 : t ≤ 1000000) : ∃ r, spec_l16At.f m o t = some r ∧ impl_curve.f m o t = some r ∧ 1 ≤ r ∧ r ≤ 100000 := by
  unfold spec_l16At.f impl_curve.f
  rw [w64 (x := t - o) (by omega) (by omega)]
  have fin : ∀ x y : Int, x = y → mn (mx x 1) 100000 = mx 1 (mn 100000 y) := by
    intro x y e; subst e; unfold mn mx; repeat' split <;> omega
  have bd : ∀ y : Int, 1 ≤ mx 1 (mn 100000 y) ∧ mx 1 (mn 100000 y) ≤ 100000 := by
    intro y; unfold mn mx; constructor <;> repeat' split <;> omega
  by_cases hc : t - o > 100000
  · have hd : mn (t - o) 100000 = 100000 := by unfold mn; rw [if_pos (by omega)]
    rw [if_pos hc, hd]
    refine ⟨_, rfl, ?_, (bd _).1, (bd _).2⟩
    congr 1
    apply fin
    rw [w64 (x := m + 400000) (by omega) (by omega)]
    have e1 : wrap64 ((wrap64 ((wrap64 ((wrap64 (wrap64 (100000 * 100000) * 100000)).tdiv 1000000)) * 4)).tdiv 10000) = 400000 := by decide +kernel
    rw [e1, w64 (by omega) (by omega)]
    omega
  · have hd : mn (t - o) 100000 = t - o := by unfold mn; split <;> omega
    rw [if_neg hc, hd]
    refine ⟨_, rfl, ?_, (bd _).1, (bd _).2⟩
    congr 1
    apply fin
    rw [Int.add_comm]
theorem curve_b {m o t r : Int} (h : impl_curve.f m o t = some r) : 1 ≤ r ∧ r ≤ 100000 := by
  unfold impl_curve.f at h
  injection h with h
  subst h
  unfold mn mx; constructor <;> repeat' split <;> omega
end Go.Proofs.Ytjfbeakmpmjadaa.Pure

namespace Go.Proofs.Ytjfbeakmpmjadaa.Pure
open Go.RowKit Go.Proofs.Ytjfbeakmpmjadaa.PWin Go.Proofs.YtjfbeakmpmjadaaW.PrintWords Go.Proofs.YtjfbeakmpmjadaaW.PrintLast
set_option linter.unusedVariables false
set_option linter.unusedSimpArgs false
structure CI (w s m o si n c : Int) : Prop where
  w1 : 1 ≤ w
  w2 : w ≤ 100000
  s1 : 2 ≤ s
  s2 : s ≤ 100000
  m1 : 0 ≤ m
  m2 : m ≤ 100000
  o1 : 0 ≤ o
  o2 : o ≤ 1000000
  si1 : 0 ≤ si
  si2 : si ≤ n
  n2 : n ≤ 1000000
  c1 : 0 ≤ c
  c2 : c ≤ 100000
theorem ack_ok {w s m o si n c : Int} (h : CI w s m o si n c) : ∃ w' c', impl_Cubic_ack.f w s m o si n c = some (w', s, m, o, si, n, c') ∧ CI w' s m o si n c' ∧ w ≤ w' ∧ w' ≤ w + 1 ∧
    ∀ (k : Nat) (x1 x5 : Int), x5 < x1 → 0 ≤ x5 → x1 ≤ 1000 → spec_l16Ack.l0 (k + 1) x1 x5 w s m o si n c = spec_l16Ack.l0 k x1 (x5 + 1) w' s m o si n c' := by
  obtain ⟨w1, w2, s1, s2, m1, m2, o1, o2, i1, i2, n2, c1, c2⟩ := h
  unfold impl_Cubic_ack.f
  rw [if_pos ⟨w1, w2, c1, c2, i1, i2, n2⟩]
  by_cases hs : w < s
  · rw [if_pos hs]
    refine ⟨_, _, rfl, ⟨by omega, by omega, s1, s2, m1, m2, o1, o2, i1, i2, n2, c1, c2⟩, by omega, by omega, ?_⟩
    intro k x1 x5 h1 h2 h3
    simp only [spec_l16Ack.l0]
    rw [if_pos h1, if_pos hs, w64 (x := x5 + 1) (by omega) (by omega), w64 (x := w + 1) (by omega) (by omega)]
  rw [if_neg hs]
  obtain ⟨aim, e1, e2, b1, b2⟩ := curves m o (n - si) m1 m2 o1 o2 (by omega) (by omega)
  rw [e2, Option.bind_some, if_pos ⟨by omega, by omega⟩]
  have fr : ∀ (k : Nat) (x1 x5 : Int), x5 < x1 → 0 ≤ x5 → x1 ≤ 1000 → spec_l16Ack.l0 (k + 1) x1 x5 w s m o si n c = (if aim > w then (if aim - w = 0 then none else if c + 1 > w / (aim - w) then spec_l16Ack.l0 k x1 (x5 + 1) (mn 100000 (w + 1)) s m o si n 0 else spec_l16Ack.l0 k x1 (x5 + 1) w s m o si n (mn (c + 1) 100000)) else (if c + 1 > 100 * w then spec_l16Ack.l0 k x1 (x5 + 1) (mn 100000 (w + 1)) s m o si n 0 else spec_l16Ack.l0 k x1 (x5 + 1) w s m o si n (mn (c + 1) 100000))) := by
    intro k x1 x5 h1 h2 h3
    have t1 : ∀ y : Int, 1 ≤ y → wrap64 (Int.tdiv w y) = w / y := by
      intro y hy
      rw [Int.tdiv_eq_ediv_of_nonneg (by omega)]
      have := Int.ediv_le_self y (show 0 ≤ w by omega)
      have := Int.ediv_nonneg (show 0 ≤ w by omega) (show 0 ≤ y by omega)
      exact w64 (by omega) (by omega)
    simp only [spec_l16Ack.l0]
    rw [if_pos h1, if_neg hs, w64 (x := x5 + 1) (by omega) (by omega), w64 (x := w + 1) (by omega) (by omega), w64 (x := n - si) (by omega) (by omega), e1, Option.bind_some, w64 (x := aim - w) (by omega) (by omega), w64 (x := c + 1) (by omega) (by omega), w64 (x := 100 * w) (by omega) (by omega)]
    by_cases ha : aim > w
    · rw [if_pos ha, if_pos ha, t1 _ (by omega)]
    · rw [if_neg ha, if_neg ha]
  have mm : mn 100000 (w + 1) = mn (w + 1) 100000 := by unfold mn; (repeat' split) <;> omega
  have m3 : w ≤ mn (w + 1) 100000 ∧ mn (w + 1) 100000 ≤ w + 1 ∧ mn (w + 1) 100000 ≤ 100000 := by unfold mn; split <;> omega
  have m4 : 0 ≤ mn (c + 1) 100000 ∧ mn (c + 1) 100000 ≤ 100000 := by unfold mn; split <;> omega
  have up : CI (mn (w + 1) 100000) s m o si n 0 := ⟨by omega, by omega, s1, s2, m1, m2, o1, o2, i1, i2, n2, by omega, by omega⟩
  have st : CI w s m o si n (mn (c + 1) 100000) := ⟨w1, w2, s1, s2, m1, m2, o1, o2, i1, i2, n2, by omega, by omega⟩
  by_cases ha : w < aim
  · rw [if_pos ha]
    by_cases hd : w / (aim - w) < c + 1
    · rw [if_pos hd]
      exact ⟨_, _, rfl, up, by omega, by omega, fun k x1 x5 h1 h2 h3 => by rw [fr k x1 x5 h1 h2 h3, if_pos ha, if_neg (by omega), if_pos hd, mm]⟩
    · rw [if_neg hd]
      exact ⟨_, _, rfl, st, by omega, by omega, fun k x1 x5 h1 h2 h3 => by rw [fr k x1 x5 h1 h2 h3, if_pos ha, if_neg (by omega), if_neg hd]⟩
  · rw [if_neg ha]
    by_cases hd : 100 * w < c + 1
    · rw [if_pos hd]
      exact ⟨_, _, rfl, up, by omega, by omega, fun k x1 x5 h1 h2 h3 => by rw [fr k x1 x5 h1 h2 h3, if_neg ha, if_pos hd, mm]⟩
    · rw [if_neg hd]
      exact ⟨_, _, rfl, st, by omega, by omega, fun k x1 x5 h1 h2 h3 => by rw [fr k x1 x5 h1 h2 h3, if_neg ha, if_neg hd]⟩
theorem acks_ok {s m o si n : Int} (x1 : Int) (hx : x1 ≤ 1000) : ∀ (j : Nat) (x5 w c : Int), 0 ≤ x5 → x1 - x5 = j → CI w s m o si n c → ∃ w' c', impl_Cubic_act.l s m o si n j w c = some (w', c') ∧ CI w' s m o si n c' ∧ w ≤ w' ∧ w' ≤ w + j ∧ ∀ k, j < k → spec_l16Ack.l0 k x1 x5 w s m o si n c = some (w', s, m, o, si, n, c')
  | 0, x5, w, c, h0, hj, h => ⟨w, c, rfl, h, by omega, by omega, fun k hk => by
      obtain ⟨k, rfl⟩ : ∃ q, k = q + 1 := ⟨k - 1, by omega⟩
      simp only [spec_l16Ack.l0]; rw [if_neg (by omega)]⟩
  | j + 1, x5, w, c, h0, hj, h => by
    obtain ⟨w1, c1, e1, h1, l1, l2, e2⟩ := ack_ok h
    obtain ⟨w2, c2, e3, h2, l3, l4, e4⟩ := acks_ok x1 hx j (x5 + 1) w1 c1 (by omega) (by omega) h1
    refine ⟨w2, c2, by simp only [impl_Cubic_act.l]; rw [e1]; exact e3, h2, by omega, by omega, fun k hk => ?_⟩
    obtain ⟨k, rfl⟩ : ∃ q, k = q + 1 := ⟨k - 1, by omega⟩
    rw [e2 k x1 x5 (by omega) h0 hx]
    exact e4 k (by omega)
theorem loss_ok {w s m o si n c : Int} (h : CI w s m o si n c) (k : Nat) (hk : 40 ≤ k) : ∃ m' o', impl_Cubic_loss.f k w s m o si n c = some (mx 2 (w * 7 / 10), mx 2 (w * 7 / 10), m', o', n, n, 0) ∧ spec_l16Loss.f k w s m o si n c = some (mx 2 (w * 7 / 10), mx 2 (w * 7 / 10), m', o', n, n, 0) ∧ CI (mx 2 (w * 7 / 10)) (mx 2 (w * 7 / 10)) m' o' n n 0 := by
  obtain ⟨w1, w2, s1, s2, m1, m2, o1, o2, i1, i2, n2, c1, c2⟩ := h
  have key : ∀ q : Int, 0 ≤ q → q ≤ 100000 → ∃ r, spec_l16Root.f k ((if mx 2 (w * 7 / 10) < q then q - mx 2 (w * 7 / 10) else 0) * 10 / 4 * 1000000000) = some r ∧ impl_cubeRoot.f k (1000000000 * (10 * (mx (q - mx 2 (w * 7 / 10)) 0) / 4)) = some r ∧ 0 ≤ r ∧ r ≤ 1000000 := by
    intro q q0 q1
    have e : (1000000000 * (10 * (mx (q - mx 2 (w * 7 / 10)) 0) / 4)) = ((if mx 2 (w * 7 / 10) < q then q - mx 2 (w * 7 / 10) else 0) * 10 / 4 * 1000000000) := by
      generalize mx 2 (w * 7 / 10) = a
      unfold mx
      (repeat' split) <;> omega
    have b : 0 ≤ ((if mx 2 (w * 7 / 10) < q then q - mx 2 (w * 7 / 10) else 0) * 10 / 4 * 1000000000) ∧ ((if mx 2 (w * 7 / 10) < q then q - mx 2 (w * 7 / 10) else 0) * 10 / 4 * 1000000000) ≤ 250000000000000 := by
      have : 2 ≤ mx 2 (w * 7 / 10) := by unfold mx; split <;> omega
      generalize mx 2 (w * 7 / 10) = a at *
      split <;> omega
    rw [e]
    generalize ((if mx 2 (w * 7 / 10) < q then q - mx 2 (w * 7 / 10) else 0) * 10 / 4 * 1000000000) = N at b ⊢
    obtain ⟨r, e1, e2, r0, r1, r2, r3⟩ := roots N b.1 k hk
    refine ⟨r, e1, e2, r0, ?_⟩
    by_cases hr : r ≤ 1000000
    · exact hr
    · have := cube_mono (by omega) (show (1000000 : Int) ≤ r by omega)
      omega
  have e0 : mx (7 * w / 10) 2 = mx 2 (w * 7 / 10) := by rw [Int.mul_comm 7 w]; unfold mx; (repeat' split) <;> omega
  have e1 : (if 2 < w * 7 / 10 then w * 7 / 10 else 2) = mx 2 (w * 7 / 10) := rfl
  have b0 : 2 ≤ mx 2 (w * 7 / 10) ∧ mx 2 (w * 7 / 10) ≤ 100000 := by unfold mx; split <;> omega
  unfold impl_Cubic_loss.f spec_l16Loss.f
  have hg : 1 ≤ w ∧ w ≤ 100000 ∧ 0 ≤ m ∧ m ≤ 100000 := ⟨w1, w2, m1, m2⟩
  simp only [if_pos hg, e0, e1]
  by_cases hm : w < m
  · simp only [if_pos hm]
    obtain ⟨r, e3, e4, r0, r1⟩ := key (w * 17 / 20) (by omega) (by omega)
    rw [show 17 * w / 20 = w * 17 / 20 by omega]
    refine ⟨w * 17 / 20, r, by rw [e4]; rfl, by rw [e3]; rfl, ?_⟩
    exact ⟨by omega, by omega, by omega, by omega, by omega, by omega, by omega, by omega, by omega, by omega, by omega, by omega, by omega⟩
  · simp only [if_neg hm]
    obtain ⟨r, e3, e4, r0, r1⟩ := key w (by omega) (by omega)
    refine ⟨w, r, by rw [e4]; rfl, by rw [e3]; rfl, ?_⟩
    exact ⟨by omega, by omega, by omega, by omega, by omega, by omega, by omega, by omega, by omega, by omega, by omega, by omega, by omega⟩
/-- What a step does to the window, by its kind. -/
def WinOK (w b0 b1 w' : Int) : Prop := if b0 = 1 then (w ≤ w' ∧ (0 ≤ b1 → w' ≤ w + b1)) else if b0 = 2 then w' = mx 2 (w * 7 / 10) else if b0 = 3 then w' = 1 else w' = w
theorem act_ok {w s m o si n c : Int} (h : CI w s m o si n c) (b0 b1 : Int) (k : Nat) (hk : 2000 ≤ k) : ∃ d w' s' m' o' si' n' c', impl_Cubic_act.f k w s m o si n c b0 b1 = some (d, w', s', m', o', si', n', c') ∧ spec_l16Step.f k w s m o si n c b0 b1 = some (w', s', m', o', si', n', c', d) ∧ CI w' s' m' o' si' n' c' ∧ WinOK w b0 b1 w' := by
  have H := h
  obtain ⟨w1, w2, s1, s2, m1, m2, o1, o2, i1, i2, n2, c1, c2⟩ := h
  unfold impl_Cubic_act.f spec_l16Step.f WinOK
  by_cases n1 : b0 = 1
  · simp only [if_pos n1]
    by_cases hr : 0 ≤ b1 ∧ b1 ≤ 1000
    · simp only [if_pos hr]
      obtain ⟨w', c', e1, h1, l1, l2, e2⟩ := acks_ok b1 hr.2 b1.toNat 0 w c (by omega) (by omega) H
      rw [e1, spec_l16Ack.f, e2 k (by omega)]
      exact ⟨_, _, _, _, _, _, _, _, rfl, rfl, h1, l1, fun _ => by omega⟩
    · simp only [if_neg hr]
      exact ⟨_, _, _, _, _, _, _, _, rfl, rfl, H, by omega, fun _ => by omega⟩
  simp only [if_neg n1]
  obtain ⟨m', o', e1, e2, h1⟩ := loss_ok H k (by omega)
  by_cases n2_ : b0 = 2
  · simp only [if_pos n2_]
    rw [e1, e2]
    exact ⟨_, _, _, _, _, _, _, _, rfl, rfl, h1, rfl⟩
  simp only [if_neg n2_]
  by_cases n3 : b0 = 3
  · simp only [if_pos n3]
    rw [e1, e2]
    obtain ⟨p1, p2, p3, p4, p5, p6, p7, p8, p9, p10, p11, p12, p13⟩ := h1
    exact ⟨_, _, _, _, _, _, _, _, rfl, rfl, ⟨by omega, by omega, p3, p4, p5, p6, p7, p8, p9, p10, p11, p12, p13⟩, rfl⟩
  simp only [if_neg n3]
  by_cases n4 : b0 = 4
  · simp only [if_pos n4]
    simp only [if_pos (show 0 ≤ n ∧ n ≤ 1000000 by omega)]
    by_cases hr : 0 ≤ b1 ∧ b1 ≤ 1000000 - n
    · simp only [if_pos hr]
      exact ⟨_, _, _, _, _, _, _, _, rfl, rfl, ⟨w1, w2, s1, s2, m1, m2, o1, o2, i1, by omega, by omega, c1, c2⟩, rfl⟩
    · simp only [if_neg hr]
      exact ⟨_, _, _, _, _, _, _, _, rfl, rfl, H, rfl⟩
  · simp only [if_neg n4]
    exact ⟨_, _, _, _, _, _, _, _, rfl, rfl, H, rfl⟩
end Go.Proofs.Ytjfbeakmpmjadaa.Pure

namespace Go.Proofs.Ytjfbeakmpmjadaa.Pure
open Go.RowKit Go.Proofs.Ytjfbeakmpmjadaa.PWin Go.Proofs.YtjfbeakmpmjadaaW.PrintWords Go.Proofs.YtjfbeakmpmjadaaW.PrintLast
set_option linter.unusedVariables false
set_option linter.unusedSimpArgs false
theorem rd_nat (l : List Int) (i : Nat) : rd l (i : Int) = l.getD i 0 := by simp [rd]
theorem w64i {x : Int} (h : -9223372036854775808 ≤ x) (h' : x ≤ 9223372036854775807) : wrap64 x = x := by unfold wrap64; omega
theorem rdT30_nat (l : List S30) (i : Nat) (h : i < l.length) : rd_T30 l (i : Int) = l[i] := by simp [rd_T30, List.getD_eq_getElem?_getD, List.getElem?_eq_getElem h]
theorem runs_l0 (l : List S30) (hl : l.length ≤ 300) (K : Nat) (hK : 3000 ≤ K) : ∀ (d i : Nat) (w s m o si n c : Int) (pre : List Int), i + d = l.length → pre.length = i → CI w s m o si n c → ∃ f0 f1 f2 f3 f4 f5 f6 ws, (∀ k, K ≤ k → impl_CubicRun.l k (l.drop i) w s m o si n c = some ((f0, f1, f2, f3, f4, f5, f6), ws)) ∧ (ws.length = d ∧ ∀ v ∈ ws, 1 ≤ v ∧ v ≤ 100000) ∧ CI f0 f1 f2 f3 f4 f5 f6 ∧ (∀ k, K + d < k → spec_CubicRun.l0 k l pre (i : Int) w s m o si n c = some (f0, f1, f2, f3, f4, f5, f6, pre ++ ws, 0)) ∧ (∀ (j : Nat) (a : S30), l[i + j]? = some a → ∃ u v, (w :: ws)[j]? = some u ∧ ws[j]? = some v ∧ WinOK u a.f0 a.f1 v) ∧ (w :: ws)[d]? = some f0
  | 0, i, w, s, m, o, si, n, c, pre, h, hp, hI => by
    refine ⟨w, s, m, o, si, n, c, [], fun k hk => ?_, ⟨rfl, by simp⟩, hI, fun k hk => ?_, fun j a hj => ?_, rfl⟩
    · rw [List.drop_of_length_le (by omega)]; rfl
    · obtain ⟨k, rfl⟩ : ∃ m, k = m + 1 := ⟨k - 1, by omega⟩
      simp only [spec_CubicRun.l0]; rw [if_neg (by omega), List.append_nil]
    · rw [List.getElem?_eq_none (by omega)] at hj; cases hj
  | d + 1, i, w, s, m, o, si, n, c, pre, h, hp, hI => by
    have hlt : i < l.length := by omega
    have hact : ∃ dd w' s' m' o' si' n' c', (∀ k, 2000 ≤ k → impl_Cubic_act.f k w s m o si n c l[i].f0 l[i].f1 = some (dd, w', s', m', o', si', n', c') ∧ spec_l16Step.f k w s m o si n c l[i].f0 l[i].f1 = some (w', s', m', o', si', n', c', dd)) ∧ CI w' s' m' o' si' n' c' ∧ WinOK w l[i].f0 l[i].f1 w' := by
      obtain ⟨dd, w', s', m', o', si', n', c', e1, e2, h1, h2⟩ := act_ok hI l[i].f0 l[i].f1 2000 (Nat.le_refl _)
      exact ⟨dd, w', s', m', o', si', n', c', fun k hk => ⟨at_rounds (impl_Cubic_act.mono _ _ _ _ _ _ _ _ _) hk e1, at_rounds (spec_l16Step.mono _ _ _ _ _ _ _ _ _) hk e2⟩, h1, h2⟩
    obtain ⟨dd, w', s', m', o', si', n', c', e1, h1, h2⟩ := hact
    obtain ⟨f0, f1, f2, f3, f4, f5, f6, ws, g1, g2, g3, g4, g5, g6⟩ := runs_l0 l hl K hK d (i + 1) w' s' m' o' si' n' c' (pre ++ [w']) (by omega) (by simp [hp]) h1
    refine ⟨f0, f1, f2, f3, f4, f5, f6, w' :: ws, fun k hk => ?_, ⟨by simp [g2.1], fun v hv => by
      rcases List.mem_cons.1 hv with rfl | hv
      · exact ⟨h1.w1, h1.w2⟩
      · exact g2.2 v hv⟩, g3, fun k hk => ?_, fun j a hj => ?_, by simpa using g6⟩
    · rw [List.drop_eq_getElem_cons hlt]
      simp only [impl_CubicRun.l]
      rw [(e1 k (by omega)).1, Option.bind_some]
      dsimp only
      rw [g1 k hk]; rfl
    · obtain ⟨k, rfl⟩ : ∃ m, k = m + 1 := ⟨k - 1, by omega⟩
      simp only [spec_CubicRun.l0]
      rw [if_pos (by omega), if_pos (by omega), rdT30_nat l i hlt, (e1 k (by omega)).2, Option.bind_some, if_pos (by omega), w64i (by omega) (by omega)]
      have := g4 k (by omega)
      rw [List.append_assoc] at this
      exact this
    · cases j with
      | zero =>
        rw [Nat.add_zero, List.getElem?_eq_getElem hlt] at hj
        injection hj with hj
        subst hj
        exact ⟨w, w', rfl, rfl, h2⟩
      | succ j =>
        obtain ⟨u, v, q1, q2, q3⟩ := g5 j a (by rw [show i + 1 + j = i + (j + 1) by omega]; exact hj)
        exact ⟨u, v, by simpa using q1, by simpa using q2, q3⟩
theorem CI0 : CI 10 100000 0 0 0 0 0 := ⟨by omega, by omega, by omega, by omega, by omega, by omega, by omega, by omega, by omega, by omega, by omega, by omega, by omega⟩
theorem runs_ok (l : List S30) (hl : l.length ≤ 1048576) : ∃ f0 f1 f2 f3 f4 f5 f6 ws code, (∀ k, 4000 ≤ k → impl_CubicRun.f k l = some (f0, f1, f2, f3, f4, f5, f6, ws, code) ∧ spec_CubicRun.f k l = some (f0, f1, f2, f3, f4, f5, f6, ws, code)) ∧ ws.length ≤ 300 ∧ (l.length ≤ 300 → code = 0 ∧ (ws.length = l.length ∧ ∀ v ∈ ws, 1 ≤ v ∧ v ≤ 100000) ∧ CI f0 f1 f2 f3 f4 f5 f6 ∧ (∀ (j : Nat) (a : S30), l[j]? = some a → ∃ u v, (10 :: ws)[j]? = some u ∧ ws[j]? = some v ∧ WinOK u a.f0 a.f1 v) ∧ (10 :: ws)[l.length]? = some f0) := by
  by_cases h1 : 4096 < l.length
  · refine ⟨0, 0, 0, 0, 0, 0, 0, [], 2, fun k hk => ⟨?_, ?_⟩, by simp, fun h => by omega⟩
    · rw [impl_CubicRun.f, if_pos h1]
    · rw [spec_CubicRun.f, if_pos (by omega)]
  by_cases h2 : 300 < l.length
  · refine ⟨0, 0, 0, 0, 0, 0, 0, [], 6, fun k hk => ⟨?_, ?_⟩, by simp, fun h => by omega⟩
    · rw [impl_CubicRun.f, if_neg h1, if_pos h2]
    · rw [spec_CubicRun.f, if_neg (by omega), if_pos (by omega)]
  obtain ⟨f0, f1, f2, f3, f4, f5, f6, ws, g1, g2, g3, g4, g5, g6⟩ := runs_l0 l (by omega) 3000 (by omega) l.length 0 10 100000 0 0 0 0 0 [] (by omega) rfl CI0
  refine ⟨f0, f1, f2, f3, f4, f5, f6, ws, 0, fun k hk => ⟨?_, ?_⟩, by have := g2.1; omega, fun _ => ⟨rfl, g2, g3, fun j a hj => g5 j a (by rw [Nat.zero_add]; exact hj), g6⟩⟩
  · rw [impl_CubicRun.f, if_neg h1, if_neg h2]
    have := g1 k (by omega)
    rw [List.drop_zero] at this
    rw [this]; rfl
  · rw [spec_CubicRun.f, if_neg (by omega), if_neg (by omega), spec_NewCubic.f, Option.bind_some]
    exact g4 k (by omega)
end Go.Proofs.Ytjfbeakmpmjadaa.Pure

namespace Go.Proofs.Ytjfbeakmpmjadaa.Pure
open Go.RowKit Go.Proofs.Ytjfbeakmpmjadaa.PWin Go.Proofs.YtjfbeakmpmjadaaW.PrintWords Go.Proofs.YtjfbeakmpmjadaaW.PrintLast
set_option linter.unusedVariables false
set_option linter.unusedSimpArgs false
/-! What the source of choices answers: plain law over the printed functions of this namespace. -/
def SrcInv (c : List Int) (m : Nat) (s1 s2 : Int) : Prop := 0 ≤ s1 ∧ s1 ≤ m ∧ 0 ≤ s2 ∧ s2 < 2147483648 ∧ c.length ≤ 1048576 ∧ ∀ x ∈ c, 0 ≤ x ∧ x ≤ 255
theorem rd_in {c : List Int} (h : ∀ x ∈ c, 0 ≤ x ∧ x ≤ 255) (i : Int) : 0 ≤ rd c i ∧ rd c i ≤ 255 := by
  unfold rd
  by_cases hi : i.toNat < c.length
  · have e : c.getD i.toNat 0 = c[i.toNat] := by simp [List.getD, hi]
    rw [e]; exact h _ (List.getElem_mem hi)
  · have e : c.getD i.toNat 0 = 0 := by simp [List.getD, List.getElem?_eq_none (by omega : c.length ≤ i.toNat)]
    rw [e]; omega
theorem byte_ok {c : List Int} {m : Nat} {s1 s2 : Int} (h : SrcInv c m s1 s2) (hm : m < 1000000000000) :
    ∃ r t1 t2, spec_l00Src_byte.f c s1 s2 = some (r, t1, t2) ∧ 0 ≤ r ∧ r ≤ 255 ∧ SrcInv c (m + 1) t1 t2 := by
  obtain ⟨h1, h2, h3, h4, h5, h6⟩ := h
  have hb := rd_in h6 s1
  unfold spec_l00Src_byte.f
  rw [if_pos ⟨h1, by omega, h3, h4, by omega⟩]
  split
  · try rw [if_pos hb]
    exact ⟨_, _, _, rfl, hb.1, hb.2, by omega, by omega, by omega, by omega, h5, h6⟩
  · split
    · exact ⟨_, _, _, rfl, by omega, by omega, by omega, by omega, by omega, by omega, h5, h6⟩
    · exact ⟨_, _, _, rfl, by omega, by omega, by omega, by omega, by omega, by omega, h5, h6⟩
theorem tmod_in {a n : Int} (h : 0 ≤ a) (hn : 1 < n) : 0 ≤ Int.tmod a n ∧ Int.tmod a n < n := by
  rw [Int.tmod_eq_emod_of_nonneg h]
  exact ⟨Int.emod_nonneg _ (by omega), Int.emod_lt_of_pos _ (by omega)⟩
theorem next_ok {c : List Int} {m : Nat} {s1 s2 : Int} (h : SrcInv c m s1 s2) (hm : m + 3 < 1000000000000) (n : Int) :
    ∃ r t1 t2, spec_l00Src_next.f c s1 s2 n = some (r, t1, t2) ∧ 0 ≤ r ∧ (r < n ∨ n ≤ 1 ∧ r = 0) ∧ SrcInv c (m + 3) t1 t2 := by
  have wk : ∀ {m' : Nat} {a b : Int}, SrcInv c m' a b → m' ≤ m + 3 → SrcInv c (m + 3) a b := fun h hm => ⟨h.1, by have := h.2.1; omega, h.2.2⟩
  unfold spec_l00Src_next.f
  by_cases h1 : n ≤ 1
  · rw [if_pos h1]; exact ⟨0, s1, s2, rfl, by omega, .inr ⟨h1, rfl⟩, wk h (by omega)⟩
  · rw [if_neg h1]
    by_cases h2 : n ≤ 256
    · rw [if_pos h2]
      obtain ⟨r, t1, t2, e, hr0, hr1, hi⟩ := byte_ok h (by omega)
      rw [e]; simp only [Option.bind_some]
      rw [if_neg (by omega)]
      have := tmod_in hr0 (show 1 < n by omega)
      exact ⟨_, t1, t2, rfl, this.1, .inl this.2, wk hi (by omega)⟩
    · rw [if_neg h2]
      obtain ⟨r, t1, t2, e, hr0, hr1, hi⟩ := byte_ok h (by omega)
      rw [e]; simp only [Option.bind_some]
      obtain ⟨q, u1, u2, e, hq0, hq1, hj⟩ := byte_ok hi (by omega)
      rw [e]; simp only [Option.bind_some]
      obtain ⟨p, v1, v2, e, hp0, hp1, hk⟩ := byte_ok hj (by omega)
      rw [e]; simp only [Option.bind_some]
      rw [if_neg (by omega)]
      have e1 : wrap64 (wrap64 (wrap64 (r * 65536) + wrap64 (q * 256)) + p) = r * 65536 + q * 256 + p := by unfold wrap64; omega
      rw [e1]
      have := tmod_in (show 0 ≤ r * 65536 + q * 256 + p by omega) (show 1 < n by omega)
      exact ⟨_, v1, v2, rfl, this.1, .inl this.2, wk hk (by omega)⟩
theorem u8_in {l : List Int} (h : ∀ x ∈ l, (Lit.int .u8 x).wf = true) : ∀ x ∈ l, 0 ≤ x ∧ x ≤ 255 := fun x hx => by
  have h1 := h x hx
  have e1 : IntKind.u8.min = 0 := rfl
  have e2 : IntKind.u8.max = 255 := rfl
  simp [Lit.wf, e1, e2] at h1
  omega

theorem chance_ok {c : List Int} {m : Nat} {s1 s2 : Int} (h : SrcInv c m s1 s2) (hm : m + 3 < 1000000000000) (n : Int) : ∃ r t1 t2, spec_l00Src_chance.f c s1 s2 n = some (r, t1, t2) ∧ SrcInv c (m + 3) t1 t2 := by
  unfold spec_l00Src_chance.f
  obtain ⟨r, t1, t2, e, _, _, hi⟩ := next_ok h hm n
  rw [e, Option.bind_some]
  exact ⟨_, _, _, rfl, hi⟩
def AllOk (x : List S30) : Prop := x.length ≤ 300 ∧ ∀ a ∈ x, 1 ≤ a.f0 ∧ a.f0 ≤ 4 ∧ 0 ≤ a.f1 ∧ a.f1 ≤ 3000
theorem AllOk.snoc {x : List S30} (h : AllOk x) (hl : x.length < 300) (p q : Int) (h1 : 1 ≤ p ∧ p ≤ 4) (h2 : 0 ≤ q ∧ q ≤ 3000) : AllOk (x ++ [(⟨p, q⟩ : S30)]) := by
  refine ⟨by simp; omega, fun a ha => ?_⟩
  rcases List.mem_append.1 ha with ha | ha
  · exact h.2 a ha
  · rw [List.mem_singleton] at ha; subst ha; exact ⟨h1.1, h1.2, h2.1, h2.2⟩
theorem SrcInv.up {c : List Int} {m m' : Nat} {a b : Int} (h : SrcInv c m a b) (hm : m ≤ m') : SrcInv c m' a b := ⟨h.1, by have := h.2.1; omega, h.2.2⟩
theorem rd2 (a b i : Int) (h : i = 0 ∨ i = 1) : rd [a, b] i = if i = 0 then a else b := by
  rcases h with rfl | rfl <;> simp [rd]
theorem pace_l0 {c : List Int} : ∀ (d k m : Nat) (x3 : List S30) (x4 s1 s2 : Int), x4 ≤ d → x4 ≤ 1000 → -1000 ≤ x4 → 3 * d + 3 ≤ k → m + 12 * d < 1000000000 → SrcInv c m s1 s2 → AllOk x3 → ∃ acts t1 t2, spec_l00Src_paceActs.l0 k x3 x4 c s1 s2 = some (acts, t1, t2) ∧ AllOk acts
  | 0, k, m, x3, x4, s1, s2, h1, hb1, hb2, h2, h3, hs, ha => by
    obtain ⟨k, rfl⟩ : ∃ q, k = q + 2 := ⟨k - 2, by omega⟩
    simp only [spec_l00Src_paceActs.l0]
    rw [if_neg (by omega)]
    simp only [spec_l00Src_paceActs.j1]
    exact ⟨x3, s1, s2, by simp, ha⟩
  | d + 1, k, m, x3, x4, s1, s2, h1, hb1, hb2, h2, h3, hs, ha => by
    obtain ⟨k, rfl⟩ : ∃ q, k = q + 3 := ⟨k - 3, by omega⟩
    have go : ∀ (kk : Nat) (y : List S30) (mm : Nat) (t1 t2 : Int), x4 > 0 → k ≤ kk → mm ≤ m + 12 → SrcInv c mm t1 t2 → AllOk y → ∃ acts t1' t2', spec_l00Src_paceActs.l0 kk y (wrap64 (x4 - 1)) c t1 t2 = some (acts, t1', t2') ∧ AllOk acts := by
      intro kk y mm t1 t2 hx hk hmm hi hy
      rw [w64i (x := x4 - 1) (by omega) (by omega)]
      exact pace_l0 d kk (m + 12) y (x4 - 1) t1 t2 (by omega) (by omega) (by omega) (by omega) (by omega) (hi.up hmm) hy
    rw [spec_l00Src_paceActs.l0]
    have done : spec_l00Src_paceActs.j1 (k + 2) x3 x4 false c s1 s2 = some (x3, s1, s2) := by rw [spec_l00Src_paceActs.j1, if_neg (by decide)]
    by_cases hx : x4 > 0
    · rw [if_pos hx]
      by_cases hl : (x3.length : Int) < 300
      · rw [decide_eq_true hl, spec_l00Src_paceActs.j1, if_pos rfl]
        have hl8 : x3.length < 8796093022208 := by omega
        obtain ⟨r, t1, t2, e, hr0, hr1, hi⟩ := next_ok hs (by omega) 8
        rw [e, Option.bind_some]
        dsimp only
        by_cases r0 : r = 0
        · rw [if_pos r0, if_pos hl8]; exact go _ _ (m + 3) _ _ hx (by omega) (by omega) hi (ha.snoc (by omega) _ _ (by omega) (by omega))
        rw [if_neg r0]
        by_cases r1 : r = 1
        · rw [if_pos r1]
          obtain ⟨b, u1, u2, e, hj⟩ := chance_ok hi (by omega) 2
          rw [e, Option.bind_some]
          dsimp only
          by_cases hb : b = true
          · rw [if_pos hb, if_pos hl8]; exact go _ _ (m + 6) _ _ hx (by omega) (by omega) hj (ha.snoc (by omega) _ _ (by omega) (by omega))
          · rw [if_neg hb]; exact go _ _ (m + 6) _ _ hx (by omega) (by omega) hj ha
        rw [if_neg r1]
        have j2 : ∀ b : Bool, ∃ acts t1' t2', spec_l00Src_paceActs.j2 (k + 1) x3 x4 b c t1 t2 = some (acts, t1', t2') ∧ AllOk acts := by
          intro b
          rw [spec_l00Src_paceActs.j2]
          cases b with
          | true =>
            rw [if_pos rfl]
            obtain ⟨p, u1, u2, e, hp0, hp1, hj⟩ := next_ok hi (by omega) 100
            rw [e, Option.bind_some]; dsimp only
            obtain ⟨q, v1, v2, e, hq0, hq1, hk⟩ := next_ok hj (by omega) 3000
            rw [e, Option.bind_some, Option.bind_some]; dsimp only
            obtain ⟨z, y1, y2, e, hz0, hz1, hn⟩ := next_ok hk (by omega) 2
            rw [e, Option.bind_some]; dsimp only
            rw [if_pos hz0, if_pos (by simp; omega), if_pos hl8, rd2 p q z (by omega)]
            exact go _ _ (m + 12) _ _ hx (by omega) (by omega) (hn.up (by omega)) (ha.snoc (by omega) _ _ (by omega) (by split <;> omega))
          | false =>
            rw [if_neg (by decide)]
            obtain ⟨p, u1, u2, e, hp0, hp1, hj⟩ := next_ok hi (by omega) 20
            rw [e, Option.bind_some]; dsimp only
            obtain ⟨q, v1, v2, e, hq0, hq1, hk⟩ := next_ok hj (by omega) 300
            rw [e, Option.bind_some, Option.bind_some]; dsimp only
            obtain ⟨z, y1, y2, e, hz0, hz1, hn⟩ := next_ok hk (by omega) 2
            rw [e, Option.bind_some]; dsimp only
            rw [if_pos hz0, if_pos (by simp; omega), if_pos hl8, rd2 p q z (by omega)]
            exact go _ _ (m + 12) _ _ hx (by omega) (by omega) (hn.up (by omega)) (ha.snoc (by omega) _ _ (by omega) (by split <;> omega))
        split
        · exact j2 _
        · exact j2 _
      · rw [decide_eq_false hl, done]
        exact ⟨x3, s1, s2, rfl, ha⟩
    · rw [if_neg hx, done]
      exact ⟨x3, s1, s2, rfl, ha⟩
theorem acts_ok {c : List Int} (h : ∀ x ∈ c, 0 ≤ x ∧ x ≤ 255) (hl : c.length ≤ 1048576) (k : Nat) (hk : 400 ≤ k) : ∃ acts, spec_PaceActsOf.f k c = some acts ∧ AllOk acts := by
  have h0 : SrcInv c 0 0 ((c.length : Int) % 1000) := ⟨by omega, by omega, by omega, by omega, hl, h⟩
  have hsz : wrap64 (1 + wrap64 ((c.length : Int) / 12)) = 1 + (c.length : Int) / 12 := by rw [w64i (x := (c.length : Int) / 12) (by omega) (by omega), w64i (by omega) (by omega)]
  have hmn : 1 ≤ mn (1 + (c.length : Int) / 12) 40 ∧ mn (1 + (c.length : Int) / 12) 40 ≤ 40 := by unfold mn; split <;> omega
  rw [spec_PaceActsOf.f, spec_l00Source.f, Option.bind_some]
  dsimp only
  rw [spec_l00Src_paceActs.f, spec_l00Src_size.f, Option.bind_some, hsz]
  dsimp only
  rw [w64i (by omega) (by omega)]
  obtain ⟨r, t1, t2, e, hr0, hr1, hi⟩ := next_ok h0 (by omega) (mn (1 + (c.length : Int) / 12) 40 + 3)
  rw [e, Option.bind_some]
  dsimp only
  obtain ⟨acts, u1, u2, e, ha⟩ := pace_l0 50 k 3 [] r t1 t2 (by omega) (by omega) (by omega) (by omega) (by omega) hi ⟨by simp, by simp⟩
  rw [e, Option.bind_some]
  exact ⟨acts, rfl, ha⟩
theorem sameInts_l0 (l : List Int) (hl : l.length ≤ 1000000000000) : ∀ (d k i : Nat), i + d = l.length → d < k → laws_sameInts.l0 k l l (i : Int) = some true
  | 0, k, i, h, hk => by
    obtain ⟨k, rfl⟩ : ∃ m, k = m + 1 := ⟨k - 1, by omega⟩
    simp only [laws_sameInts.l0]; rw [if_neg (by omega)]
  | d + 1, k, i, h, hk => by
    obtain ⟨k, rfl⟩ : ∃ m, k = m + 1 := ⟨k - 1, by omega⟩
    simp only [laws_sameInts.l0]
    rw [if_pos (by omega), if_pos (by omega), if_pos (by omega)]
    simp only [if_true]
    rw [w64i (by omega) (by omega)]
    exact sameInts_l0 l hl d k (i + 1) (by omega) (by omega)
theorem win_l0 (l : List S30) (ws : List Int) (f0 f1 f2 f3 f4 f5 f6 : Int) (hl : l.length ≤ 300) (hw : ws.length = l.length) (ha : AllOk l) (hb : ∀ v ∈ ws, 0 ≤ v ∧ v ≤ 100000)
    (hj : ∀ (j : Nat) (a : S30), l[j]? = some a → ∃ u v, ((10 : Int) :: ws)[j]? = some u ∧ ws[j]? = some v ∧ WinOK u a.f0 a.f1 v) (hf : ((10 : Int) :: ws)[l.length]? = some f0) :
    ∀ (d k i : Nat) (u : Int), i + d = l.length → d < k → ((10 : Int) :: ws)[i]? = some u → laws_FnWindow.l0 k l ws u (i : Int) f0 f1 f2 f3 f4 f5 f6 = some true
  | 0, k, i, u, h, hk, hu => by
    obtain ⟨k, rfl⟩ : ∃ m, k = m + 1 := ⟨k - 1, by omega⟩
    have : i = l.length := by omega
    subst this
    rw [hf] at hu
    injection hu with hu
    subst hu
    rw [laws_FnWindow.l0, if_neg (by omega), beq_self_eq_true]
  | d + 1, k, i, u, h, hk, hu => by
    obtain ⟨k, rfl⟩ : ∃ m, k = m + 1 := ⟨k - 1, by omega⟩
    have hi : i < l.length := by omega
    obtain ⟨u', v, e1, e2, hW⟩ := hj i l[i] (List.getElem?_eq_getElem hi)
    rw [hu] at e1
    injection e1 with e1
    subst e1
    have hub : 0 ≤ u ∧ u ≤ 100000 := by
      rcases List.mem_cons.1 (List.mem_of_getElem? hu) with h | h
      · subst h; omega
      · exact hb u h
    have hvb := hb v (List.mem_of_getElem? e2)
    have hal := ha.2 l[i] (List.getElem_mem hi)
    have next := win_l0 l ws f0 f1 f2 f3 f4 f5 f6 hl hw ha hb hj hf d k (i + 1) v (by omega) (by omega) (by simpa using e2)
    have ev : rd ws (i : Int) = v := by rw [rd_nat, List.getD_eq_getElem?_getD, e2]; rfl
    rw [laws_FnWindow.l0, if_pos (by omega), if_pos (by omega), if_pos (by omega), rdT30_nat l i hi, ev, w64i (x := (i : Int) + 1) (by omega) (by omega), w64i (x := u + l[i].f1) (by omega) (by omega), w64i (x := u * 7) (by omega) (by omega), Int.tdiv_eq_ediv_of_nonneg (by omega), w64i (x := u * 7 / 10) (by omega) (by omega)]
    unfold WinOK at hW
    by_cases k1 : l[i].f0 = 1
    · rw [if_pos k1] at hW ⊢
      have := hW.2 hal.2.2.1
      rw [if_neg (by omega), if_neg (by omega)]
      exact next
    rw [if_neg k1] at hW ⊢
    by_cases k2 : l[i].f0 = 2
    · rw [if_pos k2] at hW ⊢
      rw [if_pos hW]; exact next
    rw [if_neg k2] at hW ⊢
    by_cases k3 : l[i].f0 = 3
    · rw [if_pos k3] at hW ⊢
      rw [if_pos hW]; exact next
    rw [if_neg k3] at hW ⊢
    rw [if_pos hW]; exact next
theorem FnWindow : laws_FnWindow.Pure := by
  intro l0 _ _ hb0
  have hb := u8_in hb0
  refine ⟨5000, ?_⟩
  rw [laws_FnWindow.f]
  by_cases g0 : (l0.length : Int) > 1048576
  · rw [if_pos g0]
  rw [if_neg g0]
  obtain ⟨acts, e, ha⟩ := acts_ok hb (by omega) 5000 (by omega)
  obtain ⟨f0, f1, f2, f3, f4, f5, f6, ws, code, e1, hws, hh⟩ := runs_ok acts (by have := ha.1; omega)
  obtain ⟨hc, hlen, hI, hj, hf⟩ := hh ha.1
  subst hc
  have hvb : ∀ v ∈ ws, 0 ≤ v ∧ v ≤ 100000 := by
    intro v hv
    have := hlen.2 v hv
    omega
  rw [e, Option.bind_some, (e1 _ (by omega)).1, Option.bind_some, (e1 _ (by omega)).2, Option.bind_some]
  dsimp only
  rw [if_pos rfl, laws_sameInts.f, if_pos rfl]
  have es := sameInts_l0 ws (by omega) ws.length 5000 0 (by omega) (by omega)
  rw [show ((0 : Nat) : Int) = 0 from rfl] at es
  rw [es, Option.bind_some, if_pos rfl]
  simp only [beq_self_eq_true, Bool.not_true, Bool.or_self, Bool.false_eq_true, if_false]
  rw [if_pos (by have := hlen.1; omega)]
  have ok : impl_CubicOK.f 5000 f0 f1 f2 f3 f4 f5 f6 = some true := by
    obtain ⟨a1, a2, a3, a4, a5, a6, a7, a8, a9, a10, a11, a12, a13⟩ := hI
    have ir : ∀ a b c : Int, b ≤ a → a ≤ c → impl_inRange.f a b c = some true := fun a b c h1 h2 => by rw [impl_inRange.f, if_pos (by omega), decide_eq_true h2]
    rw [impl_CubicOK.f, ir _ _ _ a1 a2, Option.bind_some, if_pos rfl, ir _ _ _ a3 a4, Option.bind_some, if_pos rfl, ir _ _ _ a5 a6, Option.bind_some, if_pos rfl, ir _ _ _ a12 a13, Option.bind_some, Bool.not_true, impl_CubicOK.j0, if_neg (by decide), ir _ _ _ a7 a8, Option.bind_some, if_pos rfl, ir _ _ _ (by omega) a11, Option.bind_some, if_pos rfl, ir _ _ _ a9 a10, Option.bind_some]
  rw [ok, Option.bind_some, Bool.not_true, laws_FnWindow.j0, if_neg (by decide), impl_NewCubic.f, Option.bind_some]
  dsimp only
  exact win_l0 acts ws f0 f1 f2 f3 f4 f5 f6 ha.1 hlen.1 ha hvb hj hf acts.length 4999 0 10 (by omega) (by have := ha.1; omega) rfl
end Go.Proofs.Ytjfbeakmpmjadaa.Pure
