-- Written by plug.py, a program of this work, over the kit's printing program: the functions that it prints, and this work's own proofs of those that it does not.
import Derived.Test.YtnceiegngfpmkaaPStax0
import Derived.Test.YtnceiegngfpmkaaPStax1
import Derived.Test.YtnceiegngfpmkaaPStax2
import Derived.Test.YtnceiegngfpmkaaPStax3
import Derived.Test.YtnceiegngfpmkaaPStax8
import Derived.Test.YtnceiegngfpmkaaPStax13
import Derived.Test.YtnceiegngfpmkaaPStax14
namespace Go.Proofs.Ytnceiegngfpmkaa.PSta
open Go.RowKit Go.Proofs.YtnceiegngfpmkaaW.PrintWords Go.Proofs.YtnceiegngfpmkaaW.PrintLast Go.Proofs.YtnceiegngfpmkaaW.PrintMore
attribute [local go_sem] max2_int min2_int max_two min_two max_three min_three max_four min_four   -- for this text's walks alone
set_option linter.unusedVariables false
set_option linter.unusedSimpArgs false

/-! ### laws_FnStates: function 3 -/
mutual
def laws_FnStates.j0 : Nat → List Int → List Int → Bool → Option (Bool)
  | 0, _, _, _ => none
  | k + 1, x0, x1, x24 => if x24 = true then (some true) else ((laws_at.f x0 0 11).bind fun t200 => ((laws_at.f x1 0 32).bind fun t201 => ((impl_StateWord.f t200).bind fun bt202 => ((spec_StateWord.f t200).bind fun bt204 => ((impl_TcpStep.f k t200 5 t201).bind fun bt206 => ((spec_TcpStep.f k t200 5 t201).bind fun bt211 => (if bt202.2 = 0 then (if bt202.1.toList = bt204.1.toList then (if bt206.2.2 = 0 then (if bt206.1 = bt211.1 then ((laws_sameInts.f k bt206.2.1 bt211.2.1).bind fun t216 => (if t216 = true then (laws_FnStates.j1 k t200 t201 bt206.1 bt206.2.1 (decide ((bt206.2.1.length : Int) > 1))) else (laws_FnStates.j1 k t200 t201 bt206.1 bt206.2.1 true))) else (laws_FnStates.j1 k t200 t201 bt206.1 bt206.2.1 true)) else (laws_FnStates.j1 k t200 t201 bt206.1 bt206.2.1 true)) else (laws_FnStates.j1 k t200 t201 bt206.1 bt206.2.1 true)) else (laws_FnStates.j1 k t200 t201 bt206.1 bt206.2.1 true))))))))
def laws_FnStates.j1 : Nat → Int → Int → Int → List Int → Bool → Option (Bool)
  | 0, _, _, _, _, _ => none
  | k + 1, x5, x6, x11, x12, x81 => if x81 = true then (some false) else (if (Go.bits .and .i64 x6 8) = 0 then (if x5 = 0 then (if x11 = x5 then ((laws_sameInts.f k x12 (([8] : List Int))).bind fun t220 => (some t220)) else (some false)) else (some true)) else (if (x12.length : Int) = 0 then (if x11 = 0 then (some true) else (if x5 = 1 then (some (x11 == x5)) else (some false))) else (some false)))
end
def laws_FnStates.f (k : Nat) (l0 : List Int) (l1 : List Int) : Option (Bool) := if (l0.length : Int) > 1048576 then (laws_FnStates.j0 k l0 l1 true) else (laws_FnStates.j0 k l0 l1 (decide ((l1.length : Int) > 1048576)))
theorem laws_FnStates.mono_l : ∀ k, (∀ y0 y1 y2, LeO (laws_FnStates.j0 k y0 y1 y2) (laws_FnStates.j0 (k + 1) y0 y1 y2)) ∧ (∀ y0 y1 y2 y3 y4, LeO (laws_FnStates.j1 k y0 y1 y2 y3 y4) (laws_FnStates.j1 (k + 1) y0 y1 y2 y3 y4))
  | 0 => ⟨fun _ _ _ r h => by simp [laws_FnStates.j0] at h, fun _ _ _ _ _ r h => by simp [laws_FnStates.j1] at h⟩
  | k + 1 => by
    obtain ⟨ih0, ih1⟩ := laws_FnStates.mono_l k
    refine ⟨?_, ?_⟩
    · intro y0 y1 y2
      unfold laws_FnStates.j0
      repeat' first
      | (with_reducible exact ih0 _ _ _)
      | (with_reducible exact ih1 _ _ _ _ _)
      | (with_reducible exact impl_TcpStep.mono _ _ _ _)
      | (with_reducible exact laws_sameInts.mono _ _ _)
      | (with_reducible exact spec_TcpStep.mono _ _ _ _)
      | (with_reducible exact LeO.refl _)
      | (with_reducible exact LeO.none _)
      | (with_reducible refine LeO.ite ?_ ?_)
      | (with_reducible refine LeO.bind ?_ (fun _ => ?_))
      | exact ih0 _ _ _
      | exact ih1 _ _ _ _ _
      | exact impl_TcpStep.mono _ _ _ _
      | exact laws_sameInts.mono _ _ _
      | exact spec_TcpStep.mono _ _ _ _
      | exact LeO.none _
      | refine LeO.ite ?_ ?_
      | refine LeO.bind ?_ (fun _ => ?_)
    · intro y0 y1 y2 y3 y4
      unfold laws_FnStates.j1
      repeat' first
      | (with_reducible exact ih0 _ _ _)
      | (with_reducible exact ih1 _ _ _ _ _)
      | (with_reducible exact impl_TcpStep.mono _ _ _ _)
      | (with_reducible exact laws_sameInts.mono _ _ _)
      | (with_reducible exact spec_TcpStep.mono _ _ _ _)
      | (with_reducible exact LeO.refl _)
      | (with_reducible exact LeO.none _)
      | (with_reducible refine LeO.ite ?_ ?_)
      | (with_reducible refine LeO.bind ?_ (fun _ => ?_))
      | exact ih0 _ _ _
      | exact ih1 _ _ _ _ _
      | exact impl_TcpStep.mono _ _ _ _
      | exact laws_sameInts.mono _ _ _
      | exact spec_TcpStep.mono _ _ _ _
      | exact LeO.none _
      | refine LeO.ite ?_ ?_
      | refine LeO.bind ?_ (fun _ => ?_)
theorem laws_FnStates.mono : ∀ a0 a1 k, LeO (laws_FnStates.f k a0 a1) (laws_FnStates.f (k + 1) a0 a1) := by
  intro a0 a1 k
  obtain ⟨ih0, ih1⟩ := laws_FnStates.mono_l k
  unfold laws_FnStates.f
  repeat' first
      | (with_reducible exact ih0 _ _ _)
      | (with_reducible exact ih1 _ _ _ _ _)
      | (with_reducible exact impl_TcpStep.mono _ _ _ _)
      | (with_reducible exact laws_sameInts.mono _ _ _)
      | (with_reducible exact spec_TcpStep.mono _ _ _ _)
      | (with_reducible exact LeO.refl _)
      | (with_reducible exact LeO.none _)
      | (with_reducible refine LeO.ite ?_ ?_)
      | (with_reducible refine LeO.bind ?_ (fun _ => ?_))
      | exact ih0 _ _ _
      | exact ih1 _ _ _ _ _
      | exact impl_TcpStep.mono _ _ _ _
      | exact laws_sameInts.mono _ _ _
      | exact spec_TcpStep.mono _ _ _ _
      | exact LeO.none _
      | refine LeO.ite ?_ ?_
      | refine LeO.bind ?_ (fun _ => ?_)
set_option maxHeartbeats 8000000 in
set_option maxRecDepth 100000 in
theorem laws_FnStates.calls (k : Nat) (A0 : Option Addr) (c0 : Nat) (l0 : List Int) (A1 : Option Addr) (c1 : Nat) (l1 : List Int) (r : Bool) (w : World) (hr0 : Kd.C (Kd.int .u8) w A0 l0.length l0) (hc0 : l0.length ≤ c0) (hr1 : Kd.C (Kd.int .u8) w A1 l1.length l1) (hc1 : l1.length ≤ c1) (h : laws_FnStates.f k l0 l1 = some r) :
    Calls Try.prog 3 #[.slice A0 l0.length c0, .slice A1 l1.length c1] w fun e w' => e = .returned (.bool r) ∧ Below w.heap.size w w' := by
  have hu30 := Try.underlying30
  have HR0 := Aside0.mk hr0
  have HC0 := Aside0.mk hc0
  clear hr0 hc0
  have HR1 := Aside0.mk hr1
  have HC1 := Aside0.mk hc1
  clear hr1 hc1
  have HB := Aside0.mk (Below.refl w.heap.size w)
  have H : (if (l0.length : Int) > 1048576 then (laws_FnStates.j0 k l0 l1 true) else (laws_FnStates.j0 k l0 l1 (decide ((l1.length : Int) > 1048576)))) = some r := h
  clear h
  have HC3 := Aside0.mk H
  clear H
  go_enter Try.func3, Try.ntmps3
  go_upto_region 1 with (fail)
  go_cut [24] (fun v24 wc => ∃ (kq : Nat) (x24_2 : Bool), v24 = .bool x24_2 ∧ Aside0 (laws_FnStates.j0 kq l0 l1 x24_2 = some r) ∧ Aside0 (kq ≤ k) ∧ Aside0 (Below w.heap.size w wc))
  case first =>
    have H := HC3.out
    clear HC3
    by_cases c4 : (l0.length : Int) > 1048576
    · rw [if_pos c4] at H
      have c4b0 : decide (1048576 < (l0.length : Int)) = true := decide_eq_true c4
      have c4b1 : decide (1048576 < l0.length) = true := decide_eq_true (by omega)
      clear c4
      (first | rw [c4b0] | (simp only [i64_w, i32_w]; rw [c4b0]) | skip)
      have H' := Aside0.mk H
      clear H
      go_wp2
      go_meet
      case rel => exact ⟨_, (true), (by first | rfl | (simp; done) | (simp [*]; done)), H', ⟨by first | omega | exact Nat.le_refl _⟩, ⟨by repeat (first | (with_reducible first | exact HB.out | apply below_alloc | apply pw_below_drewN | apply below_drew1) | exact HB.out)⟩⟩
    · rw [if_neg c4] at H
      have c4b0 : decide (1048576 < (l0.length : Int)) = false := decide_eq_false c4
      have c4b1 : decide (1048576 < l0.length) = false := decide_eq_false (by omega)
      clear c4
      (first | rw [c4b0] | (simp only [i64_w, i32_w]; rw [c4b0]) | skip)
      have H' := Aside0.mk H
      clear H
      go_wp2
      go_meet
      case rel => exact ⟨_, (decide ((l1.length : Int) > 1048576)), (by first | rfl | (simp; done) | (simp [*]; done)), H', ⟨by first | omega | exact Nat.le_refl _⟩, ⟨by repeat (first | (with_reducible first | exact HB.out | apply below_alloc | apply pw_below_drewN | apply below_drew1) | exact HB.out)⟩⟩
  case rest =>
    clear HC3
    try clear c1
    try clear p2
    try clear c3
    try clear c4
    try clear c4b0
    try clear c4b1
    obtain ⟨kq, x24_2, rfl, HA, HJ2, HB⟩ := hcut
    cases kq with
    | zero => exact absurd HA.out (by simp [laws_FnStates.j0])
    | succ kj2 =>
      have H := HA.out
      clear HA
      simp only [laws_FnStates.j0] at H
      by_cases c5 : x24_2 = true
      · subst c5
        have H1 : (some true) = some r := by rw [if_pos rfl] at H; exact H
        clear H
        have H := H1
        clear H1
        obtain rfl := Option.some.inj H
        go_wp2
        go_ret
        exact ⟨by first | rfl | (simp [errW_none, errW_some] <;> rfl) | (simp [*, errW_none, errW_some] <;> rfl), by repeat (first | (with_reducible first | exact HB.out | apply below_alloc | apply pw_below_drewN | apply below_drew1) | exact HB.out)⟩
      · replace c5 := Bool.eq_false_iff.mpr c5
        subst c5
        have H1 : ((laws_at.f l0 0 11).bind fun t200 => ((laws_at.f l1 0 32).bind fun t201 => ((impl_StateWord.f t200).bind fun bt202 => ((spec_StateWord.f t200).bind fun bt204 => ((impl_TcpStep.f kj2 t200 5 t201).bind fun bt206 => ((spec_TcpStep.f kj2 t200 5 t201).bind fun bt211 => (if bt202.2 = 0 then (if bt202.1.toList = bt204.1.toList then (if bt206.2.2 = 0 then (if bt206.1 = bt211.1 then ((laws_sameInts.f kj2 bt206.2.1 bt211.2.1).bind fun t216 => (if t216 = true then (laws_FnStates.j1 kj2 t200 t201 bt206.1 bt206.2.1 (decide ((bt206.2.1.length : Int) > 1))) else (laws_FnStates.j1 kj2 t200 t201 bt206.1 bt206.2.1 true))) else (laws_FnStates.j1 kj2 t200 t201 bt206.1 bt206.2.1 true)) else (laws_FnStates.j1 kj2 t200 t201 bt206.1 bt206.2.1 true)) else (laws_FnStates.j1 kj2 t200 t201 bt206.1 bt206.2.1 true)) else (laws_FnStates.j1 kj2 t200 t201 bt206.1 bt206.2.1 true)))))))) = some r := by rw [if_neg (show ¬ (false = true) by decide)] at H; exact H
        clear H
        have H := H1
        clear H1
        replace H := Option.bind_eq_some_iff.mp H
        obtain ⟨t200, A60, H⟩ := H
        replace H : ((laws_at.f l1 0 32).bind fun t201 => ((impl_StateWord.f t200).bind fun bt202 => ((spec_StateWord.f t200).bind fun bt204 => ((impl_TcpStep.f kj2 t200 5 t201).bind fun bt206 => ((spec_TcpStep.f kj2 t200 5 t201).bind fun bt211 => (if bt202.2 = 0 then (if bt202.1.toList = bt204.1.toList then (if bt206.2.2 = 0 then (if bt206.1 = bt211.1 then ((laws_sameInts.f kj2 bt206.2.1 bt211.2.1).bind fun t216 => (if t216 = true then (laws_FnStates.j1 kj2 t200 t201 bt206.1 bt206.2.1 (decide ((bt206.2.1.length : Int) > 1))) else (laws_FnStates.j1 kj2 t200 t201 bt206.1 bt206.2.1 true))) else (laws_FnStates.j1 kj2 t200 t201 bt206.1 bt206.2.1 true)) else (laws_FnStates.j1 kj2 t200 t201 bt206.1 bt206.2.1 true)) else (laws_FnStates.j1 kj2 t200 t201 bt206.1 bt206.2.1 true)) else (laws_FnStates.j1 kj2 t200 t201 bt206.1 bt206.2.1 true))))))) = some r := H
        have A6 := Aside0.mk A60
        clear A60
        replace H := Option.bind_eq_some_iff.mp H
        obtain ⟨t201, A70, H⟩ := H
        replace H : ((impl_StateWord.f t200).bind fun bt202 => ((spec_StateWord.f t200).bind fun bt204 => ((impl_TcpStep.f kj2 t200 5 t201).bind fun bt206 => ((spec_TcpStep.f kj2 t200 5 t201).bind fun bt211 => (if bt202.2 = 0 then (if bt202.1.toList = bt204.1.toList then (if bt206.2.2 = 0 then (if bt206.1 = bt211.1 then ((laws_sameInts.f kj2 bt206.2.1 bt211.2.1).bind fun t216 => (if t216 = true then (laws_FnStates.j1 kj2 t200 t201 bt206.1 bt206.2.1 (decide ((bt206.2.1.length : Int) > 1))) else (laws_FnStates.j1 kj2 t200 t201 bt206.1 bt206.2.1 true))) else (laws_FnStates.j1 kj2 t200 t201 bt206.1 bt206.2.1 true)) else (laws_FnStates.j1 kj2 t200 t201 bt206.1 bt206.2.1 true)) else (laws_FnStates.j1 kj2 t200 t201 bt206.1 bt206.2.1 true)) else (laws_FnStates.j1 kj2 t200 t201 bt206.1 bt206.2.1 true)))))) = some r := H
        have A7 := Aside0.mk A70
        clear A70
        replace H := Option.bind_eq_some_iff.mp H
        obtain ⟨⟨t202, t203⟩, A80, H⟩ := H
        replace H : ((spec_StateWord.f t200).bind fun bt204 => ((impl_TcpStep.f kj2 t200 5 t201).bind fun bt206 => ((spec_TcpStep.f kj2 t200 5 t201).bind fun bt211 => (if t203 = 0 then (if t202.toList = bt204.1.toList then (if bt206.2.2 = 0 then (if bt206.1 = bt211.1 then ((laws_sameInts.f kj2 bt206.2.1 bt211.2.1).bind fun t216 => (if t216 = true then (laws_FnStates.j1 kj2 t200 t201 bt206.1 bt206.2.1 (decide ((bt206.2.1.length : Int) > 1))) else (laws_FnStates.j1 kj2 t200 t201 bt206.1 bt206.2.1 true))) else (laws_FnStates.j1 kj2 t200 t201 bt206.1 bt206.2.1 true)) else (laws_FnStates.j1 kj2 t200 t201 bt206.1 bt206.2.1 true)) else (laws_FnStates.j1 kj2 t200 t201 bt206.1 bt206.2.1 true)) else (laws_FnStates.j1 kj2 t200 t201 bt206.1 bt206.2.1 true))))) = some r := H
        have A8 := Aside0.mk A80
        clear A80
        replace H := Option.bind_eq_some_iff.mp H
        obtain ⟨⟨t204, t205⟩, A90, H⟩ := H
        replace H : ((impl_TcpStep.f kj2 t200 5 t201).bind fun bt206 => ((spec_TcpStep.f kj2 t200 5 t201).bind fun bt211 => (if t203 = 0 then (if t202.toList = t204.toList then (if bt206.2.2 = 0 then (if bt206.1 = bt211.1 then ((laws_sameInts.f kj2 bt206.2.1 bt211.2.1).bind fun t216 => (if t216 = true then (laws_FnStates.j1 kj2 t200 t201 bt206.1 bt206.2.1 (decide ((bt206.2.1.length : Int) > 1))) else (laws_FnStates.j1 kj2 t200 t201 bt206.1 bt206.2.1 true))) else (laws_FnStates.j1 kj2 t200 t201 bt206.1 bt206.2.1 true)) else (laws_FnStates.j1 kj2 t200 t201 bt206.1 bt206.2.1 true)) else (laws_FnStates.j1 kj2 t200 t201 bt206.1 bt206.2.1 true)) else (laws_FnStates.j1 kj2 t200 t201 bt206.1 bt206.2.1 true)))) = some r := H
        have A9 := Aside0.mk A90
        clear A90
        replace H := Option.bind_eq_some_iff.mp H
        obtain ⟨⟨t206, t207, t210⟩, A100, H⟩ := H
        replace H : ((spec_TcpStep.f kj2 t200 5 t201).bind fun bt211 => (if t203 = 0 then (if t202.toList = t204.toList then (if t210 = 0 then (if t206 = bt211.1 then ((laws_sameInts.f kj2 t207 bt211.2.1).bind fun t216 => (if t216 = true then (laws_FnStates.j1 kj2 t200 t201 t206 t207 (decide ((t207.length : Int) > 1))) else (laws_FnStates.j1 kj2 t200 t201 t206 t207 true))) else (laws_FnStates.j1 kj2 t200 t201 t206 t207 true)) else (laws_FnStates.j1 kj2 t200 t201 t206 t207 true)) else (laws_FnStates.j1 kj2 t200 t201 t206 t207 true)) else (laws_FnStates.j1 kj2 t200 t201 t206 t207 true))) = some r := H
        have A10 := Aside0.mk A100
        clear A100
        replace H := Option.bind_eq_some_iff.mp H
        obtain ⟨⟨t211, t212, t215⟩, A110, H⟩ := H
        replace H : (if t203 = 0 then (if t202.toList = t204.toList then (if t210 = 0 then (if t206 = t211 then ((laws_sameInts.f kj2 t207 t212).bind fun t216 => (if t216 = true then (laws_FnStates.j1 kj2 t200 t201 t206 t207 (decide ((t207.length : Int) > 1))) else (laws_FnStates.j1 kj2 t200 t201 t206 t207 true))) else (laws_FnStates.j1 kj2 t200 t201 t206 t207 true)) else (laws_FnStates.j1 kj2 t200 t201 t206 t207 true)) else (laws_FnStates.j1 kj2 t200 t201 t206 t207 true)) else (laws_FnStates.j1 kj2 t200 t201 t206 t207 true)) = some r := H
        have A11 := Aside0.mk A110
        clear A110
        have HC12 := Aside0.mk H
        clear H
        go_upto_region 9 with (first | ((with_reducible refine gate_callee (f := 9) rfl ?_); refine goesL_ (some 26) rfl rfl Try.func9 (by kernel_rfl) rfl #[.slice A0 l0.length c0, .int .i64 0, .int .i64 11] rfl (by (try simp only [List.map_toArray, List.map_cons, List.map_nil]); first | done | rfl | (simp only [List.length_drop, List.length_take]; rfl)) ?_; (with_reducible refine (laws_at.calls _ _ l0 0 11 t200 _ ?side1 ?side2 A6.out).mono ?_); (case side1 => repeat (first | exact (Kd.C_below HR0.out HB.out) | (with_reducible refine Kd.C_alloc ?_ _) | (with_reducible refine Kd.C_drewN ?_ _) | (with_reducible refine Kd.C_drew ?_))); (case side2 => exact HC0.out); rintro e w' ⟨rfl, ⟨nd, rfl⟩⟩; refine ⟨_, rfl, ?_⟩) | ((with_reducible refine gate_callee (f := 9) rfl ?_); refine goesL_ (some 28) rfl rfl Try.func9 (by kernel_rfl) rfl #[.slice A1 l1.length c1, .int .i64 0, .int .i64 32] rfl (by (try simp only [List.map_toArray, List.map_cons, List.map_nil]); first | done | rfl | (simp only [List.length_drop, List.length_take]; rfl)) ?_; (with_reducible refine (laws_at.calls _ _ l1 0 32 t201 _ ?side1 ?side2 A7.out).mono ?_); (case side1 => repeat (first | exact (Kd.C_below HR1.out (by repeat (first | (with_reducible first | exact HB.out | apply below_alloc | apply pw_below_drewN | apply below_drew1) | exact HB.out))) | (with_reducible refine Kd.C_alloc ?_ _) | (with_reducible refine Kd.C_drewN ?_ _) | (with_reducible refine Kd.C_drew ?_))); (case side2 => exact HC1.out); rintro e w' ⟨rfl, ⟨nd, rfl⟩⟩; refine ⟨_, rfl, ?_⟩) | ((with_reducible refine gate_callee (f := 10) rfl ?_); refine goesL_ (some 31) rfl rfl Try.func10 (by kernel_rfl) rfl #[.int .i64 t200] rfl (by (try simp only [List.map_toArray, List.map_cons, List.map_nil]); first | done | rfl | (simp only [List.length_drop, List.length_take]; rfl)) ?_; (with_reducible refine (impl_StateWord.calls t200 t202 t203 _ A8.out).mono ?_); rintro e w13 ⟨rfl, hb⟩; refine ⟨_, rfl, ?_⟩; have n0_ := Aside0.mk (below_step (by repeat (first | (with_reducible first | exact HB.out | apply below_alloc | apply pw_below_drewN | apply below_drew1) | exact HB.out)) hb); clear HB; have HB := n0_; clear n0_; (try clear hb); (try clear hb2); (try clear hk); (try clear hi)) | ((with_reducible refine gate_callee (f := 11) rfl ?_); refine goesL_ (some 36) rfl rfl Try.func11 (by kernel_rfl) rfl #[.int .i64 t200] rfl (by (try simp only [List.map_toArray, List.map_cons, List.map_nil]); first | done | rfl | (simp only [List.length_drop, List.length_take]; rfl)) ?_; (with_reducible refine (spec_StateWord.calls t200 t204 t205 _ A9.out).mono ?_); rintro e w14 ⟨rfl, hb⟩; refine ⟨_, rfl, ?_⟩; have n0_ := Aside0.mk (below_step (by repeat (first | (with_reducible first | exact HB.out | apply below_alloc | apply pw_below_drewN | apply below_drew1) | exact HB.out)) hb); clear HB; have HB := n0_; clear n0_; (try clear hb); (try clear hb2); (try clear hk); (try clear hi)) | ((with_reducible refine gate_callee (f := 12) rfl ?_); refine goesL_ (some 43) rfl rfl Try.func12 (by kernel_rfl) rfl #[.int .i64 t200, .agg #[.int .i64 5, .int .i64 t201]] rfl (by (try simp only [List.map_toArray, List.map_cons, List.map_nil]); first | done | rfl | (simp only [List.length_drop, List.length_take]; rfl)) ?_; (with_reducible refine (impl_TcpStep.calls kj2 t200 5 t201 t206 t207 t210 _ A10.out).mono ?_); rintro e w15 ⟨v208, rfl, ho0, hb⟩; refine ⟨_, rfl, ?_⟩; have n0_ := Aside0.mk (Kd.R_lower ho0 (below_size (by repeat (first | (with_reducible first | exact HB.out | apply below_alloc | apply pw_below_drewN | apply below_drew1) | exact HB.out)))); have n1_ := Aside0.mk (below_step (by repeat (first | (with_reducible first | exact HB.out | apply below_alloc | apply pw_below_drewN | apply below_drew1) | exact HB.out)) hb); clear HB; have HO209 := n0_; have HB := n1_; clear n0_ n1_; (try clear hb); (try clear hb2); (try clear hk); (try clear hi); (try clear ho0)) | ((with_reducible refine gate_callee (f := 13) rfl ?_); refine goesL_ (some 51) rfl rfl Try.func13 (by kernel_rfl) rfl #[.int .i64 t200, .agg #[.int .i64 5, .int .i64 t201]] rfl (by (try simp only [List.map_toArray, List.map_cons, List.map_nil]); first | done | rfl | (simp only [List.length_drop, List.length_take]; rfl)) ?_; (with_reducible refine (spec_TcpStep.calls kj2 t200 5 t201 t211 t212 t215 _ A11.out).mono ?_); rintro e w16 ⟨v213, rfl, ho0, hb⟩; refine ⟨_, rfl, ?_⟩; have n0_ := Aside0.mk (Kd.R_elder' (by (with_reducible repeat (first | apply Kd.R_alloc | apply Kd.R_drewN | apply Kd.R_drew)); exact HO209.out) (Kd.R_base ho0) hb); have n1_ := Aside0.mk (Kd.R_lower (Kd.R_new' ho0 (Kd.R_lt (by (with_reducible repeat (first | apply Kd.R_alloc | apply Kd.R_drewN | apply Kd.R_drew)); exact HO209.out))) (below_size (by repeat (first | (with_reducible first | exact HB.out | apply below_alloc | apply pw_below_drewN | apply below_drew1) | exact HB.out)))); have n2_ := Aside0.mk (below_step (by repeat (first | (with_reducible first | exact HB.out | apply below_alloc | apply pw_below_drewN | apply below_drew1) | exact HB.out)) hb); clear HO209; clear HB; have HO209 := n0_; have HO214 := n1_; have HB := n2_; clear n0_ n1_ n2_; (try clear hb); (try clear hb2); (try clear hk); (try clear hi); (try clear ho0)))
        (try simp only [Act.put, List.setIfInBounds_toArray, List.set_cons_zero, List.set_cons_succ])
        go_cut [81] (fun v81 wc => ∃ (kq : Nat) (x81_11 : Bool), v81 = .bool x81_11 ∧ Aside0 (laws_FnStates.j1 kq t200 t201 t206 t207 x81_11 = some r) ∧ Aside0 (kq ≤ kj2) ∧ Aside0 (Kd.R (Kd.int .i64) 3 wc w.heap.size (fun _ => True) v208 t207) ∧ Aside0 (Below w.heap.size w wc))
        case first =>
          have H := HC12.out
          clear HC12
          by_cases c17 : t203 = 0
          · rw [if_pos c17] at H
            have c17b0 : (t203 == 0) = true := beq_iff_eq.mpr c17
            have c17b1 : (t203 != 0) = false := bne_eq_false_iff_eq.mpr c17
            clear c17
            (first | rw [c17b0] | (simp only [i64_w, i32_w]; rw [c17b0]) | skip)
            by_cases c18 : t202.toList = t204.toList
            · rw [if_pos c18] at H
              have c18b0 : (t202.toList == t204.toList) = true := beq_iff_eq.mpr c18
              have c18b1 : (t202.toList != t204.toList) = false := bne_eq_false_iff_eq.mpr c18
              clear c18
              by_cases c19 : t210 = 0
              · rw [if_pos c19] at H
                have c19b0 : (t210 == 0) = true := beq_iff_eq.mpr c19
                have c19b1 : (t210 != 0) = false := bne_eq_false_iff_eq.mpr c19
                clear c19
                by_cases c20 : t206 = t211
                · rw [if_pos c20] at H
                  have c20b0 : (t206 == t211) = true := beq_iff_eq.mpr c20
                  have c20b1 : (t206 != t211) = false := bne_eq_false_iff_eq.mpr c20
                  clear c20
                  replace H := Option.bind_eq_some_iff.mp H
                  obtain ⟨t216, A210, H⟩ := H
                  replace H : (if t216 = true then (laws_FnStates.j1 kj2 t200 t201 t206 t207 (decide ((t207.length : Int) > 1))) else (laws_FnStates.j1 kj2 t200 t201 t206 t207 true)) = some r := H
                  have A21 := Aside0.mk A210
                  clear A210
                  by_cases c22 : t216 = true
                  · subst c22
                    have H1 : (laws_FnStates.j1 kj2 t200 t201 t206 t207 (decide ((t207.length : Int) > 1))) = some r := by rw [if_pos rfl] at H; exact H
                    clear H
                    have H := H1
                    clear H1
                    have H' := Aside0.mk H
                    clear H
                    obtain ⟨Ao23, co23, eo23⟩ := Kd.R_slice HO209.out
                    subst eo23
                    obtain ⟨Ao24, co24, eo24⟩ := Kd.R_slice HO214.out
                    subst eo24
                    go_wp2_with (first | (go_at_call 14; (with_reducible refine (laws_sameInts.calls kj2 _ _ t207 _ _ t212 true _ ?side1 ?side2 ?side3 ?side4 A21.out).mono ?_); (case side1 => repeat (first | exact (Kd.R_reads' HO209.out).2.2 | (with_reducible refine Kd.C_alloc ?_ _) | (with_reducible refine Kd.C_drewN ?_ _) | (with_reducible refine Kd.C_drew ?_))); (case side2 => exact (Kd.R_reads' HO209.out).2.1); (case side3 => repeat (first | exact (Kd.R_reads' HO214.out).2.2 | (with_reducible refine Kd.C_alloc ?_ _) | (with_reducible refine Kd.C_drewN ?_ _) | (with_reducible refine Kd.C_drew ?_))); (case side4 => exact (Kd.R_reads' HO214.out).2.1); rintro e w' ⟨rfl, ⟨nd, rfl⟩⟩))
                    go_meet
                    case rel => exact ⟨_, (decide ((t207.length : Int) > 1)), (by first | rfl | (simp; done) | (simp [*]; done)), H', ⟨by have := HJ2.out; first | omega | exact Nat.le_refl _⟩, ⟨by (with_reducible repeat (first | apply Kd.R_alloc | apply Kd.R_drewN | apply Kd.R_drew)); exact Kd.R_mono HO209.out (fun _ hk => trivial)⟩, ⟨by repeat (first | (with_reducible first | exact HB.out | apply below_alloc | apply pw_below_drewN | apply below_drew1) | exact HB.out)⟩⟩
                  · replace c22 := Bool.eq_false_iff.mpr c22
                    subst c22
                    have H1 : (laws_FnStates.j1 kj2 t200 t201 t206 t207 true) = some r := by rw [if_neg (show ¬ (false = true) by decide)] at H; exact H
                    clear H
                    have H := H1
                    clear H1
                    have H' := Aside0.mk H
                    clear H
                    obtain ⟨Ao25, co25, eo25⟩ := Kd.R_slice HO209.out
                    subst eo25
                    obtain ⟨Ao26, co26, eo26⟩ := Kd.R_slice HO214.out
                    subst eo26
                    go_wp2_with (first | (go_at_call 14; (with_reducible refine (laws_sameInts.calls kj2 _ _ t207 _ _ t212 false _ ?side1 ?side2 ?side3 ?side4 A21.out).mono ?_); (case side1 => repeat (first | exact (Kd.R_reads' HO209.out).2.2 | (with_reducible refine Kd.C_alloc ?_ _) | (with_reducible refine Kd.C_drewN ?_ _) | (with_reducible refine Kd.C_drew ?_))); (case side2 => exact (Kd.R_reads' HO209.out).2.1); (case side3 => repeat (first | exact (Kd.R_reads' HO214.out).2.2 | (with_reducible refine Kd.C_alloc ?_ _) | (with_reducible refine Kd.C_drewN ?_ _) | (with_reducible refine Kd.C_drew ?_))); (case side4 => exact (Kd.R_reads' HO214.out).2.1); rintro e w' ⟨rfl, ⟨nd, rfl⟩⟩))
                    go_meet
                    case rel => exact ⟨_, (true), (by first | rfl | (simp; done) | (simp [*]; done)), H', ⟨by have := HJ2.out; first | omega | exact Nat.le_refl _⟩, ⟨by (with_reducible repeat (first | apply Kd.R_alloc | apply Kd.R_drewN | apply Kd.R_drew)); exact Kd.R_mono HO209.out (fun _ hk => trivial)⟩, ⟨by repeat (first | (with_reducible first | exact HB.out | apply below_alloc | apply pw_below_drewN | apply below_drew1) | exact HB.out)⟩⟩
                · rw [if_neg c20] at H
                  have c20b0 : (t206 == t211) = false := beq_eq_false_iff_ne.mpr c20
                  have c20b1 : (t206 != t211) = true := bne_iff_ne.mpr c20
                  have H' := Aside0.mk H
                  clear H
                  go_wp2
                  go_meet
                  case rel => exact ⟨_, (true), (by first | rfl | (simp; done) | (simp [*]; done)), H', ⟨by have := HJ2.out; first | omega | exact Nat.le_refl _⟩, ⟨by (with_reducible repeat (first | apply Kd.R_alloc | apply Kd.R_drewN | apply Kd.R_drew)); exact Kd.R_mono HO209.out (fun _ hk => trivial)⟩, ⟨by repeat (first | (with_reducible first | exact HB.out | apply below_alloc | apply pw_below_drewN | apply below_drew1) | exact HB.out)⟩⟩
              · rw [if_neg c19] at H
                have c19b0 : (t210 == 0) = false := beq_eq_false_iff_ne.mpr c19
                have c19b1 : (t210 != 0) = true := bne_iff_ne.mpr c19
                have H' := Aside0.mk H
                clear H
                go_wp2
                go_meet
                case rel => exact ⟨_, (true), (by first | rfl | (simp; done) | (simp [*]; done)), H', ⟨by have := HJ2.out; first | omega | exact Nat.le_refl _⟩, ⟨by (with_reducible repeat (first | apply Kd.R_alloc | apply Kd.R_drewN | apply Kd.R_drew)); exact Kd.R_mono HO209.out (fun _ hk => trivial)⟩, ⟨by repeat (first | (with_reducible first | exact HB.out | apply below_alloc | apply pw_below_drewN | apply below_drew1) | exact HB.out)⟩⟩
            · rw [if_neg c18] at H
              have c18b0 : (t202.toList == t204.toList) = false := beq_eq_false_iff_ne.mpr c18
              have c18b1 : (t202.toList != t204.toList) = true := bne_iff_ne.mpr c18
              have H' := Aside0.mk H
              clear H
              go_wp2
              go_meet
              case rel => exact ⟨_, (true), (by first | rfl | (simp; done) | (simp [*]; done)), H', ⟨by have := HJ2.out; first | omega | exact Nat.le_refl _⟩, ⟨by (with_reducible repeat (first | apply Kd.R_alloc | apply Kd.R_drewN | apply Kd.R_drew)); exact Kd.R_mono HO209.out (fun _ hk => trivial)⟩, ⟨by repeat (first | (with_reducible first | exact HB.out | apply below_alloc | apply pw_below_drewN | apply below_drew1) | exact HB.out)⟩⟩
          · rw [if_neg c17] at H
            have c17b0 : (t203 == 0) = false := beq_eq_false_iff_ne.mpr c17
            have c17b1 : (t203 != 0) = true := bne_iff_ne.mpr c17
            (first | rw [c17b0] | (simp only [i64_w, i32_w]; rw [c17b0]) | skip)
            have H' := Aside0.mk H
            clear H
            go_wp2
            go_meet
            case rel => exact ⟨_, (true), (by first | rfl | (simp; done) | (simp [*]; done)), H', ⟨by have := HJ2.out; first | omega | exact Nat.le_refl _⟩, ⟨by (with_reducible repeat (first | apply Kd.R_alloc | apply Kd.R_drewN | apply Kd.R_drew)); exact Kd.R_mono HO209.out (fun _ hk => trivial)⟩, ⟨by repeat (first | (with_reducible first | exact HB.out | apply below_alloc | apply pw_below_drewN | apply below_drew1) | exact HB.out)⟩⟩
        case rest =>
          clear HC12
          try clear c1
          try clear c2
          try clear p2
          try clear c3
          try clear c4
          try clear c4b0
          try clear c4b1
          try clear c5
          try clear c9
          try clear c10
          try clear c11
          try clear c12
          try clear c13
          try clear c17
          try clear c17b0
          try clear c17b1
          try clear c18
          try clear c18b0
          try clear c18b1
          try clear c19
          try clear c19b0
          try clear c19b1
          try clear c20
          try clear c20b0
          try clear c20b1
          try clear c22
          try clear p2
          obtain ⟨kq, x81_11, rfl, HA, HJ11, HO_12, HB⟩ := hcut
          cases kq with
          | zero => exact absurd HA.out (by simp [laws_FnStates.j1])
          | succ kj11 =>
            have H := HA.out
            clear HA
            simp only [laws_FnStates.j1] at H
            by_cases c27 : x81_11 = true
            · subst c27
              have H1 : (some false) = some r := by rw [if_pos rfl] at H; exact H
              clear H
              have H := H1
              clear H1
              obtain rfl := Option.some.inj H
              go_wp2
              go_ret
              exact ⟨by first | rfl | (simp [errW_none, errW_some] <;> rfl) | (simp [*, errW_none, errW_some] <;> rfl), by repeat (first | (with_reducible first | exact HB.out | apply below_alloc | apply pw_below_drewN | apply below_drew1) | exact HB.out)⟩
            · replace c27 := Bool.eq_false_iff.mpr c27
              subst c27
              have H1 : (if (Go.bits .and .i64 t201 8) = 0 then (if t200 = 0 then (if t206 = t200 then ((laws_sameInts.f kj11 t207 (([8] : List Int))).bind fun t220 => (some t220)) else (some false)) else (some true)) else (if (t207.length : Int) = 0 then (if t206 = 0 then (some true) else (if t200 = 1 then (some (t206 == t200)) else (some false))) else (some false))) = some r := by rw [if_neg (show ¬ (false = true) by decide)] at H; exact H
              clear H
              have H := H1
              clear H1
              by_cases c28 : (Go.bits .and .i64 t201 8) = 0
              · rw [if_pos c28] at H
                have c28b0 : ((Go.bits .and .i64 t201 8) == 0) = true := beq_iff_eq.mpr c28
                have c28b1 : ((Go.bits .and .i64 t201 8) != 0) = false := bne_eq_false_iff_eq.mpr c28
                clear c28
                by_cases c29 : t200 = 0
                · rw [if_pos c29] at H
                  have c29b0 : (t200 == 0) = true := beq_iff_eq.mpr c29
                  have c29b1 : (t200 != 0) = false := bne_eq_false_iff_eq.mpr c29
                  clear c29
                  by_cases c30 : t206 = t200
                  · rw [if_pos c30] at H
                    have c30b0 : (t206 == t200) = true := beq_iff_eq.mpr c30
                    have c30b1 : (t206 != t200) = false := bne_eq_false_iff_eq.mpr c30
                    clear c30
                    obtain ⟨y217, hy217⟩ : ∃ y_ : List Int, y_ = (([8] : List Int)) := ⟨_, rfl⟩
                    replace H : ((laws_sameInts.f kj11 t207 y217).bind fun t220 => (some t220)) = some r := by first | (rw [hy217]; with_reducible exact H) | (have H2_ := (Option.bind_some _ _).symm.trans H; rw [hy217]; with_reducible exact H2_) | (have H2_ := (Option.bind_some _ _).symm.trans H; with_reducible exact H2_) | with_reducible exact H | (rw [hy217]; exact H) | exact H
                    have Ny217 := Aside0.mk hy217
                    clear hy217
                    replace H := Option.bind_eq_some_iff.mp H
                    obtain ⟨t220, A310, H⟩ := H
                    replace H : (some t220) = some r := H
                    have A31 := Aside0.mk A310
                    clear A310
                    obtain rfl := Option.some.inj H
                    go_wp2_with (first | ((with_reducible refine gate_dst (N := 109) rfl ?_); (try (refine gate_guard (by rfl) ?_; dsimp only)); refine Kd.R_lit (Kd.int .i64) _ 3 ?hg (N := 109) ?hd (xs := ([8] : List Int)) (inner := [.int .i64 8]) (ok := fun _ => True) (okp := fun _ => True) ?hr ?hp (fun _ hk => hk) trivial (Below.refl _ _) (Nat.le_refl _) (by simp) ?_; (case hd => rfl); (case hg => rfl); (case hr => first | (go_simp; done) | (go_simp; rfl)); (case hp => exact (Reps.one (show Kd.M (Kd.int .i64) _ _ _ 8 [.int .i64 8] from rfl) (Reps.none _ _))); intro v218 w32 ho33 hb hg_ hnew_; clear hg_ hnew_; (first | rw [← Ny217.out] at ho33 | (simp only [Int.reduceToNat] at ho33; rw [← Ny217.out] at ho33)); have n0_ := Aside0.mk (Kd.R_elder' (by (with_reducible repeat (first | apply Kd.R_alloc | apply Kd.R_drewN | apply Kd.R_drew)); exact HO_12.out) (Kd.R_base ho33) hb); have n1_ := Aside0.mk (Kd.R_lower (Kd.R_new' ho33 (Kd.R_lt (by (with_reducible repeat (first | apply Kd.R_alloc | apply Kd.R_drewN | apply Kd.R_drew)); exact HO_12.out))) (below_size (by repeat (first | (with_reducible first | exact HB.out | apply below_alloc | apply pw_below_drewN | apply below_drew1) | exact HB.out)))); have n2_ := Aside0.mk (below_step (by repeat (first | (with_reducible first | exact HB.out | apply below_alloc | apply pw_below_drewN | apply below_drew1) | exact HB.out)) hb); clear HO_12; clear HB; have HO_12 := n0_; have HO219 := n1_; have HB := n2_; clear n0_ n1_ n2_; clear hb ho33; obtain ⟨Ao34, co34, eo34⟩ := Kd.R_slice HO_12.out; subst eo34; obtain ⟨Ao35, co35, eo35⟩ := Kd.R_slice HO219.out; subst eo35) | (go_at_call 14; (with_reducible refine (laws_sameInts.calls kj11 _ _ t207 _ _ y217 t220 _ ?side1 ?side2 ?side3 ?side4 A31.out).mono ?_); (case side1 => repeat (first | exact (Kd.R_reads' HO_12.out).2.2 | (with_reducible refine Kd.C_alloc ?_ _) | (with_reducible refine Kd.C_drewN ?_ _) | (with_reducible refine Kd.C_drew ?_))); (case side2 => exact (Kd.R_reads' HO_12.out).2.1); (case side3 => repeat (first | exact (Kd.R_reads' HO219.out).2.2 | (with_reducible refine Kd.C_alloc ?_ _) | (with_reducible refine Kd.C_drewN ?_ _) | (with_reducible refine Kd.C_drew ?_))); (case side4 => exact (Kd.R_reads' HO219.out).2.1); rintro e w' ⟨rfl, ⟨nd, rfl⟩⟩))
                    go_ret
                    exact ⟨by first | rfl | (simp [errW_none, errW_some] <;> rfl) | (simp [*, errW_none, errW_some] <;> rfl), by repeat (first | (with_reducible first | exact HB.out | apply below_alloc | apply pw_below_drewN | apply below_drew1) | exact HB.out)⟩
                  · rw [if_neg c30] at H
                    have c30b0 : (t206 == t200) = false := beq_eq_false_iff_ne.mpr c30
                    have c30b1 : (t206 != t200) = true := bne_iff_ne.mpr c30
                    obtain rfl := Option.some.inj H
                    go_wp2
                    go_ret
                    exact ⟨by first | rfl | (simp [errW_none, errW_some] <;> rfl) | (simp [*, errW_none, errW_some] <;> rfl), by repeat (first | (with_reducible first | exact HB.out | apply below_alloc | apply pw_below_drewN | apply below_drew1) | exact HB.out)⟩
                · rw [if_neg c29] at H
                  have c29b0 : (t200 == 0) = false := beq_eq_false_iff_ne.mpr c29
                  have c29b1 : (t200 != 0) = true := bne_iff_ne.mpr c29
                  obtain rfl := Option.some.inj H
                  go_wp2
                  go_ret
                  exact ⟨by first | rfl | (simp [errW_none, errW_some] <;> rfl) | (simp [*, errW_none, errW_some] <;> rfl), by repeat (first | (with_reducible first | exact HB.out | apply below_alloc | apply pw_below_drewN | apply below_drew1) | exact HB.out)⟩
              · rw [if_neg c28] at H
                have c28b0 : ((Go.bits .and .i64 t201 8) == 0) = false := beq_eq_false_iff_ne.mpr c28
                have c28b1 : ((Go.bits .and .i64 t201 8) != 0) = true := bne_iff_ne.mpr c28
                by_cases c36 : (t207.length : Int) = 0
                · rw [if_pos c36] at H
                  have c36b0 : ((t207.length : Int) == 0) = true := beq_iff_eq.mpr c36
                  have c36b1 : ((t207.length : Int) != 0) = false := bne_eq_false_iff_eq.mpr c36
                  clear c36
                  by_cases c37 : t206 = 0
                  · rw [if_pos c37] at H
                    have c37b0 : (t206 == 0) = true := beq_iff_eq.mpr c37
                    have c37b1 : (t206 != 0) = false := bne_eq_false_iff_eq.mpr c37
                    clear c37
                    obtain rfl := Option.some.inj H
                    obtain ⟨Ao38, co38, eo38⟩ := Kd.R_slice HO_12.out
                    subst eo38
                    go_wp2
                    go_ret
                    exact ⟨by first | rfl | (simp [errW_none, errW_some] <;> rfl) | (simp [*, errW_none, errW_some] <;> rfl), by repeat (first | (with_reducible first | exact HB.out | apply below_alloc | apply pw_below_drewN | apply below_drew1) | exact HB.out)⟩
                  · rw [if_neg c37] at H
                    have c37b0 : (t206 == 0) = false := beq_eq_false_iff_ne.mpr c37
                    have c37b1 : (t206 != 0) = true := bne_iff_ne.mpr c37
                    by_cases c39 : t200 = 1
                    · rw [if_pos c39] at H
                      have c39b0 : (t200 == 1) = true := beq_iff_eq.mpr c39
                      have c39b1 : (t200 != 1) = false := bne_eq_false_iff_eq.mpr c39
                      clear c39
                      obtain rfl := Option.some.inj H
                      obtain ⟨Ao40, co40, eo40⟩ := Kd.R_slice HO_12.out
                      subst eo40
                      go_wp2
                      go_ret
                      exact ⟨by first | rfl | (simp [errW_none, errW_some] <;> rfl) | (simp [*, errW_none, errW_some] <;> rfl), by repeat (first | (with_reducible first | exact HB.out | apply below_alloc | apply pw_below_drewN | apply below_drew1) | exact HB.out)⟩
                    · rw [if_neg c39] at H
                      have c39b0 : (t200 == 1) = false := beq_eq_false_iff_ne.mpr c39
                      have c39b1 : (t200 != 1) = true := bne_iff_ne.mpr c39
                      obtain rfl := Option.some.inj H
                      obtain ⟨Ao41, co41, eo41⟩ := Kd.R_slice HO_12.out
                      subst eo41
                      go_wp2
                      go_ret
                      exact ⟨by first | rfl | (simp [errW_none, errW_some] <;> rfl) | (simp [*, errW_none, errW_some] <;> rfl), by repeat (first | (with_reducible first | exact HB.out | apply below_alloc | apply pw_below_drewN | apply below_drew1) | exact HB.out)⟩
                · rw [if_neg c36] at H
                  have c36b0 : ((t207.length : Int) == 0) = false := beq_eq_false_iff_ne.mpr c36
                  have c36b1 : ((t207.length : Int) != 0) = true := bne_iff_ne.mpr c36
                  have c36b2 : ¬ (t207 = []) := fun h_ => c36 (by rw [h_]; rfl)
                  obtain rfl := Option.some.inj H
                  obtain ⟨Ao42, co42, eo42⟩ := Kd.R_slice HO_12.out
                  subst eo42
                  go_wp2
                  go_ret
                  exact ⟨by first | rfl | (simp [errW_none, errW_some] <;> rfl) | (simp [*, errW_none, errW_some] <;> rfl), by repeat (first | (with_reducible first | exact HB.out | apply below_alloc | apply pw_below_drewN | apply below_drew1) | exact HB.out)⟩

/-- THE ONE PURE STATEMENT of laws_FnStates: yours. -/
def laws_FnStates.Pure : Prop := ∀ (l0 : List Int) (l1 : List Int), l0.length ≤ maxLen → l0.length * 1 ≤ 140737488351232 → (∀ x ∈ l0, (Lit.int .u8 x).wf = true) → l1.length ≤ maxLen → l1.length * 1 ≤ 140737488351232 → (∀ x ∈ l1, (Lit.int .u8 x).wf = true) → ∃ k, laws_FnStates.f k l0 l1 = some true
theorem laws_FnStates.walk (P : laws_FnStates.Pure) (a0 : Option Addr) (len0 cap0 : Nat) (z0 : List Int) (a1 : Option Addr) (len1 cap1 : Nat) (z1 : List Int) (w : World) (w0 : (a0 = none ∧ len0 = 0 ∧ cap0 = 0 ∧ z0 = []) ∨ ∃ x, a0 = some x ∧ len0 ≤ cap0 ∧ cap0 ≤ maxLen ∧ z0.length = cap0 ∧ (∀ i, i < z0.length → w.cell? (x.add i) = some (.int .u8 (z0.getD i 0))) ∧ ∀ n ∈ z0, (Lit.int .u8 n).wf = true) (y0 : len0 * 1 ≤ 140737488351232) (w1 : (a1 = none ∧ len1 = 0 ∧ cap1 = 0 ∧ z1 = []) ∨ ∃ x, a1 = some x ∧ len1 ≤ cap1 ∧ cap1 ≤ maxLen ∧ z1.length = cap1 ∧ (∀ i, i < z1.length → w.cell? (x.add i) = some (.int .u8 (z1.getD i 0))) ∧ ∀ n ∈ z1, (Lit.int .u8 n).wf = true) (y1 : len1 * 1 ≤ 140737488351232) :
    Calls Try.prog 3 #[.slice a0 len0 cap0, .slice a1 len1 cap1] w fun e w' => e = .returned (.bool true) ∧ Below w.heap.size w w' := by
  obtain ⟨l0, rfl, hr0, hm0, hw0, hc0⟩ := ReadsInt.ofRowC w0
  obtain ⟨l1, rfl, hr1, hm1, hw1, hc1⟩ := ReadsInt.ofRowC w1
  obtain ⟨k, h⟩ := P l0 l1 hm0 y0 hw0 hm1 y1 hw1
  refine (laws_FnStates.calls k _ _ l0 _ _ l1 true w (Kd.C_of_reads (d := (0 : Int)) (h1 := fun _ => rfl) hr0) hc0 (Kd.C_of_reads (d := (0 : Int)) (h1 := fun _ => rfl) hr1) hc1 h).mono ?_
  rintro e w' ⟨rfl, hd⟩
  exact ⟨rfl, hd⟩

end Go.Proofs.Ytnceiegngfpmkaa.PSta
