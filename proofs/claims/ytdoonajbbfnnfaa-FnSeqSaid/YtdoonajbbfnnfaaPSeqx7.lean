-- Written by plug.py, a program of this work, over the kit's printing program: the functions that it prints, and this work's own proofs of those that it does not.
import Derived.Test.YtdoonajbbfnnfaaPSeqx0
import Derived.Test.YtdoonajbbfnnfaaPSeqx4
import Derived.Test.YtdoonajbbfnnfaaPSeqx5
import Derived.Test.YtdoonajbbfnnfaaPSeqx6
namespace Go.Proofs.Ytdoonajbbfnnfaa.PSeq
open Go.RowKit Go.Proofs.YtdoonajbbfnnfaaW.PrintWords Go.Proofs.YtdoonajbbfnnfaaW.PrintLast Go.Proofs.YtdoonajbbfnnfaaW.PrintMore
attribute [local go_sem] max2_int min2_int max_two min_two max_three min_three max_four min_four   -- for this text's walks alone
set_option linter.unusedVariables false
set_option linter.unusedSimpArgs false

/-! ### laws_FnSeq: function 3 -/
mutual
def laws_FnSeq.j0 : Nat → List Int → List Int → Bool → Option (Bool)
  | 0, _, _, _ => none
  | k + 1, x0, x1, x24 => if x24 = true then (some true) else ((spec_FirstOf.f x0).bind fun t140 => ((spec_FirstOf.f x1).bind fun t141 => ((laws_at.f x1 0 9000).bind fun t142 => ((impl_SeqBefore.f t140 t141).bind fun bt143 => ((impl_SeqBefore.f t141 t140).bind fun bt145 => ((impl_SeqBefore.f (Int.tmod (wrap64 (t140 + (wrap64 (t142 * 500000)))) 4294967296) (Int.tmod (wrap64 (t141 + (wrap64 (t142 * 500000)))) 4294967296)).bind fun bt147 => ((spec_SeqBefore.f k t140 t141).bind fun bt149 => (if bt143.2 = 0 then (if bt145.2 = 0 then (if bt147.2 = 0 then (if (bt143.1 != bt149.1) = true then (laws_FnSeq.j1 k t140 t141 bt143.1 bt145.1 true) else (laws_FnSeq.j1 k t140 t141 bt143.1 bt145.1 (bt147.1 != bt143.1))) else (laws_FnSeq.j1 k t140 t141 bt143.1 bt145.1 true)) else (laws_FnSeq.j1 k t140 t141 bt143.1 bt145.1 true)) else (laws_FnSeq.j1 k t140 t141 bt143.1 bt145.1 true)))))))))
def laws_FnSeq.j1 : Nat → Int → Int → Bool → Bool → Bool → Option (Bool)
  | 0, _, _, _, _, _ => none
  | k + 1, x6, x7, x9, x11, x83 => if x83 = true then (some false) else (if x6 = x7 then (if x9 = true then (some false) else (some (!x11))) else (if (Int.tmod (wrap64 ((wrap64 (x6 - x7)) + 4294967296)) 4294967296) = 2147483648 then (if x9 = true then (some false) else (some (!x11))) else (some (x9 != x11))))
end
def laws_FnSeq.f (k : Nat) (l0 : List Int) (l1 : List Int) : Option (Bool) := if (l0.length : Int) > 1048576 then (laws_FnSeq.j0 k l0 l1 true) else (laws_FnSeq.j0 k l0 l1 (decide ((l1.length : Int) > 1048576)))
theorem laws_FnSeq.mono_l : ∀ k, (∀ y0 y1 y2, LeO (laws_FnSeq.j0 k y0 y1 y2) (laws_FnSeq.j0 (k + 1) y0 y1 y2)) ∧ (∀ y0 y1 y2 y3 y4, LeO (laws_FnSeq.j1 k y0 y1 y2 y3 y4) (laws_FnSeq.j1 (k + 1) y0 y1 y2 y3 y4))
  | 0 => ⟨fun _ _ _ r h => by simp [laws_FnSeq.j0] at h, fun _ _ _ _ _ r h => by simp [laws_FnSeq.j1] at h⟩
  | k + 1 => by
    obtain ⟨ih0, ih1⟩ := laws_FnSeq.mono_l k
    refine ⟨?_, ?_⟩
    · intro y0 y1 y2
      unfold laws_FnSeq.j0
      repeat' first
      | (with_reducible exact ih0 _ _ _)
      | (with_reducible exact ih1 _ _ _ _ _)
      | (with_reducible exact spec_SeqBefore.mono _ _ _)
      | (with_reducible exact LeO.refl _)
      | (with_reducible exact LeO.none _)
      | (with_reducible refine LeO.ite ?_ ?_)
      | (with_reducible refine LeO.bind ?_ (fun _ => ?_))
      | exact ih0 _ _ _
      | exact ih1 _ _ _ _ _
      | exact spec_SeqBefore.mono _ _ _
      | exact LeO.none _
      | refine LeO.ite ?_ ?_
      | refine LeO.bind ?_ (fun _ => ?_)
    · intro y0 y1 y2 y3 y4
      unfold laws_FnSeq.j1
      repeat' first
      | (with_reducible exact ih0 _ _ _)
      | (with_reducible exact ih1 _ _ _ _ _)
      | (with_reducible exact spec_SeqBefore.mono _ _ _)
      | (with_reducible exact LeO.refl _)
      | (with_reducible exact LeO.none _)
      | (with_reducible refine LeO.ite ?_ ?_)
      | (with_reducible refine LeO.bind ?_ (fun _ => ?_))
      | exact ih0 _ _ _
      | exact ih1 _ _ _ _ _
      | exact spec_SeqBefore.mono _ _ _
      | exact LeO.none _
      | refine LeO.ite ?_ ?_
      | refine LeO.bind ?_ (fun _ => ?_)
theorem laws_FnSeq.mono : ∀ a0 a1 k, LeO (laws_FnSeq.f k a0 a1) (laws_FnSeq.f (k + 1) a0 a1) := by
  intro a0 a1 k
  obtain ⟨ih0, ih1⟩ := laws_FnSeq.mono_l k
  unfold laws_FnSeq.f
  repeat' first
      | (with_reducible exact ih0 _ _ _)
      | (with_reducible exact ih1 _ _ _ _ _)
      | (with_reducible exact spec_SeqBefore.mono _ _ _)
      | (with_reducible exact LeO.refl _)
      | (with_reducible exact LeO.none _)
      | (with_reducible refine LeO.ite ?_ ?_)
      | (with_reducible refine LeO.bind ?_ (fun _ => ?_))
      | exact ih0 _ _ _
      | exact ih1 _ _ _ _ _
      | exact spec_SeqBefore.mono _ _ _
      | exact LeO.none _
      | refine LeO.ite ?_ ?_
      | refine LeO.bind ?_ (fun _ => ?_)
set_option maxHeartbeats 8000000 in
set_option maxRecDepth 100000 in
theorem laws_FnSeq.calls (k : Nat) (A0 : Option Addr) (c0 : Nat) (l0 : List Int) (A1 : Option Addr) (c1 : Nat) (l1 : List Int) (r : Bool) (w : World) (hr0 : Kd.C (Kd.int .u8) w A0 l0.length l0) (hc0 : l0.length ≤ c0) (hr1 : Kd.C (Kd.int .u8) w A1 l1.length l1) (hc1 : l1.length ≤ c1) (h : laws_FnSeq.f k l0 l1 = some r) :
    Calls Try.prog 3 #[.slice A0 l0.length c0, .slice A1 l1.length c1] w fun e w' => e = .returned (.bool r) ∧ Below w.heap.size w w' := by
  have HR0 := Aside0.mk hr0
  have HC0 := Aside0.mk hc0
  clear hr0 hc0
  have HR1 := Aside0.mk hr1
  have HC1 := Aside0.mk hc1
  clear hr1 hc1
  have HB := Aside0.mk (Below.refl w.heap.size w)
  have H : (if (l0.length : Int) > 1048576 then (laws_FnSeq.j0 k l0 l1 true) else (laws_FnSeq.j0 k l0 l1 (decide ((l1.length : Int) > 1048576)))) = some r := h
  clear h
  have HC3 := Aside0.mk H
  clear H
  go_enter Try.func3, Try.ntmps3
  go_upto_region 1 with (fail)
  repeat (go_quiet (fail); go_upto_region 1 with (fail))
  go_cut [24] (fun v24 wc => ∃ (kq : Nat) (x24_2 : Bool), v24 = .bool x24_2 ∧ Aside0 (laws_FnSeq.j0 kq l0 l1 x24_2 = some r) ∧ Aside0 (kq ≤ k) ∧ Aside0 (Below w.heap.size w wc))
  case first =>
    have H := HC3.out
    clear HC3
    by_cases c4 : (l0.length : Int) > 1048576
    · rw [if_pos c4] at H
      have c4b0 : decide (1048576 < (l0.length : Int)) = true := decide_eq_true c4
      have c4b1 : decide (1048576 < l0.length) = true := decide_eq_true (by omega)
      clear c4
      (first | rw [c4b0] | (simp only [i64_w, i32_w]; rw [c4b0]) | skip)
      have H' := Aside0.mk H
      clear H
      go_wp2
      repeat (go_quiet (fail); try go_wp2)
      go_meet
      case rel => exact ⟨_, (true), (by first | rfl | (simp; done) | (simp [*]; done)), H', ⟨by first | omega | exact Nat.le_refl _⟩, ⟨by repeat (first | (with_reducible first | exact HB.out | apply below_alloc | apply pw_below_drewN | apply below_drew1) | exact HB.out)⟩⟩
    · rw [if_neg c4] at H
      have c4b0 : decide (1048576 < (l0.length : Int)) = false := decide_eq_false c4
      have c4b1 : decide (1048576 < l0.length) = false := decide_eq_false (by omega)
      clear c4
      (first | rw [c4b0] | (simp only [i64_w, i32_w]; rw [c4b0]) | skip)
      have H' := Aside0.mk H
      clear H
      go_wp2
      repeat (go_quiet (fail); try go_wp2)
      go_meet
      case rel => exact ⟨_, (decide ((l1.length : Int) > 1048576)), (by first | rfl | (simp; done) | (simp [*]; done)), H', ⟨by first | omega | exact Nat.le_refl _⟩, ⟨by repeat (first | (with_reducible first | exact HB.out | apply below_alloc | apply pw_below_drewN | apply below_drew1) | exact HB.out)⟩⟩
  case rest =>
    clear HC3
    try clear c1
    try clear p2
    try clear c3
    try clear c4
    try clear c4b0
    try clear c4b1
    obtain ⟨kq, x24_2, rfl, HA, HJ2, HB⟩ := hcut
    cases kq with
    | zero => exact absurd HA.out (by simp [laws_FnSeq.j0])
    | succ kj2 =>
      have H := HA.out
      clear HA
      simp only [laws_FnSeq.j0] at H
      by_cases c5 : x24_2 = true
      · subst c5
        have H1 : (some true) = some r := by rw [if_pos rfl] at H; exact H
        clear H
        have H := H1
        clear H1
        obtain rfl := Option.some.inj H
        go_wp2
        repeat (go_quiet (fail); try go_wp2)
        go_ret
        exact ⟨by first | rfl | (simp [errW_none, errW_some] <;> rfl) | (simp [*, errW_none, errW_some] <;> rfl), by repeat (first | (with_reducible first | exact HB.out | apply below_alloc | apply pw_below_drewN | apply below_drew1) | exact HB.out)⟩
      · replace c5 := Bool.eq_false_iff.mpr c5
        subst c5
        have H1 : ((spec_FirstOf.f l0).bind fun t140 => ((spec_FirstOf.f l1).bind fun t141 => ((laws_at.f l1 0 9000).bind fun t142 => ((impl_SeqBefore.f t140 t141).bind fun bt143 => ((impl_SeqBefore.f t141 t140).bind fun bt145 => ((impl_SeqBefore.f (Int.tmod (wrap64 (t140 + (wrap64 (t142 * 500000)))) 4294967296) (Int.tmod (wrap64 (t141 + (wrap64 (t142 * 500000)))) 4294967296)).bind fun bt147 => ((spec_SeqBefore.f kj2 t140 t141).bind fun bt149 => (if bt143.2 = 0 then (if bt145.2 = 0 then (if bt147.2 = 0 then (if (bt143.1 != bt149.1) = true then (laws_FnSeq.j1 kj2 t140 t141 bt143.1 bt145.1 true) else (laws_FnSeq.j1 kj2 t140 t141 bt143.1 bt145.1 (bt147.1 != bt143.1))) else (laws_FnSeq.j1 kj2 t140 t141 bt143.1 bt145.1 true)) else (laws_FnSeq.j1 kj2 t140 t141 bt143.1 bt145.1 true)) else (laws_FnSeq.j1 kj2 t140 t141 bt143.1 bt145.1 true))))))))) = some r := by rw [if_neg (show ¬ (false = true) by decide)] at H; exact H
        clear H
        have H := H1
        clear H1
        replace H := Option.bind_eq_some_iff.mp H
        obtain ⟨t140, A60, H⟩ := H
        replace H : ((spec_FirstOf.f l1).bind fun t141 => ((laws_at.f l1 0 9000).bind fun t142 => ((impl_SeqBefore.f t140 t141).bind fun bt143 => ((impl_SeqBefore.f t141 t140).bind fun bt145 => ((impl_SeqBefore.f (Int.tmod (wrap64 (t140 + (wrap64 (t142 * 500000)))) 4294967296) (Int.tmod (wrap64 (t141 + (wrap64 (t142 * 500000)))) 4294967296)).bind fun bt147 => ((spec_SeqBefore.f kj2 t140 t141).bind fun bt149 => (if bt143.2 = 0 then (if bt145.2 = 0 then (if bt147.2 = 0 then (if (bt143.1 != bt149.1) = true then (laws_FnSeq.j1 kj2 t140 t141 bt143.1 bt145.1 true) else (laws_FnSeq.j1 kj2 t140 t141 bt143.1 bt145.1 (bt147.1 != bt143.1))) else (laws_FnSeq.j1 kj2 t140 t141 bt143.1 bt145.1 true)) else (laws_FnSeq.j1 kj2 t140 t141 bt143.1 bt145.1 true)) else (laws_FnSeq.j1 kj2 t140 t141 bt143.1 bt145.1 true)))))))) = some r := H
        have A6 := Aside0.mk A60
        clear A60
        replace H := Option.bind_eq_some_iff.mp H
        obtain ⟨t141, A70, H⟩ := H
        replace H : ((laws_at.f l1 0 9000).bind fun t142 => ((impl_SeqBefore.f t140 t141).bind fun bt143 => ((impl_SeqBefore.f t141 t140).bind fun bt145 => ((impl_SeqBefore.f (Int.tmod (wrap64 (t140 + (wrap64 (t142 * 500000)))) 4294967296) (Int.tmod (wrap64 (t141 + (wrap64 (t142 * 500000)))) 4294967296)).bind fun bt147 => ((spec_SeqBefore.f kj2 t140 t141).bind fun bt149 => (if bt143.2 = 0 then (if bt145.2 = 0 then (if bt147.2 = 0 then (if (bt143.1 != bt149.1) = true then (laws_FnSeq.j1 kj2 t140 t141 bt143.1 bt145.1 true) else (laws_FnSeq.j1 kj2 t140 t141 bt143.1 bt145.1 (bt147.1 != bt143.1))) else (laws_FnSeq.j1 kj2 t140 t141 bt143.1 bt145.1 true)) else (laws_FnSeq.j1 kj2 t140 t141 bt143.1 bt145.1 true)) else (laws_FnSeq.j1 kj2 t140 t141 bt143.1 bt145.1 true))))))) = some r := H
        have A7 := Aside0.mk A70
        clear A70
        replace H := Option.bind_eq_some_iff.mp H
        obtain ⟨t142, A80, H⟩ := H
        replace H : ((impl_SeqBefore.f t140 t141).bind fun bt143 => ((impl_SeqBefore.f t141 t140).bind fun bt145 => ((impl_SeqBefore.f (Int.tmod (wrap64 (t140 + (wrap64 (t142 * 500000)))) 4294967296) (Int.tmod (wrap64 (t141 + (wrap64 (t142 * 500000)))) 4294967296)).bind fun bt147 => ((spec_SeqBefore.f kj2 t140 t141).bind fun bt149 => (if bt143.2 = 0 then (if bt145.2 = 0 then (if bt147.2 = 0 then (if (bt143.1 != bt149.1) = true then (laws_FnSeq.j1 kj2 t140 t141 bt143.1 bt145.1 true) else (laws_FnSeq.j1 kj2 t140 t141 bt143.1 bt145.1 (bt147.1 != bt143.1))) else (laws_FnSeq.j1 kj2 t140 t141 bt143.1 bt145.1 true)) else (laws_FnSeq.j1 kj2 t140 t141 bt143.1 bt145.1 true)) else (laws_FnSeq.j1 kj2 t140 t141 bt143.1 bt145.1 true)))))) = some r := H
        have A8 := Aside0.mk A80
        clear A80
        replace H := Option.bind_eq_some_iff.mp H
        obtain ⟨⟨t143, t144⟩, A90, H⟩ := H
        replace H : ((impl_SeqBefore.f t141 t140).bind fun bt145 => ((impl_SeqBefore.f (Int.tmod (wrap64 (t140 + (wrap64 (t142 * 500000)))) 4294967296) (Int.tmod (wrap64 (t141 + (wrap64 (t142 * 500000)))) 4294967296)).bind fun bt147 => ((spec_SeqBefore.f kj2 t140 t141).bind fun bt149 => (if t144 = 0 then (if bt145.2 = 0 then (if bt147.2 = 0 then (if (t143 != bt149.1) = true then (laws_FnSeq.j1 kj2 t140 t141 t143 bt145.1 true) else (laws_FnSeq.j1 kj2 t140 t141 t143 bt145.1 (bt147.1 != t143))) else (laws_FnSeq.j1 kj2 t140 t141 t143 bt145.1 true)) else (laws_FnSeq.j1 kj2 t140 t141 t143 bt145.1 true)) else (laws_FnSeq.j1 kj2 t140 t141 t143 bt145.1 true))))) = some r := H
        have A9 := Aside0.mk A90
        clear A90
        replace H := Option.bind_eq_some_iff.mp H
        obtain ⟨⟨t145, t146⟩, A100, H⟩ := H
        replace H : ((impl_SeqBefore.f (Int.tmod (wrap64 (t140 + (wrap64 (t142 * 500000)))) 4294967296) (Int.tmod (wrap64 (t141 + (wrap64 (t142 * 500000)))) 4294967296)).bind fun bt147 => ((spec_SeqBefore.f kj2 t140 t141).bind fun bt149 => (if t144 = 0 then (if t146 = 0 then (if bt147.2 = 0 then (if (t143 != bt149.1) = true then (laws_FnSeq.j1 kj2 t140 t141 t143 t145 true) else (laws_FnSeq.j1 kj2 t140 t141 t143 t145 (bt147.1 != t143))) else (laws_FnSeq.j1 kj2 t140 t141 t143 t145 true)) else (laws_FnSeq.j1 kj2 t140 t141 t143 t145 true)) else (laws_FnSeq.j1 kj2 t140 t141 t143 t145 true)))) = some r := H
        have A10 := Aside0.mk A100
        clear A100
        replace H := Option.bind_eq_some_iff.mp H
        obtain ⟨⟨t147, t148⟩, A110, H⟩ := H
        replace H : ((spec_SeqBefore.f kj2 t140 t141).bind fun bt149 => (if t144 = 0 then (if t146 = 0 then (if t148 = 0 then (if (t143 != bt149.1) = true then (laws_FnSeq.j1 kj2 t140 t141 t143 t145 true) else (laws_FnSeq.j1 kj2 t140 t141 t143 t145 (t147 != t143))) else (laws_FnSeq.j1 kj2 t140 t141 t143 t145 true)) else (laws_FnSeq.j1 kj2 t140 t141 t143 t145 true)) else (laws_FnSeq.j1 kj2 t140 t141 t143 t145 true))) = some r := H
        have A11 := Aside0.mk A110
        clear A110
        replace H := Option.bind_eq_some_iff.mp H
        obtain ⟨⟨t149, t150⟩, A120, H⟩ := H
        replace H : (if t144 = 0 then (if t146 = 0 then (if t148 = 0 then (if (t143 != t149) = true then (laws_FnSeq.j1 kj2 t140 t141 t143 t145 true) else (laws_FnSeq.j1 kj2 t140 t141 t143 t145 (t147 != t143))) else (laws_FnSeq.j1 kj2 t140 t141 t143 t145 true)) else (laws_FnSeq.j1 kj2 t140 t141 t143 t145 true)) else (laws_FnSeq.j1 kj2 t140 t141 t143 t145 true)) = some r := H
        have A12 := Aside0.mk A120
        clear A120
        have HC13 := Aside0.mk H
        clear H
        go_upto_region 11 with (first | (go_at_call 8; (with_reducible refine (spec_FirstOf.calls _ _ l0 t140 _ ?side1 ?side2 A6.out).mono ?_); (case side1 => repeat (first | exact (Kd.C_below HR0.out HB.out) | (with_reducible refine Kd.C_alloc ?_ _) | (with_reducible refine Kd.C_drewN ?_ _) | (with_reducible refine Kd.C_drew ?_))); (case side2 => exact HC0.out); rintro e w14 ⟨rfl, hb⟩; have n0_ := Aside0.mk (below_step (by repeat (first | (with_reducible first | exact HB.out | apply below_alloc | apply pw_below_drewN | apply below_drew1) | exact HB.out)) hb); clear HB; have HB := n0_; clear n0_; (try clear hb); (try clear hb2); (try clear hk); (try clear hi)) | (go_at_call 8; (with_reducible refine (spec_FirstOf.calls _ _ l1 t141 _ ?side1 ?side2 A7.out).mono ?_); (case side1 => repeat (first | exact (Kd.C_below HR1.out HB.out) | (with_reducible refine Kd.C_alloc ?_ _) | (with_reducible refine Kd.C_drewN ?_ _) | (with_reducible refine Kd.C_drew ?_))); (case side2 => exact HC1.out); rintro e w15 ⟨rfl, hb⟩; have n0_ := Aside0.mk (below_step (by repeat (first | (with_reducible first | exact HB.out | apply below_alloc | apply pw_below_drewN | apply below_drew1) | exact HB.out)) hb); clear HB; have HB := n0_; clear n0_; (try clear hb); (try clear hb2); (try clear hk); (try clear hi)) | (go_at_call 9; (with_reducible refine (laws_at.calls _ _ l1 0 9000 t142 _ ?side1 ?side2 A8.out).mono ?_); (case side1 => repeat (first | exact (Kd.C_below HR1.out HB.out) | (with_reducible refine Kd.C_alloc ?_ _) | (with_reducible refine Kd.C_drewN ?_ _) | (with_reducible refine Kd.C_drew ?_))); (case side2 => exact HC1.out); rintro e w' ⟨rfl, ⟨nd, rfl⟩⟩; (try first | exact ⟨rfl, _, World.drewN_drewN _ _ _⟩ | exact ⟨rfl, _, Eq.trans (World.drewN_drewN _ _ _) (congrArg (World.drewN _) (Nat.add_assoc _ _ _))⟩)) | (go_at_call 10; (with_reducible refine (impl_SeqBefore.calls t140 t141 t143 t144 _ A9.out).mono ?_); rintro e w' ⟨rfl, ⟨nd, rfl⟩⟩; (try first | exact ⟨rfl, _, World.drewN_drewN _ _ _⟩ | exact ⟨rfl, _, Eq.trans (World.drewN_drewN _ _ _) (congrArg (World.drewN _) (Nat.add_assoc _ _ _))⟩)) | (go_at_call 10; (with_reducible refine (impl_SeqBefore.calls t141 t140 t145 t146 _ A10.out).mono ?_); rintro e w' ⟨rfl, ⟨nd, rfl⟩⟩; (try first | exact ⟨rfl, _, World.drewN_drewN _ _ _⟩ | exact ⟨rfl, _, Eq.trans (World.drewN_drewN _ _ _) (congrArg (World.drewN _) (Nat.add_assoc _ _ _))⟩)) | (go_at_call 10; (with_reducible refine (impl_SeqBefore.calls (Int.tmod (wrap64 (t140 + (wrap64 (t142 * 500000)))) 4294967296) (Int.tmod (wrap64 (t141 + (wrap64 (t142 * 500000)))) 4294967296) t147 t148 _ A11.out).mono ?_); rintro e w' ⟨rfl, ⟨nd, rfl⟩⟩; (try first | exact ⟨rfl, _, World.drewN_drewN _ _ _⟩ | exact ⟨rfl, _, Eq.trans (World.drewN_drewN _ _ _) (congrArg (World.drewN _) (Nat.add_assoc _ _ _))⟩)) | (go_at_call 11; (with_reducible refine (spec_SeqBefore.calls kj2 t140 t141 t149 t150 _ A12.out).mono ?_); rintro e w' ⟨rfl, ⟨nd, rfl⟩⟩; (try first | exact ⟨rfl, _, World.drewN_drewN _ _ _⟩ | exact ⟨rfl, _, Eq.trans (World.drewN_drewN _ _ _) (congrArg (World.drewN _) (Nat.add_assoc _ _ _))⟩)))
        repeat (go_quiet (first | (go_at_call 8; (with_reducible refine (spec_FirstOf.calls _ _ l0 t140 _ ?side1 ?side2 A6.out).mono ?_); (case side1 => repeat (first | exact (Kd.C_below HR0.out HB.out) | (with_reducible refine Kd.C_alloc ?_ _) | (with_reducible refine Kd.C_drewN ?_ _) | (with_reducible refine Kd.C_drew ?_))); (case side2 => exact HC0.out); rintro e w14 ⟨rfl, hb⟩; have n0_ := Aside0.mk (below_step (by repeat (first | (with_reducible first | exact HB.out | apply below_alloc | apply pw_below_drewN | apply below_drew1) | exact HB.out)) hb); clear HB; have HB := n0_; clear n0_; (try clear hb); (try clear hb2); (try clear hk); (try clear hi)) | (go_at_call 8; (with_reducible refine (spec_FirstOf.calls _ _ l1 t141 _ ?side1 ?side2 A7.out).mono ?_); (case side1 => repeat (first | exact (Kd.C_below HR1.out HB.out) | (with_reducible refine Kd.C_alloc ?_ _) | (with_reducible refine Kd.C_drewN ?_ _) | (with_reducible refine Kd.C_drew ?_))); (case side2 => exact HC1.out); rintro e w15 ⟨rfl, hb⟩; have n0_ := Aside0.mk (below_step (by repeat (first | (with_reducible first | exact HB.out | apply below_alloc | apply pw_below_drewN | apply below_drew1) | exact HB.out)) hb); clear HB; have HB := n0_; clear n0_; (try clear hb); (try clear hb2); (try clear hk); (try clear hi)) | (go_at_call 9; (with_reducible refine (laws_at.calls _ _ l1 0 9000 t142 _ ?side1 ?side2 A8.out).mono ?_); (case side1 => repeat (first | exact (Kd.C_below HR1.out HB.out) | (with_reducible refine Kd.C_alloc ?_ _) | (with_reducible refine Kd.C_drewN ?_ _) | (with_reducible refine Kd.C_drew ?_))); (case side2 => exact HC1.out); rintro e w' ⟨rfl, ⟨nd, rfl⟩⟩; (try first | exact ⟨rfl, _, World.drewN_drewN _ _ _⟩ | exact ⟨rfl, _, Eq.trans (World.drewN_drewN _ _ _) (congrArg (World.drewN _) (Nat.add_assoc _ _ _))⟩)) | (go_at_call 10; (with_reducible refine (impl_SeqBefore.calls t140 t141 t143 t144 _ A9.out).mono ?_); rintro e w' ⟨rfl, ⟨nd, rfl⟩⟩; (try first | exact ⟨rfl, _, World.drewN_drewN _ _ _⟩ | exact ⟨rfl, _, Eq.trans (World.drewN_drewN _ _ _) (congrArg (World.drewN _) (Nat.add_assoc _ _ _))⟩)) | (go_at_call 10; (with_reducible refine (impl_SeqBefore.calls t141 t140 t145 t146 _ A10.out).mono ?_); rintro e w' ⟨rfl, ⟨nd, rfl⟩⟩; (try first | exact ⟨rfl, _, World.drewN_drewN _ _ _⟩ | exact ⟨rfl, _, Eq.trans (World.drewN_drewN _ _ _) (congrArg (World.drewN _) (Nat.add_assoc _ _ _))⟩)) | (go_at_call 10; (with_reducible refine (impl_SeqBefore.calls (Int.tmod (wrap64 (t140 + (wrap64 (t142 * 500000)))) 4294967296) (Int.tmod (wrap64 (t141 + (wrap64 (t142 * 500000)))) 4294967296) t147 t148 _ A11.out).mono ?_); rintro e w' ⟨rfl, ⟨nd, rfl⟩⟩; (try first | exact ⟨rfl, _, World.drewN_drewN _ _ _⟩ | exact ⟨rfl, _, Eq.trans (World.drewN_drewN _ _ _) (congrArg (World.drewN _) (Nat.add_assoc _ _ _))⟩)) | (go_at_call 11; (with_reducible refine (spec_SeqBefore.calls kj2 t140 t141 t149 t150 _ A12.out).mono ?_); rintro e w' ⟨rfl, ⟨nd, rfl⟩⟩; (try first | exact ⟨rfl, _, World.drewN_drewN _ _ _⟩ | exact ⟨rfl, _, Eq.trans (World.drewN_drewN _ _ _) (congrArg (World.drewN _) (Nat.add_assoc _ _ _))⟩))); go_upto_region 11 with (first | (go_at_call 8; (with_reducible refine (spec_FirstOf.calls _ _ l0 t140 _ ?side1 ?side2 A6.out).mono ?_); (case side1 => repeat (first | exact (Kd.C_below HR0.out HB.out) | (with_reducible refine Kd.C_alloc ?_ _) | (with_reducible refine Kd.C_drewN ?_ _) | (with_reducible refine Kd.C_drew ?_))); (case side2 => exact HC0.out); rintro e w14 ⟨rfl, hb⟩; have n0_ := Aside0.mk (below_step (by repeat (first | (with_reducible first | exact HB.out | apply below_alloc | apply pw_below_drewN | apply below_drew1) | exact HB.out)) hb); clear HB; have HB := n0_; clear n0_; (try clear hb); (try clear hb2); (try clear hk); (try clear hi)) | (go_at_call 8; (with_reducible refine (spec_FirstOf.calls _ _ l1 t141 _ ?side1 ?side2 A7.out).mono ?_); (case side1 => repeat (first | exact (Kd.C_below HR1.out HB.out) | (with_reducible refine Kd.C_alloc ?_ _) | (with_reducible refine Kd.C_drewN ?_ _) | (with_reducible refine Kd.C_drew ?_))); (case side2 => exact HC1.out); rintro e w15 ⟨rfl, hb⟩; have n0_ := Aside0.mk (below_step (by repeat (first | (with_reducible first | exact HB.out | apply below_alloc | apply pw_below_drewN | apply below_drew1) | exact HB.out)) hb); clear HB; have HB := n0_; clear n0_; (try clear hb); (try clear hb2); (try clear hk); (try clear hi)) | (go_at_call 9; (with_reducible refine (laws_at.calls _ _ l1 0 9000 t142 _ ?side1 ?side2 A8.out).mono ?_); (case side1 => repeat (first | exact (Kd.C_below HR1.out HB.out) | (with_reducible refine Kd.C_alloc ?_ _) | (with_reducible refine Kd.C_drewN ?_ _) | (with_reducible refine Kd.C_drew ?_))); (case side2 => exact HC1.out); rintro e w' ⟨rfl, ⟨nd, rfl⟩⟩; (try first | exact ⟨rfl, _, World.drewN_drewN _ _ _⟩ | exact ⟨rfl, _, Eq.trans (World.drewN_drewN _ _ _) (congrArg (World.drewN _) (Nat.add_assoc _ _ _))⟩)) | (go_at_call 10; (with_reducible refine (impl_SeqBefore.calls t140 t141 t143 t144 _ A9.out).mono ?_); rintro e w' ⟨rfl, ⟨nd, rfl⟩⟩; (try first | exact ⟨rfl, _, World.drewN_drewN _ _ _⟩ | exact ⟨rfl, _, Eq.trans (World.drewN_drewN _ _ _) (congrArg (World.drewN _) (Nat.add_assoc _ _ _))⟩)) | (go_at_call 10; (with_reducible refine (impl_SeqBefore.calls t141 t140 t145 t146 _ A10.out).mono ?_); rintro e w' ⟨rfl, ⟨nd, rfl⟩⟩; (try first | exact ⟨rfl, _, World.drewN_drewN _ _ _⟩ | exact ⟨rfl, _, Eq.trans (World.drewN_drewN _ _ _) (congrArg (World.drewN _) (Nat.add_assoc _ _ _))⟩)) | (go_at_call 10; (with_reducible refine (impl_SeqBefore.calls (Int.tmod (wrap64 (t140 + (wrap64 (t142 * 500000)))) 4294967296) (Int.tmod (wrap64 (t141 + (wrap64 (t142 * 500000)))) 4294967296) t147 t148 _ A11.out).mono ?_); rintro e w' ⟨rfl, ⟨nd, rfl⟩⟩; (try first | exact ⟨rfl, _, World.drewN_drewN _ _ _⟩ | exact ⟨rfl, _, Eq.trans (World.drewN_drewN _ _ _) (congrArg (World.drewN _) (Nat.add_assoc _ _ _))⟩)) | (go_at_call 11; (with_reducible refine (spec_SeqBefore.calls kj2 t140 t141 t149 t150 _ A12.out).mono ?_); rintro e w' ⟨rfl, ⟨nd, rfl⟩⟩; (try first | exact ⟨rfl, _, World.drewN_drewN _ _ _⟩ | exact ⟨rfl, _, Eq.trans (World.drewN_drewN _ _ _) (congrArg (World.drewN _) (Nat.add_assoc _ _ _))⟩))))
        (try simp only [Act.put, List.setIfInBounds_toArray, List.set_cons_zero, List.set_cons_succ])
        go_cut [83] (fun v83 wc => ∃ (kq : Nat) (x83_12 : Bool), v83 = .bool x83_12 ∧ Aside0 (laws_FnSeq.j1 kq t140 t141 t143 t145 x83_12 = some r) ∧ Aside0 (kq ≤ kj2) ∧ Aside0 (Below w.heap.size w wc))
        case first =>
          have H := HC13.out
          clear HC13
          by_cases c16 : t144 = 0
          · rw [if_pos c16] at H
            have c16b0 : (t144 == 0) = true := beq_iff_eq.mpr c16
            have c16b1 : (t144 != 0) = false := bne_eq_false_iff_eq.mpr c16
            clear c16
            (first | rw [c16b0] | (simp only [i64_w, i32_w]; rw [c16b0]) | skip)
            by_cases c17 : t146 = 0
            · rw [if_pos c17] at H
              have c17b0 : (t146 == 0) = true := beq_iff_eq.mpr c17
              have c17b1 : (t146 != 0) = false := bne_eq_false_iff_eq.mpr c17
              clear c17
              by_cases c18 : t148 = 0
              · rw [if_pos c18] at H
                have c18b0 : (t148 == 0) = true := beq_iff_eq.mpr c18
                have c18b1 : (t148 != 0) = false := bne_eq_false_iff_eq.mpr c18
                clear c18
                by_cases c19 : (t143 != t149) = true
                · rw [if_pos c19] at H
                  have c19b0 : (t143 != t149) = true := c19
                  (try (have c19b1 : decide (t143 = t149) = false := by simpa using c19))
                  (try (have c19b2 : (t143 == t149) = false := by simpa using c19))
                  (try (have c19b3 : ¬ (t143 = t149) := by simpa using c19))
                  clear c19
                  have H' := Aside0.mk H
                  clear H
                  go_wp2
                  repeat (go_quiet (fail); try go_wp2)
                  go_meet
                  case rel => exact ⟨_, (true), (by first | rfl | (simp; done) | (simp [*]; done)), H', ⟨by have := HJ2.out; first | omega | exact Nat.le_refl _⟩, ⟨by repeat (first | (with_reducible first | exact HB.out | apply below_alloc | apply pw_below_drewN | apply below_drew1) | exact HB.out)⟩⟩
                · rw [if_neg c19] at H
                  have c19b0 : (t143 != t149) = false := by simpa using c19
                  (try (have c19b1 : decide (t143 = t149) = true := by simpa using c19))
                  (try (have c19b2 : (t143 == t149) = true := by simpa using c19))
                  clear c19
                  have H' := Aside0.mk H
                  clear H
                  go_wp2
                  repeat (go_quiet (fail); try go_wp2)
                  go_meet
                  case rel => exact ⟨_, ((t147 != t143)), (by first | rfl | (simp; done) | (simp [*]; done)), H', ⟨by have := HJ2.out; first | omega | exact Nat.le_refl _⟩, ⟨by repeat (first | (with_reducible first | exact HB.out | apply below_alloc | apply pw_below_drewN | apply below_drew1) | exact HB.out)⟩⟩
              · rw [if_neg c18] at H
                have c18b0 : (t148 == 0) = false := beq_eq_false_iff_ne.mpr c18
                have c18b1 : (t148 != 0) = true := bne_iff_ne.mpr c18
                have H' := Aside0.mk H
                clear H
                go_wp2
                repeat (go_quiet (fail); try go_wp2)
                go_meet
                case rel => exact ⟨_, (true), (by first | rfl | (simp; done) | (simp [*]; done)), H', ⟨by have := HJ2.out; first | omega | exact Nat.le_refl _⟩, ⟨by repeat (first | (with_reducible first | exact HB.out | apply below_alloc | apply pw_below_drewN | apply below_drew1) | exact HB.out)⟩⟩
            · rw [if_neg c17] at H
              have c17b0 : (t146 == 0) = false := beq_eq_false_iff_ne.mpr c17
              have c17b1 : (t146 != 0) = true := bne_iff_ne.mpr c17
              have H' := Aside0.mk H
              clear H
              go_wp2
              repeat (go_quiet (fail); try go_wp2)
              go_meet
              case rel => exact ⟨_, (true), (by first | rfl | (simp; done) | (simp [*]; done)), H', ⟨by have := HJ2.out; first | omega | exact Nat.le_refl _⟩, ⟨by repeat (first | (with_reducible first | exact HB.out | apply below_alloc | apply pw_below_drewN | apply below_drew1) | exact HB.out)⟩⟩
          · rw [if_neg c16] at H
            have c16b0 : (t144 == 0) = false := beq_eq_false_iff_ne.mpr c16
            have c16b1 : (t144 != 0) = true := bne_iff_ne.mpr c16
            (first | rw [c16b0] | (simp only [i64_w, i32_w]; rw [c16b0]) | skip)
            have H' := Aside0.mk H
            clear H
            go_wp2
            repeat (go_quiet (fail); try go_wp2)
            go_meet
            case rel => exact ⟨_, (true), (by first | rfl | (simp; done) | (simp [*]; done)), H', ⟨by have := HJ2.out; first | omega | exact Nat.le_refl _⟩, ⟨by repeat (first | (with_reducible first | exact HB.out | apply below_alloc | apply pw_below_drewN | apply below_drew1) | exact HB.out)⟩⟩
        case rest =>
          clear HC13
          try clear c1
          try clear p2
          try clear c3
          try clear c4
          try clear c4b0
          try clear c4b1
          try clear c5
          try clear p6
          try clear c16
          try clear c16b0
          try clear c16b1
          try clear c17
          try clear c17b0
          try clear c17b1
          try clear c18
          try clear c18b0
          try clear c18b1
          try clear c19
          try clear c19b0
          try clear c19b1
          try clear c19b2
          try clear p2
          obtain ⟨kq, x83_12, rfl, HA, HJ12, HB⟩ := hcut
          cases kq with
          | zero => exact absurd HA.out (by simp [laws_FnSeq.j1])
          | succ kj12 =>
            have H := HA.out
            clear HA
            simp only [laws_FnSeq.j1] at H
            by_cases c20 : x83_12 = true
            · subst c20
              have H1 : (some false) = some r := by rw [if_pos rfl] at H; exact H
              clear H
              have H := H1
              clear H1
              obtain rfl := Option.some.inj H
              go_wp2
              repeat (go_quiet (fail); try go_wp2)
              go_ret
              exact ⟨by first | rfl | (simp [errW_none, errW_some] <;> rfl) | (simp [*, errW_none, errW_some] <;> rfl), by repeat (first | (with_reducible first | exact HB.out | apply below_alloc | apply pw_below_drewN | apply below_drew1) | exact HB.out)⟩
            · replace c20 := Bool.eq_false_iff.mpr c20
              subst c20
              have H1 : (if t140 = t141 then (if t143 = true then (some false) else (some (!t145))) else (if (Int.tmod (wrap64 ((wrap64 (t140 - t141)) + 4294967296)) 4294967296) = 2147483648 then (if t143 = true then (some false) else (some (!t145))) else (some (t143 != t145)))) = some r := by rw [if_neg (show ¬ (false = true) by decide)] at H; exact H
              clear H
              have H := H1
              clear H1
              by_cases c21 : t140 = t141
              · rw [if_pos c21] at H
                have c21b0 : (t140 == t141) = true := beq_iff_eq.mpr c21
                have c21b1 : (t140 != t141) = false := bne_eq_false_iff_eq.mpr c21
                clear c21
                by_cases c22 : t143 = true
                · subst c22
                  have H1 : (some false) = some r := by rw [if_pos rfl] at H; exact H
                  clear H
                  have H := H1
                  clear H1
                  obtain rfl := Option.some.inj H
                  go_wp2
                  repeat (go_quiet (fail); try go_wp2)
                  go_ret
                  exact ⟨by first | rfl | (simp [errW_none, errW_some] <;> rfl) | (simp [*, errW_none, errW_some] <;> rfl), by repeat (first | (with_reducible first | exact HB.out | apply below_alloc | apply pw_below_drewN | apply below_drew1) | exact HB.out)⟩
                · replace c22 := Bool.eq_false_iff.mpr c22
                  subst c22
                  have H1 : (some (!t145)) = some r := by rw [if_neg (show ¬ (false = true) by decide)] at H; exact H
                  clear H
                  have H := H1
                  clear H1
                  obtain rfl := Option.some.inj H
                  go_wp2
                  repeat (go_quiet (fail); try go_wp2)
                  go_ret
                  exact ⟨by first | rfl | (simp [errW_none, errW_some] <;> rfl) | (simp [*, errW_none, errW_some] <;> rfl), by repeat (first | (with_reducible first | exact HB.out | apply below_alloc | apply pw_below_drewN | apply below_drew1) | exact HB.out)⟩
              · rw [if_neg c21] at H
                have c21b0 : (t140 == t141) = false := beq_eq_false_iff_ne.mpr c21
                have c21b1 : (t140 != t141) = true := bne_iff_ne.mpr c21
                by_cases c23 : (Int.tmod (wrap64 ((wrap64 (t140 - t141)) + 4294967296)) 4294967296) = 2147483648
                · rw [if_pos c23] at H
                  have c23b0 : ((Int.tmod (wrap64 ((wrap64 (t140 - t141)) + 4294967296)) 4294967296) == 2147483648) = true := beq_iff_eq.mpr c23
                  have c23b1 : ((Int.tmod (wrap64 ((wrap64 (t140 - t141)) + 4294967296)) 4294967296) != 2147483648) = false := bne_eq_false_iff_eq.mpr c23
                  clear c23
                  by_cases c24 : t143 = true
                  · subst c24
                    have H1 : (some false) = some r := by rw [if_pos rfl] at H; exact H
                    clear H
                    have H := H1
                    clear H1
                    obtain rfl := Option.some.inj H
                    go_wp2
                    repeat (go_quiet (fail); try go_wp2)
                    go_ret
                    exact ⟨by first | rfl | (simp [errW_none, errW_some] <;> rfl) | (simp [*, errW_none, errW_some] <;> rfl), by repeat (first | (with_reducible first | exact HB.out | apply below_alloc | apply pw_below_drewN | apply below_drew1) | exact HB.out)⟩
                  · replace c24 := Bool.eq_false_iff.mpr c24
                    subst c24
                    have H1 : (some (!t145)) = some r := by rw [if_neg (show ¬ (false = true) by decide)] at H; exact H
                    clear H
                    have H := H1
                    clear H1
                    obtain rfl := Option.some.inj H
                    go_wp2
                    repeat (go_quiet (fail); try go_wp2)
                    go_ret
                    exact ⟨by first | rfl | (simp [errW_none, errW_some] <;> rfl) | (simp [*, errW_none, errW_some] <;> rfl), by repeat (first | (with_reducible first | exact HB.out | apply below_alloc | apply pw_below_drewN | apply below_drew1) | exact HB.out)⟩
                · rw [if_neg c23] at H
                  have c23b0 : ((Int.tmod (wrap64 ((wrap64 (t140 - t141)) + 4294967296)) 4294967296) == 2147483648) = false := beq_eq_false_iff_ne.mpr c23
                  have c23b1 : ((Int.tmod (wrap64 ((wrap64 (t140 - t141)) + 4294967296)) 4294967296) != 2147483648) = true := bne_iff_ne.mpr c23
                  obtain rfl := Option.some.inj H
                  go_wp2
                  repeat (go_quiet (fail); try go_wp2)
                  go_ret
                  exact ⟨by first | rfl | (simp [errW_none, errW_some] <;> rfl) | (simp [*, errW_none, errW_some] <;> rfl), by repeat (first | (with_reducible first | exact HB.out | apply below_alloc | apply pw_below_drewN | apply below_drew1) | exact HB.out)⟩

/-- THE ONE PURE STATEMENT of laws_FnSeq: yours. -/
def laws_FnSeq.Pure : Prop := ∀ (l0 : List Int) (l1 : List Int), l0.length ≤ maxLen → l0.length * 1 ≤ 140737488351232 → (∀ x ∈ l0, (Lit.int .u8 x).wf = true) → l1.length ≤ maxLen → l1.length * 1 ≤ 140737488351232 → (∀ x ∈ l1, (Lit.int .u8 x).wf = true) → ∃ k, laws_FnSeq.f k l0 l1 = some true
theorem laws_FnSeq.walk (P : laws_FnSeq.Pure) (a0 : Option Addr) (len0 cap0 : Nat) (z0 : List Int) (a1 : Option Addr) (len1 cap1 : Nat) (z1 : List Int) (w : World) (w0 : (a0 = none ∧ len0 = 0 ∧ cap0 = 0 ∧ z0 = []) ∨ ∃ x, a0 = some x ∧ len0 ≤ cap0 ∧ cap0 ≤ maxLen ∧ z0.length = cap0 ∧ (∀ i, i < z0.length → w.cell? (x.add i) = some (.int .u8 (z0.getD i 0))) ∧ ∀ n ∈ z0, (Lit.int .u8 n).wf = true) (y0 : len0 * 1 ≤ 140737488351232) (w1 : (a1 = none ∧ len1 = 0 ∧ cap1 = 0 ∧ z1 = []) ∨ ∃ x, a1 = some x ∧ len1 ≤ cap1 ∧ cap1 ≤ maxLen ∧ z1.length = cap1 ∧ (∀ i, i < z1.length → w.cell? (x.add i) = some (.int .u8 (z1.getD i 0))) ∧ ∀ n ∈ z1, (Lit.int .u8 n).wf = true) (y1 : len1 * 1 ≤ 140737488351232) :
    Calls Try.prog 3 #[.slice a0 len0 cap0, .slice a1 len1 cap1] w fun e w' => e = .returned (.bool true) ∧ Below w.heap.size w w' := by
  obtain ⟨l0, rfl, hr0, hm0, hw0, hc0⟩ := ReadsInt.ofRowC w0
  obtain ⟨l1, rfl, hr1, hm1, hw1, hc1⟩ := ReadsInt.ofRowC w1
  obtain ⟨k, h⟩ := P l0 l1 hm0 y0 hw0 hm1 y1 hw1
  refine (laws_FnSeq.calls k _ _ l0 _ _ l1 true w (Kd.C_of_reads (d := (0 : Int)) (h1 := fun _ => rfl) hr0) hc0 (Kd.C_of_reads (d := (0 : Int)) (h1 := fun _ => rfl) hr1) hc1 h).mono ?_
  rintro e w' ⟨rfl, hd⟩
  exact ⟨rfl, hd⟩

end Go.Proofs.Ytdoonajbbfnnfaa.PSeq
