-- Written by plug.py, a program of this work, over the kit's printing program: the functions that it prints, and this work's own proofs of those that it does not.
import Derived.Test.YtjfbeakmpmjadaaPWinx0
import Derived.Test.YtjfbeakmpmjadaaPWinx10
import Derived.Test.YtjfbeakmpmjadaaPWinx13
import Derived.Test.YtjfbeakmpmjadaaPWinx21
namespace Go.Proofs.Ytjfbeakmpmjadaa.PWin
open Go.RowKit Go.Proofs.YtjfbeakmpmjadaaW.PrintWords Go.Proofs.YtjfbeakmpmjadaaW.PrintLast Go.Proofs.YtjfbeakmpmjadaaW.PrintMore
attribute [local go_sem] max2_int min2_int max_two min_two max_three min_three max_four min_four   -- for this text's walks alone
set_option linter.unusedVariables false
set_option linter.unusedSimpArgs false

/-! ### impl_CubicStep: function 9 -/
def impl_CubicStep.f (k : Nat) (a0_0 : Int) (a0_1 : Int) (a0_2 : Int) (a0_3 : Int) (a0_4 : Int) (a0_5 : Int) (a0_6 : Int) (a1_0 : Int) (a1_1 : Int) : Option (Int × Int × Int × Int × Int × Int × Int × Int) :=
  (impl_CubicOK.f k a0_0 a0_1 a0_2 a0_3 a0_4 a0_5 a0_6).bind fun ok =>
    if ok = true then (impl_Cubic_act.f k a0_0 a0_1 a0_2 a0_3 a0_4 a0_5 a0_6 a1_0 a1_1).bind fun r => some (r.2.1, r.2.2.1, r.2.2.2.1, r.2.2.2.2.1, r.2.2.2.2.2.1, r.2.2.2.2.2.2.1, r.2.2.2.2.2.2.2, r.1)
    else some (0, 0, 0, 0, 0, 0, 0, 1)
theorem impl_CubicStep.mono : ∀ a0 a1 a2 a3 a4 a5 a6 a7 a8 k, LeO (impl_CubicStep.f k a0 a1 a2 a3 a4 a5 a6 a7 a8) (impl_CubicStep.f (k + 1) a0 a1 a2 a3 a4 a5 a6 a7 a8) := by
  intro a0 a1 a2 a3 a4 a5 a6 a7 a8 k
  unfold impl_CubicStep.f
  exact LeO.bind (impl_CubicOK.mono _ _ _ _ _ _ _ _) (fun _ => LeO.ite (LeO.bind (impl_Cubic_act.mono _ _ _ _ _ _ _ _ _ _) (fun _ => LeO.refl _)) (LeO.refl _))

theorem blk_new_at (w : World) (o : Obj) (n : Nat) (h : n = w.heap.size) : (w.alloc o).heap[n]? = some o := by subst h; exact blk_new w o
set_option maxHeartbeats 4000000 in
set_option maxRecDepth 100000 in
theorem impl_CubicStep.step_bad (k : Nat) (a0_0 a0_1 a0_2 a0_3 a0_4 a0_5 a0_6 a1_0 a1_1 : Int) (w : World) (hok : impl_CubicOK.f k a0_0 a0_1 a0_2 a0_3 a0_4 a0_5 a0_6 = some false) :
    Calls Try.prog 9 #[.agg #[.int .i64 a0_0, .int .i64 a0_1, .int .i64 a0_2, .int .i64 a0_3, .int .i64 a0_4, .int .i64 a0_5, .int .i64 a0_6], .agg #[.int .i64 a1_0, .int .i64 a1_1]] w fun e w' => e = .returned (.tuple #[.agg #[.int .i64 0, .int .i64 0, .int .i64 0, .int .i64 0, .int .i64 0, .int .i64 0, .int .i64 0], .int .i64 1]) ∧ Below w.heap.size w w' := by
  have HOK := Aside0.mk hok
  clear hok
  have hu26 := Try.underlying26
  have hu30 := Try.underlying30
  go_enter Try.func9, Try.ntmps9
  go_wp2_with (first | (go_at_call 22; refine (impl_CubicOK.calls k _ _ _ _ _ _ _ _ _ HOK.out).mono ?_; rintro e w1 ⟨rfl, hbel⟩; have HB1 := Aside0.mk hbel; have HW1 : Aside0 (w1.heap[w.heap.size + 1 + 1]? = some (.cells #[.int .i64 0, .int .i64 0, .int .i64 0, .int .i64 0, .int .i64 0, .int .i64 0, .int .i64 0] 26 (0, 0))) := Aside0.mk (by refine blk_below ?_ hbel; exact blk_new_at _ _ _ (by simp)); have hz := HW1.out; have z0 := blk_cell hz 0; have z1 := blk_cell hz 1; have z2 := blk_cell hz 2; have z3 := blk_cell hz 3; have z4 := blk_cell hz 4; have z5 := blk_cell hz 5; have z6 := blk_cell hz 6; have y0 := blk_frozen hz 0; have y1 := blk_frozen hz 1; have y2 := blk_frozen hz 2; have y3 := blk_frozen hz 3; have y4 := blk_frozen hz 4; have y5 := blk_frozen hz 5; have y6 := blk_frozen hz 6; clear hbel hz))
  refine bodyPost_ret (results_ct rfl _ _ (w.heap.size + 1 + 1) 26 #[.int .i64 0, .int .i64 0, .int .i64 0, .int .i64 0, .int .i64 0, .int .i64 0, .int .i64 0] (0, 0) _ rfl (by refine blk_put (cs := #[.int .i64 0, .int .i64 0, .int .i64 0, .int .i64 0, .int .i64 0, .int .i64 0, .int .i64 0]) ?_ 6 _ rfl; refine blk_put (cs := #[.int .i64 0, .int .i64 0, .int .i64 0, .int .i64 0, .int .i64 0, .int .i64 0, .int .i64 0]) ?_ 5 _ rfl; refine blk_put (cs := #[.int .i64 0, .int .i64 0, .int .i64 0, .int .i64 0, .int .i64 0, .int .i64 0, .int .i64 0]) ?_ 4 _ rfl; refine blk_put (cs := #[.int .i64 0, .int .i64 0, .int .i64 0, .int .i64 0, .int .i64 0, .int .i64 0, .int .i64 0]) ?_ 3 _ rfl; refine blk_put (cs := #[.int .i64 0, .int .i64 0, .int .i64 0, .int .i64 0, .int .i64 0, .int .i64 0, .int .i64 0]) ?_ 2 _ rfl; refine blk_put (cs := #[.int .i64 0, .int .i64 0, .int .i64 0, .int .i64 0, .int .i64 0, .int .i64 0, .int .i64 0]) ?_ 1 _ rfl; refine blk_put (cs := #[.int .i64 0, .int .i64 0, .int .i64 0, .int .i64 0, .int .i64 0, .int .i64 0, .int .i64 0]) ?_ 0 _ rfl; exact HW1.out) Try.underlying26 rfl (by kernel_rfl)) rfl ?_
  have hB : Below w.heap.size w w1 := below_then (by repeat (first | exact Below.refl _ _ | apply below_alloc)) (by simp; omega) HB1.out
  exact ⟨rfl, by iterate 7 (refine below_set ?_ (by omega))
                 exact hB⟩
set_option maxHeartbeats 4000000 in
set_option maxRecDepth 100000 in
theorem impl_CubicStep.step_good (k : Nat) (a0_0 a0_1 a0_2 a0_3 a0_4 a0_5 a0_6 a1_0 a1_1 r1 r2 r3 r4 r5 r6 r7 r8 : Int) (w : World) (hok : impl_CubicOK.f k a0_0 a0_1 a0_2 a0_3 a0_4 a0_5 a0_6 = some true) (hact : impl_Cubic_act.f k a0_0 a0_1 a0_2 a0_3 a0_4 a0_5 a0_6 a1_0 a1_1 = some (r8, r1, r2, r3, r4, r5, r6, r7)) :
    Calls Try.prog 9 #[.agg #[.int .i64 a0_0, .int .i64 a0_1, .int .i64 a0_2, .int .i64 a0_3, .int .i64 a0_4, .int .i64 a0_5, .int .i64 a0_6], .agg #[.int .i64 a1_0, .int .i64 a1_1]] w fun e w' => e = .returned (.tuple #[.agg #[.int .i64 r1, .int .i64 r2, .int .i64 r3, .int .i64 r4, .int .i64 r5, .int .i64 r6, .int .i64 r7], .int .i64 r8]) ∧ Below w.heap.size w w' := by
  have HOK := Aside0.mk hok
  have HACT := Aside0.mk hact
  clear hok hact
  have hu26 := Try.underlying26
  have hu30 := Try.underlying30
  go_enter Try.func9, Try.ntmps9
  go_wp2_with (first
    | (go_at_call 22; refine (impl_CubicOK.calls k _ _ _ _ _ _ _ _ _ HOK.out).mono ?_; rintro e w1 ⟨rfl, hbel⟩; have HB1 := Aside0.mk hbel; have HW0 : Aside0 (IsS26 w w1 w.heap.size a0_0 a0_1 a0_2 a0_3 a0_4 a0_5 a0_6) := Aside0.mk ⟨by refine blk_below ?_ hbel; refine blk_alloc (blk_alloc (blk_new _ _) _) _, Nat.le_refl _⟩; have HW1 : Aside0 (w1.heap[w.heap.size + 1 + 1]? = some (.cells #[.int .i64 0, .int .i64 0, .int .i64 0, .int .i64 0, .int .i64 0, .int .i64 0, .int .i64 0] 26 (0, 0))) := Aside0.mk (by refine blk_below ?_ hbel; exact blk_new_at _ _ _ (by simp)); have HW3 : Aside0 (w1.heap[w.heap.size + 1]? = some (.cells #[.int .i64 a1_0, .int .i64 a1_1] 30 (0, 0))) := Aside0.mk (by refine blk_below ?_ hbel; refine blk_alloc ?_ _; exact blk_new_at _ _ _ (by simp)); have q0 := blk_cell HW3.out 0; have q1 := blk_cell HW3.out 1; clear hbel)
    | (go_at_call 26; refine (impl_Cubic_act.calls k w.heap.size _ _ _ _ _ _ _ _ _ r8 r1 r2 r3 r4 r5 r6 r7 w _ HW0.out ?hB HACT.out).mono ?_; (case hB => exact below_then (by repeat (first | exact Below.refl _ _ | apply below_alloc)) (by simp; omega) HB1.out); rintro e w2 ⟨rfl, hI2, hB2, hK2⟩; have HI2 := Aside0.mk hI2; have HB2 := Aside0.mk hB2; have HW2 := Aside0.mk (KeepBut.blk hK2 HW1.out (by omega) (by simp)); have k0 := cellS26_0 hI2.1; have k1 := cellS26_1 hI2.1; have k2 := cellS26_2 hI2.1; have k3 := cellS26_3 hI2.1; have k4 := cellS26_4 hI2.1; have k5 := cellS26_5 hI2.1; have k6 := cellS26_6 hI2.1; have hz := HW2.out; have z0 := blk_cell hz 0; have z1 := blk_cell hz 1; have z2 := blk_cell hz 2; have z3 := blk_cell hz 3; have z4 := blk_cell hz 4; have z5 := blk_cell hz 5; have z6 := blk_cell hz 6; have y0 := blk_frozen hz 0; have y1 := blk_frozen hz 1; have y2 := blk_frozen hz 2; have y3 := blk_frozen hz 3; have y4 := blk_frozen hz 4; have y5 := blk_frozen hz 5; have y6 := blk_frozen hz 6; clear hz; clear hI2 hB2 hK2))
  refine bodyPost_ret (results_ct rfl _ _ (w.heap.size + 1 + 1) 26 #[.int .i64 r1, .int .i64 r2, .int .i64 r3, .int .i64 r4, .int .i64 r5, .int .i64 r6, .int .i64 r7] (0, 0) _ rfl (by refine blk_put (cs := #[.int .i64 r1, .int .i64 r2, .int .i64 r3, .int .i64 r4, .int .i64 r5, .int .i64 r6, .int .i64 0]) ?_ 6 _ rfl; refine blk_put (cs := #[.int .i64 r1, .int .i64 r2, .int .i64 r3, .int .i64 r4, .int .i64 r5, .int .i64 0, .int .i64 0]) ?_ 5 _ rfl; refine blk_put (cs := #[.int .i64 r1, .int .i64 r2, .int .i64 r3, .int .i64 r4, .int .i64 0, .int .i64 0, .int .i64 0]) ?_ 4 _ rfl; refine blk_put (cs := #[.int .i64 r1, .int .i64 r2, .int .i64 r3, .int .i64 0, .int .i64 0, .int .i64 0, .int .i64 0]) ?_ 3 _ rfl; refine blk_put (cs := #[.int .i64 r1, .int .i64 r2, .int .i64 0, .int .i64 0, .int .i64 0, .int .i64 0, .int .i64 0]) ?_ 2 _ rfl; refine blk_put (cs := #[.int .i64 r1, .int .i64 0, .int .i64 0, .int .i64 0, .int .i64 0, .int .i64 0, .int .i64 0]) ?_ 1 _ rfl; refine blk_put (cs := #[.int .i64 0, .int .i64 0, .int .i64 0, .int .i64 0, .int .i64 0, .int .i64 0, .int .i64 0]) ?_ 0 _ rfl; exact HW2.out) Try.underlying26 rfl (by kernel_rfl)) rfl ?_
  exact ⟨rfl, by iterate 7 (refine below_set ?_ (by omega))
                 exact HB2.out⟩

set_option maxHeartbeats 8000000 in
set_option maxRecDepth 100000 in
theorem impl_CubicStep.calls (k : Nat) (a0_0 : Int) (a0_1 : Int) (a0_2 : Int) (a0_3 : Int) (a0_4 : Int) (a0_5 : Int) (a0_6 : Int) (a1_0 : Int) (a1_1 : Int) (r1 : Int) (r2 : Int) (r3 : Int) (r4 : Int) (r5 : Int) (r6 : Int) (r7 : Int) (r8 : Int) (w : World) (h : impl_CubicStep.f k a0_0 a0_1 a0_2 a0_3 a0_4 a0_5 a0_6 a1_0 a1_1 = some (r1, r2, r3, r4, r5, r6, r7, r8)) :
    Calls Try.prog 9 #[.agg #[.int .i64 a0_0, .int .i64 a0_1, .int .i64 a0_2, .int .i64 a0_3, .int .i64 a0_4, .int .i64 a0_5, .int .i64 a0_6], .agg #[.int .i64 a1_0, .int .i64 a1_1]] w fun e w' => e = .returned (.tuple #[.agg #[.int .i64 r1, .int .i64 r2, .int .i64 r3, .int .i64 r4, .int .i64 r5, .int .i64 r6, .int .i64 r7], .int .i64 r8]) ∧ Below w.heap.size w w' := by
  unfold impl_CubicStep.f at h
  obtain ⟨ok, hok, h⟩ := Option.bind_eq_some_iff.mp h
  cases ok with
  | true =>
    rw [if_pos rfl] at h
    obtain ⟨⟨q1, q2, q3, q4, q5, q6, q7, q8⟩, ha, h⟩ := Option.bind_eq_some_iff.mp h
    simp only [Option.some.injEq, Prod.mk.injEq] at h
    obtain ⟨rfl, rfl, rfl, rfl, rfl, rfl, rfl, rfl⟩ := h
    exact impl_CubicStep.step_good k _ _ _ _ _ _ _ _ _ _ _ _ _ _ _ _ _ w hok ha
  | false =>
    rw [if_neg (by decide)] at h
    simp only [Option.some.injEq, Prod.mk.injEq] at h
    obtain ⟨rfl, rfl, rfl, rfl, rfl, rfl, rfl, rfl⟩ := h
    exact impl_CubicStep.step_bad k _ _ _ _ _ _ _ _ _ w hok

end Go.Proofs.Ytjfbeakmpmjadaa.PWin
