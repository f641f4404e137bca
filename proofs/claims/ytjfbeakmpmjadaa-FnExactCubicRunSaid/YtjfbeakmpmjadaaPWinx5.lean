-- Written by plug.py, a program of this work, over the kit's printing program: the functions that it prints, and this work's own proofs of those that it does not.
import Derived.Test.YtjfbeakmpmjadaaPWinx0
import Derived.Test.YtjfbeakmpmjadaaPWinx4
namespace Go.Proofs.Ytjfbeakmpmjadaa.PWin
open Go.RowKit Go.Proofs.YtjfbeakmpmjadaaW.PrintWords Go.Proofs.YtjfbeakmpmjadaaW.PrintLast Go.Proofs.YtjfbeakmpmjadaaW.PrintMore
attribute [local go_sem] max2_int min2_int max_two min_two max_three min_three max_four min_four   -- for this text's walks alone
set_option linter.unusedVariables false
set_option linter.unusedSimpArgs false

/-! ### spec_l16Loss: function 34 -/
def spec_l16Loss.f (k : Nat) (a0_0 : Int) (a0_1 : Int) (a0_2 : Int) (a0_3 : Int) (a0_4 : Int) (a0_5 : Int) (a0_6 : Int) : Option (Int × Int × Int × Int × Int × Int × Int) :=
  if 1 ≤ a0_0 ∧ a0_0 ≤ 100000 ∧ 0 ≤ a0_2 ∧ a0_2 ≤ 100000 then
    if a0_0 < a0_2 then (spec_l16Root.f k ((if (if 2 < a0_0 * 7 / 10 then a0_0 * 7 / 10 else 2) < a0_0 * 17 / 20 then a0_0 * 17 / 20 - (if 2 < a0_0 * 7 / 10 then a0_0 * 7 / 10 else 2) else 0) * 10 / 4 * 1000000000)).bind fun r =>
      some ((if 2 < a0_0 * 7 / 10 then a0_0 * 7 / 10 else 2), (if 2 < a0_0 * 7 / 10 then a0_0 * 7 / 10 else 2), a0_0 * 17 / 20, r, a0_5, a0_5, 0)
    else (spec_l16Root.f k ((if (if 2 < a0_0 * 7 / 10 then a0_0 * 7 / 10 else 2) < a0_0 then a0_0 - (if 2 < a0_0 * 7 / 10 then a0_0 * 7 / 10 else 2) else 0) * 10 / 4 * 1000000000)).bind fun r =>
      some ((if 2 < a0_0 * 7 / 10 then a0_0 * 7 / 10 else 2), (if 2 < a0_0 * 7 / 10 then a0_0 * 7 / 10 else 2), a0_0, r, a0_5, a0_5, 0)
  else none
theorem spec_l16Loss.mono : ∀ a0 a1 a2 a3 a4 a5 a6 k, LeO (spec_l16Loss.f k a0 a1 a2 a3 a4 a5 a6) (spec_l16Loss.f (k + 1) a0 a1 a2 a3 a4 a5 a6) := by
  intro a0 a1 a2 a3 a4 a5 a6 k
  unfold spec_l16Loss.f
  exact LeO.ite (LeO.ite (LeO.bind (spec_l16Root.mono _ _) (fun _ => LeO.refl _)) (LeO.bind (spec_l16Root.mono _ _) (fun _ => LeO.refl _))) (LeO.none _)

theorem spec_l16Loss.wp_gen {P : Program} {c : Code} {Q : Exit → Act → World → Prop} {a : Act} {w1 : World} (F : World → Prop) (hF : F w1) (h : ∀ W, F W → Code.wp P c Q a W) : Code.wp P c Q a w1 := h _ hF
def spec_l16Loss.B26 (W : World) (g : Nat) (a b c d e f h : Int) : Prop := W.heap[g]? = some (.cells #[.int .i64 a, .int .i64 b, .int .i64 c, .int .i64 d, .int .i64 e, .int .i64 f, .int .i64 h] 26 (0, 0))
structure spec_l16Loss.LS (w W : World) (w_ s m o si n c x0 x1 x2 x3 x4 x5 x6 : Int) : Prop where
  hc : spec_l16Loss.B26 W w.heap.size w_ s m o si n c
  hr : spec_l16Loss.B26 W (w.heap.size + 1) 0 0 0 0 0 0 0
  ho : spec_l16Loss.B26 W (w.heap.size + 2) x0 x1 x2 x3 x4 x5 x6
  hb : Below w.heap.size w W
theorem spec_l16Loss.blk_new_at (w : World) (o : Obj) (n : Nat) (h : n = w.heap.size) : (w.alloc o).heap[n]? = some o := by subst h; exact blk_new w o
set_option maxHeartbeats 2000000 in
set_option maxRecDepth 100000 in
theorem spec_l16Loss.loss_m (k : Nat) (w_ s m o si n c r mw dd : Int) (w : World) (hm : w_ < m) (h1 : 1 ≤ w_) (h2 : w_ ≤ 100000) (h3 : 0 ≤ m) (h4 : m ≤ 100000)
    (hmw : (if 2 < w_ * 7 / 10 then w_ * 7 / 10 else 2) = mw) (hmw1 : 2 ≤ mw) (hmw2 : mw ≤ 100000) (hdd : (if mw < w_ * 17 / 20 then w_ * 17 / 20 - mw else 0) = dd) (hd0 : 0 ≤ dd) (hd1 : dd ≤ 100000)
    (hc : spec_l16Root.f k (dd * 10 / 4 * 1000000000) = some r) :
    Calls Try.prog 34 #[.agg #[.int .i64 w_, .int .i64 s, .int .i64 m, .int .i64 o, .int .i64 si, .int .i64 n, .int .i64 c]] w fun e w' => e = .returned (.agg #[.int .i64 mw, .int .i64 mw, .int .i64 (w_ * 17 / 20), .int .i64 r, .int .i64 n, .int .i64 n, .int .i64 0]) ∧ Below w.heap.size w w' := by
  have hu26 := Try.underlying26
  have HCC := Aside0.mk hc
  clear hc
  go_enter Try.func34, Try.ntmps34
  go_upto_region 2 with (fail)
  refine spec_l16Loss.wp_gen (fun W => spec_l16Loss.LS w W w_ s m o si n c w_ s m o si n c) ⟨?_, ?_, ?_, ?_⟩ ?_
  case refine_1 => exact blk_alloc (blk_alloc (blk_new _ _) _) _
  case refine_2 => exact blk_alloc (spec_l16Loss.blk_new_at _ _ _ (by simp)) _
  case refine_3 => exact spec_l16Loss.blk_new_at _ _ _ (by simp)
  case refine_4 => with_reducible (repeat (first | exact Below.refl _ _ | apply pw_below_drewN | apply below_drew1 | apply below_alloc))
  rintro W ⟨hc, hr, ho, hb⟩
  have HC := Aside0.mk hc; have HR := Aside0.mk hr; have HO := Aside0.mk ho; have HB := Aside0.mk hb
  have c0 := blk_cell hc 0
  have o0 := blk_cell ho 0
  have fo0 := blk_frozen ho 0
  have fr0 := blk_frozen hr 0
  have r0 := blk_cell hr 0
  have c1 := blk_cell hc 1
  have o1 := blk_cell ho 1
  have fo1 := blk_frozen ho 1
  have fr1 := blk_frozen hr 1
  have r1 := blk_cell hr 1
  have c2 := blk_cell hc 2
  have o2 := blk_cell ho 2
  have fo2 := blk_frozen ho 2
  have fr2 := blk_frozen hr 2
  have r2 := blk_cell hr 2
  have c3 := blk_cell hc 3
  have o3 := blk_cell ho 3
  have fo3 := blk_frozen ho 3
  have fr3 := blk_frozen hr 3
  have r3 := blk_cell hr 3
  have c4 := blk_cell hc 4
  have o4 := blk_cell ho 4
  have fo4 := blk_frozen ho 4
  have fr4 := blk_frozen hr 4
  have r4 := blk_cell hr 4
  have c5 := blk_cell hc 5
  have o5 := blk_cell ho 5
  have fo5 := blk_frozen ho 5
  have fr5 := blk_frozen hr 5
  have r5 := blk_cell hr 5
  have c6 := blk_cell hc 6
  have o6 := blk_cell ho 6
  have fo6 := blk_frozen ho 6
  have fr6 := blk_frozen hr 6
  have r6 := blk_cell hr 6
  clear hc hr ho hb

  go_wp2_with (first | (go_at_call 41; ((with_reducible refine (spec_l16Root.calls k _ _ _ HCC.out).mono ?_); rintro e w' ⟨rfl, ⟨nd, rfl⟩⟩)))
  refine bodyPost_ret (results_cell_row rfl _ _ (w.heap.size + 1) 26 #[.int .i64 mw, .int .i64 mw, .int .i64 (w_ * 17 / 20), .int .i64 r, .int .i64 n, .int .i64 n, .int .i64 0] (0, 0) _ rfl (by refine blk_put (cs := #[.int .i64 mw, .int .i64 mw, .int .i64 (w_ * 17 / 20), .int .i64 r, .int .i64 n, .int .i64 n, .int .i64 0]) ?_ 6 _ rfl; refine blk_put (cs := #[.int .i64 mw, .int .i64 mw, .int .i64 (w_ * 17 / 20), .int .i64 r, .int .i64 n, .int .i64 0, .int .i64 0]) ?_ 5 _ rfl; refine blk_put (cs := #[.int .i64 mw, .int .i64 mw, .int .i64 (w_ * 17 / 20), .int .i64 r, .int .i64 0, .int .i64 0, .int .i64 0]) ?_ 4 _ rfl; refine blk_put (cs := #[.int .i64 mw, .int .i64 mw, .int .i64 (w_ * 17 / 20), .int .i64 0, .int .i64 0, .int .i64 0, .int .i64 0]) ?_ 3 _ rfl; refine blk_put (cs := #[.int .i64 mw, .int .i64 mw, .int .i64 0, .int .i64 0, .int .i64 0, .int .i64 0, .int .i64 0]) ?_ 2 _ rfl; refine blk_put (cs := #[.int .i64 mw, .int .i64 0, .int .i64 0, .int .i64 0, .int .i64 0, .int .i64 0, .int .i64 0]) ?_ 1 _ rfl; refine blk_put (cs := #[.int .i64 0, .int .i64 0, .int .i64 0, .int .i64 0, .int .i64 0, .int .i64 0, .int .i64 0]) ?_ 0 _ rfl; (with_reducible (repeat (first | refine blk_drewN ?_ _ | refine blk_drew ?_ | refine blk_far ?_ (by simp) _))); exact HR.out) Try.underlying26 rfl (by kernel_rfl)) rfl ?_
  exact ⟨rfl, by with_reducible (repeat (first | exact HB.out | refine below_set ?_ (by omega) | apply pw_below_drewN | apply below_drew1))⟩
set_option maxHeartbeats 2000000 in
set_option maxRecDepth 100000 in
theorem spec_l16Loss.loss_n (k : Nat) (w_ s m o si n c r mw dd : Int) (w : World) (hm : ¬ w_ < m) (h1 : 1 ≤ w_) (h2 : w_ ≤ 100000) (h3 : 0 ≤ m) (h4 : m ≤ 100000)
    (hmw : (if 2 < w_ * 7 / 10 then w_ * 7 / 10 else 2) = mw) (hmw1 : 2 ≤ mw) (hmw2 : mw ≤ 100000) (hdd : (if mw < w_ then w_ - mw else 0) = dd) (hd0 : 0 ≤ dd) (hd1 : dd ≤ 100000)
    (hc : spec_l16Root.f k (dd * 10 / 4 * 1000000000) = some r) :
    Calls Try.prog 34 #[.agg #[.int .i64 w_, .int .i64 s, .int .i64 m, .int .i64 o, .int .i64 si, .int .i64 n, .int .i64 c]] w fun e w' => e = .returned (.agg #[.int .i64 mw, .int .i64 mw, .int .i64 (w_), .int .i64 r, .int .i64 n, .int .i64 n, .int .i64 0]) ∧ Below w.heap.size w w' := by
  have hu26 := Try.underlying26
  have HCC := Aside0.mk hc
  clear hc
  go_enter Try.func34, Try.ntmps34
  go_upto_region 2 with (fail)
  refine spec_l16Loss.wp_gen (fun W => spec_l16Loss.LS w W w_ s m o si n c w_ s m o si n c) ⟨?_, ?_, ?_, ?_⟩ ?_
  case refine_1 => exact blk_alloc (blk_alloc (blk_new _ _) _) _
  case refine_2 => exact blk_alloc (spec_l16Loss.blk_new_at _ _ _ (by simp)) _
  case refine_3 => exact spec_l16Loss.blk_new_at _ _ _ (by simp)
  case refine_4 => with_reducible (repeat (first | exact Below.refl _ _ | apply pw_below_drewN | apply below_drew1 | apply below_alloc))
  rintro W ⟨hc, hr, ho, hb⟩
  have HC := Aside0.mk hc; have HR := Aside0.mk hr; have HO := Aside0.mk ho; have HB := Aside0.mk hb
  have c0 := blk_cell hc 0
  have o0 := blk_cell ho 0
  have fo0 := blk_frozen ho 0
  have fr0 := blk_frozen hr 0
  have r0 := blk_cell hr 0
  have c1 := blk_cell hc 1
  have o1 := blk_cell ho 1
  have fo1 := blk_frozen ho 1
  have fr1 := blk_frozen hr 1
  have r1 := blk_cell hr 1
  have c2 := blk_cell hc 2
  have o2 := blk_cell ho 2
  have fo2 := blk_frozen ho 2
  have fr2 := blk_frozen hr 2
  have r2 := blk_cell hr 2
  have c3 := blk_cell hc 3
  have o3 := blk_cell ho 3
  have fo3 := blk_frozen ho 3
  have fr3 := blk_frozen hr 3
  have r3 := blk_cell hr 3
  have c4 := blk_cell hc 4
  have o4 := blk_cell ho 4
  have fo4 := blk_frozen ho 4
  have fr4 := blk_frozen hr 4
  have r4 := blk_cell hr 4
  have c5 := blk_cell hc 5
  have o5 := blk_cell ho 5
  have fo5 := blk_frozen ho 5
  have fr5 := blk_frozen hr 5
  have r5 := blk_cell hr 5
  have c6 := blk_cell hc 6
  have o6 := blk_cell ho 6
  have fo6 := blk_frozen ho 6
  have fr6 := blk_frozen hr 6
  have r6 := blk_cell hr 6
  clear hc hr ho hb

  go_wp2_with (first | (go_at_call 41; ((with_reducible refine (spec_l16Root.calls k _ _ _ HCC.out).mono ?_); rintro e w' ⟨rfl, ⟨nd, rfl⟩⟩)))
  refine bodyPost_ret (results_cell_row rfl _ _ (w.heap.size + 1) 26 #[.int .i64 mw, .int .i64 mw, .int .i64 (w_), .int .i64 r, .int .i64 n, .int .i64 n, .int .i64 0] (0, 0) _ rfl (by refine blk_put (cs := #[.int .i64 mw, .int .i64 mw, .int .i64 (w_), .int .i64 r, .int .i64 n, .int .i64 n, .int .i64 0]) ?_ 6 _ rfl; refine blk_put (cs := #[.int .i64 mw, .int .i64 mw, .int .i64 (w_), .int .i64 r, .int .i64 n, .int .i64 0, .int .i64 0]) ?_ 5 _ rfl; refine blk_put (cs := #[.int .i64 mw, .int .i64 mw, .int .i64 (w_), .int .i64 r, .int .i64 0, .int .i64 0, .int .i64 0]) ?_ 4 _ rfl; refine blk_put (cs := #[.int .i64 mw, .int .i64 mw, .int .i64 (w_), .int .i64 0, .int .i64 0, .int .i64 0, .int .i64 0]) ?_ 3 _ rfl; refine blk_put (cs := #[.int .i64 mw, .int .i64 mw, .int .i64 0, .int .i64 0, .int .i64 0, .int .i64 0, .int .i64 0]) ?_ 2 _ rfl; refine blk_put (cs := #[.int .i64 mw, .int .i64 0, .int .i64 0, .int .i64 0, .int .i64 0, .int .i64 0, .int .i64 0]) ?_ 1 _ rfl; refine blk_put (cs := #[.int .i64 0, .int .i64 0, .int .i64 0, .int .i64 0, .int .i64 0, .int .i64 0, .int .i64 0]) ?_ 0 _ rfl; (with_reducible (repeat (first | refine blk_drewN ?_ _ | refine blk_drew ?_ | refine blk_far ?_ (by simp) _))); exact HR.out) Try.underlying26 rfl (by kernel_rfl)) rfl ?_
  exact ⟨rfl, by with_reducible (repeat (first | exact HB.out | refine below_set ?_ (by omega) | apply pw_below_drewN | apply below_drew1))⟩

set_option maxHeartbeats 8000000 in
set_option maxRecDepth 100000 in
theorem spec_l16Loss.calls (k : Nat) (a0_0 : Int) (a0_1 : Int) (a0_2 : Int) (a0_3 : Int) (a0_4 : Int) (a0_5 : Int) (a0_6 : Int) (r1 : Int) (r2 : Int) (r3 : Int) (r4 : Int) (r5 : Int) (r6 : Int) (r7 : Int) (w : World) (h : spec_l16Loss.f k a0_0 a0_1 a0_2 a0_3 a0_4 a0_5 a0_6 = some (r1, r2, r3, r4, r5, r6, r7)) :
    Calls Try.prog 34 #[.agg #[.int .i64 a0_0, .int .i64 a0_1, .int .i64 a0_2, .int .i64 a0_3, .int .i64 a0_4, .int .i64 a0_5, .int .i64 a0_6]] w fun e w' => e = .returned (.agg #[.int .i64 r1, .int .i64 r2, .int .i64 r3, .int .i64 r4, .int .i64 r5, .int .i64 r6, .int .i64 r7]) ∧ Below w.heap.size w w' := by
  unfold spec_l16Loss.f at h
  by_cases hb : 1 ≤ a0_0 ∧ a0_0 ≤ 100000 ∧ 0 ≤ a0_2 ∧ a0_2 ≤ 100000
  case neg => rw [if_neg hb] at h; cases h
  rw [if_pos hb] at h
  obtain ⟨h1, h2, h3, h4⟩ := hb
  by_cases hm : a0_0 < a0_2
  · rw [if_pos hm] at h
    obtain ⟨r, hc, h⟩ := Option.bind_eq_some_iff.mp h
    simp only [Option.some.injEq, Prod.mk.injEq] at h
    obtain ⟨rfl, rfl, rfl, rfl, rfl, rfl, rfl⟩ := h
    exact spec_l16Loss.loss_m k _ _ _ _ _ _ _ _ _ _ w hm h1 h2 h3 h4 rfl (by split <;> omega) (by split <;> omega) rfl (by split <;> omega) (by (repeat' split) <;> omega) hc
  · rw [if_neg hm] at h
    obtain ⟨r, hc, h⟩ := Option.bind_eq_some_iff.mp h
    simp only [Option.some.injEq, Prod.mk.injEq] at h
    obtain ⟨rfl, rfl, rfl, rfl, rfl, rfl, rfl⟩ := h
    exact spec_l16Loss.loss_n k _ _ _ _ _ _ _ _ _ _ w hm h1 h2 h3 h4 rfl (by split <;> omega) (by split <;> omega) rfl (by split <;> omega) (by (repeat' split) <;> omega) hc

end Go.Proofs.Ytjfbeakmpmjadaa.PWin
