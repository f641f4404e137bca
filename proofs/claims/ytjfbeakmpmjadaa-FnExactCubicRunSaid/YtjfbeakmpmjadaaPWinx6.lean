-- Written by plug.py, a program of this work, over the kit's printing program: the functions that it prints, and this work's own proofs of those that it does not.
import Derived.Test.YtjfbeakmpmjadaaPWinx0
import Derived.Test.YtjfbeakmpmjadaaPWinx2
import Derived.Test.YtjfbeakmpmjadaaPWinx3
import Derived.Test.YtjfbeakmpmjadaaPWinx5
namespace Go.Proofs.Ytjfbeakmpmjadaa.PWin
open Go.RowKit Go.Proofs.YtjfbeakmpmjadaaW.PrintWords Go.Proofs.YtjfbeakmpmjadaaW.PrintLast Go.Proofs.YtjfbeakmpmjadaaW.PrintMore
attribute [local go_sem] max2_int min2_int max_two min_two max_three min_three max_four min_four   -- for this text's walks alone
set_option linter.unusedVariables false
set_option linter.unusedSimpArgs false

/-! ### spec_l16Step: function 25 -/
def spec_l16Step.f (k : Nat) (a0 a1 a2 a3 a4 a5 a6 b0 b1 : Int) : Option (Int × Int × Int × Int × Int × Int × Int × Int) :=
  if b0 = 1 then (if 0 ≤ b1 ∧ b1 ≤ 1000 then (spec_l16Ack.f k a0 a1 a2 a3 a4 a5 a6 b1).bind fun r => some (r.1, r.2.1, r.2.2.1, r.2.2.2.1, r.2.2.2.2.1, r.2.2.2.2.2.1, r.2.2.2.2.2.2, 0) else some (a0, a1, a2, a3, a4, a5, a6, 4))
  else if b0 = 2 then (spec_l16Loss.f k a0 a1 a2 a3 a4 a5 a6).bind fun r => some (r.1, r.2.1, r.2.2.1, r.2.2.2.1, r.2.2.2.2.1, r.2.2.2.2.2.1, r.2.2.2.2.2.2, 0)
  else if b0 = 3 then (spec_l16Loss.f k a0 a1 a2 a3 a4 a5 a6).bind fun r => some (1, r.2.1, r.2.2.1, r.2.2.2.1, r.2.2.2.2.1, r.2.2.2.2.2.1, r.2.2.2.2.2.2, 0)
  else if b0 = 4 then (if 0 ≤ a5 ∧ a5 ≤ 1000000 then (if 0 ≤ b1 ∧ b1 ≤ 1000000 - a5 then some (a0, a1, a2, a3, a4, a5 + b1, a6, 0) else some (a0, a1, a2, a3, a4, a5, a6, 4)) else none)
  else some (a0, a1, a2, a3, a4, a5, a6, 3)
theorem spec_l16Step.mono : ∀ a0 a1 a2 a3 a4 a5 a6 a7 a8 k, LeO (spec_l16Step.f k a0 a1 a2 a3 a4 a5 a6 a7 a8) (spec_l16Step.f (k + 1) a0 a1 a2 a3 a4 a5 a6 a7 a8) := by
  intro a0 a1 a2 a3 a4 a5 a6 a7 a8 k
  unfold spec_l16Step.f
  exact LeO.ite (LeO.ite (LeO.bind (spec_l16Ack.mono _ _ _ _ _ _ _ _ _) (fun _ => LeO.refl _)) (LeO.refl _)) (LeO.ite (LeO.bind (spec_l16Loss.mono _ _ _ _ _ _ _ _) (fun _ => LeO.refl _)) (LeO.ite (LeO.bind (spec_l16Loss.mono _ _ _ _ _ _ _ _) (fun _ => LeO.refl _)) (LeO.refl _)))

theorem spec_l16Step.wp_gen7 {P : Program} {c : Code} {Q : Exit → Act → World → Prop} {a : Act} {w1 : World} (F : World → Prop) (hF : F w1) (h : ∀ W, F W → Code.wp P c Q a W) : Code.wp P c Q a w1 := h _ hF
theorem spec_l16Step.blk_new_at7 (w : World) (o : Obj) (n : Nat) (h : n = w.heap.size) : (w.alloc o).heap[n]? = some o := by subst h; exact blk_new w o
structure spec_l16Step.SS7 (w W : World) (a0 a1 a2 a3 a4 a5 a6 b0 b1 : Int) : Prop where
  hc : W.heap[w.heap.size]? = some (.cells #[.int .i64 a0, .int .i64 a1, .int .i64 a2, .int .i64 a3, .int .i64 a4, .int .i64 a5, .int .i64 a6] 26 (0, 0))
  ha : W.heap[w.heap.size + 1]? = some (.cells #[.int .i64 b0, .int .i64 b1] 30 (0, 0))
  hr : W.heap[w.heap.size + 2]? = some (.cells #[.int .i64 0, .int .i64 0, .int .i64 0, .int .i64 0, .int .i64 0, .int .i64 0, .int .i64 0] 26 (0, 0))
  hb : Below w.heap.size w W
theorem spec_l16Step.SS7.below {w W W1 : World} {a0 a1 a2 a3 a4 a5 a6 b0 b1 : Int} (h : spec_l16Step.SS7 w W a0 a1 a2 a3 a4 a5 a6 b0 b1) (hb : Below W.heap.size W W1) : spec_l16Step.SS7 w W1 a0 a1 a2 a3 a4 a5 a6 b0 b1 :=
  ⟨blk_below h.hc hb, blk_below h.ha hb, blk_below h.hr hb, below_then h.hb h.hb.size hb⟩
theorem spec_l16Step.SS7.drewN {w W : World} {a0 a1 a2 a3 a4 a5 a6 b0 b1 : Int} (h : spec_l16Step.SS7 w W a0 a1 a2 a3 a4 a5 a6 b0 b1) (n : Nat) : spec_l16Step.SS7 w (W.drewN n) a0 a1 a2 a3 a4 a5 a6 b0 b1 := ⟨blk_drewN h.hc _, blk_drewN h.ha _, blk_drewN h.hr _, pw_below_drewN h.hb _⟩
set_option maxHeartbeats 2000000 in
set_option maxRecDepth 100000 in
theorem spec_l16Step.st_ackbad (k : Nat) (a0 a1 a2 a3 a4 a5 a6 b1 : Int) (w : World) (h : spec_l01In.f b1 0 1000 = some false) :
    Calls Try.prog 25 #[.agg #[.int .i64 a0, .int .i64 a1, .int .i64 a2, .int .i64 a3, .int .i64 a4, .int .i64 a5, .int .i64 a6], .agg #[.int .i64 1, .int .i64 b1]] w fun e w' => e = .returned (.tuple #[.agg #[.int .i64 a0, .int .i64 a1, .int .i64 a2, .int .i64 a3, .int .i64 a4, .int .i64 a5, .int .i64 a6], .int .i64 4]) ∧ Below w.heap.size w w' := by
  have hu26 := Try.underlying26
  have hu30 := Try.underlying30
  have HI := Aside0.mk h
  clear h
  go_enter Try.func25, Try.ntmps25
  go_upto_region 1 with (fail)
  refine spec_l16Step.wp_gen7 (fun W => spec_l16Step.SS7 w W a0 a1 a2 a3 a4 a5 a6 1 b1) ⟨blk_alloc (blk_alloc (blk_new _ _) _) _, blk_alloc (spec_l16Step.blk_new_at7 _ _ _ (by simp)) _, spec_l16Step.blk_new_at7 _ _ _ (by simp), by with_reducible (repeat (first | exact Below.refl _ _ | apply pw_below_drewN | apply below_drew1 | apply below_alloc))⟩ ?_
  rintro W hS
  have HS := Aside0.mk hS
  obtain ⟨hc, ha, hr, hb⟩ := hS
  have hsz := blk_lt hr
  have c0 := blk_cell hc 0
  have c1 := blk_cell hc 1
  have c2 := blk_cell hc 2
  have c3 := blk_cell hc 3
  have c4 := blk_cell hc 4
  have c5 := blk_cell hc 5
  have c6 := blk_cell hc 6
  have g0 := blk_frozen hc 0
  have g1 := blk_frozen hc 1
  have g2 := blk_frozen hc 2
  have g3 := blk_frozen hc 3
  have g4 := blk_frozen hc 4
  have g5 := blk_frozen hc 5
  have g6 := blk_frozen hc 6
  have q0 := blk_cell ha 0
  have q1 := blk_cell ha 1
  have x0 := blk_cell hr 0
  have x1 := blk_cell hr 1
  have x2 := blk_cell hr 2
  have x3 := blk_cell hr 3
  have x4 := blk_cell hr 4
  have x5 := blk_cell hr 5
  have x6 := blk_cell hr 6
  have f0 := blk_frozen hr 0
  have f1 := blk_frozen hr 1
  have f2 := blk_frozen hr 2
  have f3 := blk_frozen hr 3
  have f4 := blk_frozen hr 4
  have f5 := blk_frozen hr 5
  have f6 := blk_frozen hr 6
  clear hc ha hr hb
  go_wp2_with ((go_at_call 32; ((with_reducible refine (spec_l01In.calls _ _ _ false _ HI.out).mono ?_); rintro e w' ⟨rfl, ⟨nd, rfl⟩⟩)))
  refine bodyPost_ret (results_ct rfl _ _ (w.heap.size + 2) 26 #[.int .i64 a0, .int .i64 a1, .int .i64 a2, .int .i64 a3, .int .i64 a4, .int .i64 a5, .int .i64 a6] (0, 0) _ rfl (by (with_reducible repeat (first | refine blk_drewN ?_ _ | refine blk_alloc ?_ _)); refine blk_put (cs := #[.int .i64 a0, .int .i64 a1, .int .i64 a2, .int .i64 a3, .int .i64 a4, .int .i64 a5, .int .i64 0]) ?_ 6 _ rfl; refine blk_put (cs := #[.int .i64 a0, .int .i64 a1, .int .i64 a2, .int .i64 a3, .int .i64 a4, .int .i64 0, .int .i64 0]) ?_ 5 _ rfl; refine blk_put (cs := #[.int .i64 a0, .int .i64 a1, .int .i64 a2, .int .i64 a3, .int .i64 0, .int .i64 0, .int .i64 0]) ?_ 4 _ rfl; refine blk_put (cs := #[.int .i64 a0, .int .i64 a1, .int .i64 a2, .int .i64 0, .int .i64 0, .int .i64 0, .int .i64 0]) ?_ 3 _ rfl; refine blk_put (cs := #[.int .i64 a0, .int .i64 a1, .int .i64 0, .int .i64 0, .int .i64 0, .int .i64 0, .int .i64 0]) ?_ 2 _ rfl; refine blk_put (cs := #[.int .i64 a0, .int .i64 0, .int .i64 0, .int .i64 0, .int .i64 0, .int .i64 0, .int .i64 0]) ?_ 1 _ rfl; refine blk_put (cs := #[.int .i64 0, .int .i64 0, .int .i64 0, .int .i64 0, .int .i64 0, .int .i64 0, .int .i64 0]) ?_ 0 _ rfl; (with_reducible repeat (first | refine blk_drewN ?_ _ | refine blk_drew ?_ | refine blk_alloc ?_ _ | refine blk_far ?_ (by first | (simp; done) | (simp; omega) | omega) _)); exact HS.out.hr) Try.underlying26 rfl (by kernel_rfl)) rfl ?_
  exact ⟨rfl, by with_reducible (repeat (first | exact HS.out.hb | refine below_set ?_ (by omega) | apply below_alloc | apply pw_below_drewN | apply below_drew1))⟩
set_option maxHeartbeats 2000000 in
set_option maxRecDepth 100000 in
theorem spec_l16Step.st_ack (k : Nat) (a0 a1 a2 a3 a4 a5 a6 b1 r1 r2 r3 r4 r5 r6 r7 : Int) (w : World) (h : spec_l01In.f b1 0 1000 = some true) (hc : spec_l16Ack.f k a0 a1 a2 a3 a4 a5 a6 b1 = some (r1, r2, r3, r4, r5, r6, r7)) :
    Calls Try.prog 25 #[.agg #[.int .i64 a0, .int .i64 a1, .int .i64 a2, .int .i64 a3, .int .i64 a4, .int .i64 a5, .int .i64 a6], .agg #[.int .i64 1, .int .i64 b1]] w fun e w' => e = .returned (.tuple #[.agg #[.int .i64 r1, .int .i64 r2, .int .i64 r3, .int .i64 r4, .int .i64 r5, .int .i64 r6, .int .i64 r7], .int .i64 0]) ∧ Below w.heap.size w w' := by
  have hu26 := Try.underlying26
  have hu30 := Try.underlying30
  have HI := Aside0.mk h
  have HC := Aside0.mk hc
  clear h hc
  go_enter Try.func25, Try.ntmps25
  go_upto_region 1 with (fail)
  refine spec_l16Step.wp_gen7 (fun W => spec_l16Step.SS7 w W a0 a1 a2 a3 a4 a5 a6 1 b1) ⟨blk_alloc (blk_alloc (blk_new _ _) _) _, blk_alloc (spec_l16Step.blk_new_at7 _ _ _ (by simp)) _, spec_l16Step.blk_new_at7 _ _ _ (by simp), by with_reducible (repeat (first | exact Below.refl _ _ | apply pw_below_drewN | apply below_drew1 | apply below_alloc))⟩ ?_
  rintro W hS
  have HS := Aside0.mk hS
  obtain ⟨hc, ha, hr, hb⟩ := hS
  have hsz := blk_lt hr
  have c0 := blk_cell hc 0
  have c1 := blk_cell hc 1
  have c2 := blk_cell hc 2
  have c3 := blk_cell hc 3
  have c4 := blk_cell hc 4
  have c5 := blk_cell hc 5
  have c6 := blk_cell hc 6
  have g0 := blk_frozen hc 0
  have g1 := blk_frozen hc 1
  have g2 := blk_frozen hc 2
  have g3 := blk_frozen hc 3
  have g4 := blk_frozen hc 4
  have g5 := blk_frozen hc 5
  have g6 := blk_frozen hc 6
  have q0 := blk_cell ha 0
  have q1 := blk_cell ha 1
  have x0 := blk_cell hr 0
  have x1 := blk_cell hr 1
  have x2 := blk_cell hr 2
  have x3 := blk_cell hr 3
  have x4 := blk_cell hr 4
  have x5 := blk_cell hr 5
  have x6 := blk_cell hr 6
  have f0 := blk_frozen hr 0
  have f1 := blk_frozen hr 1
  have f2 := blk_frozen hr 2
  have f3 := blk_frozen hr 3
  have f4 := blk_frozen hr 4
  have f5 := blk_frozen hr 5
  have f6 := blk_frozen hr 6
  clear hc ha hr hb
  go_wp2_with (first | (go_at_call 32; ((with_reducible refine (spec_l01In.calls _ _ _ true _ HI.out).mono ?_); rintro e w' ⟨rfl, ⟨nd, rfl⟩⟩)) | (go_at_call 33; ((with_reducible refine (spec_l16Ack.calls k _ _ _ _ _ _ _ _ _ _ _ _ _ _ _ _ HC.out).mono ?_); rintro e w1 ⟨rfl, hbel⟩; clear x0 f0 x1 f1 x2 f2 x3 f3 x4 f4 x5 f5 x6 f6; have HS1 := Aside0.mk (spec_l16Step.SS7.below (by first | exact HS.out.drewN _ | exact HS.out) hbel); clear HS; have HS := HS1; clear HS1; have x0_ := blk_cell HS.out.hr 0; have f0_ := blk_frozen HS.out.hr 0; have x1_ := blk_cell HS.out.hr 1; have f1_ := blk_frozen HS.out.hr 1; have x2_ := blk_cell HS.out.hr 2; have f2_ := blk_frozen HS.out.hr 2; have x3_ := blk_cell HS.out.hr 3; have f3_ := blk_frozen HS.out.hr 3; have x4_ := blk_cell HS.out.hr 4; have f4_ := blk_frozen HS.out.hr 4; have x5_ := blk_cell HS.out.hr 5; have f5_ := blk_frozen HS.out.hr 5; have x6_ := blk_cell HS.out.hr 6; have f6_ := blk_frozen HS.out.hr 6; have hsz1 := blk_lt HS.out.hr; clear hbel)))
  refine bodyPost_ret (results_ct rfl _ _ (w.heap.size + 2) 26 #[.int .i64 r1, .int .i64 r2, .int .i64 r3, .int .i64 r4, .int .i64 r5, .int .i64 r6, .int .i64 r7] (0, 0) _ rfl (by (with_reducible repeat (first | refine blk_drewN ?_ _ | refine blk_alloc ?_ _)); refine blk_put (cs := #[.int .i64 r1, .int .i64 r2, .int .i64 r3, .int .i64 r4, .int .i64 r5, .int .i64 r6, .int .i64 0]) ?_ 6 _ rfl; refine blk_put (cs := #[.int .i64 r1, .int .i64 r2, .int .i64 r3, .int .i64 r4, .int .i64 r5, .int .i64 0, .int .i64 0]) ?_ 5 _ rfl; refine blk_put (cs := #[.int .i64 r1, .int .i64 r2, .int .i64 r3, .int .i64 r4, .int .i64 0, .int .i64 0, .int .i64 0]) ?_ 4 _ rfl; refine blk_put (cs := #[.int .i64 r1, .int .i64 r2, .int .i64 r3, .int .i64 0, .int .i64 0, .int .i64 0, .int .i64 0]) ?_ 3 _ rfl; refine blk_put (cs := #[.int .i64 r1, .int .i64 r2, .int .i64 0, .int .i64 0, .int .i64 0, .int .i64 0, .int .i64 0]) ?_ 2 _ rfl; refine blk_put (cs := #[.int .i64 r1, .int .i64 0, .int .i64 0, .int .i64 0, .int .i64 0, .int .i64 0, .int .i64 0]) ?_ 1 _ rfl; refine blk_put (cs := #[.int .i64 0, .int .i64 0, .int .i64 0, .int .i64 0, .int .i64 0, .int .i64 0, .int .i64 0]) ?_ 0 _ rfl; (with_reducible repeat (first | refine blk_drewN ?_ _ | refine blk_drew ?_ | refine blk_alloc ?_ _ | refine blk_far ?_ (by first | (simp; done) | (simp; omega) | omega) _)); exact HS.out.hr) Try.underlying26 rfl (by kernel_rfl)) rfl ?_
  exact ⟨rfl, by with_reducible (repeat (first | exact HS.out.hb | refine below_set ?_ (by omega) | apply below_alloc | apply pw_below_drewN | apply below_drew1))⟩
set_option maxHeartbeats 2000000 in
set_option maxRecDepth 100000 in
theorem spec_l16Step.st_loss (k : Nat) (a0 a1 a2 a3 a4 a5 a6 b1 r1 r2 r3 r4 r5 r6 r7 : Int) (w : World) (hc : spec_l16Loss.f k a0 a1 a2 a3 a4 a5 a6 = some (r1, r2, r3, r4, r5, r6, r7)) :
    Calls Try.prog 25 #[.agg #[.int .i64 a0, .int .i64 a1, .int .i64 a2, .int .i64 a3, .int .i64 a4, .int .i64 a5, .int .i64 a6], .agg #[.int .i64 2, .int .i64 b1]] w fun e w' => e = .returned (.tuple #[.agg #[.int .i64 r1, .int .i64 r2, .int .i64 r3, .int .i64 r4, .int .i64 r5, .int .i64 r6, .int .i64 r7], .int .i64 0]) ∧ Below w.heap.size w w' := by
  have hu26 := Try.underlying26
  have hu30 := Try.underlying30
  have HC := Aside0.mk hc
  clear hc
  go_enter Try.func25, Try.ntmps25
  go_upto_region 1 with (fail)
  refine spec_l16Step.wp_gen7 (fun W => spec_l16Step.SS7 w W a0 a1 a2 a3 a4 a5 a6 2 b1) ⟨blk_alloc (blk_alloc (blk_new _ _) _) _, blk_alloc (spec_l16Step.blk_new_at7 _ _ _ (by simp)) _, spec_l16Step.blk_new_at7 _ _ _ (by simp), by with_reducible (repeat (first | exact Below.refl _ _ | apply pw_below_drewN | apply below_drew1 | apply below_alloc))⟩ ?_
  rintro W hS
  have HS := Aside0.mk hS
  obtain ⟨hc, ha, hr, hb⟩ := hS
  have hsz := blk_lt hr
  have c0 := blk_cell hc 0
  have c1 := blk_cell hc 1
  have c2 := blk_cell hc 2
  have c3 := blk_cell hc 3
  have c4 := blk_cell hc 4
  have c5 := blk_cell hc 5
  have c6 := blk_cell hc 6
  have g0 := blk_frozen hc 0
  have g1 := blk_frozen hc 1
  have g2 := blk_frozen hc 2
  have g3 := blk_frozen hc 3
  have g4 := blk_frozen hc 4
  have g5 := blk_frozen hc 5
  have g6 := blk_frozen hc 6
  have q0 := blk_cell ha 0
  have q1 := blk_cell ha 1
  have x0 := blk_cell hr 0
  have x1 := blk_cell hr 1
  have x2 := blk_cell hr 2
  have x3 := blk_cell hr 3
  have x4 := blk_cell hr 4
  have x5 := blk_cell hr 5
  have x6 := blk_cell hr 6
  have f0 := blk_frozen hr 0
  have f1 := blk_frozen hr 1
  have f2 := blk_frozen hr 2
  have f3 := blk_frozen hr 3
  have f4 := blk_frozen hr 4
  have f5 := blk_frozen hr 5
  have f6 := blk_frozen hr 6
  clear hc ha hr hb
  go_wp2_with ((go_at_call 34; ((with_reducible refine (spec_l16Loss.calls k _ _ _ _ _ _ _ _ _ _ _ _ _ _ _ HC.out).mono ?_); rintro e w1 ⟨rfl, hbel⟩; clear x0 f0 x1 f1 x2 f2 x3 f3 x4 f4 x5 f5 x6 f6; have HS1 := Aside0.mk (spec_l16Step.SS7.below (by first | exact HS.out.drewN _ | exact HS.out) hbel); clear HS; have HS := HS1; clear HS1; have x0_ := blk_cell HS.out.hr 0; have f0_ := blk_frozen HS.out.hr 0; have x1_ := blk_cell HS.out.hr 1; have f1_ := blk_frozen HS.out.hr 1; have x2_ := blk_cell HS.out.hr 2; have f2_ := blk_frozen HS.out.hr 2; have x3_ := blk_cell HS.out.hr 3; have f3_ := blk_frozen HS.out.hr 3; have x4_ := blk_cell HS.out.hr 4; have f4_ := blk_frozen HS.out.hr 4; have x5_ := blk_cell HS.out.hr 5; have f5_ := blk_frozen HS.out.hr 5; have x6_ := blk_cell HS.out.hr 6; have f6_ := blk_frozen HS.out.hr 6; have hsz1 := blk_lt HS.out.hr; clear hbel)))
  refine bodyPost_ret (results_ct rfl _ _ (w.heap.size + 2) 26 #[.int .i64 r1, .int .i64 r2, .int .i64 r3, .int .i64 r4, .int .i64 r5, .int .i64 r6, .int .i64 r7] (0, 0) _ rfl (by (with_reducible repeat (first | refine blk_drewN ?_ _ | refine blk_alloc ?_ _)); refine blk_put (cs := #[.int .i64 r1, .int .i64 r2, .int .i64 r3, .int .i64 r4, .int .i64 r5, .int .i64 r6, .int .i64 0]) ?_ 6 _ rfl; refine blk_put (cs := #[.int .i64 r1, .int .i64 r2, .int .i64 r3, .int .i64 r4, .int .i64 r5, .int .i64 0, .int .i64 0]) ?_ 5 _ rfl; refine blk_put (cs := #[.int .i64 r1, .int .i64 r2, .int .i64 r3, .int .i64 r4, .int .i64 0, .int .i64 0, .int .i64 0]) ?_ 4 _ rfl; refine blk_put (cs := #[.int .i64 r1, .int .i64 r2, .int .i64 r3, .int .i64 0, .int .i64 0, .int .i64 0, .int .i64 0]) ?_ 3 _ rfl; refine blk_put (cs := #[.int .i64 r1, .int .i64 r2, .int .i64 0, .int .i64 0, .int .i64 0, .int .i64 0, .int .i64 0]) ?_ 2 _ rfl; refine blk_put (cs := #[.int .i64 r1, .int .i64 0, .int .i64 0, .int .i64 0, .int .i64 0, .int .i64 0, .int .i64 0]) ?_ 1 _ rfl; refine blk_put (cs := #[.int .i64 0, .int .i64 0, .int .i64 0, .int .i64 0, .int .i64 0, .int .i64 0, .int .i64 0]) ?_ 0 _ rfl; (with_reducible repeat (first | refine blk_drewN ?_ _ | refine blk_drew ?_ | refine blk_alloc ?_ _ | refine blk_far ?_ (by first | (simp; done) | (simp; omega) | omega) _)); exact HS.out.hr) Try.underlying26 rfl (by kernel_rfl)) rfl ?_
  exact ⟨rfl, by with_reducible (repeat (first | exact HS.out.hb | refine below_set ?_ (by omega) | apply below_alloc | apply pw_below_drewN | apply below_drew1))⟩
set_option maxHeartbeats 2000000 in
set_option maxRecDepth 100000 in
theorem spec_l16Step.st_to (k : Nat) (a0 a1 a2 a3 a4 a5 a6 b1 r1 r2 r3 r4 r5 r6 r7 : Int) (w : World) (hc : spec_l16Loss.f k a0 a1 a2 a3 a4 a5 a6 = some (r1, r2, r3, r4, r5, r6, r7)) :
    Calls Try.prog 25 #[.agg #[.int .i64 a0, .int .i64 a1, .int .i64 a2, .int .i64 a3, .int .i64 a4, .int .i64 a5, .int .i64 a6], .agg #[.int .i64 3, .int .i64 b1]] w fun e w' => e = .returned (.tuple #[.agg #[.int .i64 1, .int .i64 r2, .int .i64 r3, .int .i64 r4, .int .i64 r5, .int .i64 r6, .int .i64 r7], .int .i64 0]) ∧ Below w.heap.size w w' := by
  have hu26 := Try.underlying26
  have hu30 := Try.underlying30
  have HC := Aside0.mk hc
  clear hc
  go_enter Try.func25, Try.ntmps25
  go_upto_region 1 with (fail)
  refine spec_l16Step.wp_gen7 (fun W => spec_l16Step.SS7 w W a0 a1 a2 a3 a4 a5 a6 3 b1) ⟨blk_alloc (blk_alloc (blk_new _ _) _) _, blk_alloc (spec_l16Step.blk_new_at7 _ _ _ (by simp)) _, spec_l16Step.blk_new_at7 _ _ _ (by simp), by with_reducible (repeat (first | exact Below.refl _ _ | apply pw_below_drewN | apply below_drew1 | apply below_alloc))⟩ ?_
  rintro W hS
  have HS := Aside0.mk hS
  obtain ⟨hc, ha, hr, hb⟩ := hS
  have hsz := blk_lt hr
  have c0 := blk_cell hc 0
  have c1 := blk_cell hc 1
  have c2 := blk_cell hc 2
  have c3 := blk_cell hc 3
  have c4 := blk_cell hc 4
  have c5 := blk_cell hc 5
  have c6 := blk_cell hc 6
  have g0 := blk_frozen hc 0
  have g1 := blk_frozen hc 1
  have g2 := blk_frozen hc 2
  have g3 := blk_frozen hc 3
  have g4 := blk_frozen hc 4
  have g5 := blk_frozen hc 5
  have g6 := blk_frozen hc 6
  have q0 := blk_cell ha 0
  have q1 := blk_cell ha 1
  have x0 := blk_cell hr 0
  have x1 := blk_cell hr 1
  have x2 := blk_cell hr 2
  have x3 := blk_cell hr 3
  have x4 := blk_cell hr 4
  have x5 := blk_cell hr 5
  have x6 := blk_cell hr 6
  have f0 := blk_frozen hr 0
  have f1 := blk_frozen hr 1
  have f2 := blk_frozen hr 2
  have f3 := blk_frozen hr 3
  have f4 := blk_frozen hr 4
  have f5 := blk_frozen hr 5
  have f6 := blk_frozen hr 6
  clear hc ha hr hb
  go_wp2_with ((go_at_call 34; ((with_reducible refine (spec_l16Loss.calls k _ _ _ _ _ _ _ _ _ _ _ _ _ _ _ HC.out).mono ?_); rintro e w1 ⟨rfl, hbel⟩; clear x0 f0 x1 f1 x2 f2 x3 f3 x4 f4 x5 f5 x6 f6; have HS1 := Aside0.mk (spec_l16Step.SS7.below (by first | exact HS.out.drewN _ | exact HS.out) hbel); clear HS; have HS := HS1; clear HS1; have x0_ := blk_cell HS.out.hr 0; have f0_ := blk_frozen HS.out.hr 0; have x1_ := blk_cell HS.out.hr 1; have f1_ := blk_frozen HS.out.hr 1; have x2_ := blk_cell HS.out.hr 2; have f2_ := blk_frozen HS.out.hr 2; have x3_ := blk_cell HS.out.hr 3; have f3_ := blk_frozen HS.out.hr 3; have x4_ := blk_cell HS.out.hr 4; have f4_ := blk_frozen HS.out.hr 4; have x5_ := blk_cell HS.out.hr 5; have f5_ := blk_frozen HS.out.hr 5; have x6_ := blk_cell HS.out.hr 6; have f6_ := blk_frozen HS.out.hr 6; have hsz1 := blk_lt HS.out.hr; clear hbel)))
  refine bodyPost_ret (results_ct rfl _ _ (w.heap.size + 2) 26 #[.int .i64 1, .int .i64 r2, .int .i64 r3, .int .i64 r4, .int .i64 r5, .int .i64 r6, .int .i64 r7] (0, 0) _ rfl (by (with_reducible repeat (first | refine blk_drewN ?_ _ | refine blk_alloc ?_ _)); refine blk_put (cs := #[.int .i64 1, .int .i64 r2, .int .i64 r3, .int .i64 r4, .int .i64 r5, .int .i64 r6, .int .i64 0]) ?_ 6 _ rfl; refine blk_put (cs := #[.int .i64 1, .int .i64 r2, .int .i64 r3, .int .i64 r4, .int .i64 r5, .int .i64 0, .int .i64 0]) ?_ 5 _ rfl; refine blk_put (cs := #[.int .i64 1, .int .i64 r2, .int .i64 r3, .int .i64 r4, .int .i64 0, .int .i64 0, .int .i64 0]) ?_ 4 _ rfl; refine blk_put (cs := #[.int .i64 1, .int .i64 r2, .int .i64 r3, .int .i64 0, .int .i64 0, .int .i64 0, .int .i64 0]) ?_ 3 _ rfl; refine blk_put (cs := #[.int .i64 1, .int .i64 r2, .int .i64 0, .int .i64 0, .int .i64 0, .int .i64 0, .int .i64 0]) ?_ 2 _ rfl; refine blk_put (cs := #[.int .i64 1, .int .i64 0, .int .i64 0, .int .i64 0, .int .i64 0, .int .i64 0, .int .i64 0]) ?_ 1 _ rfl; refine blk_put (cs := #[.int .i64 0, .int .i64 0, .int .i64 0, .int .i64 0, .int .i64 0, .int .i64 0, .int .i64 0]) ?_ 0 _ rfl; (with_reducible repeat (first | refine blk_drewN ?_ _ | refine blk_drew ?_ | refine blk_alloc ?_ _ | refine blk_far ?_ (by first | (simp; done) | (simp; omega) | omega) _)); exact HS.out.hr) Try.underlying26 rfl (by kernel_rfl)) rfl ?_
  exact ⟨rfl, by with_reducible (repeat (first | exact HS.out.hb | refine below_set ?_ (by omega) | apply below_alloc | apply pw_below_drewN | apply below_drew1))⟩
set_option maxHeartbeats 2000000 in
set_option maxRecDepth 100000 in
theorem spec_l16Step.st_wait (k : Nat) (a0 a1 a2 a3 a4 a5 a6 b1 : Int) (w : World) (h5 : 0 ≤ a5) (h6 : a5 ≤ 1000000) (hb0 : 0 ≤ b1) (hb1 : b1 ≤ 1000000 - a5) (h : spec_l01In.f b1 0 (1000000 - a5) = some true) :
    Calls Try.prog 25 #[.agg #[.int .i64 a0, .int .i64 a1, .int .i64 a2, .int .i64 a3, .int .i64 a4, .int .i64 a5, .int .i64 a6], .agg #[.int .i64 4, .int .i64 b1]] w fun e w' => e = .returned (.tuple #[.agg #[.int .i64 a0, .int .i64 a1, .int .i64 a2, .int .i64 a3, .int .i64 a4, .int .i64 (a5 + b1), .int .i64 a6], .int .i64 0]) ∧ Below w.heap.size w w' := by
  have hu26 := Try.underlying26
  have hu30 := Try.underlying30
  have HI := Aside0.mk h
  clear h
  go_enter Try.func25, Try.ntmps25
  go_upto_region 1 with (fail)
  refine spec_l16Step.wp_gen7 (fun W => spec_l16Step.SS7 w W a0 a1 a2 a3 a4 a5 a6 4 b1) ⟨blk_alloc (blk_alloc (blk_new _ _) _) _, blk_alloc (spec_l16Step.blk_new_at7 _ _ _ (by simp)) _, spec_l16Step.blk_new_at7 _ _ _ (by simp), by with_reducible (repeat (first | exact Below.refl _ _ | apply pw_below_drewN | apply below_drew1 | apply below_alloc))⟩ ?_
  rintro W hS
  have HS := Aside0.mk hS
  obtain ⟨hc, ha, hr, hb⟩ := hS
  have hsz := blk_lt hr
  have c0 := blk_cell hc 0
  have c1 := blk_cell hc 1
  have c2 := blk_cell hc 2
  have c3 := blk_cell hc 3
  have c4 := blk_cell hc 4
  have c5 := blk_cell hc 5
  have c6 := blk_cell hc 6
  have g0 := blk_frozen hc 0
  have g1 := blk_frozen hc 1
  have g2 := blk_frozen hc 2
  have g3 := blk_frozen hc 3
  have g4 := blk_frozen hc 4
  have g5 := blk_frozen hc 5
  have g6 := blk_frozen hc 6
  have q0 := blk_cell ha 0
  have q1 := blk_cell ha 1
  have x0 := blk_cell hr 0
  have x1 := blk_cell hr 1
  have x2 := blk_cell hr 2
  have x3 := blk_cell hr 3
  have x4 := blk_cell hr 4
  have x5 := blk_cell hr 5
  have x6 := blk_cell hr 6
  have f0 := blk_frozen hr 0
  have f1 := blk_frozen hr 1
  have f2 := blk_frozen hr 2
  have f3 := blk_frozen hr 3
  have f4 := blk_frozen hr 4
  have f5 := blk_frozen hr 5
  have f6 := blk_frozen hr 6
  clear hc ha hr hb
  go_wp2_with ((go_at_call 32; ((with_reducible refine (spec_l01In.calls _ _ _ true _ HI.out).mono ?_); rintro e w' ⟨rfl, ⟨nd, rfl⟩⟩)))
  refine bodyPost_ret (results_ct rfl _ _ (w.heap.size + 2) 26 #[.int .i64 a0, .int .i64 a1, .int .i64 a2, .int .i64 a3, .int .i64 a4, .int .i64 (a5 + b1), .int .i64 a6] (0, 0) _ rfl (by (with_reducible repeat (first | refine blk_drewN ?_ _ | refine blk_alloc ?_ _)); refine blk_put (cs := #[.int .i64 a0, .int .i64 a1, .int .i64 a2, .int .i64 a3, .int .i64 a4, .int .i64 (a5 + b1), .int .i64 0]) ?_ 6 _ rfl; refine blk_put (cs := #[.int .i64 a0, .int .i64 a1, .int .i64 a2, .int .i64 a3, .int .i64 a4, .int .i64 0, .int .i64 0]) ?_ 5 _ rfl; refine blk_put (cs := #[.int .i64 a0, .int .i64 a1, .int .i64 a2, .int .i64 a3, .int .i64 0, .int .i64 0, .int .i64 0]) ?_ 4 _ rfl; refine blk_put (cs := #[.int .i64 a0, .int .i64 a1, .int .i64 a2, .int .i64 0, .int .i64 0, .int .i64 0, .int .i64 0]) ?_ 3 _ rfl; refine blk_put (cs := #[.int .i64 a0, .int .i64 a1, .int .i64 0, .int .i64 0, .int .i64 0, .int .i64 0, .int .i64 0]) ?_ 2 _ rfl; refine blk_put (cs := #[.int .i64 a0, .int .i64 0, .int .i64 0, .int .i64 0, .int .i64 0, .int .i64 0, .int .i64 0]) ?_ 1 _ rfl; refine blk_put (cs := #[.int .i64 0, .int .i64 0, .int .i64 0, .int .i64 0, .int .i64 0, .int .i64 0, .int .i64 0]) ?_ 0 _ rfl; (with_reducible repeat (first | refine blk_drewN ?_ _ | refine blk_drew ?_ | refine blk_alloc ?_ _ | refine blk_far ?_ (by first | (simp; done) | (simp; omega) | omega) _)); exact HS.out.hr) Try.underlying26 rfl (by kernel_rfl)) rfl ?_
  exact ⟨rfl, by with_reducible (repeat (first | exact HS.out.hb | refine below_set ?_ (by omega) | apply below_alloc | apply pw_below_drewN | apply below_drew1))⟩
set_option maxHeartbeats 2000000 in
set_option maxRecDepth 100000 in
theorem spec_l16Step.st_waitbad (k : Nat) (a0 a1 a2 a3 a4 a5 a6 b1 : Int) (w : World) (h5 : 0 ≤ a5) (h6 : a5 ≤ 1000000) (h : spec_l01In.f b1 0 (1000000 - a5) = some false) :
    Calls Try.prog 25 #[.agg #[.int .i64 a0, .int .i64 a1, .int .i64 a2, .int .i64 a3, .int .i64 a4, .int .i64 a5, .int .i64 a6], .agg #[.int .i64 4, .int .i64 b1]] w fun e w' => e = .returned (.tuple #[.agg #[.int .i64 a0, .int .i64 a1, .int .i64 a2, .int .i64 a3, .int .i64 a4, .int .i64 a5, .int .i64 a6], .int .i64 4]) ∧ Below w.heap.size w w' := by
  have hu26 := Try.underlying26
  have hu30 := Try.underlying30
  have HI := Aside0.mk h
  clear h
  go_enter Try.func25, Try.ntmps25
  go_upto_region 1 with (fail)
  refine spec_l16Step.wp_gen7 (fun W => spec_l16Step.SS7 w W a0 a1 a2 a3 a4 a5 a6 4 b1) ⟨blk_alloc (blk_alloc (blk_new _ _) _) _, blk_alloc (spec_l16Step.blk_new_at7 _ _ _ (by simp)) _, spec_l16Step.blk_new_at7 _ _ _ (by simp), by with_reducible (repeat (first | exact Below.refl _ _ | apply pw_below_drewN | apply below_drew1 | apply below_alloc))⟩ ?_
  rintro W hS
  have HS := Aside0.mk hS
  obtain ⟨hc, ha, hr, hb⟩ := hS
  have hsz := blk_lt hr
  have c0 := blk_cell hc 0
  have c1 := blk_cell hc 1
  have c2 := blk_cell hc 2
  have c3 := blk_cell hc 3
  have c4 := blk_cell hc 4
  have c5 := blk_cell hc 5
  have c6 := blk_cell hc 6
  have g0 := blk_frozen hc 0
  have g1 := blk_frozen hc 1
  have g2 := blk_frozen hc 2
  have g3 := blk_frozen hc 3
  have g4 := blk_frozen hc 4
  have g5 := blk_frozen hc 5
  have g6 := blk_frozen hc 6
  have q0 := blk_cell ha 0
  have q1 := blk_cell ha 1
  have x0 := blk_cell hr 0
  have x1 := blk_cell hr 1
  have x2 := blk_cell hr 2
  have x3 := blk_cell hr 3
  have x4 := blk_cell hr 4
  have x5 := blk_cell hr 5
  have x6 := blk_cell hr 6
  have f0 := blk_frozen hr 0
  have f1 := blk_frozen hr 1
  have f2 := blk_frozen hr 2
  have f3 := blk_frozen hr 3
  have f4 := blk_frozen hr 4
  have f5 := blk_frozen hr 5
  have f6 := blk_frozen hr 6
  clear hc ha hr hb
  go_wp2_with ((go_at_call 32; ((with_reducible refine (spec_l01In.calls _ _ _ false _ HI.out).mono ?_); rintro e w' ⟨rfl, ⟨nd, rfl⟩⟩)))
  refine bodyPost_ret (results_ct rfl _ _ (w.heap.size + 2) 26 #[.int .i64 a0, .int .i64 a1, .int .i64 a2, .int .i64 a3, .int .i64 a4, .int .i64 a5, .int .i64 a6] (0, 0) _ rfl (by (with_reducible repeat (first | refine blk_drewN ?_ _ | refine blk_alloc ?_ _)); refine blk_put (cs := #[.int .i64 a0, .int .i64 a1, .int .i64 a2, .int .i64 a3, .int .i64 a4, .int .i64 a5, .int .i64 0]) ?_ 6 _ rfl; refine blk_put (cs := #[.int .i64 a0, .int .i64 a1, .int .i64 a2, .int .i64 a3, .int .i64 a4, .int .i64 0, .int .i64 0]) ?_ 5 _ rfl; refine blk_put (cs := #[.int .i64 a0, .int .i64 a1, .int .i64 a2, .int .i64 a3, .int .i64 0, .int .i64 0, .int .i64 0]) ?_ 4 _ rfl; refine blk_put (cs := #[.int .i64 a0, .int .i64 a1, .int .i64 a2, .int .i64 0, .int .i64 0, .int .i64 0, .int .i64 0]) ?_ 3 _ rfl; refine blk_put (cs := #[.int .i64 a0, .int .i64 a1, .int .i64 0, .int .i64 0, .int .i64 0, .int .i64 0, .int .i64 0]) ?_ 2 _ rfl; refine blk_put (cs := #[.int .i64 a0, .int .i64 0, .int .i64 0, .int .i64 0, .int .i64 0, .int .i64 0, .int .i64 0]) ?_ 1 _ rfl; refine blk_put (cs := #[.int .i64 0, .int .i64 0, .int .i64 0, .int .i64 0, .int .i64 0, .int .i64 0, .int .i64 0]) ?_ 0 _ rfl; (with_reducible repeat (first | refine blk_drewN ?_ _ | refine blk_drew ?_ | refine blk_alloc ?_ _ | refine blk_far ?_ (by first | (simp; done) | (simp; omega) | omega) _)); exact HS.out.hr) Try.underlying26 rfl (by kernel_rfl)) rfl ?_
  exact ⟨rfl, by with_reducible (repeat (first | exact HS.out.hb | refine below_set ?_ (by omega) | apply below_alloc | apply pw_below_drewN | apply below_drew1))⟩
set_option maxHeartbeats 2000000 in
set_option maxRecDepth 100000 in
theorem spec_l16Step.st_form (k : Nat) (b0 : Int) (a0 a1 a2 a3 a4 a5 a6 b1 : Int) (w : World) (n1 : (b0 == 1) = false) (n2 : (b0 == 2) = false) (n3 : (b0 == 3) = false) (n4 : (b0 == 4) = false) :
    Calls Try.prog 25 #[.agg #[.int .i64 a0, .int .i64 a1, .int .i64 a2, .int .i64 a3, .int .i64 a4, .int .i64 a5, .int .i64 a6], .agg #[.int .i64 b0, .int .i64 b1]] w fun e w' => e = .returned (.tuple #[.agg #[.int .i64 a0, .int .i64 a1, .int .i64 a2, .int .i64 a3, .int .i64 a4, .int .i64 a5, .int .i64 a6], .int .i64 3]) ∧ Below w.heap.size w w' := by
  have hu26 := Try.underlying26
  have hu30 := Try.underlying30
  go_enter Try.func25, Try.ntmps25
  go_upto_region 1 with (fail)
  refine spec_l16Step.wp_gen7 (fun W => spec_l16Step.SS7 w W a0 a1 a2 a3 a4 a5 a6 b0 b1) ⟨blk_alloc (blk_alloc (blk_new _ _) _) _, blk_alloc (spec_l16Step.blk_new_at7 _ _ _ (by simp)) _, spec_l16Step.blk_new_at7 _ _ _ (by simp), by with_reducible (repeat (first | exact Below.refl _ _ | apply pw_below_drewN | apply below_drew1 | apply below_alloc))⟩ ?_
  rintro W hS
  have HS := Aside0.mk hS
  obtain ⟨hc, ha, hr, hb⟩ := hS
  have hsz := blk_lt hr
  have c0 := blk_cell hc 0
  have c1 := blk_cell hc 1
  have c2 := blk_cell hc 2
  have c3 := blk_cell hc 3
  have c4 := blk_cell hc 4
  have c5 := blk_cell hc 5
  have c6 := blk_cell hc 6
  have g0 := blk_frozen hc 0
  have g1 := blk_frozen hc 1
  have g2 := blk_frozen hc 2
  have g3 := blk_frozen hc 3
  have g4 := blk_frozen hc 4
  have g5 := blk_frozen hc 5
  have g6 := blk_frozen hc 6
  have q0 := blk_cell ha 0
  have q1 := blk_cell ha 1
  have x0 := blk_cell hr 0
  have x1 := blk_cell hr 1
  have x2 := blk_cell hr 2
  have x3 := blk_cell hr 3
  have x4 := blk_cell hr 4
  have x5 := blk_cell hr 5
  have x6 := blk_cell hr 6
  have f0 := blk_frozen hr 0
  have f1 := blk_frozen hr 1
  have f2 := blk_frozen hr 2
  have f3 := blk_frozen hr 3
  have f4 := blk_frozen hr 4
  have f5 := blk_frozen hr 5
  have f6 := blk_frozen hr 6
  clear hc ha hr hb
  go_wp2_with (fail)
  refine bodyPost_ret (results_ct rfl _ _ (w.heap.size + 2) 26 #[.int .i64 a0, .int .i64 a1, .int .i64 a2, .int .i64 a3, .int .i64 a4, .int .i64 a5, .int .i64 a6] (0, 0) _ rfl (by (with_reducible repeat (first | refine blk_drewN ?_ _ | refine blk_alloc ?_ _)); refine blk_put (cs := #[.int .i64 a0, .int .i64 a1, .int .i64 a2, .int .i64 a3, .int .i64 a4, .int .i64 a5, .int .i64 0]) ?_ 6 _ rfl; refine blk_put (cs := #[.int .i64 a0, .int .i64 a1, .int .i64 a2, .int .i64 a3, .int .i64 a4, .int .i64 0, .int .i64 0]) ?_ 5 _ rfl; refine blk_put (cs := #[.int .i64 a0, .int .i64 a1, .int .i64 a2, .int .i64 a3, .int .i64 0, .int .i64 0, .int .i64 0]) ?_ 4 _ rfl; refine blk_put (cs := #[.int .i64 a0, .int .i64 a1, .int .i64 a2, .int .i64 0, .int .i64 0, .int .i64 0, .int .i64 0]) ?_ 3 _ rfl; refine blk_put (cs := #[.int .i64 a0, .int .i64 a1, .int .i64 0, .int .i64 0, .int .i64 0, .int .i64 0, .int .i64 0]) ?_ 2 _ rfl; refine blk_put (cs := #[.int .i64 a0, .int .i64 0, .int .i64 0, .int .i64 0, .int .i64 0, .int .i64 0, .int .i64 0]) ?_ 1 _ rfl; refine blk_put (cs := #[.int .i64 0, .int .i64 0, .int .i64 0, .int .i64 0, .int .i64 0, .int .i64 0, .int .i64 0]) ?_ 0 _ rfl; (with_reducible repeat (first | refine blk_drewN ?_ _ | refine blk_drew ?_ | refine blk_alloc ?_ _ | refine blk_far ?_ (by first | (simp; done) | (simp; omega) | omega) _)); exact HS.out.hr) Try.underlying26 rfl (by kernel_rfl)) rfl ?_
  exact ⟨rfl, by with_reducible (repeat (first | exact HS.out.hb | refine below_set ?_ (by omega) | apply below_alloc | apply pw_below_drewN | apply below_drew1))⟩

set_option maxHeartbeats 8000000 in
set_option maxRecDepth 100000 in
theorem spec_l16Step.calls (k : Nat) (a0_0 : Int) (a0_1 : Int) (a0_2 : Int) (a0_3 : Int) (a0_4 : Int) (a0_5 : Int) (a0_6 : Int) (a1_0 : Int) (a1_1 : Int) (r1 : Int) (r2 : Int) (r3 : Int) (r4 : Int) (r5 : Int) (r6 : Int) (r7 : Int) (r8 : Int) (w : World) (h : spec_l16Step.f k a0_0 a0_1 a0_2 a0_3 a0_4 a0_5 a0_6 a1_0 a1_1 = some (r1, r2, r3, r4, r5, r6, r7, r8)) :
    Calls Try.prog 25 #[.agg #[.int .i64 a0_0, .int .i64 a0_1, .int .i64 a0_2, .int .i64 a0_3, .int .i64 a0_4, .int .i64 a0_5, .int .i64 a0_6], .agg #[.int .i64 a1_0, .int .i64 a1_1]] w fun e w' => e = .returned (.tuple #[.agg #[.int .i64 r1, .int .i64 r2, .int .i64 r3, .int .i64 r4, .int .i64 r5, .int .i64 r6, .int .i64 r7], .int .i64 r8]) ∧ Below w.heap.size w w' := by
  have inr : ∀ a b c : Int, spec_l01In.f a b c = some (decide (b ≤ a ∧ a ≤ c)) := by
    intro a b c
    unfold spec_l01In.f
    by_cases h : a ≥ b <;> simp [h]
  unfold spec_l16Step.f at h
  by_cases n1 : a1_0 = 1
  · rw [if_pos n1] at h
    subst n1
    by_cases hr : 0 ≤ a1_1 ∧ a1_1 ≤ 1000
    · rw [if_pos hr] at h
      obtain ⟨⟨q1, q2, q3, q4, q5, q6, q7⟩, ha, h⟩ := Option.bind_eq_some_iff.mp h
      simp only [Option.some.injEq, Prod.mk.injEq] at h
      obtain ⟨rfl, rfl, rfl, rfl, rfl, rfl, rfl, rfl⟩ := h
      exact spec_l16Step.st_ack k _ _ _ _ _ _ _ _ _ _ _ _ _ _ _ w (by rw [inr, decide_eq_true hr]) ha
    · rw [if_neg hr] at h
      simp only [Option.some.injEq, Prod.mk.injEq] at h
      obtain ⟨rfl, rfl, rfl, rfl, rfl, rfl, rfl, rfl⟩ := h
      exact spec_l16Step.st_ackbad k _ _ _ _ _ _ _ _ w (by rw [inr, decide_eq_false hr])
  rw [if_neg n1] at h
  by_cases n2 : a1_0 = 2
  · rw [if_pos n2] at h
    subst n2
    obtain ⟨⟨q1, q2, q3, q4, q5, q6, q7⟩, ha, h⟩ := Option.bind_eq_some_iff.mp h
    simp only [Option.some.injEq, Prod.mk.injEq] at h
    obtain ⟨rfl, rfl, rfl, rfl, rfl, rfl, rfl, rfl⟩ := h
    exact spec_l16Step.st_loss k _ _ _ _ _ _ _ _ _ _ _ _ _ _ _ w ha
  rw [if_neg n2] at h
  by_cases n3 : a1_0 = 3
  · rw [if_pos n3] at h
    subst n3
    obtain ⟨⟨q1, q2, q3, q4, q5, q6, q7⟩, ha, h⟩ := Option.bind_eq_some_iff.mp h
    simp only [Option.some.injEq, Prod.mk.injEq] at h
    obtain ⟨rfl, rfl, rfl, rfl, rfl, rfl, rfl, rfl⟩ := h
    exact spec_l16Step.st_to k _ _ _ _ _ _ _ _ _ _ _ _ _ _ _ w ha
  rw [if_neg n3] at h
  by_cases n4 : a1_0 = 4
  · rw [if_pos n4] at h
    subst n4
    by_cases h5 : 0 ≤ a0_5 ∧ a0_5 ≤ 1000000
    case neg => rw [if_neg h5] at h; cases h
    rw [if_pos h5] at h
    by_cases hr : 0 ≤ a1_1 ∧ a1_1 ≤ 1000000 - a0_5
    · rw [if_pos hr] at h
      simp only [Option.some.injEq, Prod.mk.injEq] at h
      obtain ⟨rfl, rfl, rfl, rfl, rfl, rfl, rfl, rfl⟩ := h
      exact spec_l16Step.st_wait k _ _ _ _ _ _ _ _ w h5.1 h5.2 hr.1 hr.2 (by rw [inr, decide_eq_true hr])
    · rw [if_neg hr] at h
      simp only [Option.some.injEq, Prod.mk.injEq] at h
      obtain ⟨rfl, rfl, rfl, rfl, rfl, rfl, rfl, rfl⟩ := h
      exact spec_l16Step.st_waitbad k _ _ _ _ _ _ _ _ w h5.1 h5.2 (by rw [inr, decide_eq_false hr])
  · rw [if_neg n4] at h
    simp only [Option.some.injEq, Prod.mk.injEq] at h
    obtain ⟨rfl, rfl, rfl, rfl, rfl, rfl, rfl, rfl⟩ := h
    exact spec_l16Step.st_form k _ _ _ _ _ _ _ _ _ w (by simpa using n1) (by simpa using n2) (by simpa using n3) (by simpa using n4)

end Go.Proofs.Ytjfbeakmpmjadaa.PWin
