-- Written by plug.py, a program of this work, over the kit's printing program: the functions that it prints, and this work's own proofs of those that it does not.
import Derived.Test.YtjfbeakmpmjadaaPWinx0
import Derived.Test.YtjfbeakmpmjadaaPWinx10
import Derived.Test.YtjfbeakmpmjadaaPWinx12
namespace Go.Proofs.Ytjfbeakmpmjadaa.PWin
open Go.RowKit Go.Proofs.YtjfbeakmpmjadaaW.PrintWords Go.Proofs.YtjfbeakmpmjadaaW.PrintLast Go.Proofs.YtjfbeakmpmjadaaW.PrintMore
attribute [local go_sem] max2_int min2_int max_two min_two max_three min_three max_four min_four   -- for this text's walks alone
set_option linter.unusedVariables false
set_option linter.unusedSimpArgs false

/-! ### impl_Cubic_act: function 26 -/
def impl_Cubic_act.l (s0_1 : Int) (s0_2 : Int) (s0_3 : Int) (s0_4 : Int) (s0_5 : Int) : Nat → Int → Int → Option (Int × Int)
  | 0, w, c => some (w, c)
  | n + 1, w, c => (impl_Cubic_ack.f w s0_1 s0_2 s0_3 s0_4 s0_5 c).bind fun r => impl_Cubic_act.l s0_1 s0_2 s0_3 s0_4 s0_5 n r.1 r.2.2.2.2.2.2
def impl_Cubic_act.f (k : Nat) (s0_0 : Int) (s0_1 : Int) (s0_2 : Int) (s0_3 : Int) (s0_4 : Int) (s0_5 : Int) (s0_6 : Int) (a1_0 : Int) (a1_1 : Int) : Option (Int × Int × Int × Int × Int × Int × Int × Int) :=
  if a1_0 = 1 then
    (if 0 ≤ a1_1 ∧ a1_1 ≤ 1000 then (impl_Cubic_act.l s0_1 s0_2 s0_3 s0_4 s0_5 a1_1.toNat s0_0 s0_6).bind fun r => some (0, r.1, s0_1, s0_2, s0_3, s0_4, s0_5, r.2)
     else some (4, s0_0, s0_1, s0_2, s0_3, s0_4, s0_5, s0_6))
  else if a1_0 = 2 then (impl_Cubic_loss.f k s0_0 s0_1 s0_2 s0_3 s0_4 s0_5 s0_6).bind fun r => some (0, r)
  else if a1_0 = 3 then (impl_Cubic_loss.f k s0_0 s0_1 s0_2 s0_3 s0_4 s0_5 s0_6).bind fun r => some (0, 1, r.2)
  else if a1_0 = 4 then
    (if 0 ≤ s0_5 ∧ s0_5 ≤ 1000000 then
      (if 0 ≤ a1_1 ∧ a1_1 ≤ 1000000 - s0_5 then some (0, s0_0, s0_1, s0_2, s0_3, s0_4, s0_5 + a1_1, s0_6)
       else some (4, s0_0, s0_1, s0_2, s0_3, s0_4, s0_5, s0_6))
     else none)
  else some (3, s0_0, s0_1, s0_2, s0_3, s0_4, s0_5, s0_6)
theorem impl_Cubic_act.mono : ∀ a0 a1 a2 a3 a4 a5 a6 a7 a8 k, LeO (impl_Cubic_act.f k a0 a1 a2 a3 a4 a5 a6 a7 a8) (impl_Cubic_act.f (k + 1) a0 a1 a2 a3 a4 a5 a6 a7 a8) := by
  intro a0 a1 a2 a3 a4 a5 a6 a7 a8 k
  unfold impl_Cubic_act.f
  exact LeO.ite (LeO.refl _) (LeO.ite (LeO.bind (impl_Cubic_loss.mono _ _ _ _ _ _ _ _) (fun _ => LeO.refl _)) (LeO.ite (LeO.bind (impl_Cubic_loss.mono _ _ _ _ _ _ _ _) (fun _ => LeO.refl _)) (LeO.refl _)))

theorem impl_Cubic_act.inR_q (n lo hi : Int) (w : World) :
    Calls Try.prog 31 #[.int .i64 n, .int .i64 lo, .int .i64 hi] w fun e w' => e = .returned (.bool (decide (lo ≤ n ∧ n ≤ hi))) ∧ w = w' := by
  by_cases h1 : lo ≤ n
  · by_cases h2 : n ≤ hi
    · have d : decide (lo ≤ n ∧ n ≤ hi) = true := decide_eq_true ⟨h1, h2⟩
      rw [d]
      have d1 : decide (lo ≤ n) = true := decide_eq_true h1
      have d2 : decide (n ≤ hi) = true := decide_eq_true h2
      clear d
      go_enter Try.func31, Try.ntmps31
      go_wp2
      go_ret
      exact ⟨rfl, rfl⟩
    · have d : decide (lo ≤ n ∧ n ≤ hi) = false := decide_eq_false (fun h => h2 h.2)
      rw [d]
      have d1 : decide (lo ≤ n) = true := decide_eq_true h1
      have d2 : decide (n ≤ hi) = false := decide_eq_false h2
      clear d
      go_enter Try.func31, Try.ntmps31
      go_wp2
      go_ret
      exact ⟨rfl, rfl⟩
  · have d : decide (lo ≤ n ∧ n ≤ hi) = false := decide_eq_false (fun h => h1 h.1)
    rw [d]
    have d1 : decide (lo ≤ n) = false := decide_eq_false h1
    clear d
    go_enter Try.func31, Try.ntmps31
    go_wp2
    go_ret
    exact ⟨rfl, rfl⟩
theorem impl_Cubic_act.ack_fix {a b c d e f x r1 r2 r3 r4 r5 r6 r7 : Int} (h : impl_Cubic_ack.f a b c d e f x = some (r1, r2, r3, r4, r5, r6, r7)) : r2 = b ∧ r3 = c ∧ r4 = d ∧ r5 = e ∧ r6 = f := by
  unfold impl_Cubic_ack.f at h
  split at h
  case isFalse => cases h
  split at h
  case isTrue => simp only [Option.some.injEq, Prod.mk.injEq] at h; obtain ⟨-, rfl, rfl, rfl, rfl, rfl, -⟩ := h; exact ⟨rfl, rfl, rfl, rfl, rfl⟩
  obtain ⟨aim, hc, h⟩ := Option.bind_eq_some_iff.mp h
  split at h
  case isFalse => cases h
  split at h <;> split at h <;> (simp only [Option.some.injEq, Prod.mk.injEq] at h; obtain ⟨-, rfl, rfl, rfl, rfl, rfl, -⟩ := h; exact ⟨rfl, rfl, rfl, rfl, rfl⟩)
theorem impl_Cubic_act.ack_keep (g : Nat) (s0_0 s0_1 s0_2 s0_3 s0_4 s0_5 s0_6 r1 r2 r3 r4 r5 r6 r7 : Int) (w0 w : World) (hI : IsS26 w0 w g s0_0 s0_1 s0_2 s0_3 s0_4 s0_5 s0_6) (hB : Below w0.heap.size w0 w) (h : impl_Cubic_ack.f s0_0 s0_1 s0_2 s0_3 s0_4 s0_5 s0_6 = some (r1, r2, r3, r4, r5, r6, r7)) :
    Calls Try.prog 35 #[.pointer (some ⟨g, 0, none⟩)] w fun e w' => e = .returned (.tuple #[]) ∧ IsS26 w0 w' g r1 r2 r3 r4 r5 r6 r7 ∧ Below w0.heap.size w0 w' ∧ KeepBut w w' g none ∧ (r2 = s0_1 ∧ r3 = s0_2 ∧ r4 = s0_3 ∧ r5 = s0_4 ∧ r6 = s0_5) :=
  (impl_Cubic_ack.calls g _ _ _ _ _ _ _ _ _ _ _ _ _ _ w0 w hI hB h).mono fun _ _ ⟨h1, h2, h3, h4⟩ => ⟨h1, h2, h3, h4, impl_Cubic_act.ack_fix h⟩
theorem impl_Cubic_act.quiet_l {P : Program} {f : FuncId} {args : Array Value} {w : World} {n : Nat} {v : Value} (h : Calls P f args (w.drewN n) fun e w' => e = .returned v ∧ w.drewN n = w') :
    Calls P f args (w.drewN n) fun e w'' => e = .returned v ∧ ∃ m, w'' = w.drewN m := h.mono fun _ _ ⟨he, hm⟩ => ⟨he, n, hm.symm⟩

set_option maxHeartbeats 2000000 in
set_option maxRecDepth 100000 in
theorem impl_Cubic_act.act_none (k g : Nat) (w_ s m o si n c a b : Int) (n1 : a ≠ 1) (n2 : a ≠ 2) (n3 : a ≠ 3) (n4 : a ≠ 4) (w0 w : World) (hI : IsS26 w0 w g w_ s m o si n c) (hB : Below w0.heap.size w0 w) :
    Calls Try.prog 26 #[.pointer (some ⟨g, 0, none⟩), .agg #[.int .i64 a, .int .i64 b]] w fun e w' => e = .returned (.int .i64 3) ∧ IsS26 w0 w' g w_ s m o si n c ∧ Below w0.heap.size w0 w' ∧ KeepBut w w' g none := by
  have HI := Aside0.mk hI
  have HB := Aside0.mk hB
  have HK := Aside0.mk (KeepBut.refl w g none)
  obtain ⟨hb, hg⟩ := hI
  have k0 := cellS26_0 hb
  have k5 := cellS26_5 hb
  have f0 := blk_frozen hb 0
  have f5 := blk_frozen hb 5
  have HG := Aside0.mk hg
  have HL : g < w.heap.size := HI.out.lt
  clear hb hg hB
  go_enter Try.func26, Try.ntmps26
  go_wp2
  all_goals go_ret
  all_goals exact ⟨rfl, by with_reducible (repeat (first | exact HI.out | apply IsS26.drewN | apply IsS26.drew | apply IsS26.alloc | apply IsS26.set_0 | apply IsS26.set_5)), by with_reducible (repeat (first | exact HB.out | apply pw_below_drewN | apply below_drew1 | apply below_alloc | refine below_set ?_ HG.out)), by with_reducible (repeat (first | exact HK.out | apply KeepBut.set_ | apply keep_drewN | apply keep_drew | apply keep_alloc))⟩

set_option maxHeartbeats 2000000 in
set_option maxRecDepth 100000 in
theorem impl_Cubic_act.act_ack_no (k g : Nat) (w_ s m o si n c b : Int) (hr : ¬ (0 ≤ b ∧ b ≤ 1000)) (w0 w : World) (hI : IsS26 w0 w g w_ s m o si n c) (hB : Below w0.heap.size w0 w) :
    Calls Try.prog 26 #[.pointer (some ⟨g, 0, none⟩), .agg #[.int .i64 1, .int .i64 b]] w fun e w' => e = .returned (.int .i64 4) ∧ IsS26 w0 w' g w_ s m o si n c ∧ Below w0.heap.size w0 w' ∧ KeepBut w w' g none := by
  have HI := Aside0.mk hI
  have HB := Aside0.mk hB
  have HK := Aside0.mk (KeepBut.refl w g none)
  obtain ⟨hb, hg⟩ := hI
  have k0 := cellS26_0 hb
  have k5 := cellS26_5 hb
  have f0 := blk_frozen hb 0
  have f5 := blk_frozen hb 5
  have HG := Aside0.mk hg
  have HL : g < w.heap.size := HI.out.lt
  clear hb hg hB
  have d : decide (0 ≤ b ∧ b ≤ 1000) = false := decide_eq_false hr
  go_enter Try.func26, Try.ntmps26
  go_wp2_with (first | (go_at_call 31; refine (impl_Cubic_act.inR_q _ _ _ _).mono ?_; rintro e w1 ⟨rfl, rfl⟩))
  all_goals go_ret
  all_goals exact ⟨rfl, by with_reducible (repeat (first | exact HI.out | apply IsS26.drewN | apply IsS26.drew | apply IsS26.alloc | apply IsS26.set_0 | apply IsS26.set_5)), by with_reducible (repeat (first | exact HB.out | apply pw_below_drewN | apply below_drew1 | apply below_alloc | refine below_set ?_ HG.out)), by with_reducible (repeat (first | exact HK.out | apply KeepBut.set_ | apply keep_drewN | apply keep_drew | apply keep_alloc))⟩

set_option maxHeartbeats 2000000 in
set_option maxRecDepth 100000 in
theorem impl_Cubic_act.act_loss (k g : Nat) (w_ s m o si n c b : Int) (r1 r2 r3 r4 r5 r6 r7 : Int) (hl : impl_Cubic_loss.f k w_ s m o si n c = some (r1, r2, r3, r4, r5, r6, r7)) (w0 w : World) (hI : IsS26 w0 w g w_ s m o si n c) (hB : Below w0.heap.size w0 w) :
    Calls Try.prog 26 #[.pointer (some ⟨g, 0, none⟩), .agg #[.int .i64 2, .int .i64 b]] w fun e w' => e = .returned (.int .i64 0) ∧ IsS26 w0 w' g r1 r2 r3 r4 r5 r6 r7 ∧ Below w0.heap.size w0 w' ∧ KeepBut w w' g none := by
  have HI := Aside0.mk hI
  have HB := Aside0.mk hB
  have HK := Aside0.mk (KeepBut.refl w g none)
  obtain ⟨hb, hg⟩ := hI
  have k0 := cellS26_0 hb
  have k5 := cellS26_5 hb
  have f0 := blk_frozen hb 0
  have f5 := blk_frozen hb 5
  have HG := Aside0.mk hg
  have HL : g < w.heap.size := HI.out.lt
  clear hb hg hB
  go_enter Try.func26, Try.ntmps26
  go_wp2_with (first | (go_at_call 36; refine (impl_Cubic_loss.calls k g _ _ _ _ _ _ _ _ _ _ _ _ _ _ w0 _ ?_ ?_ hl).mono ?_; (case _ => with_reducible (repeat (first | exact HI.out | apply IsS26.drewN | apply IsS26.alloc))); (case _ => with_reducible (repeat (first | exact HB.out | apply pw_below_drewN | apply below_alloc))); rintro e w1 ⟨rfl, hI1, hB1, hK1⟩))
  all_goals go_ret
  exact ⟨rfl, hI1, hB1, (keep_alloc HK.out _).trans hK1 (.inl rfl)⟩

set_option maxHeartbeats 2000000 in
set_option maxRecDepth 100000 in
theorem impl_Cubic_act.act_time (k g : Nat) (w_ s m o si n c b : Int) (r1 r2 r3 r4 r5 r6 r7 : Int) (hl : impl_Cubic_loss.f k w_ s m o si n c = some (r1, r2, r3, r4, r5, r6, r7)) (w0 w : World) (hI : IsS26 w0 w g w_ s m o si n c) (hB : Below w0.heap.size w0 w) :
    Calls Try.prog 26 #[.pointer (some ⟨g, 0, none⟩), .agg #[.int .i64 3, .int .i64 b]] w fun e w' => e = .returned (.int .i64 0) ∧ IsS26 w0 w' g 1 r2 r3 r4 r5 r6 r7 ∧ Below w0.heap.size w0 w' ∧ KeepBut w w' g none := by
  have HI := Aside0.mk hI
  have HB := Aside0.mk hB
  have HK := Aside0.mk (KeepBut.refl w g none)
  obtain ⟨hb, hg⟩ := hI
  have k0 := cellS26_0 hb
  have k5 := cellS26_5 hb
  have f0 := blk_frozen hb 0
  have f5 := blk_frozen hb 5
  have HG := Aside0.mk hg
  have HL : g < w.heap.size := HI.out.lt
  clear hb hg hB
  go_enter Try.func26, Try.ntmps26
  go_wp2_with (first | (go_at_call 36; refine (impl_Cubic_loss.calls k g _ _ _ _ _ _ _ _ _ _ _ _ _ _ w0 _ ?_ ?_ hl).mono ?_; (case _ => with_reducible (repeat (first | exact HI.out | apply IsS26.drewN | apply IsS26.alloc))); (case _ => with_reducible (repeat (first | exact HB.out | apply pw_below_drewN | apply below_alloc))); rintro e w1 ⟨rfl, hI1, hB1, hK1⟩; have HI1 := Aside0.mk hI1; have HB1 := Aside0.mk hB1; have HK1 := Aside0.mk hK1; have k10 := cellS26_0 hI1.1; have f10 := blk_frozen hI1.1 0; clear hI1 hB1 hK1))
  all_goals go_ret
  exact ⟨rfl, by apply IsS26.set_0; exact HI1.out, below_set HB1.out HG.out, ((keep_alloc HK.out _).trans HK1.out (.inl rfl)).set_ _ _⟩

set_option maxHeartbeats 2000000 in
set_option maxRecDepth 100000 in
theorem impl_Cubic_act.act_wait_no (k g : Nat) (w_ s m o si n c b : Int) (hn0 : 0 ≤ n) (hn1 : n ≤ 1000000) (hr : ¬ (0 ≤ b ∧ b ≤ 1000000 - n)) (w0 w : World) (hI : IsS26 w0 w g w_ s m o si n c) (hB : Below w0.heap.size w0 w) :
    Calls Try.prog 26 #[.pointer (some ⟨g, 0, none⟩), .agg #[.int .i64 4, .int .i64 b]] w fun e w' => e = .returned (.int .i64 4) ∧ IsS26 w0 w' g w_ s m o si n c ∧ Below w0.heap.size w0 w' ∧ KeepBut w w' g none := by
  have HI := Aside0.mk hI
  have HB := Aside0.mk hB
  have HK := Aside0.mk (KeepBut.refl w g none)
  obtain ⟨hb, hg⟩ := hI
  have k0 := cellS26_0 hb
  have k5 := cellS26_5 hb
  have f0 := blk_frozen hb 0
  have f5 := blk_frozen hb 5
  have HG := Aside0.mk hg
  have HL : g < w.heap.size := HI.out.lt
  clear hb hg hB
  have d : decide (0 ≤ b ∧ b ≤ 1000000 - n) = false := decide_eq_false hr
  go_enter Try.func26, Try.ntmps26
  go_wp2
  go_quiet ((go_at_call 31; exact impl_Cubic_act.quiet_l (impl_Cubic_act.inR_q _ _ _ _)))
  go_wp2
  all_goals go_ret
  all_goals exact ⟨rfl, by with_reducible (repeat (first | exact HI.out | apply IsS26.drewN | apply IsS26.drew | apply IsS26.alloc | apply IsS26.set_0 | apply IsS26.set_5)), by with_reducible (repeat (first | exact HB.out | apply pw_below_drewN | apply below_drew1 | apply below_alloc | refine below_set ?_ HG.out)), by with_reducible (repeat (first | exact HK.out | apply KeepBut.set_ | apply keep_drewN | apply keep_drew | apply keep_alloc))⟩

set_option maxHeartbeats 2000000 in
set_option maxRecDepth 100000 in
theorem impl_Cubic_act.act_wait (k g : Nat) (w_ s m o si n c b : Int) (hn0 : 0 ≤ n) (hn1 : n ≤ 1000000) (hr : 0 ≤ b ∧ b ≤ 1000000 - n) (w0 w : World) (hI : IsS26 w0 w g w_ s m o si n c) (hB : Below w0.heap.size w0 w) :
    Calls Try.prog 26 #[.pointer (some ⟨g, 0, none⟩), .agg #[.int .i64 4, .int .i64 b]] w fun e w' => e = .returned (.int .i64 0) ∧ IsS26 w0 w' g w_ s m o si (n + b) c ∧ Below w0.heap.size w0 w' ∧ KeepBut w w' g none := by
  have HI := Aside0.mk hI
  have HB := Aside0.mk hB
  have HK := Aside0.mk (KeepBut.refl w g none)
  obtain ⟨hb, hg⟩ := hI
  have k0 := cellS26_0 hb
  have k5 := cellS26_5 hb
  have f0 := blk_frozen hb 0
  have f5 := blk_frozen hb 5
  have HG := Aside0.mk hg
  have HL : g < w.heap.size := HI.out.lt
  clear hb hg hB
  have d : decide (0 ≤ b ∧ b ≤ 1000000 - n) = true := decide_eq_true hr
  obtain ⟨hr0, hr1⟩ := hr
  go_enter Try.func26, Try.ntmps26
  go_wp2
  go_quiet ((go_at_call 31; exact impl_Cubic_act.quiet_l (impl_Cubic_act.inR_q _ _ _ _)))
  go_wp2
  go_region
  all_goals go_wp2
  all_goals go_ret
  all_goals exact ⟨rfl, by with_reducible (repeat (first | exact HI.out | apply IsS26.drewN | apply IsS26.drew | apply IsS26.alloc | apply IsS26.set_0 | apply IsS26.set_5)), by with_reducible (repeat (first | exact HB.out | apply pw_below_drewN | apply below_drew1 | apply below_alloc | refine below_set ?_ HG.out)), by with_reducible (repeat (first | exact HK.out | apply KeepBut.set_ | apply keep_drewN | apply keep_drew | apply keep_alloc))⟩

set_option maxHeartbeats 2000000 in
set_option maxRecDepth 100000 in
theorem impl_Cubic_act.act_ack (g : Nat) (w_ s m o si n c b rw rc : Int) (hr : 0 ≤ b ∧ b ≤ 1000) (hl : impl_Cubic_act.l s m o si n b.toNat w_ c = some (rw, rc)) (w0 w : World) (hI : IsS26 w0 w g w_ s m o si n c) (hB : Below w0.heap.size w0 w) :
    Calls Try.prog 26 #[.pointer (some ⟨g, 0, none⟩), .agg #[.int .i64 1, .int .i64 b]] w fun e w' => e = .returned (.int .i64 0) ∧ IsS26 w0 w' g rw s m o si n rc ∧ Below w0.heap.size w0 w' ∧ KeepBut w w' g none := by
  have HI := Aside0.mk hI
  have HB := Aside0.mk hB
  have HK := Aside0.mk (KeepBut.refl w g none)
  obtain ⟨hb, hg⟩ := hI
  have k0 := cellS26_0 hb
  have k5 := cellS26_5 hb
  have f0 := blk_frozen hb 0
  have f5 := blk_frozen hb 5
  have HG := Aside0.mk hg
  have HL : g < w.heap.size := HI.out.lt
  clear hb hg hB
  have HLL := Aside0.mk hl
  clear hl
  have d : decide (0 ≤ b ∧ b ≤ 1000) = true := decide_eq_true hr
  obtain ⟨hr0, hr1⟩ := hr
  go_enter Try.func26, Try.ntmps26
  go_wp2_with (first | (go_at_call 31; refine (impl_Cubic_act.inR_q _ _ _ _).mono ?_; rintro e w1 ⟨rfl, rfl⟩))
  go_loopg [15] b.toNat (fun gk v15 w' => ∃ (j : Nat) (x y : Int), j ≤ b.toNat ∧ gk = b.toNat - j ∧ v15 = .int .i64 j ∧ Aside0 (impl_Cubic_act.l s m o si n gk x y = some (rw, rc)) ∧ Aside0 (IsS26 w0 w' g x s m o si n y) ∧ Aside0 (Below w0.heap.size w0 w') ∧ Aside0 (KeepBut w w' g none))
  case atStart => exact ⟨0, w_, c, by omega, by omega, rfl, HLL, ⟨by with_reducible (repeat (first | exact HI.out | apply IsS26.drewN | apply IsS26.alloc))⟩, ⟨by with_reducible (repeat (first | exact HB.out | apply pw_below_drewN | apply below_alloc))⟩, ⟨by with_reducible (repeat (first | exact HK.out | apply keep_drewN | apply keep_alloc))⟩⟩
  case round =>
    clear HI HB HK HLL k0 k5 f0 f5 d
    obtain ⟨j, x, y, hj, hgk, rfl, HF, HI, HB, HK⟩ := hrel
    have HGK := Aside0.mk hgk
    by_cases hlt : j < b.toNat
    · obtain ⟨gk1, rfl⟩ : ∃ q, gk = q + 1 := ⟨gk - 1, by omega⟩
      have hf := HF.out
      simp only [impl_Cubic_act.l] at hf
      obtain ⟨⟨q1, q2, q3, q4, q5, q6, q7⟩, ha, hf2⟩ := Option.bind_eq_some_iff.mp hf
      have HA := Aside0.mk ha
      have HF2 := Aside0.mk hf2
      clear hf ha hf2 HF hgk
      have hlt2 : (j : Int) < b := by omega
      clear hlt
      go_wp2_with (first | (go_at_call 35; refine (impl_Cubic_act.ack_keep g _ _ _ _ _ _ _ _ _ _ _ _ _ _ w0 _ HI.out HB.out HA.out).mono ?_; rintro e w1 ⟨rfl, hI1, hB1, hK1, hs⟩))
      go_roundg gk1
      case rel => exact ⟨j + 1, q1, q7, by omega, by have := HGK.out; omega, by go_num, HF2, ⟨by rw [← hs.1, ← hs.2.1, ← hs.2.2.1, ← hs.2.2.2.1, ← hs.2.2.2.2]; exact hI1⟩, ⟨hB1⟩, ⟨HK.out.trans hK1 (.inl rfl)⟩⟩
      case measure => omega
    · obtain rfl : gk = 0 := by omega
      have hf := HF.out
      simp only [impl_Cubic_act.l, Option.some.injEq, Prod.mk.injEq] at hf
      obtain ⟨rfl, rfl⟩ := hf
      have hge : b ≤ (j : Int) := by omega
      have HJ := Aside0.mk hj
      clear hlt hgk HGK hj
      go_wp2
      all_goals go_ret
      exact ⟨rfl, HI.out, HB.out, HK.out⟩


set_option maxHeartbeats 8000000 in
set_option maxRecDepth 100000 in
theorem impl_Cubic_act.calls (k : Nat) (g : Nat) (s0_0 : Int) (s0_1 : Int) (s0_2 : Int) (s0_3 : Int) (s0_4 : Int) (s0_5 : Int) (s0_6 : Int) (a1_0 : Int) (a1_1 : Int) (r1 : Int) (r2 : Int) (r3 : Int) (r4 : Int) (r5 : Int) (r6 : Int) (r7 : Int) (r8 : Int) (w0 w : World) (hI : IsS26 w0 w g s0_0 s0_1 s0_2 s0_3 s0_4 s0_5 s0_6) (hB : Below w0.heap.size w0 w) (h : impl_Cubic_act.f k s0_0 s0_1 s0_2 s0_3 s0_4 s0_5 s0_6 a1_0 a1_1 = some (r1, r2, r3, r4, r5, r6, r7, r8)) :
    Calls Try.prog 26 #[.pointer (some ⟨g, 0, none⟩), .agg #[.int .i64 a1_0, .int .i64 a1_1]] w fun e w' => e = .returned (.int .i64 r1) ∧ IsS26 w0 w' g r2 r3 r4 r5 r6 r7 r8 ∧ Below w0.heap.size w0 w' ∧ KeepBut w w' g none := by
  unfold impl_Cubic_act.f at h
  by_cases n1 : a1_0 = 1
  · rw [if_pos n1] at h
    subst n1
    by_cases hr : 0 ≤ a1_1 ∧ a1_1 ≤ 1000
    · rw [if_pos hr] at h
      obtain ⟨⟨rw_, rc⟩, hl, h⟩ := Option.bind_eq_some_iff.mp h
      simp only [Option.some.injEq, Prod.mk.injEq] at h
      obtain ⟨rfl, rfl, rfl, rfl, rfl, rfl, rfl, rfl⟩ := h
      exact impl_Cubic_act.act_ack g _ _ _ _ _ _ _ _ _ _ hr hl w0 w hI hB
    · rw [if_neg hr] at h
      simp only [Option.some.injEq, Prod.mk.injEq] at h
      obtain ⟨rfl, rfl, rfl, rfl, rfl, rfl, rfl, rfl⟩ := h
      exact impl_Cubic_act.act_ack_no k g _ _ _ _ _ _ _ _ hr w0 w hI hB
  rw [if_neg n1] at h
  by_cases n2 : a1_0 = 2
  · rw [if_pos n2] at h
    subst n2
    obtain ⟨⟨q1, q2, q3, q4, q5, q6, q7⟩, hl, h⟩ := Option.bind_eq_some_iff.mp h
    simp only [Option.some.injEq, Prod.mk.injEq] at h
    obtain ⟨rfl, rfl, rfl, rfl, rfl, rfl, rfl, rfl⟩ := h
    exact impl_Cubic_act.act_loss k g _ _ _ _ _ _ _ _ _ _ _ _ _ _ _ hl w0 w hI hB
  rw [if_neg n2] at h
  by_cases n3 : a1_0 = 3
  · rw [if_pos n3] at h
    subst n3
    obtain ⟨⟨q1, q2, q3, q4, q5, q6, q7⟩, hl, h⟩ := Option.bind_eq_some_iff.mp h
    simp only [Option.some.injEq, Prod.mk.injEq] at h
    obtain ⟨rfl, rfl, rfl, rfl, rfl, rfl, rfl, rfl⟩ := h
    exact impl_Cubic_act.act_time k g _ _ _ _ _ _ _ _ _ _ _ _ _ _ _ hl w0 w hI hB
  rw [if_neg n3] at h
  by_cases n4 : a1_0 = 4
  · rw [if_pos n4] at h
    subst n4
    by_cases hn : 0 ≤ s0_5 ∧ s0_5 ≤ 1000000
    case neg => rw [if_neg hn] at h; cases h
    rw [if_pos hn] at h
    by_cases hr : 0 ≤ a1_1 ∧ a1_1 ≤ 1000000 - s0_5
    · rw [if_pos hr] at h
      simp only [Option.some.injEq, Prod.mk.injEq] at h
      obtain ⟨rfl, rfl, rfl, rfl, rfl, rfl, rfl, rfl⟩ := h
      exact impl_Cubic_act.act_wait k g _ _ _ _ _ _ _ _ hn.1 hn.2 hr w0 w hI hB
    · rw [if_neg hr] at h
      simp only [Option.some.injEq, Prod.mk.injEq] at h
      obtain ⟨rfl, rfl, rfl, rfl, rfl, rfl, rfl, rfl⟩ := h
      exact impl_Cubic_act.act_wait_no k g _ _ _ _ _ _ _ _ hn.1 hn.2 hr w0 w hI hB
  rw [if_neg n4] at h
  simp only [Option.some.injEq, Prod.mk.injEq] at h
  obtain ⟨rfl, rfl, rfl, rfl, rfl, rfl, rfl, rfl⟩ := h
  exact impl_Cubic_act.act_none k g _ _ _ _ _ _ _ _ _ n1 n2 n3 n4 w0 w hI hB

end Go.Proofs.Ytjfbeakmpmjadaa.PWin
