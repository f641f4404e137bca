-- Written by plug.py, a program of this work, over the kit's printing program: the functions that it prints, and this work's own proofs of those that it does not.
import Derived.Test.YtjfbeakmpmjadaaPWinx0
import Derived.Test.YtjfbeakmpmjadaaPWinx10
import Derived.Test.YtjfbeakmpmjadaaPWinx11
namespace Go.Proofs.Ytjfbeakmpmjadaa.PWin
open Go.RowKit Go.Proofs.YtjfbeakmpmjadaaW.PrintWords Go.Proofs.YtjfbeakmpmjadaaW.PrintLast Go.Proofs.YtjfbeakmpmjadaaW.PrintMore
attribute [local go_sem] max2_int min2_int max_two min_two max_three min_three max_four min_four   -- for this text's walks alone
set_option linter.unusedVariables false
set_option linter.unusedSimpArgs false

/-! ### impl_Cubic_loss: function 36 -/
def impl_Cubic_loss.f (k : Nat) (s0_0 : Int) (s0_1 : Int) (s0_2 : Int) (s0_3 : Int) (s0_4 : Int) (s0_5 : Int) (s0_6 : Int) : Option (Int × Int × Int × Int × Int × Int × Int) :=
  if 1 ≤ s0_0 ∧ s0_0 ≤ 100000 ∧ 0 ≤ s0_2 ∧ s0_2 ≤ 100000 then
    (impl_cubeRoot.f k (1000000000 * (10 * (mx ((if s0_0 < s0_2 then 17 * s0_0 / 20 else s0_0) - mx (7 * s0_0 / 10) 2) 0) / 4))).bind fun r =>
      some (mx (7 * s0_0 / 10) 2, mx (7 * s0_0 / 10) 2, (if s0_0 < s0_2 then 17 * s0_0 / 20 else s0_0), r, s0_5, s0_5, 0)
  else none
theorem impl_Cubic_loss.mono : ∀ a0 a1 a2 a3 a4 a5 a6 k, LeO (impl_Cubic_loss.f k a0 a1 a2 a3 a4 a5 a6) (impl_Cubic_loss.f (k + 1) a0 a1 a2 a3 a4 a5 a6) := by
  intro a0 a1 a2 a3 a4 a5 a6 k
  unfold impl_Cubic_loss.f
  exact LeO.ite (LeO.bind (impl_cubeRoot.mono _ _) (fun _ => LeO.refl _)) (LeO.none _)

theorem impl_Cubic_loss.wp_gen {P : Program} {c : Code} {Q : Exit → Act → World → Prop} {a : Act} {w1 : World} (F : World → Prop) (hF : F w1) (h : ∀ W, F W → Code.wp P c Q a W) : Code.wp P c Q a w1 := h _ hF
set_option maxHeartbeats 8000000 in
set_option maxRecDepth 100000 in
theorem impl_Cubic_loss.root_q (k : Nat) (a0 : Int) (r : Int) (w : World) (h : impl_cubeRoot.f k a0 = some r) :
    Calls Try.prog 43 #[.int .i64 a0] w fun e w' => e = .returned (.int .i64 r) ∧ w = w' := by
  have H : (impl_cubeRoot.l0 k a0 0 1048576) = some r := h
  clear h
  have H' := Aside0.mk H
  clear H
  go_enter Try.func43, Try.ntmps43
  go_wp2
  go_loopg [3, 4] k (fun kq v3 v4 w' => ∃ (x3_1 : Int) (x4_1 : Int), v3 = .int .i64 x3_1 ∧ v4 = .int .i64 x4_1 ∧ Aside0 (impl_cubeRoot.l0 kq a0 x3_1 x4_1 = some r) ∧ Aside0 (kq ≤ k) ∧ w = w')
  case atStart => exact ⟨(0), (1048576), (by first | rfl | (simp; done) | (simp [*]; done)), (by first | rfl | (simp; done) | (simp [*]; done)), H', ⟨Nat.le_refl _⟩, by rfl⟩
  case round =>
    clear H'
    obtain ⟨x3_1, x4_1, rfl, rfl, HA, HK1, rfl⟩ := hrel
    cases gk with
    | zero => exact absurd HA.out (by simp [impl_cubeRoot.l0])
    | succ k1 =>
      have H := HA.out
      clear HA
      simp only [impl_cubeRoot.l0] at H
      by_cases c2 : x4_1 > 0
      · rw [if_pos c2] at H
        have c2b0 : decide (0 < x4_1) = true := decide_eq_true c2
        clear c2
        by_cases c3 : (wrap64 (x3_1 + x4_1)) ≤ 1048576
        · rw [if_pos c3] at H
          have c3b0 : decide ((wrap64 (x3_1 + x4_1)) ≤ 1048576) = true := decide_eq_true c3
          clear c3
          by_cases c4 : (wrap64 ((wrap64 ((wrap64 (x3_1 + x4_1)) * (wrap64 (x3_1 + x4_1)))) * (wrap64 (x3_1 + x4_1)))) ≤ a0
          · rw [if_pos c4] at H
            have c4b0 : decide ((wrap64 ((wrap64 ((wrap64 (x3_1 + x4_1)) * (wrap64 (x3_1 + x4_1)))) * (wrap64 (x3_1 + x4_1)))) ≤ a0) = true := decide_eq_true c4
            clear c4
            have H' := Aside0.mk H
            clear H
            go_wp2
            go_roundg k1
            case measure => have := HK1.out; omega
            case rel => exact ⟨(wrap64 (x3_1 + x4_1)), (x4_1 / 2), (by first | rfl | (simp; done) | (simp [*]; done)), (by first | rfl | (simp; done) | (simp [*]; done)), H', ⟨by have := HK1.out; omega⟩, by rfl⟩
          · rw [if_neg c4] at H
            have c4b0 : decide ((wrap64 ((wrap64 ((wrap64 (x3_1 + x4_1)) * (wrap64 (x3_1 + x4_1)))) * (wrap64 (x3_1 + x4_1)))) ≤ a0) = false := decide_eq_false c4
            clear c4
            have H' := Aside0.mk H
            clear H
            go_wp2
            go_roundg k1
            case measure => have := HK1.out; omega
            case rel => exact ⟨(x3_1), (x4_1 / 2), (by first | rfl | (simp; done) | (simp [*]; done)), (by first | rfl | (simp; done) | (simp [*]; done)), H', ⟨by have := HK1.out; omega⟩, by rfl⟩
        · rw [if_neg c3] at H
          have c3b0 : decide ((wrap64 (x3_1 + x4_1)) ≤ 1048576) = false := decide_eq_false c3
          clear c3
          have H' := Aside0.mk H
          clear H
          go_wp2
          go_roundg k1
          case measure => have := HK1.out; omega
          case rel => exact ⟨(x3_1), (x4_1 / 2), (by first | rfl | (simp; done) | (simp [*]; done)), (by first | rfl | (simp; done) | (simp [*]; done)), H', ⟨by have := HK1.out; omega⟩, by rfl⟩
      · rw [if_neg c2] at H
        have c2b0 : decide (0 < x4_1) = false := decide_eq_false c2
        clear c2
        obtain rfl := Option.some.inj H
        go_wp2
        go_ret
        exact ⟨by first | rfl | (simp; done) | (simp [*]; done), by rfl⟩


set_option maxHeartbeats 2000000 in
set_option maxRecDepth 100000 in
theorem impl_Cubic_loss.loss_00 (k g : Nat) (w_ s m o si n c q1 q2 q3 dd r : Int) (w0 w : World) (hI : IsS26 w0 w g w_ s m o si n c) (hB : Below w0.heap.size w0 w) (h1 : 1 ≤ w_) (h2 : w_ ≤ 100000) (h3 : 0 ≤ m) (h4 : m ≤ 100000) (e1 : Int.tdiv (17 * w_) 20 = q1) (b1 : 0 ≤ q1) (b2 : q1 ≤ 100000) (e2 : Int.tdiv (7 * w_) 10 = q2) (b3 : 0 ≤ q2) (b4 : q2 ≤ 100000) (e0 : (if w_ - q2 < 0 then 0 else w_ - q2) = dd) (b7 : 0 ≤ dd) (b8 : dd ≤ 100000) (e3 : Int.tdiv (10 * dd) 4 = q3) (b5 : 0 ≤ q3) (b6 : q3 ≤ 1000000) (d1 : ¬ w_ < m) (d2 : ¬ q2 < 2) (hc : impl_cubeRoot.f k (1000000000 * q3) = some r) :
    Calls Try.prog 36 #[.pointer (some ⟨g, 0, none⟩)] w fun e w' => e = .returned (.tuple #[]) ∧ IsS26 w0 w' g (q2) (q2) w_ r n n 0 ∧ Below w0.heap.size w0 w' ∧ KeepBut w w' g none := by
  have HV : IntKind.i64.wrap (1000000000 * IntKind.i64.wrap ((IntKind.i64.wrap (10 * if IntKind.i64.wrap (w_ - q2) < 0 then 0 else IntKind.i64.wrap (w_ - q2))).tdiv 4)) = 1000000000 * q3 := by
    rw [show IntKind.i64.wrap (w_ - q2) = w_ - q2 from IntWalk.i64_in _ (by omega), e0, show IntKind.i64.wrap (10 * dd) = 10 * dd from IntWalk.i64_in _ (by omega), e3, show IntKind.i64.wrap q3 = q3 from IntWalk.i64_in _ (by omega)]
    exact IntWalk.i64_in _ (by omega)
  replace HV := Aside0.mk HV
  have HI := Aside0.mk hI
  have HB := Aside0.mk hB
  have HK := Aside0.mk (KeepBut.refl w g none)
  have HC := Aside0.mk hc
  obtain ⟨hb, hg⟩ := hI
  have k0 := cellS26_0 hb
  have k1 := cellS26_1 hb
  have k2 := cellS26_2 hb
  have k3 := cellS26_3 hb
  have k4 := cellS26_4 hb
  have k5 := cellS26_5 hb
  have k6 := cellS26_6 hb
  have f0 := blk_frozen hb 0
  have f1 := blk_frozen hb 1
  have f2 := blk_frozen hb 2
  have f3 := blk_frozen hb 3
  have f4 := blk_frozen hb 4
  have f6 := blk_frozen hb 6
  have HG := Aside0.mk hg
  clear hb hg hB hc e0 e3 b5 b6 b7 b8
  go_enter Try.func36, Try.ntmps36
  go_wp2
  go_quiet (fail)
  go_wp2
  go_region
  all_goals go_wp2
  refine impl_Cubic_loss.wp_gen (fun W => IsS26 w0 W g (q2) (q2) w_ o n n 0 ∧ Below w0.heap.size w0 W ∧ KeepBut w W g none) ⟨?_, ?_, ?_⟩ ?_
  case refine_1 => with_reducible (repeat (first | exact HI.out | apply IsS26.drewN | apply IsS26.drew | apply IsS26.set_0 | apply IsS26.set_1 | apply IsS26.set_2 | apply IsS26.set_4 | apply IsS26.set_6))
  case refine_2 => with_reducible (repeat (first | exact HB.out | apply pw_below_drewN | apply below_drew1 | refine below_set ?_ HG.out))
  case refine_3 => with_reducible (repeat (first | exact HK.out | apply KeepBut.set_ | apply keep_drewN | apply keep_drew))
  rintro W ⟨hI2, hB2, hK2⟩
  clear k0 k1 k2 k3 k4 k5 k6 f0 f1 f2 f3 f4 f6 HI HB HK
  have HI := Aside0.mk hI2
  have HB := Aside0.mk hB2
  have HK := Aside0.mk hK2
  obtain ⟨hb, hg⟩ := hI2
  have k0 := cellS26_0 hb
  have k2 := cellS26_2 hb
  have k3 := cellS26_3 hb
  have f3 := blk_frozen hb 3
  clear hb hg hB2 hK2
  have HC1 := HC.out
  refine wp_region_still_tail 15 (by kernel_rfl) (by kernel_rfl) ?_
  simp only [List.take_succ_cons, List.take_zero, List.drop_succ_cons, List.drop_zero]
  clear h1 h2 h3 h4 b1 b2 b3 b4
  iterate 14 still_step
  refine wpStill_step (fun K hK => ?_)
  go_simp
  rw [HV.out]
  refine ⟨_, (impl_Cubic_loss.root_q _ _ _ _ HC1).mono fun e w' h => ⟨h.1, h.2.symm⟩, hK _ ?_⟩
  clear hK K
  refine wpStill_nil ?_
  change wpList _ _ _ _ _ W.drew
  go_wp2
  all_goals go_end0
  all_goals exact ⟨rfl, by with_reducible (repeat (first | exact HI.out | apply IsS26.drewN | apply IsS26.drew | apply IsS26.set_3)), by with_reducible (repeat (first | exact HB.out | apply pw_below_drewN | apply below_drew1 | refine below_set ?_ HG.out)), by with_reducible (repeat (first | exact HK.out | apply KeepBut.set_ | apply keep_drewN | apply keep_drew))⟩

set_option maxHeartbeats 2000000 in
set_option maxRecDepth 100000 in
theorem impl_Cubic_loss.loss_01 (k g : Nat) (w_ s m o si n c q1 q2 q3 dd r : Int) (w0 w : World) (hI : IsS26 w0 w g w_ s m o si n c) (hB : Below w0.heap.size w0 w) (h1 : 1 ≤ w_) (h2 : w_ ≤ 100000) (h3 : 0 ≤ m) (h4 : m ≤ 100000) (e1 : Int.tdiv (17 * w_) 20 = q1) (b1 : 0 ≤ q1) (b2 : q1 ≤ 100000) (e2 : Int.tdiv (7 * w_) 10 = q2) (b3 : 0 ≤ q2) (b4 : q2 ≤ 100000) (e0 : (if w_ - 2 < 0 then 0 else w_ - 2) = dd) (b7 : 0 ≤ dd) (b8 : dd ≤ 100000) (e3 : Int.tdiv (10 * dd) 4 = q3) (b5 : 0 ≤ q3) (b6 : q3 ≤ 1000000) (d1 : ¬ w_ < m) (d2 : q2 < 2) (hc : impl_cubeRoot.f k (1000000000 * q3) = some r) :
    Calls Try.prog 36 #[.pointer (some ⟨g, 0, none⟩)] w fun e w' => e = .returned (.tuple #[]) ∧ IsS26 w0 w' g (2) (2) w_ r n n 0 ∧ Below w0.heap.size w0 w' ∧ KeepBut w w' g none := by
  have HV : IntKind.i64.wrap (1000000000 * IntKind.i64.wrap ((IntKind.i64.wrap (10 * if IntKind.i64.wrap (w_ - 2) < 0 then 0 else IntKind.i64.wrap (w_ - 2))).tdiv 4)) = 1000000000 * q3 := by
    rw [show IntKind.i64.wrap (w_ - 2) = w_ - 2 from IntWalk.i64_in _ (by omega), e0, show IntKind.i64.wrap (10 * dd) = 10 * dd from IntWalk.i64_in _ (by omega), e3, show IntKind.i64.wrap q3 = q3 from IntWalk.i64_in _ (by omega)]
    exact IntWalk.i64_in _ (by omega)
  replace HV := Aside0.mk HV
  have HI := Aside0.mk hI
  have HB := Aside0.mk hB
  have HK := Aside0.mk (KeepBut.refl w g none)
  have HC := Aside0.mk hc
  obtain ⟨hb, hg⟩ := hI
  have k0 := cellS26_0 hb
  have k1 := cellS26_1 hb
  have k2 := cellS26_2 hb
  have k3 := cellS26_3 hb
  have k4 := cellS26_4 hb
  have k5 := cellS26_5 hb
  have k6 := cellS26_6 hb
  have f0 := blk_frozen hb 0
  have f1 := blk_frozen hb 1
  have f2 := blk_frozen hb 2
  have f3 := blk_frozen hb 3
  have f4 := blk_frozen hb 4
  have f6 := blk_frozen hb 6
  have HG := Aside0.mk hg
  clear hb hg hB hc e0 e3 b5 b6 b7 b8
  go_enter Try.func36, Try.ntmps36
  go_wp2
  go_quiet (fail)
  go_wp2
  go_region
  all_goals go_wp2
  refine impl_Cubic_loss.wp_gen (fun W => IsS26 w0 W g (2) (2) w_ o n n 0 ∧ Below w0.heap.size w0 W ∧ KeepBut w W g none) ⟨?_, ?_, ?_⟩ ?_
  case refine_1 => with_reducible (repeat (first | exact HI.out | apply IsS26.drewN | apply IsS26.drew | apply IsS26.set_0 | apply IsS26.set_1 | apply IsS26.set_2 | apply IsS26.set_4 | apply IsS26.set_6))
  case refine_2 => with_reducible (repeat (first | exact HB.out | apply pw_below_drewN | apply below_drew1 | refine below_set ?_ HG.out))
  case refine_3 => with_reducible (repeat (first | exact HK.out | apply KeepBut.set_ | apply keep_drewN | apply keep_drew))
  rintro W ⟨hI2, hB2, hK2⟩
  clear k0 k1 k2 k3 k4 k5 k6 f0 f1 f2 f3 f4 f6 HI HB HK
  have HI := Aside0.mk hI2
  have HB := Aside0.mk hB2
  have HK := Aside0.mk hK2
  obtain ⟨hb, hg⟩ := hI2
  have k0 := cellS26_0 hb
  have k2 := cellS26_2 hb
  have k3 := cellS26_3 hb
  have f3 := blk_frozen hb 3
  clear hb hg hB2 hK2
  have HC1 := HC.out
  refine wp_region_still_tail 15 (by kernel_rfl) (by kernel_rfl) ?_
  simp only [List.take_succ_cons, List.take_zero, List.drop_succ_cons, List.drop_zero]
  clear h1 h2 h3 h4 b1 b2 b3 b4
  iterate 14 still_step
  refine wpStill_step (fun K hK => ?_)
  go_simp
  rw [HV.out]
  refine ⟨_, (impl_Cubic_loss.root_q _ _ _ _ HC1).mono fun e w' h => ⟨h.1, h.2.symm⟩, hK _ ?_⟩
  clear hK K
  refine wpStill_nil ?_
  change wpList _ _ _ _ _ W.drew
  go_wp2
  all_goals go_end0
  all_goals exact ⟨rfl, by with_reducible (repeat (first | exact HI.out | apply IsS26.drewN | apply IsS26.drew | apply IsS26.set_3)), by with_reducible (repeat (first | exact HB.out | apply pw_below_drewN | apply below_drew1 | refine below_set ?_ HG.out)), by with_reducible (repeat (first | exact HK.out | apply KeepBut.set_ | apply keep_drewN | apply keep_drew))⟩

set_option maxHeartbeats 2000000 in
set_option maxRecDepth 100000 in
theorem impl_Cubic_loss.loss_10 (k g : Nat) (w_ s m o si n c q1 q2 q3 dd r : Int) (w0 w : World) (hI : IsS26 w0 w g w_ s m o si n c) (hB : Below w0.heap.size w0 w) (h1 : 1 ≤ w_) (h2 : w_ ≤ 100000) (h3 : 0 ≤ m) (h4 : m ≤ 100000) (e1 : Int.tdiv (17 * w_) 20 = q1) (b1 : 0 ≤ q1) (b2 : q1 ≤ 100000) (e2 : Int.tdiv (7 * w_) 10 = q2) (b3 : 0 ≤ q2) (b4 : q2 ≤ 100000) (e0 : (if q1 - q2 < 0 then 0 else q1 - q2) = dd) (b7 : 0 ≤ dd) (b8 : dd ≤ 100000) (e3 : Int.tdiv (10 * dd) 4 = q3) (b5 : 0 ≤ q3) (b6 : q3 ≤ 1000000) (d1 : w_ < m) (d2 : ¬ q2 < 2) (hc : impl_cubeRoot.f k (1000000000 * q3) = some r) :
    Calls Try.prog 36 #[.pointer (some ⟨g, 0, none⟩)] w fun e w' => e = .returned (.tuple #[]) ∧ IsS26 w0 w' g (q2) (q2) q1 r n n 0 ∧ Below w0.heap.size w0 w' ∧ KeepBut w w' g none := by
  have HV : IntKind.i64.wrap (1000000000 * IntKind.i64.wrap ((IntKind.i64.wrap (10 * if IntKind.i64.wrap (q1 - q2) < 0 then 0 else IntKind.i64.wrap (q1 - q2))).tdiv 4)) = 1000000000 * q3 := by
    rw [show IntKind.i64.wrap (q1 - q2) = q1 - q2 from IntWalk.i64_in _ (by omega), e0, show IntKind.i64.wrap (10 * dd) = 10 * dd from IntWalk.i64_in _ (by omega), e3, show IntKind.i64.wrap q3 = q3 from IntWalk.i64_in _ (by omega)]
    exact IntWalk.i64_in _ (by omega)
  replace HV := Aside0.mk HV
  have HI := Aside0.mk hI
  have HB := Aside0.mk hB
  have HK := Aside0.mk (KeepBut.refl w g none)
  have HC := Aside0.mk hc
  obtain ⟨hb, hg⟩ := hI
  have k0 := cellS26_0 hb
  have k1 := cellS26_1 hb
  have k2 := cellS26_2 hb
  have k3 := cellS26_3 hb
  have k4 := cellS26_4 hb
  have k5 := cellS26_5 hb
  have k6 := cellS26_6 hb
  have f0 := blk_frozen hb 0
  have f1 := blk_frozen hb 1
  have f2 := blk_frozen hb 2
  have f3 := blk_frozen hb 3
  have f4 := blk_frozen hb 4
  have f6 := blk_frozen hb 6
  have HG := Aside0.mk hg
  clear hb hg hB hc e0 e3 b5 b6 b7 b8
  go_enter Try.func36, Try.ntmps36
  go_wp2
  go_quiet (fail)
  go_wp2
  go_region
  all_goals go_wp2
  refine impl_Cubic_loss.wp_gen (fun W => IsS26 w0 W g (q2) (q2) q1 o n n 0 ∧ Below w0.heap.size w0 W ∧ KeepBut w W g none) ⟨?_, ?_, ?_⟩ ?_
  case refine_1 => with_reducible (repeat (first | exact HI.out | apply IsS26.drewN | apply IsS26.drew | apply IsS26.set_0 | apply IsS26.set_1 | apply IsS26.set_2 | apply IsS26.set_4 | apply IsS26.set_6))
  case refine_2 => with_reducible (repeat (first | exact HB.out | apply pw_below_drewN | apply below_drew1 | refine below_set ?_ HG.out))
  case refine_3 => with_reducible (repeat (first | exact HK.out | apply KeepBut.set_ | apply keep_drewN | apply keep_drew))
  rintro W ⟨hI2, hB2, hK2⟩
  clear k0 k1 k2 k3 k4 k5 k6 f0 f1 f2 f3 f4 f6 HI HB HK
  have HI := Aside0.mk hI2
  have HB := Aside0.mk hB2
  have HK := Aside0.mk hK2
  obtain ⟨hb, hg⟩ := hI2
  have k0 := cellS26_0 hb
  have k2 := cellS26_2 hb
  have k3 := cellS26_3 hb
  have f3 := blk_frozen hb 3
  clear hb hg hB2 hK2
  have HC1 := HC.out
  refine wp_region_still_tail 15 (by kernel_rfl) (by kernel_rfl) ?_
  simp only [List.take_succ_cons, List.take_zero, List.drop_succ_cons, List.drop_zero]
  clear h1 h2 h3 h4 b1 b2 b3 b4
  iterate 14 still_step
  refine wpStill_step (fun K hK => ?_)
  go_simp
  rw [HV.out]
  refine ⟨_, (impl_Cubic_loss.root_q _ _ _ _ HC1).mono fun e w' h => ⟨h.1, h.2.symm⟩, hK _ ?_⟩
  clear hK K
  refine wpStill_nil ?_
  change wpList _ _ _ _ _ W.drew
  go_wp2
  all_goals go_end0
  all_goals exact ⟨rfl, by with_reducible (repeat (first | exact HI.out | apply IsS26.drewN | apply IsS26.drew | apply IsS26.set_3)), by with_reducible (repeat (first | exact HB.out | apply pw_below_drewN | apply below_drew1 | refine below_set ?_ HG.out)), by with_reducible (repeat (first | exact HK.out | apply KeepBut.set_ | apply keep_drewN | apply keep_drew))⟩

set_option maxHeartbeats 2000000 in
set_option maxRecDepth 100000 in
theorem impl_Cubic_loss.loss_11 (k g : Nat) (w_ s m o si n c q1 q2 q3 dd r : Int) (w0 w : World) (hI : IsS26 w0 w g w_ s m o si n c) (hB : Below w0.heap.size w0 w) (h1 : 1 ≤ w_) (h2 : w_ ≤ 100000) (h3 : 0 ≤ m) (h4 : m ≤ 100000) (e1 : Int.tdiv (17 * w_) 20 = q1) (b1 : 0 ≤ q1) (b2 : q1 ≤ 100000) (e2 : Int.tdiv (7 * w_) 10 = q2) (b3 : 0 ≤ q2) (b4 : q2 ≤ 100000) (e0 : (if q1 - 2 < 0 then 0 else q1 - 2) = dd) (b7 : 0 ≤ dd) (b8 : dd ≤ 100000) (e3 : Int.tdiv (10 * dd) 4 = q3) (b5 : 0 ≤ q3) (b6 : q3 ≤ 1000000) (d1 : w_ < m) (d2 : q2 < 2) (hc : impl_cubeRoot.f k (1000000000 * q3) = some r) :
    Calls Try.prog 36 #[.pointer (some ⟨g, 0, none⟩)] w fun e w' => e = .returned (.tuple #[]) ∧ IsS26 w0 w' g (2) (2) q1 r n n 0 ∧ Below w0.heap.size w0 w' ∧ KeepBut w w' g none := by
  have HV : IntKind.i64.wrap (1000000000 * IntKind.i64.wrap ((IntKind.i64.wrap (10 * if IntKind.i64.wrap (q1 - 2) < 0 then 0 else IntKind.i64.wrap (q1 - 2))).tdiv 4)) = 1000000000 * q3 := by
    rw [show IntKind.i64.wrap (q1 - 2) = q1 - 2 from IntWalk.i64_in _ (by omega), e0, show IntKind.i64.wrap (10 * dd) = 10 * dd from IntWalk.i64_in _ (by omega), e3, show IntKind.i64.wrap q3 = q3 from IntWalk.i64_in _ (by omega)]
    exact IntWalk.i64_in _ (by omega)
  replace HV := Aside0.mk HV
  have HI := Aside0.mk hI
  have HB := Aside0.mk hB
  have HK := Aside0.mk (KeepBut.refl w g none)
  have HC := Aside0.mk hc
  obtain ⟨hb, hg⟩ := hI
  have k0 := cellS26_0 hb
  have k1 := cellS26_1 hb
  have k2 := cellS26_2 hb
  have k3 := cellS26_3 hb
  have k4 := cellS26_4 hb
  have k5 := cellS26_5 hb
  have k6 := cellS26_6 hb
  have f0 := blk_frozen hb 0
  have f1 := blk_frozen hb 1
  have f2 := blk_frozen hb 2
  have f3 := blk_frozen hb 3
  have f4 := blk_frozen hb 4
  have f6 := blk_frozen hb 6
  have HG := Aside0.mk hg
  clear hb hg hB hc e0 e3 b5 b6 b7 b8
  go_enter Try.func36, Try.ntmps36
  go_wp2
  go_quiet (fail)
  go_wp2
  go_region
  all_goals go_wp2
  refine impl_Cubic_loss.wp_gen (fun W => IsS26 w0 W g (2) (2) q1 o n n 0 ∧ Below w0.heap.size w0 W ∧ KeepBut w W g none) ⟨?_, ?_, ?_⟩ ?_
  case refine_1 => with_reducible (repeat (first | exact HI.out | apply IsS26.drewN | apply IsS26.drew | apply IsS26.set_0 | apply IsS26.set_1 | apply IsS26.set_2 | apply IsS26.set_4 | apply IsS26.set_6))
  case refine_2 => with_reducible (repeat (first | exact HB.out | apply pw_below_drewN | apply below_drew1 | refine below_set ?_ HG.out))
  case refine_3 => with_reducible (repeat (first | exact HK.out | apply KeepBut.set_ | apply keep_drewN | apply keep_drew))
  rintro W ⟨hI2, hB2, hK2⟩
  clear k0 k1 k2 k3 k4 k5 k6 f0 f1 f2 f3 f4 f6 HI HB HK
  have HI := Aside0.mk hI2
  have HB := Aside0.mk hB2
  have HK := Aside0.mk hK2
  obtain ⟨hb, hg⟩ := hI2
  have k0 := cellS26_0 hb
  have k2 := cellS26_2 hb
  have k3 := cellS26_3 hb
  have f3 := blk_frozen hb 3
  clear hb hg hB2 hK2
  have HC1 := HC.out
  refine wp_region_still_tail 15 (by kernel_rfl) (by kernel_rfl) ?_
  simp only [List.take_succ_cons, List.take_zero, List.drop_succ_cons, List.drop_zero]
  clear h1 h2 h3 h4 b1 b2 b3 b4
  iterate 14 still_step
  refine wpStill_step (fun K hK => ?_)
  go_simp
  rw [HV.out]
  refine ⟨_, (impl_Cubic_loss.root_q _ _ _ _ HC1).mono fun e w' h => ⟨h.1, h.2.symm⟩, hK _ ?_⟩
  clear hK K
  refine wpStill_nil ?_
  change wpList _ _ _ _ _ W.drew
  go_wp2
  all_goals go_end0
  all_goals exact ⟨rfl, by with_reducible (repeat (first | exact HI.out | apply IsS26.drewN | apply IsS26.drew | apply IsS26.set_3)), by with_reducible (repeat (first | exact HB.out | apply pw_below_drewN | apply below_drew1 | refine below_set ?_ HG.out)), by with_reducible (repeat (first | exact HK.out | apply KeepBut.set_ | apply keep_drewN | apply keep_drew))⟩


set_option maxHeartbeats 8000000 in
set_option maxRecDepth 100000 in
theorem impl_Cubic_loss.calls (k : Nat) (g : Nat) (s0_0 : Int) (s0_1 : Int) (s0_2 : Int) (s0_3 : Int) (s0_4 : Int) (s0_5 : Int) (s0_6 : Int) (r1 : Int) (r2 : Int) (r3 : Int) (r4 : Int) (r5 : Int) (r6 : Int) (r7 : Int) (w0 w : World) (hI : IsS26 w0 w g s0_0 s0_1 s0_2 s0_3 s0_4 s0_5 s0_6) (hB : Below w0.heap.size w0 w) (h : impl_Cubic_loss.f k s0_0 s0_1 s0_2 s0_3 s0_4 s0_5 s0_6 = some (r1, r2, r3, r4, r5, r6, r7)) :
    Calls Try.prog 36 #[.pointer (some ⟨g, 0, none⟩)] w fun e w' => e = .returned (.tuple #[]) ∧ IsS26 w0 w' g r1 r2 r3 r4 r5 r6 r7 ∧ Below w0.heap.size w0 w' ∧ KeepBut w w' g none := by
  unfold impl_Cubic_loss.f at h
  by_cases hb : 1 ≤ s0_0 ∧ s0_0 ≤ 100000 ∧ 0 ≤ s0_2 ∧ s0_2 ≤ 100000
  case neg => rw [if_neg hb] at h; cases h
  rw [if_pos hb] at h
  obtain ⟨h1, h2, h3, h4⟩ := hb
  obtain ⟨r, hc, h⟩ := Option.bind_eq_some_iff.mp h
  simp only [Option.some.injEq, Prod.mk.injEq] at h
  obtain ⟨rfl, rfl, rfl, rfl, rfl, rfl, rfl⟩ := h
  have e1 : Int.tdiv (17 * s0_0) 20 = 17 * s0_0 / 20 := Int.tdiv_eq_ediv_of_nonneg (by omega)
  have e2 : Int.tdiv (7 * s0_0) 10 = 7 * s0_0 / 10 := Int.tdiv_eq_ediv_of_nonneg (by omega)
  have e3 : ∀ d : Int, 0 ≤ d → Int.tdiv (10 * d) 4 = 10 * d / 4 := fun d hd => Int.tdiv_eq_ediv_of_nonneg (by omega)
  have em : ∀ d : Int, (if d < 0 then 0 else d) = mx d 0 := fun d => by unfold mx; rfl
  have m0 : ∀ d : Int, 0 ≤ mx d 0 := fun d => by unfold mx; split <;> omega
  have m1 : ∀ d : Int, d ≤ 100000 → mx d 0 ≤ 100000 := fun d hd => by unfold mx; split <;> omega
  by_cases d1 : s0_0 < s0_2
  · rw [if_pos d1] at hc ⊢
    by_cases d2 : 7 * s0_0 / 10 < 2
    · have hm : mx (7 * s0_0 / 10) 2 = 2 := by unfold mx; rw [if_pos d2]
      rw [hm] at hc ⊢
      have v0 := m0 (17 * s0_0 / 20 - 2); have v1 := m1 (17 * s0_0 / 20 - 2) (by omega)
      exact impl_Cubic_loss.loss_11 k g _ _ _ _ _ _ _ _ _ _ _ _ w0 w hI hB h1 h2 h3 h4 e1 (by omega) (by omega) e2 (by omega) (by omega) (em _) v0 v1 (e3 _ v0) (by omega) (by omega) d1 d2 hc
    · have hm : mx (7 * s0_0 / 10) 2 = 7 * s0_0 / 10 := by unfold mx; rw [if_neg d2]
      rw [hm] at hc ⊢
      have v0 := m0 (17 * s0_0 / 20 - 7 * s0_0 / 10); have v1 := m1 (17 * s0_0 / 20 - 7 * s0_0 / 10) (by omega)
      exact impl_Cubic_loss.loss_10 k g _ _ _ _ _ _ _ _ _ _ _ _ w0 w hI hB h1 h2 h3 h4 e1 (by omega) (by omega) e2 (by omega) (by omega) (em _) v0 v1 (e3 _ v0) (by omega) (by omega) d1 d2 hc
  · rw [if_neg d1] at hc ⊢
    by_cases d2 : 7 * s0_0 / 10 < 2
    · have hm : mx (7 * s0_0 / 10) 2 = 2 := by unfold mx; rw [if_pos d2]
      rw [hm] at hc ⊢
      have v0 := m0 (s0_0 - 2); have v1 := m1 (s0_0 - 2) (by omega)
      exact impl_Cubic_loss.loss_01 k g _ _ _ _ _ _ _ _ _ _ _ _ w0 w hI hB h1 h2 h3 h4 e1 (by omega) (by omega) e2 (by omega) (by omega) (em _) v0 v1 (e3 _ v0) (by omega) (by omega) d1 d2 hc
    · have hm : mx (7 * s0_0 / 10) 2 = 7 * s0_0 / 10 := by unfold mx; rw [if_neg d2]
      rw [hm] at hc ⊢
      have v0 := m0 (s0_0 - 7 * s0_0 / 10); have v1 := m1 (s0_0 - 7 * s0_0 / 10) (by omega)
      exact impl_Cubic_loss.loss_00 k g _ _ _ _ _ _ _ _ _ _ _ _ w0 w hI hB h1 h2 h3 h4 e1 (by omega) (by omega) e2 (by omega) (by omega) (em _) v0 v1 (e3 _ v0) (by omega) (by omega) d1 d2 hc

end Go.Proofs.Ytjfbeakmpmjadaa.PWin
