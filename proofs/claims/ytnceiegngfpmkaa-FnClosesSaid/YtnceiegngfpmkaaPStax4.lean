-- Written by plug.py, a program of this work, over the kit's printing program: the functions that it prints, and this work's own proofs of those that it does not.
import Derived.Test.YtnceiegngfpmkaaPStax0
import Derived.Test.YtnceiegngfpmkaaPStax3
namespace Go.Proofs.Ytnceiegngfpmkaa.PSta
open Go.RowKit Go.Proofs.YtnceiegngfpmkaaW.PrintWords Go.Proofs.YtnceiegngfpmkaaW.PrintLast Go.Proofs.YtnceiegngfpmkaaW.PrintMore
attribute [local go_sem] max2_int min2_int max_two min_two max_three min_three max_four min_four   -- for this text's walks alone
set_option linter.unusedVariables false
set_option linter.unusedSimpArgs false

/-! ### impl_segmentEvent: function 50 -/
def impl_segmentEvent.f (k : Nat) (a0 a1 : Int) : Option (Int × Int) :=
 if ¬ (0 ≤ a0 ∧ a0 ≤ 10) then none
 else if (Go.bits .and .i64 a1 8 != 0) = true then some (if a0 = 1 then 1 else 0, 0)
 else if a0 = 0 then some (0, 8)
 else if a0 = 1 then
  (if (Go.bits .and .i64 a1 2 != 0) = true then some (1, 8) else if (Go.bits .and .i64 a1 16 != 0) = true then some (1, 8)
   else if (Go.bits .and .i64 a1 1 != 0) = true then some (3, 3) else some (1, 0))
 else if a0 = 2 then
  (if (Go.bits .and .i64 a1 1 != 0) = true then (if (Go.bits .and .i64 a1 2 != 0) = true then some (4, 2) else some (3, 3)) else some (2, 0))
 else if a0 = 3 then
  (if (Go.bits .and .i64 a1 2 != 0) = true then impl_closingEvent.f k 4 (Go.bits .and .i64 a1 4 != 0) (Go.bits .and .i64 a1 16 != 0)
   else (if (Go.bits .and .i64 a1 1 != 0) = true then some (3, 3) else some (3, 0)))
 else impl_closingEvent.f k a0 (Go.bits .and .i64 a1 4 != 0) (Go.bits .and .i64 a1 16 != 0)
theorem impl_segmentEvent.mono : ∀ a0 a1 k, LeO (impl_segmentEvent.f k a0 a1) (impl_segmentEvent.f (k + 1) a0 a1) := by
 intro a0 a1 k
 unfold impl_segmentEvent.f
 repeat' first
  | exact LeO.refl _
  | exact impl_closingEvent.mono _ _ _ _
  | refine LeO.ite ?_ ?_

theorem impl_segmentEvent.has_any (b a1 : Int) (g : Nat) (W : World) (hc : W.cell? ⟨g, 0, none⟩ = some (.int .i64 a1)) :
  Calls Try.prog 57 #[.int .i64 b, .pointer (some ⟨g, 0, none⟩)] W fun e w' => e = .returned (.bool (Go.bits .and .i64 a1 b != 0)) ∧ W = w' := by
 go_enter Try.func57, Try.ntmps57
 go_wp2
 go_ret
 exact ⟨rfl, rfl⟩
theorem impl_segmentEvent.seg_late (k : Nat) (a0 a1 r1 r2 : Int) (w : World) (h : impl_closingEvent.f k a0 (Go.bits .and .i64 a1 4 != 0) (Go.bits .and .i64 a1 16 != 0) = some (r1, r2)) (h0 : 4 ≤ a0) (e8 : (Go.bits .and .i64 a1 8 != 0) = false) :
  Calls Try.prog 50 #[.int .i64 a0, .int .i64 a1] w fun e w' => e = .returned (.tuple #[.int .i64 r1, .int .i64 r2]) ∧ Below w.heap.size w w' := by
 have H := Aside0.mk h
 clear h
 have HB := Aside0.mk (Below.refl w.heap.size w)
 go_enter Try.func50, Try.ntmps50
 go_wp2_with (first | (go_at_call 57; refine (impl_segmentEvent.has_any _ a1 _ _ (by simp)).mono ?_; rintro e w' ⟨rfl, rfl⟩) | (go_at_call 58; refine (impl_closingEvent.calls k a0 _ _ r1 r2 _ H.out).mono ?_; rintro e w' ⟨rfl, ⟨nd, rfl⟩⟩))
 go_ret2
 exact ⟨rfl, by repeat (first | exact HB.out | apply below_alloc | apply pw_below_drewN | apply below_drew1)⟩
theorem impl_segmentEvent.seg_rst (k : Nat) (a0 a1 r1 r2 : Int) (w : World) (h : impl_segmentEvent.f k a0 a1 = some (r1, r2)) (h0 : 0 ≤ a0 ∧ a0 ≤ 10) (e8 : (Go.bits .and .i64 a1 8 != 0) = true) :
  Calls Try.prog 50 #[.int .i64 a0, .int .i64 a1] w fun e w' => e = .returned (.tuple #[.int .i64 r1, .int .i64 r2]) ∧ Below w.heap.size w w' := by
 have H := Aside0.mk h
 clear h
 have HB := Aside0.mk (Below.refl w.heap.size w)
 obtain ⟨h0, h1⟩ := h0
 by_cases s1 : a0 = 1
 ·subst s1
  go_enter Try.func50, Try.ntmps50
  go_wp2_with (first | (go_at_call 57; refine (impl_segmentEvent.has_any _ a1 _ _ (by simp)).mono ?_; rintro e w' ⟨rfl, rfl⟩))
  all_goals
   go_ret2
   have H := H.out
   simp [impl_segmentEvent.f, *] at H
   obtain ⟨rfl, rfl⟩ := H
   exact ⟨rfl, by repeat (first | exact HB.out | apply below_alloc | apply pw_below_drewN | apply below_drew1)⟩
 ·have s1b : (a0 == 1) = false := by simpa using s1
  go_enter Try.func50, Try.ntmps50
  go_wp2_with (first | (go_at_call 57; refine (impl_segmentEvent.has_any _ a1 _ _ (by simp)).mono ?_; rintro e w' ⟨rfl, rfl⟩))
  all_goals
   go_ret2
   have H := H.out
   simp [impl_segmentEvent.f, *] at H
   obtain ⟨rfl, rfl⟩ := H
   exact ⟨rfl, by repeat (first | exact HB.out | apply below_alloc | apply pw_below_drewN | apply below_drew1)⟩
theorem impl_segmentEvent.seg_3a (k : Nat) (a1 r1 r2 : Int) (w : World) (h : impl_closingEvent.f k 4 (Go.bits .and .i64 a1 4 != 0) (Go.bits .and .i64 a1 16 != 0) = some (r1, r2)) (e2 : (Go.bits .and .i64 a1 2 != 0) = true) (e8 : (Go.bits .and .i64 a1 8 != 0) = false) :
  Calls Try.prog 50 #[.int .i64 3, .int .i64 a1] w fun e w' => e = .returned (.tuple #[.int .i64 r1, .int .i64 r2]) ∧ Below w.heap.size w w' := by
 have H := Aside0.mk h
 clear h
 have HB := Aside0.mk (Below.refl w.heap.size w)
 go_enter Try.func50, Try.ntmps50
 go_wp2_with (first | (go_at_call 57; refine (impl_segmentEvent.has_any _ a1 _ _ (by simp)).mono ?_; rintro e w' ⟨rfl, rfl⟩) | (go_at_call 58; refine (impl_closingEvent.calls k 4 _ _ r1 r2 _ H.out).mono ?_; rintro e w' ⟨rfl, ⟨nd, rfl⟩⟩))
 go_ret2
 exact ⟨rfl, by repeat (first | exact HB.out | apply below_alloc | apply pw_below_drewN | apply below_drew1)⟩
theorem impl_segmentEvent.seg_3b (k : Nat) (a1 r1 r2 : Int) (w : World) (h : impl_segmentEvent.f k 3 a1 = some (r1, r2)) (e8 : (Go.bits .and .i64 a1 8 != 0) = false) (e2 : (Go.bits .and .i64 a1 2 != 0) = false) :
  Calls Try.prog 50 #[.int .i64 3, .int .i64 a1] w fun e w' => e = .returned (.tuple #[.int .i64 r1, .int .i64 r2]) ∧ Below w.heap.size w w' := by
 have H := Aside0.mk h
 clear h
 have HB := Aside0.mk (Below.refl w.heap.size w)
 go_enter Try.func50, Try.ntmps50
 go_wp2_with (first | (go_at_call 57; refine (impl_segmentEvent.has_any _ a1 _ _ (by simp)).mono ?_; rintro e w' ⟨rfl, rfl⟩))
 all_goals
  go_ret2
  have H := H.out
  simp [impl_segmentEvent.f, *] at H
  obtain ⟨rfl, rfl⟩ := H
  exact ⟨rfl, by repeat (first | exact HB.out | apply below_alloc | apply pw_below_drewN | apply below_drew1)⟩
set_option maxHeartbeats 2000000 in
theorem impl_segmentEvent.seg_2 (k : Nat) (a1 r1 r2 : Int) (w : World) (h : impl_segmentEvent.f k 2 a1 = some (r1, r2)) (e8 : (Go.bits .and .i64 a1 8 != 0) = false) :
  Calls Try.prog 50 #[.int .i64 2, .int .i64 a1] w fun e w' => e = .returned (.tuple #[.int .i64 r1, .int .i64 r2]) ∧ Below w.heap.size w w' := by
 have H := Aside0.mk h
 clear h
 have HB := Aside0.mk (Below.refl w.heap.size w)
 cases e1 : (Go.bits .and .i64 a1 1 != 0) <;> cases e2 : (Go.bits .and .i64 a1 2 != 0)
 all_goals
  go_enter Try.func50, Try.ntmps50
  go_wp2_with (first | (go_at_call 57; refine (impl_segmentEvent.has_any _ a1 _ _ (by simp)).mono ?_; rintro e w' ⟨rfl, rfl⟩))
 all_goals
  go_ret2
  have H := H.out
  simp [impl_segmentEvent.f, *] at H
  obtain ⟨rfl, rfl⟩ := H
  exact ⟨rfl, by repeat (first | exact HB.out | apply below_alloc | apply pw_below_drewN | apply below_drew1)⟩
set_option maxHeartbeats 2000000 in
theorem impl_segmentEvent.seg_1 (k : Nat) (a1 r1 r2 : Int) (w : World) (h : impl_segmentEvent.f k 1 a1 = some (r1, r2)) (e8 : (Go.bits .and .i64 a1 8 != 0) = false) :
  Calls Try.prog 50 #[.int .i64 1, .int .i64 a1] w fun e w' => e = .returned (.tuple #[.int .i64 r1, .int .i64 r2]) ∧ Below w.heap.size w w' := by
 have H := Aside0.mk h
 clear h
 have HB := Aside0.mk (Below.refl w.heap.size w)
 cases e2 : (Go.bits .and .i64 a1 2 != 0) <;> cases e16 : (Go.bits .and .i64 a1 16 != 0)
 all_goals
  go_enter Try.func50, Try.ntmps50
  go_wp2_with (first | (go_at_call 57; refine (impl_segmentEvent.has_any _ a1 _ _ (by simp)).mono ?_; rintro e w' ⟨rfl, rfl⟩))
 all_goals
  go_ret2
  have H := H.out
  simp [impl_segmentEvent.f, *] at H
  obtain ⟨rfl, rfl⟩ := H
  exact ⟨rfl, by repeat (first | exact HB.out | apply below_alloc | apply pw_below_drewN | apply below_drew1)⟩
theorem impl_segmentEvent.seg_0 (k : Nat) (a1 r1 r2 : Int) (w : World) (h : impl_segmentEvent.f k 0 a1 = some (r1, r2)) (e8 : (Go.bits .and .i64 a1 8 != 0) = false) :
  Calls Try.prog 50 #[.int .i64 0, .int .i64 a1] w fun e w' => e = .returned (.tuple #[.int .i64 r1, .int .i64 r2]) ∧ Below w.heap.size w w' := by
 have H := Aside0.mk h
 clear h
 have HB := Aside0.mk (Below.refl w.heap.size w)
 go_enter Try.func50, Try.ntmps50
 go_wp2_with (first | (go_at_call 57; refine (impl_segmentEvent.has_any _ a1 _ _ (by simp)).mono ?_; rintro e w' ⟨rfl, rfl⟩))
 all_goals
  go_ret2
  have H := H.out
  simp [impl_segmentEvent.f, *] at H
  obtain ⟨rfl, rfl⟩ := H
  exact ⟨rfl, by repeat (first | exact HB.out | apply below_alloc | apply pw_below_drewN | apply below_drew1)⟩

set_option maxHeartbeats 8000000 in
set_option maxRecDepth 100000 in
theorem impl_segmentEvent.calls (k : Nat) (a0 : Int) (a1 : Int) (r1 : Int) (r2 : Int) (w : World) (h : impl_segmentEvent.f k a0 a1 = some (r1, r2)) :
  Calls Try.prog 50 #[.int .i64 a0, .int .i64 a1] w fun e w' => e = .returned (.tuple #[.int .i64 r1, .int .i64 r2]) ∧ Below w.heap.size w w' := by
 by_cases hb : 0 ≤ a0 ∧ a0 ≤ 10
 case neg => rw [impl_segmentEvent.f, if_pos hb] at h; cases h
 cases e8 : (Go.bits .and .i64 a1 8 != 0)
 case true => exact impl_segmentEvent.seg_rst k a0 a1 r1 r2 w h hb e8
 by_cases s0 : a0 = 0
 ·subst s0; exact impl_segmentEvent.seg_0 k a1 r1 r2 w h e8
 by_cases s1 : a0 = 1
 ·subst s1; exact impl_segmentEvent.seg_1 k a1 r1 r2 w h e8
 by_cases s2 : a0 = 2
 ·subst s2; exact impl_segmentEvent.seg_2 k a1 r1 r2 w h e8
 by_cases s3 : a0 = 3
 ·subst s3
  cases e2 : (Go.bits .and .i64 a1 2 != 0)
  ·exact impl_segmentEvent.seg_3b k a1 r1 r2 w h e8 e2
  ·refine impl_segmentEvent.seg_3a k a1 r1 r2 w ?_ e2 e8
   simpa [impl_segmentEvent.f, e8, e2] using h
 ·refine impl_segmentEvent.seg_late k a0 a1 r1 r2 w ?_ (by omega) e8
  rw [impl_segmentEvent.f, if_neg (fun hn => hn hb), e8, if_neg Bool.false_ne_true, if_neg s0, if_neg s1, if_neg s2, if_neg s3] at h
  exact h

end Go.Proofs.Ytnceiegngfpmkaa.PSta
