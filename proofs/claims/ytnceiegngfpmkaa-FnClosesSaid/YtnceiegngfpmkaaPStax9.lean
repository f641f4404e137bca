-- Written by plug.py, a program of this work, over the kit's printing program: the functions that it prints, and this work's own proofs of those that it does not.
import Derived.Test.YtnceiegngfpmkaaPStax0
namespace Go.Proofs.Ytnceiegngfpmkaa.PSta
open Go.RowKit Go.Proofs.YtnceiegngfpmkaaW.PrintWords Go.Proofs.YtnceiegngfpmkaaW.PrintLast Go.Proofs.YtnceiegngfpmkaaW.PrintMore
attribute [local go_sem] max2_int min2_int max_two min_two max_three min_three max_four min_four   -- for this text's walks alone
set_option linter.unusedVariables false
set_option linter.unusedSimpArgs false

/-! ### spec_l18First: function 53 -/
def spec_l18First.f (a0 a1 : Int) : Option (Int × List Int) :=
 if a0 = 0 then some (0, [8])
 else if a0 = 1 then
  (if (Go.bits .and .i64 a1 2 != 0) = true then some (1, [8]) else if (Go.bits .and .i64 a1 16 != 0) = true then some (1, [8])
   else if (Go.bits .and .i64 a1 1 != 0) = true then some (3, [3]) else some (1, []))
 else if a0 = 2 then
  (if (Go.bits .and .i64 a1 1 != 0) = true then (if (Go.bits .and .i64 a1 2 != 0) = true then some (4, [2]) else some (3, [3])) else some (2, []))
 else some (a0, [])

theorem spec_l18First.first_0 (a1 r1 : Int) (r2 : List Int) (w : World) (h : spec_l18First.f 0 a1 = some (r1, r2)) :
  Calls Try.prog 53 #[.int .i64 0, .int .i64 a1] w fun e w' => ∃ v1_ : Value, e = .returned (.tuple #[.int .i64 r1, v1_]) ∧ Kd.R (Kd.int .i64) 3 w' w.heap.size (fun _ => True) v1_ r2 ∧ Below w.heap.size w w' := by
 have H := Aside0.mk h
 clear h
 have HB := Aside0.mk (Below.refl w.heap.size w)
 all_goals
  go_enter Try.func53, Try.ntmps53
  go_wp2
 all_goals
  go_ret2
  have H := H.out
  simp [spec_l18First.f, *] at H
  obtain ⟨rfl, rfl⟩ := H
  exact ⟨_, rfl, Kd.R_of_own (own_lit_of (enc := Value.int .i64) w w.heap.size 3 _ (Nat.le_refl _) (by simp)) (fun _ _ => trivial), by repeat (first | exact HB.out | apply below_alloc | apply pw_below_drewN | apply below_drew1)⟩
set_option maxHeartbeats 2000000 in
theorem spec_l18First.first_1 (a1 r1 : Int) (r2 : List Int) (w : World) (h : spec_l18First.f 1 a1 = some (r1, r2)) :
  Calls Try.prog 53 #[.int .i64 1, .int .i64 a1] w fun e w' => ∃ v1_ : Value, e = .returned (.tuple #[.int .i64 r1, v1_]) ∧ Kd.R (Kd.int .i64) 3 w' w.heap.size (fun _ => True) v1_ r2 ∧ Below w.heap.size w w' := by
 have H := Aside0.mk h
 clear h
 have HB := Aside0.mk (Below.refl w.heap.size w)
 cases e2 : (Go.bits .and .i64 a1 2 != 0) <;> cases e16 : (Go.bits .and .i64 a1 16 != 0) <;> cases e1 : (Go.bits .and .i64 a1 1 != 0)
 all_goals
  go_enter Try.func53, Try.ntmps53
  go_wp2
 all_goals
  go_ret2
  have H := H.out
  simp [spec_l18First.f, *] at H
  obtain ⟨rfl, rfl⟩ := H
  exact ⟨_, rfl, Kd.R_of_own (own_lit_of (enc := Value.int .i64) w w.heap.size 3 _ (Nat.le_refl _) (by simp)) (fun _ _ => trivial), by repeat (first | exact HB.out | apply below_alloc | apply pw_below_drewN | apply below_drew1)⟩
set_option maxHeartbeats 2000000 in
theorem spec_l18First.first_2 (a1 r1 : Int) (r2 : List Int) (w : World) (h : spec_l18First.f 2 a1 = some (r1, r2)) :
  Calls Try.prog 53 #[.int .i64 2, .int .i64 a1] w fun e w' => ∃ v1_ : Value, e = .returned (.tuple #[.int .i64 r1, v1_]) ∧ Kd.R (Kd.int .i64) 3 w' w.heap.size (fun _ => True) v1_ r2 ∧ Below w.heap.size w w' := by
 have H := Aside0.mk h
 clear h
 have HB := Aside0.mk (Below.refl w.heap.size w)
 cases e2 : (Go.bits .and .i64 a1 2 != 0) <;> cases e1 : (Go.bits .and .i64 a1 1 != 0)
 all_goals
  go_enter Try.func53, Try.ntmps53
  go_wp2
 all_goals
  go_ret2
  have H := H.out
  simp [spec_l18First.f, *] at H
  obtain ⟨rfl, rfl⟩ := H
  exact ⟨_, rfl, Kd.R_of_own (own_lit_of (enc := Value.int .i64) w w.heap.size 3 _ (Nat.le_refl _) (by simp)) (fun _ _ => trivial), by repeat (first | exact HB.out | apply below_alloc | apply pw_below_drewN | apply below_drew1)⟩
theorem spec_l18First.first_3 (a0 a1 r1 : Int) (r2 : List Int) (w : World) (h : spec_l18First.f a0 a1 = some (r1, r2)) (s0 : ¬ a0 = 0) (s1 : ¬ a0 = 1) (s2 : ¬ a0 = 2) :
  Calls Try.prog 53 #[.int .i64 a0, .int .i64 a1] w fun e w' => ∃ v1_ : Value, e = .returned (.tuple #[.int .i64 r1, v1_]) ∧ Kd.R (Kd.int .i64) 3 w' w.heap.size (fun _ => True) v1_ r2 ∧ Below w.heap.size w w' := by
 have H := Aside0.mk h
 clear h
 have t0 : (a0 == 0) = false := by simpa using s0
 have t1 : (a0 == 1) = false := by simpa using s1
 have t2 : (a0 == 2) = false := by simpa using s2
 have HB := Aside0.mk (Below.refl w.heap.size w)
 all_goals
  go_enter Try.func53, Try.ntmps53
  go_wp2
 all_goals
  go_ret2
  have H := H.out
  simp [spec_l18First.f, *] at H
  obtain ⟨rfl, rfl⟩ := H
  exact ⟨_, rfl, Kd.R_of_own (own_lit_of (enc := Value.int .i64) w w.heap.size 3 _ (Nat.le_refl _) (by simp)) (fun _ _ => trivial), by repeat (first | exact HB.out | apply below_alloc | apply pw_below_drewN | apply below_drew1)⟩

set_option maxHeartbeats 8000000 in
set_option maxRecDepth 100000 in
theorem spec_l18First.calls (a0 : Int) (a1 : Int) (r1 : Int) (r2 : List Int) (w : World) (h : spec_l18First.f a0 a1 = some (r1, r2)) :
  Calls Try.prog 53 #[.int .i64 a0, .int .i64 a1] w fun e w' => ∃ v1_ : Value, e = .returned (.tuple #[.int .i64 r1, v1_]) ∧ Kd.R (Kd.int .i64) 3 w' w.heap.size (fun _ => True) v1_ r2 ∧ Below w.heap.size w w' := by
 by_cases s0 : a0 = 0
 ·subst s0; exact spec_l18First.first_0 a1 r1 r2 w h
 by_cases s1 : a0 = 1
 ·subst s1; exact spec_l18First.first_1 a1 r1 r2 w h
 by_cases s2 : a0 = 2
 ·subst s2; exact spec_l18First.first_2 a1 r1 r2 w h
 exact spec_l18First.first_3 a0 a1 r1 r2 w h s0 s1 s2

end Go.Proofs.Ytnceiegngfpmkaa.PSta
