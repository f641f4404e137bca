/- Plain law: the program's and the reference's step of a window answer alike for all arguments. -/
import Derived.Test.YtjfbeakmpmjadaaCub2
import Derived.Test.YtjfbeakmpmjadaaCubStep
namespace Go.Proofs.Ytjfbeakmpmjadaa.Pure
open Go.RowKit Go.Proofs.Ytjfbeakmpmjadaa.PWin Go.Proofs.YtjfbeakmpmjadaaW.PrintWords Go.Proofs.YtjfbeakmpmjadaaW.PrintLast
noncomputable instance {w s m o si n c : Int} : Decidable (CI w s m o si n c) := Classical.propDecidable _
theorem inRange_eq (a b c : Int) : impl_inRange.f a b c = some (decide (b ≤ a ∧ a ≤ c)) := by
  unfold impl_inRange.f
  by_cases h : a ≥ b <;> simp [h]
theorem l01In_eq (a b c : Int) : spec_l01In.f a b c = some (decide (b ≤ a ∧ a ≤ c)) := by
  unfold spec_l01In.f
  by_cases h : a ≥ b <;> simp [h]
theorem spec_ok_eq (w s m o si n c : Int) : spec_CubicOK.f w s m o si n c = some (decide (CI w s m o si n c)) := by
  unfold spec_CubicOK.f
  simp only [l01In_eq, Option.bind_some, decide_eq_true_eq]
  repeat' split
  all_goals
    congr 1
    first
      | (rw [decide_eq_decide]; constructor
         · intro h; exact ⟨by omega, by omega, by omega, by omega, by omega, by omega, by omega, by omega, by omega, by omega, by omega, by omega, by omega⟩
         · intro h; obtain ⟨a1, a2, a3, a4, a5, a6, a7, a8, a9, a10, a11, a12, a13⟩ := h; omega)
      | (symm; rw [decide_eq_false_iff_not]; intro h; obtain ⟨a1, a2, a3, a4, a5, a6, a7, a8, a9, a10, a11, a12, a13⟩ := h; omega)
theorem impl_ok_eq (k : Nat) (w s m o si n c : Int) : impl_CubicOK.f (k + 1) w s m o si n c = some (decide (CI w s m o si n c)) := by
  unfold impl_CubicOK.f
  simp only [inRange_eq, Option.bind_some, decide_eq_true_eq, impl_CubicOK.j0, Bool.not_eq_true', decide_eq_false_iff_not, if_true]
  repeat' split
  all_goals
    congr 1
    first
      | (rw [decide_eq_decide]; constructor
         · intro h; exact ⟨by omega, by omega, by omega, by omega, by omega, by omega, by omega, by omega, by omega, by omega, by omega, by omega, by omega⟩
         · intro h; obtain ⟨a1, a2, a3, a4, a5, a6, a7, a8, a9, a10, a11, a12, a13⟩ := h; omega)
      | (symm; rw [decide_eq_false_iff_not]; intro h; obtain ⟨a1, a2, a3, a4, a5, a6, a7, a8, a9, a10, a11, a12, a13⟩ := h; omega)
theorem steps_eq (w s m o si n c b0 b1 : Int) (k : Nat) (hk : 2001 ≤ k) : ∃ r1 r2 r3 r4 r5 r6 r7 r8, impl_CubicStep.f k w s m o si n c b0 b1 = some (r1, r2, r3, r4, r5, r6, r7, r8) ∧ spec_CubicStep.f k w s m o si n c b0 b1 = some (r1, r2, r3, r4, r5, r6, r7, r8) := by
  unfold impl_CubicStep.f spec_CubicStep.f
  obtain ⟨j, rfl⟩ : ∃ j, k = j + 1 := ⟨k - 1, by omega⟩
  rw [spec_ok_eq, impl_ok_eq, Option.bind_some, Option.bind_some]
  by_cases h : CI w s m o si n c
  · obtain ⟨d, p1, p2, p3, p4, p5, p6, p7, e1, e2, _, _⟩ := act_ok h b0 b1 (j + 1) (by omega)
    rw [decide_eq_true h, if_pos rfl, if_pos rfl, e1, e2]
    exact ⟨_, _, _, _, _, _, _, _, rfl, rfl⟩
  · rw [decide_eq_false h, if_neg (by decide), if_neg (by decide)]
    exact ⟨_, _, _, _, _, _, _, _, rfl, rfl⟩
theorem stepLaw (w s m o si n c b0 b1 : Int) : laws_FnExactCubicStep.f 2001 w s m o si n c b0 b1 = some true := by
  obtain ⟨r1, r2, r3, r4, r5, r6, r7, r8, e1, e2⟩ := steps_eq w s m o si n c b0 b1 2001 (Nat.le_refl _)
  unfold laws_FnExactCubicStep.f
  simp only [laws_toCubic.f, laws_toPaceAct.f, Option.bind_some, e1, e2, laws_eqCubic.f, if_true]
end Go.Proofs.Ytjfbeakmpmjadaa.Pure
