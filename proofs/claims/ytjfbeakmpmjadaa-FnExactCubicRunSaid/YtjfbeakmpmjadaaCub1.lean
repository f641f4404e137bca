/- Plain laws of the window's arithmetic: both cube roots are the same number, both curves, both counts of what came, both losses; over the printed functions. -/
import Derived.Test.YtjfbeakmpmjadaaPWinx14
import Derived.Test.YtjfbeakmpmjadaaPWinx9
import Derived.Test.YtjfbeakmpmjadaaPWinx5
import Derived.Test.YtjfbeakmpmjadaaPWinx2
namespace Go.Proofs.Ytjfbeakmpmjadaa.Pure
open Go.RowKit Go.Proofs.Ytjfbeakmpmjadaa.PWin Go.Proofs.YtjfbeakmpmjadaaW.PrintWords Go.Proofs.YtjfbeakmpmjadaaW.PrintLast
theorem w64 {x : Int} (h : -9223372036854775808 ≤ x) (h' : x ≤ 9223372036854775807) : wrap64 x = x := by unfold wrap64; omega
theorem cube_mono {a b : Int} (h0 : 0 ≤ a) (h : a ≤ b) : a * a * a ≤ b * b * b := by
  have h1 : a * a ≤ b * b := Int.mul_le_mul h h h0 (by omega)
  exact Int.mul_le_mul h1 h h0 (Int.mul_nonneg (by omega) (by omega))
theorem cube_nn {a : Int} (h0 : 0 ≤ a) : 0 ≤ a * a * a := Int.mul_nonneg (Int.mul_nonneg h0 h0) h0
theorem cube_w {a : Int} (h0 : 0 ≤ a) (h : a ≤ 1048576) : wrap64 (wrap64 (a * a) * a) = a * a * a := by
  have h1 : a * a ≤ 1048576 * 1048576 := Int.mul_le_mul h h h0 (by omega)
  have h2 : 0 ≤ a * a := Int.mul_nonneg h0 h0
  have h3 := cube_mono h0 h
  have h4 := cube_nn h0
  rw [w64 (x := a * a) (by omega) (by omega), w64 (by omega) (by omega)]
structure Root (N r : Int) : Prop where
  lo : 0 ≤ r
  hi : r ≤ 1048576
  le : r * r * r ≤ N
  gt : r = 1048576 ∨ N < (r + 1) * (r + 1) * (r + 1)
theorem Root.unique {N r q : Int} (h : Root N r) (g : Root N q) : r = q := by
  have key : ∀ {a b : Int}, Root N a → Root N b → a ≤ b := by
    intro a b ha hb
    by_cases hc : a ≤ b
    · exact hc
    · have h1 : b + 1 ≤ a := by omega
      have h2 := cube_mono (by have := hb.lo; omega) h1
      rcases hb.gt with h3 | h3
      · have := ha.hi; omega
      · have := ha.le; omega
  have h1 := key h g
  have h2 := key g h
  omega
theorem spec_root_l0 (N : Int) (h0 : 0 ≤ N) : ∀ (d k : Nat) (lo hi : Int), 0 ≤ lo → lo ≤ hi → hi ≤ 1048576 → hi - lo < 2 ^ d → d < k → lo * lo * lo ≤ N → (hi = 1048576 ∨ N < (hi + 1) * (hi + 1) * (hi + 1)) → ∃ r, spec_l16Root.l0 k N lo hi = some r ∧ Root N r
  | 0, k, lo, hi, h1, h2, h3, h4, h5, h6, h7 => by
    obtain ⟨k, rfl⟩ : ∃ m, k = m + 1 := ⟨k - 1, by omega⟩
    have : lo = hi := by omega
    subst this
    exact ⟨lo, by simp only [spec_l16Root.l0]; rw [if_neg (by omega)], h1, h3, h6, h7⟩
  | d + 1, k, lo, hi, h1, h2, h3, h4, h5, h6, h7 => by
    obtain ⟨k, rfl⟩ : ∃ m, k = m + 1 := ⟨k - 1, by omega⟩
    simp only [spec_l16Root.l0]
    by_cases hlt : lo < hi
    · rw [if_pos hlt, w64 (x := lo + hi) (by omega) (by omega), w64 (x := lo + hi + 1) (by omega) (by omega), Int.tdiv_eq_ediv_of_nonneg (by omega), w64 (x := (lo + hi + 1) / 2) (by omega) (by omega)]
      have hp : (2 : Int) ^ (d + 1) = 2 * 2 ^ d := by rw [Int.pow_succ]; omega
      generalize hm : (lo + hi + 1) / 2 = m
      have m1 : lo < m := by omega
      have m2 : m ≤ hi := by omega
      rw [cube_w (by omega) (by omega)]
      by_cases hc : m * m * m ≤ N
      · rw [if_pos hc]; exact spec_root_l0 N h0 d k m hi (by omega) m2 h3 (by omega) (by omega) hc h7
      · rw [if_neg hc, w64 (by omega) (by omega)]; exact spec_root_l0 N h0 d k lo (m - 1) h1 (by omega) (by omega) (by omega) (by omega) h6 (.inr (by rw [show m - 1 + 1 = m by omega]; omega))
    · rw [if_neg hlt]
      have : lo = hi := by omega
      subst this
      exact ⟨lo, rfl, h1, h3, h6, h7⟩
theorem impl_root_l0 (N : Int) (h0 : 0 ≤ N) : ∀ (j k : Nat) (x : Int), j ≤ 20 → 0 ≤ x → x ≤ 1048576 → j + 1 < k → x * x * x ≤ N → (1048576 < x + 2 * 2 ^ j ∨ N < (x + 2 * 2 ^ j) * (x + 2 * 2 ^ j) * (x + 2 * 2 ^ j)) → ∃ r, impl_cubeRoot.l0 k N x (2 ^ j) = some r ∧ Root N r := by
  intro j
  induction j with
  | zero =>
    intro k x hj h1 h2 hk h3 h4
    obtain ⟨k, rfl⟩ : ∃ m, k = m + 2 := ⟨k - 2, by omega⟩
    have e1 : (1 : Int) / 2 = 0 := by decide
    simp only [impl_cubeRoot.l0, Int.pow_zero, e1]
    rw [if_pos (by decide), w64 (x := x + 1) (by omega) (by omega)]
    simp only [gt_iff_lt, Int.lt_irrefl, if_false]
    rw [Int.pow_zero] at h4
    by_cases hc : x + 1 ≤ 1048576
    · rw [if_pos hc, cube_w (by omega) hc]
      by_cases hn : (x + 1) * (x + 1) * (x + 1) ≤ N
      · rw [if_pos hn]; exact ⟨_, rfl, by omega, hc, hn, by rcases h4 with h4 | h4; left; omega; right; rw [show x + 1 + 1 = x + 2 * 1 by omega]; exact h4⟩
      · rw [if_neg hn]; exact ⟨_, rfl, h1, h2, h3, .inr (by omega)⟩
    · rw [if_neg hc]; exact ⟨_, rfl, h1, h2, h3, .inl (by omega)⟩
  | succ j ih =>
    intro k x hj h1 h2 hk h3 h4
    obtain ⟨k, rfl⟩ : ∃ m, k = m + 1 := ⟨k - 1, by omega⟩
    have hp : (2 : Int) ^ (j + 1) = 2 * 2 ^ j := by rw [Int.pow_succ]; omega
    have hpos : (0 : Int) < 2 ^ j := Int.pow_pos (by decide)
    have hle : (2 : Int) ^ j ≤ 2 ^ 20 := by exact_mod_cast Nat.pow_le_pow_right (by decide) (show j ≤ 20 by omega)
    have e20 : (2 : Int) ^ 20 = 1048576 := by decide
    simp only [impl_cubeRoot.l0]
    rw [hp] at h4 ⊢
    generalize (2 : Int) ^ j = b at *
    rw [if_pos (show 2 * b > 0 by omega), w64 (x := x + 2 * b) (by omega) (by omega), show 2 * b / 2 = b by omega]
    by_cases hc : x + 2 * b ≤ 1048576
    · rw [if_pos hc, cube_w (by omega) hc]
      by_cases hn : (x + 2 * b) * (x + 2 * b) * (x + 2 * b) ≤ N
      · rw [if_pos hn]; exact ih k _ (by omega) (by omega) hc (by omega) hn (by rw [show x + 2 * b + 2 * b = x + 2 * (2 * b) by omega]; exact h4)
      · rw [if_neg hn]; exact ih k _ (by omega) h1 h2 (by omega) h3 (.inr (by omega))
    · rw [if_neg hc]; exact ih k _ (by omega) h1 h2 (by omega) h3 (.inl (by omega))
theorem roots (N : Int) (h0 : 0 ≤ N) (k : Nat) (hk : 40 ≤ k) : ∃ r, spec_l16Root.f k N = some r ∧ impl_cubeRoot.f k N = some r ∧ 0 ≤ r ∧ r ≤ 1048576 ∧ (r = 1048576 ∨ N < (r + 1) * (r + 1) * (r + 1)) ∧ r * r * r ≤ N := by
  obtain ⟨r, e, hr⟩ := spec_root_l0 N h0 21 k 0 1048576 (by omega) (by omega) (by omega) (by decide) (by omega) (by simpa using h0) (.inl rfl)
  obtain ⟨q, e', hq⟩ := impl_root_l0 N h0 20 k 0 (by omega) (by omega) (by omega) (by omega) (by simpa using h0) (.inl (by decide))
  have := hr.unique hq
  subst this
  exact ⟨r, e, by rw [impl_cubeRoot.f]; exact e', hr.lo, hr.hi, hr.gt, hr.le⟩
theorem curves (m o t : Int) (h1 : 0 ≤ m) (h2 : m ≤ 100000) (h3 : 0 ≤ o) (h4 : o ≤ 1000000) (h5 : 0 ≤ t) (h6 : t ≤ 1000000) : ∃ r, spec_l16At.f m o t = some r ∧ impl_curve.f m o t = some r ∧ 1 ≤ r ∧ r ≤ 100000 := by
  unfold spec_l16At.f impl_curve.f
  rw [w64 (x := t - o) (by omega) (by omega)]
  have fin : ∀ x y : Int, x = y → mn (mx x 1) 100000 = mx 1 (mn 100000 y) := by
    intro x y e; subst e; unfold mn mx; repeat' split <;> omega
  have bd : ∀ y : Int, 1 ≤ mx 1 (mn 100000 y) ∧ mx 1 (mn 100000 y) ≤ 100000 := by
    intro y; unfold mn mx; constructor <;> repeat' split <;> omega
  by_cases hc : t - o > 100000
  · have hd : mn (t - o) 100000 = 100000 := by unfold mn; rw [if_pos (by omega)]
    rw [if_pos hc, hd]
    refine ⟨_, rfl, ?_, (bd _).1, (bd _).2⟩
    congr 1
    apply fin
    rw [w64 (x := m + 400000) (by omega) (by omega)]
    have e1 : wrap64 ((wrap64 ((wrap64 ((wrap64 (wrap64 (100000 * 100000) * 100000)).tdiv 1000000)) * 4)).tdiv 10000) = 400000 := by decide +kernel
    rw [e1, w64 (by omega) (by omega)]
    omega
  · have hd : mn (t - o) 100000 = t - o := by unfold mn; split <;> omega
    rw [if_neg hc, hd]
    refine ⟨_, rfl, ?_, (bd _).1, (bd _).2⟩
    congr 1
    apply fin
    rw [Int.add_comm]
theorem curve_b {m o t r : Int} (h : impl_curve.f m o t = some r) : 1 ≤ r ∧ r ≤ 100000 := by
  unfold impl_curve.f at h
  injection h with h
  subst h
  unfold mn mx; constructor <;> repeat' split <;> omega
end Go.Proofs.Ytjfbeakmpmjadaa.Pure
