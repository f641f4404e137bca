/- Plain laws of the window's steps: the program's step and the reference's come to the same state and code, and the state stays in its ranges. -/
import Derived.Test.YtjfbeakmpmjadaaCub1
import Derived.Test.YtjfbeakmpmjadaaPWinx8
import Derived.Test.YtjfbeakmpmjadaaPWinx24
namespace Go.Proofs.Ytjfbeakmpmjadaa.Pure
open Go.RowKit Go.Proofs.Ytjfbeakmpmjadaa.PWin Go.Proofs.YtjfbeakmpmjadaaW.PrintWords Go.Proofs.YtjfbeakmpmjadaaW.PrintLast
structure CI (w s m o si n c : Int) : Prop where
  w1 : 1 ≤ w
  w2 : w ≤ 100000
  s1 : 2 ≤ s
  s2 : s ≤ 100000
  m1 : 0 ≤ m
  m2 : m ≤ 100000
  o1 : 0 ≤ o
  o2 : o ≤ 1000000
  si1 : 0 ≤ si
  si2 : si ≤ n
  n2 : n ≤ 1000000
  c1 : 0 ≤ c
  c2 : c ≤ 100000
theorem ack_ok {w s m o si n c : Int} (h : CI w s m o si n c) : ∃ w' c', impl_Cubic_ack.f w s m o si n c = some (w', s, m, o, si, n, c') ∧ CI w' s m o si n c' ∧ w ≤ w' ∧ w' ≤ w + 1 ∧
    ∀ (k : Nat) (x1 x5 : Int), x5 < x1 → 0 ≤ x5 → x1 ≤ 1000 → spec_l16Ack.l0 (k + 1) x1 x5 w s m o si n c = spec_l16Ack.l0 k x1 (x5 + 1) w' s m o si n c' := by
  obtain ⟨w1, w2, s1, s2, m1, m2, o1, o2, i1, i2, n2, c1, c2⟩ := h
  unfold impl_Cubic_ack.f
  rw [if_pos ⟨w1, w2, c1, c2, i1, i2, n2⟩]
  by_cases hs : w < s
  · rw [if_pos hs]
    refine ⟨_, _, rfl, ⟨by omega, by omega, s1, s2, m1, m2, o1, o2, i1, i2, n2, c1, c2⟩, by omega, by omega, ?_⟩
    intro k x1 x5 h1 h2 h3
    simp only [spec_l16Ack.l0]
    rw [if_pos h1, if_pos hs, w64 (x := x5 + 1) (by omega) (by omega), w64 (x := w + 1) (by omega) (by omega)]
  rw [if_neg hs]
  obtain ⟨aim, e1, e2, b1, b2⟩ := curves m o (n - si) m1 m2 o1 o2 (by omega) (by omega)
  rw [e2, Option.bind_some, if_pos ⟨by omega, by omega⟩]
  have fr : ∀ (k : Nat) (x1 x5 : Int), x5 < x1 → 0 ≤ x5 → x1 ≤ 1000 → spec_l16Ack.l0 (k + 1) x1 x5 w s m o si n c = (if aim > w then (if aim - w = 0 then none else if c + 1 > w / (aim - w) then spec_l16Ack.l0 k x1 (x5 + 1) (mn 100000 (w + 1)) s m o si n 0 else spec_l16Ack.l0 k x1 (x5 + 1) w s m o si n (mn (c + 1) 100000)) else (if c + 1 > 100 * w then spec_l16Ack.l0 k x1 (x5 + 1) (mn 100000 (w + 1)) s m o si n 0 else spec_l16Ack.l0 k x1 (x5 + 1) w s m o si n (mn (c + 1) 100000))) := by
    intro k x1 x5 h1 h2 h3
    have t1 : ∀ y : Int, 1 ≤ y → wrap64 (Int.tdiv w y) = w / y := by
      intro y hy
      rw [Int.tdiv_eq_ediv_of_nonneg (by omega)]
      have := Int.ediv_le_self y (show 0 ≤ w by omega)
      have := Int.ediv_nonneg (show 0 ≤ w by omega) (show 0 ≤ y by omega)
      exact w64 (by omega) (by omega)
    simp only [spec_l16Ack.l0]
    rw [if_pos h1, if_neg hs, w64 (x := x5 + 1) (by omega) (by omega), w64 (x := w + 1) (by omega) (by omega), w64 (x := n - si) (by omega) (by omega), e1, Option.bind_some, w64 (x := aim - w) (by omega) (by omega), w64 (x := c + 1) (by omega) (by omega), w64 (x := 100 * w) (by omega) (by omega)]
    by_cases ha : aim > w
    · rw [if_pos ha, if_pos ha, t1 _ (by omega)]
    · rw [if_neg ha, if_neg ha]
  have mm : mn 100000 (w + 1) = mn (w + 1) 100000 := by unfold mn; (repeat' split) <;> omega
  have m3 : w ≤ mn (w + 1) 100000 ∧ mn (w + 1) 100000 ≤ w + 1 ∧ mn (w + 1) 100000 ≤ 100000 := by unfold mn; split <;> omega
  have m4 : 0 ≤ mn (c + 1) 100000 ∧ mn (c + 1) 100000 ≤ 100000 := by unfold mn; split <;> omega
  have up : CI (mn (w + 1) 100000) s m o si n 0 := ⟨by omega, by omega, s1, s2, m1, m2, o1, o2, i1, i2, n2, by omega, by omega⟩
  have st : CI w s m o si n (mn (c + 1) 100000) := ⟨w1, w2, s1, s2, m1, m2, o1, o2, i1, i2, n2, by omega, by omega⟩
  by_cases ha : w < aim
  · rw [if_pos ha]
    by_cases hd : w / (aim - w) < c + 1
    · rw [if_pos hd]
      exact ⟨_, _, rfl, up, by omega, by omega, fun k x1 x5 h1 h2 h3 => by rw [fr k x1 x5 h1 h2 h3, if_pos ha, if_neg (by omega), if_pos hd, mm]⟩
    · rw [if_neg hd]
      exact ⟨_, _, rfl, st, by omega, by omega, fun k x1 x5 h1 h2 h3 => by rw [fr k x1 x5 h1 h2 h3, if_pos ha, if_neg (by omega), if_neg hd]⟩
  · rw [if_neg ha]
    by_cases hd : 100 * w < c + 1
    · rw [if_pos hd]
      exact ⟨_, _, rfl, up, by omega, by omega, fun k x1 x5 h1 h2 h3 => by rw [fr k x1 x5 h1 h2 h3, if_neg ha, if_pos hd, mm]⟩
    · rw [if_neg hd]
      exact ⟨_, _, rfl, st, by omega, by omega, fun k x1 x5 h1 h2 h3 => by rw [fr k x1 x5 h1 h2 h3, if_neg ha, if_neg hd]⟩
theorem acks_ok {s m o si n : Int} (x1 : Int) (hx : x1 ≤ 1000) : ∀ (j : Nat) (x5 w c : Int), 0 ≤ x5 → x1 - x5 = j → CI w s m o si n c → ∃ w' c', impl_Cubic_act.l s m o si n j w c = some (w', c') ∧ CI w' s m o si n c' ∧ w ≤ w' ∧ w' ≤ w + j ∧ ∀ k, j < k → spec_l16Ack.l0 k x1 x5 w s m o si n c = some (w', s, m, o, si, n, c')
  | 0, x5, w, c, h0, hj, h => ⟨w, c, rfl, h, by omega, by omega, fun k hk => by
      obtain ⟨k, rfl⟩ : ∃ q, k = q + 1 := ⟨k - 1, by omega⟩
      simp only [spec_l16Ack.l0]; rw [if_neg (by omega)]⟩
  | j + 1, x5, w, c, h0, hj, h => by
    obtain ⟨w1, c1, e1, h1, l1, l2, e2⟩ := ack_ok h
    obtain ⟨w2, c2, e3, h2, l3, l4, e4⟩ := acks_ok x1 hx j (x5 + 1) w1 c1 (by omega) (by omega) h1
    refine ⟨w2, c2, by simp only [impl_Cubic_act.l]; rw [e1]; exact e3, h2, by omega, by omega, fun k hk => ?_⟩
    obtain ⟨k, rfl⟩ : ∃ q, k = q + 1 := ⟨k - 1, by omega⟩
    rw [e2 k x1 x5 (by omega) h0 hx]
    exact e4 k (by omega)
theorem loss_ok {w s m o si n c : Int} (h : CI w s m o si n c) (k : Nat) (hk : 40 ≤ k) : ∃ m' o', impl_Cubic_loss.f k w s m o si n c = some (mx 2 (w * 7 / 10), mx 2 (w * 7 / 10), m', o', n, n, 0) ∧ spec_l16Loss.f k w s m o si n c = some (mx 2 (w * 7 / 10), mx 2 (w * 7 / 10), m', o', n, n, 0) ∧ CI (mx 2 (w * 7 / 10)) (mx 2 (w * 7 / 10)) m' o' n n 0 := by
  obtain ⟨w1, w2, s1, s2, m1, m2, o1, o2, i1, i2, n2, c1, c2⟩ := h
  have key : ∀ q : Int, 0 ≤ q → q ≤ 100000 → ∃ r, spec_l16Root.f k ((if mx 2 (w * 7 / 10) < q then q - mx 2 (w * 7 / 10) else 0) * 10 / 4 * 1000000000) = some r ∧ impl_cubeRoot.f k (1000000000 * (10 * (mx (q - mx 2 (w * 7 / 10)) 0) / 4)) = some r ∧ 0 ≤ r ∧ r ≤ 1000000 := by
    intro q q0 q1
    have e : (1000000000 * (10 * (mx (q - mx 2 (w * 7 / 10)) 0) / 4)) = ((if mx 2 (w * 7 / 10) < q then q - mx 2 (w * 7 / 10) else 0) * 10 / 4 * 1000000000) := by
      generalize mx 2 (w * 7 / 10) = a
      unfold mx
      (repeat' split) <;> omega
    have b : 0 ≤ ((if mx 2 (w * 7 / 10) < q then q - mx 2 (w * 7 / 10) else 0) * 10 / 4 * 1000000000) ∧ ((if mx 2 (w * 7 / 10) < q then q - mx 2 (w * 7 / 10) else 0) * 10 / 4 * 1000000000) ≤ 250000000000000 := by
      have : 2 ≤ mx 2 (w * 7 / 10) := by unfold mx; split <;> omega
      generalize mx 2 (w * 7 / 10) = a at *
      split <;> omega
    rw [e]
    generalize ((if mx 2 (w * 7 / 10) < q then q - mx 2 (w * 7 / 10) else 0) * 10 / 4 * 1000000000) = N at b ⊢
    obtain ⟨r, e1, e2, r0, r1, r2, r3⟩ := roots N b.1 k hk
    refine ⟨r, e1, e2, r0, ?_⟩
    by_cases hr : r ≤ 1000000
    · exact hr
    · have := cube_mono (by omega) (show (1000000 : Int) ≤ r by omega)
      omega
  have e0 : mx (7 * w / 10) 2 = mx 2 (w * 7 / 10) := by rw [Int.mul_comm 7 w]; unfold mx; (repeat' split) <;> omega
  have e1 : (if 2 < w * 7 / 10 then w * 7 / 10 else 2) = mx 2 (w * 7 / 10) := rfl
  have b0 : 2 ≤ mx 2 (w * 7 / 10) ∧ mx 2 (w * 7 / 10) ≤ 100000 := by unfold mx; split <;> omega
  unfold impl_Cubic_loss.f spec_l16Loss.f
  have hg : 1 ≤ w ∧ w ≤ 100000 ∧ 0 ≤ m ∧ m ≤ 100000 := ⟨w1, w2, m1, m2⟩
  simp only [if_pos hg, e0, e1]
  by_cases hm : w < m
  · simp only [if_pos hm]
    obtain ⟨r, e3, e4, r0, r1⟩ := key (w * 17 / 20) (by omega) (by omega)
    rw [show 17 * w / 20 = w * 17 / 20 by omega]
    refine ⟨w * 17 / 20, r, by rw [e4]; rfl, by rw [e3]; rfl, ?_⟩
    exact ⟨by omega, by omega, by omega, by omega, by omega, by omega, by omega, by omega, by omega, by omega, by omega, by omega, by omega⟩
  · simp only [if_neg hm]
    obtain ⟨r, e3, e4, r0, r1⟩ := key w (by omega) (by omega)
    refine ⟨w, r, by rw [e4]; rfl, by rw [e3]; rfl, ?_⟩
    exact ⟨by omega, by omega, by omega, by omega, by omega, by omega, by omega, by omega, by omega, by omega, by omega, by omega, by omega⟩
/-- What a step does to the window, by its kind. -/
def WinOK (w b0 b1 w' : Int) : Prop := if b0 = 1 then (w ≤ w' ∧ (0 ≤ b1 → w' ≤ w + b1)) else if b0 = 2 then w' = mx 2 (w * 7 / 10) else if b0 = 3 then w' = 1 else w' = w
theorem act_ok {w s m o si n c : Int} (h : CI w s m o si n c) (b0 b1 : Int) (k : Nat) (hk : 2000 ≤ k) : ∃ d w' s' m' o' si' n' c', impl_Cubic_act.f k w s m o si n c b0 b1 = some (d, w', s', m', o', si', n', c') ∧ spec_l16Step.f k w s m o si n c b0 b1 = some (w', s', m', o', si', n', c', d) ∧ CI w' s' m' o' si' n' c' ∧ WinOK w b0 b1 w' := by
  have H := h
  obtain ⟨w1, w2, s1, s2, m1, m2, o1, o2, i1, i2, n2, c1, c2⟩ := h
  unfold impl_Cubic_act.f spec_l16Step.f WinOK
  by_cases n1 : b0 = 1
  · simp only [if_pos n1]
    by_cases hr : 0 ≤ b1 ∧ b1 ≤ 1000
    · simp only [if_pos hr]
      obtain ⟨w', c', e1, h1, l1, l2, e2⟩ := acks_ok b1 hr.2 b1.toNat 0 w c (by omega) (by omega) H
      rw [e1, spec_l16Ack.f, e2 k (by omega)]
      exact ⟨_, _, _, _, _, _, _, _, rfl, rfl, h1, l1, fun _ => by omega⟩
    · simp only [if_neg hr]
      exact ⟨_, _, _, _, _, _, _, _, rfl, rfl, H, by omega, fun _ => by omega⟩
  simp only [if_neg n1]
  obtain ⟨m', o', e1, e2, h1⟩ := loss_ok H k (by omega)
  by_cases n2_ : b0 = 2
  · simp only [if_pos n2_]
    rw [e1, e2]
    exact ⟨_, _, _, _, _, _, _, _, rfl, rfl, h1, rfl⟩
  simp only [if_neg n2_]
  by_cases n3 : b0 = 3
  · simp only [if_pos n3]
    rw [e1, e2]
    obtain ⟨p1, p2, p3, p4, p5, p6, p7, p8, p9, p10, p11, p12, p13⟩ := h1
    exact ⟨_, _, _, _, _, _, _, _, rfl, rfl, ⟨by omega, by omega, p3, p4, p5, p6, p7, p8, p9, p10, p11, p12, p13⟩, rfl⟩
  simp only [if_neg n3]
  by_cases n4 : b0 = 4
  · simp only [if_pos n4]
    simp only [if_pos (show 0 ≤ n ∧ n ≤ 1000000 by omega)]
    by_cases hr : 0 ≤ b1 ∧ b1 ≤ 1000000 - n
    · simp only [if_pos hr]
      exact ⟨_, _, _, _, _, _, _, _, rfl, rfl, ⟨w1, w2, s1, s2, m1, m2, o1, o2, i1, by omega, by omega, c1, c2⟩, rfl⟩
    · simp only [if_neg hr]
      exact ⟨_, _, _, _, _, _, _, _, rfl, rfl, H, rfl⟩
  · simp only [if_neg n4]
    exact ⟨_, _, _, _, _, _, _, _, rfl, rfl, H, rfl⟩
end Go.Proofs.Ytjfbeakmpmjadaa.Pure
