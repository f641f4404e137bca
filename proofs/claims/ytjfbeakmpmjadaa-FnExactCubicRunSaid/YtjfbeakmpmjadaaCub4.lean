/- Plain law: the program's and the reference's runs of a window answer alike; what is marked is held. -/
import Derived.Test.YtjfbeakmpmjadaaCub2
import Derived.Test.YtjfbeakmpmjadaaPWinx34
namespace Go.Proofs.Ytjfbeakmpmjadaa.Pure
open Go.RowKit Go.Proofs.Ytjfbeakmpmjadaa.PWin Go.Proofs.YtjfbeakmpmjadaaW.PrintWords Go.Proofs.YtjfbeakmpmjadaaW.PrintLast
set_option linter.unusedVariables false
set_option linter.unusedSimpArgs false
/-! Helpers of the exact laws on slices of numbers: equal to itself, marked, held. -/
theorem rd_nat (l : List Int) (i : Nat) : rd l (i : Int) = l.getD i 0 := by simp [rd]
theorem w64i {x : Int} (h : -9223372036854775808 ≤ x) (h' : x ≤ 9223372036854775807) : wrap64 x = x := by unfold wrap64; omega
theorem eqIntS_l0 (l : List Int) (hl : l.length ≤ 1000000000000) : ∀ (d k i : Nat), i + d = l.length → d < k → laws_eqIntS.l0 k l l (i : Int) = some true
  | 0, k, i, h, hk => by
    obtain ⟨k, rfl⟩ : ∃ m, k = m + 1 := ⟨k - 1, by omega⟩
    simp only [laws_eqIntS.l0]; rw [if_neg (by omega)]
  | d + 1, k, i, h, hk => by
    obtain ⟨k, rfl⟩ : ∃ m, k = m + 1 := ⟨k - 1, by omega⟩
    simp only [laws_eqIntS.l0]
    rw [if_pos (by omega), if_pos (by omega), if_pos (by omega)]
    simp only [if_true]
    rw [w64i (by omega) (by omega)]
    exact eqIntS_l0 l hl d k (i + 1) (by omega) (by omega)
theorem eqIntS_self (l : List Int) (hl : l.length ≤ 1000000000000) (k : Nat) (hk : l.length < k) : laws_eqIntS.f k l l = some true := by
  rw [laws_eqIntS.f, if_pos rfl]; exact eqIntS_l0 l hl l.length k 0 (by omega) hk
def Marked (l : List Int) (a : Int) : Prop := ∀ j : Nat, j < l.length → l.getD j 0 = a + j
theorem markIntS_l0 (a : Int) (ha : 0 ≤ a) (ha2 : a ≤ 1000000000000) : ∀ (d k i : Nat) (l : List Int), l.length ≤ 1000000000000 → i + d = l.length → d < k → (∀ j : Nat, j < i → l.getD j 0 = a + j) → ∃ l', laws_markIntS.l0 k l (a + i) (i : Int) = some (a + l.length, l') ∧ l'.length = l.length ∧ Marked l' a
  | 0, k, i, l, hl, h, hk, hm => by
    obtain ⟨k, rfl⟩ : ∃ m, k = m + 1 := ⟨k - 1, by omega⟩
    simp only [laws_markIntS.l0]; rw [if_neg (by omega)]
    exact ⟨l, by rw [show i = l.length by omega], rfl, fun j hj => hm j (by omega)⟩
  | d + 1, k, i, l, hl, h, hk, hm => by
    obtain ⟨k, rfl⟩ : ∃ m, k = m + 1 := ⟨k - 1, by omega⟩
    simp only [laws_markIntS.l0]
    rw [if_pos (by omega), if_pos (by omega), w64i (x := (i : Int) + 1) (by omega) (by omega), w64i (x := a + i + 1) (by omega) (by omega)]
    obtain ⟨l', e, h1, h2⟩ := markIntS_l0 a ha ha2 d k (i + 1) (l.set i (a + i)) (by simpa using hl) (by simp; omega) (by omega) (fun j hj => by
      by_cases hji : j = i
      · subst hji; rw [List.getD_eq_getElem?_getD, List.getElem?_set_self (by omega)]; rfl
      · rw [List.getD_eq_getElem?_getD, List.getElem?_set_ne (Ne.symm hji), ← List.getD_eq_getElem?_getD]; exact hm j (by omega))
    refine ⟨l', ?_, by simpa using h1, h2⟩
    simp only [List.length_set] at e
    rw [← e]
    congr 1
    simp only [Int.natCast_add, Int.natCast_one, ← Int.add_assoc]
theorem markIntS_ok (l : List Int) (a : Int) (ha : 0 ≤ a) (ha2 : a ≤ 1000000000000) (hl : l.length ≤ 1000000000000) (k : Nat) (hk : l.length < k) : ∃ l', laws_markIntS.f k l a = some (a + l.length, l') ∧ l'.length = l.length ∧ Marked l' a := by
  rw [laws_markIntS.f]
  have := markIntS_l0 a ha ha2 l.length k 0 l hl (by omega) hk (fun j hj => by omega)
  simpa using this
theorem heldIntS_l0 (l : List Int) (a : Int) (ha : 0 ≤ a) (ha2 : a ≤ 1000000000000) (hl : l.length ≤ 1000000000000) (hm : Marked l a) : ∀ (d k i : Nat), i + d = l.length → d < k → laws_heldIntS.l0 k l (a + i) (i : Int) = some (a + l.length)
  | 0, k, i, h, hk => by
    obtain ⟨k, rfl⟩ : ∃ m, k = m + 1 := ⟨k - 1, by omega⟩
    simp only [laws_heldIntS.l0]; rw [if_neg (by omega), show i = l.length by omega]
  | d + 1, k, i, h, hk => by
    obtain ⟨k, rfl⟩ : ∃ m, k = m + 1 := ⟨k - 1, by omega⟩
    simp only [laws_heldIntS.l0]
    rw [if_pos (by omega), if_pos (by omega), rd_nat, if_pos (hm i (by omega)), w64i (x := (i : Int) + 1) (by omega) (by omega), w64i (x := a + i + 1) (by omega) (by omega)]
    have e := heldIntS_l0 l a ha ha2 hl hm d k (i + 1) (by omega) (by omega)
    rw [← e]
    congr 1
    simp only [Int.natCast_add, Int.natCast_one, ← Int.add_assoc]
theorem heldIntS_ok (l : List Int) (a : Int) (ha : 0 ≤ a) (ha2 : a ≤ 1000000000000) (hl : l.length ≤ 1000000000000) (hm : Marked l a) (k : Nat) (hk : l.length < k) : laws_heldIntS.f k l a = some (a + l.length) := by
  rw [laws_heldIntS.f]
  have := heldIntS_l0 l a ha ha2 hl hm l.length k 0 (by omega) hk
  simpa using this

theorem rdT30_nat (l : List S30) (i : Nat) (h : i < l.length) : rd_T30 l (i : Int) = l[i] := by simp [rd_T30, List.getD_eq_getElem?_getD, List.getElem?_eq_getElem h]
theorem rdT25_nat (l : List S25) (i : Nat) (h : i < l.length) : rd_T25 l (i : Int) = l[i] := by simp [rd_T25, List.getD_eq_getElem?_getD, List.getElem?_eq_getElem h]
def toA (a : S25) : S30 := ⟨a.f0, a.f1⟩
theorem toPaceActS_l0 (l : List S25) (hl : l.length ≤ 1000000000000) : ∀ (d k i : Nat) (x3 : List S30), i + d = l.length → d < k → x3.length = l.length → (∀ j : Nat, j < i → x3[j]? = (l.map toA)[j]?) → laws_toPaceActS.l0 k l x3 (i : Int) = some (l.map toA)
  | 0, k, i, x3, h, hk, h3, hx => by
    obtain ⟨k, rfl⟩ : ∃ m, k = m + 1 := ⟨k - 1, by omega⟩
    simp only [laws_toPaceActS.l0]; rw [if_neg (by omega)]
    congr 1
    apply List.ext_getElem?
    intro j
    by_cases hj : j < i
    · exact hx j hj
    · rw [List.getElem?_eq_none (by omega), List.getElem?_eq_none (by simp; omega)]
  | d + 1, k, i, x3, h, hk, h3, hx => by
    obtain ⟨k, rfl⟩ : ∃ m, k = m + 1 := ⟨k - 1, by omega⟩
    simp only [laws_toPaceActS.l0]
    rw [if_pos (by omega), if_pos (by omega), laws_toPaceAct.f, Option.bind_some, if_pos (by omega), w64i (by omega) (by omega)]
    refine toPaceActS_l0 l hl d k (i + 1) _ (by omega) (by omega) (by simp [h3]) (fun j hj => ?_)
    rw [Int.toNat_natCast]
    by_cases hji : j = i
    · subst hji
      rw [List.getElem?_set_self (by omega), List.getElem?_map, List.getElem?_eq_getElem (by omega), rdT25_nat l j (by omega)]
      rfl
    · rw [List.getElem?_set_ne (Ne.symm hji)]
      exact hx j (by omega)
theorem toPaceActS_ok (l : List S25) (hl : l.length ≤ 1048576) (k : Nat) (hk : l.length < k) : laws_toPaceActS.f k l = some (l.map toA) := by
  rw [laws_toPaceActS.f, if_pos (by omega), if_pos (by omega)]
  exact toPaceActS_l0 l (by omega) l.length k 0 _ (by omega) hk (by simp) (fun j hj => by omega)
theorem eqPaceActS_l0 (l : List S30) (hl : l.length ≤ 1000000000000) : ∀ (d k i : Nat), i + d = l.length → d < k → laws_eqPaceActS.l0 k l l (i : Int) = some true
  | 0, k, i, h, hk => by
    obtain ⟨k, rfl⟩ : ∃ m, k = m + 1 := ⟨k - 1, by omega⟩
    simp only [laws_eqPaceActS.l0]; rw [if_neg (by omega)]
  | d + 1, k, i, h, hk => by
    obtain ⟨k, rfl⟩ : ∃ m, k = m + 1 := ⟨k - 1, by omega⟩
    simp only [laws_eqPaceActS.l0]
    rw [if_pos (by omega), if_pos (by omega), if_pos (by omega)]
    simp only [laws_eqPaceAct.f, if_true, Option.bind_some]
    rw [w64i (by omega) (by omega)]
    exact eqPaceActS_l0 l hl d k (i + 1) (by omega) (by omega)
theorem eqPaceActS_self (l : List S30) (hl : l.length ≤ 1000000000000) (k : Nat) (hk : l.length < k) : laws_eqPaceActS.f k l l = some true := by
  rw [laws_eqPaceActS.f, if_pos rfl]; exact eqPaceActS_l0 l hl l.length k 0 (by omega) hk
theorem markPaceActS_l0 : ∀ (d k i : Nat) (a : Int) (l : List S30), 0 ≤ a → a + 2 * d ≤ 1000000000000 → l.length ≤ 1000000000000 → i + d = l.length → d < k → ∃ l', laws_markPaceActS.l0 k l a (i : Int) = some (a + 2 * d, l')
  | 0, k, i, a, l, ha, ha2, hl, h, hk => by
    obtain ⟨k, rfl⟩ : ∃ m, k = m + 1 := ⟨k - 1, by omega⟩
    simp only [laws_markPaceActS.l0]; rw [if_neg (by omega)]
    exact ⟨l, by simp⟩
  | d + 1, k, i, a, l, ha, ha2, hl, h, hk => by
    obtain ⟨k, rfl⟩ : ∃ m, k = m + 1 := ⟨k - 1, by omega⟩
    simp only [laws_markPaceActS.l0]
    rw [if_pos (by omega), if_pos (by omega), Option.bind_some, w64i (x := (i : Int) + 1) (by omega) (by omega), w64i (x := a + 1) (by omega) (by omega), w64i (x := a + 1 + 1) (by omega) (by omega)]
    obtain ⟨l', e⟩ := markPaceActS_l0 d k (i + 1) (a + 1 + 1) (((l.set ((i : Int)).toNat ⟨a, (rd_T30 l i).f1⟩)).set ((i : Int)).toNat ⟨(rd_T30 (l.set ((i : Int)).toNat ⟨a, (rd_T30 l i).f1⟩) i).f0, a + 1⟩) (by omega) (by omega) (by simpa using hl) (by simp; omega) (by omega)
    refine ⟨l', ?_⟩
    rw [show a + 2 * ((d + 1 : Nat) : Int) = a + 1 + 1 + 2 * d by omega]
    exact e
theorem runs_l0 (l : List S30) (hl : l.length ≤ 300) (K : Nat) (hK : 3000 ≤ K) : ∀ (d i : Nat) (w s m o si n c : Int) (pre : List Int), i + d = l.length → pre.length = i → CI w s m o si n c → ∃ f0 f1 f2 f3 f4 f5 f6 ws, (∀ k, K ≤ k → impl_CubicRun.l k (l.drop i) w s m o si n c = some ((f0, f1, f2, f3, f4, f5, f6), ws)) ∧ ws.length = d ∧ CI f0 f1 f2 f3 f4 f5 f6 ∧ (∀ k, K + d < k → spec_CubicRun.l0 k l pre (i : Int) w s m o si n c = some (f0, f1, f2, f3, f4, f5, f6, pre ++ ws, 0)) ∧ (∀ (j : Nat) (a : S30), l[i + j]? = some a → ∃ u v, (w :: ws)[j]? = some u ∧ ws[j]? = some v ∧ WinOK u a.f0 a.f1 v) ∧ (w :: ws)[d]? = some f0
  | 0, i, w, s, m, o, si, n, c, pre, h, hp, hI => by
    refine ⟨w, s, m, o, si, n, c, [], fun k hk => ?_, rfl, hI, fun k hk => ?_, fun j a hj => ?_, rfl⟩
    · rw [List.drop_of_length_le (by omega)]; rfl
    · obtain ⟨k, rfl⟩ : ∃ m, k = m + 1 := ⟨k - 1, by omega⟩
      simp only [spec_CubicRun.l0]; rw [if_neg (by omega), List.append_nil]
    · rw [List.getElem?_eq_none (by omega)] at hj; cases hj
  | d + 1, i, w, s, m, o, si, n, c, pre, h, hp, hI => by
    have hlt : i < l.length := by omega
    have hact : ∃ dd w' s' m' o' si' n' c', (∀ k, 2000 ≤ k → impl_Cubic_act.f k w s m o si n c l[i].f0 l[i].f1 = some (dd, w', s', m', o', si', n', c') ∧ spec_l16Step.f k w s m o si n c l[i].f0 l[i].f1 = some (w', s', m', o', si', n', c', dd)) ∧ CI w' s' m' o' si' n' c' ∧ WinOK w l[i].f0 l[i].f1 w' := by
      obtain ⟨dd, w', s', m', o', si', n', c', e1, e2, h1, h2⟩ := act_ok hI l[i].f0 l[i].f1 2000 (Nat.le_refl _)
      exact ⟨dd, w', s', m', o', si', n', c', fun k hk => ⟨at_rounds (impl_Cubic_act.mono _ _ _ _ _ _ _ _ _) hk e1, at_rounds (spec_l16Step.mono _ _ _ _ _ _ _ _ _) hk e2⟩, h1, h2⟩
    obtain ⟨dd, w', s', m', o', si', n', c', e1, h1, h2⟩ := hact
    obtain ⟨f0, f1, f2, f3, f4, f5, f6, ws, g1, g2, g3, g4, g5, g6⟩ := runs_l0 l hl K hK d (i + 1) w' s' m' o' si' n' c' (pre ++ [w']) (by omega) (by simp [hp]) h1
    refine ⟨f0, f1, f2, f3, f4, f5, f6, w' :: ws, fun k hk => ?_, by simp [g2], g3, fun k hk => ?_, fun j a hj => ?_, by simpa using g6⟩
    · rw [List.drop_eq_getElem_cons hlt]
      simp only [impl_CubicRun.l]
      rw [(e1 k (by omega)).1, Option.bind_some]
      dsimp only
      rw [g1 k hk]; rfl
    · obtain ⟨k, rfl⟩ : ∃ m, k = m + 1 := ⟨k - 1, by omega⟩
      simp only [spec_CubicRun.l0]
      rw [if_pos (by omega), if_pos (by omega), rdT30_nat l i hlt, (e1 k (by omega)).2, Option.bind_some, if_pos (by omega), w64i (by omega) (by omega)]
      have := g4 k (by omega)
      rw [List.append_assoc] at this
      exact this
    · cases j with
      | zero =>
        rw [Nat.add_zero, List.getElem?_eq_getElem hlt] at hj
        injection hj with hj
        subst hj
        exact ⟨w, w', rfl, rfl, h2⟩
      | succ j =>
        obtain ⟨u, v, q1, q2, q3⟩ := g5 j a (by rw [show i + 1 + j = i + (j + 1) by omega]; exact hj)
        exact ⟨u, v, by simpa using q1, by simpa using q2, q3⟩
theorem CI0 : CI 10 100000 0 0 0 0 0 := ⟨by omega, by omega, by omega, by omega, by omega, by omega, by omega, by omega, by omega, by omega, by omega, by omega, by omega⟩
theorem runs_ok (l : List S30) (hl : l.length ≤ 1048576) : ∃ f0 f1 f2 f3 f4 f5 f6 ws code, (∀ k, 4000 ≤ k → impl_CubicRun.f k l = some (f0, f1, f2, f3, f4, f5, f6, ws, code) ∧ spec_CubicRun.f k l = some (f0, f1, f2, f3, f4, f5, f6, ws, code)) ∧ ws.length ≤ 300 ∧ (l.length ≤ 300 → code = 0 ∧ ws.length = l.length ∧ CI f0 f1 f2 f3 f4 f5 f6 ∧ (∀ (j : Nat) (a : S30), l[j]? = some a → ∃ u v, (10 :: ws)[j]? = some u ∧ ws[j]? = some v ∧ WinOK u a.f0 a.f1 v) ∧ (10 :: ws)[l.length]? = some f0) := by
  by_cases h1 : 4096 < l.length
  · refine ⟨0, 0, 0, 0, 0, 0, 0, [], 2, fun k hk => ⟨?_, ?_⟩, by simp, fun h => by omega⟩
    · rw [impl_CubicRun.f, if_pos h1]
    · rw [spec_CubicRun.f, if_pos (by omega)]
  by_cases h2 : 300 < l.length
  · refine ⟨0, 0, 0, 0, 0, 0, 0, [], 6, fun k hk => ⟨?_, ?_⟩, by simp, fun h => by omega⟩
    · rw [impl_CubicRun.f, if_neg h1, if_pos h2]
    · rw [spec_CubicRun.f, if_neg (by omega), if_pos (by omega)]
  obtain ⟨f0, f1, f2, f3, f4, f5, f6, ws, g1, g2, g3, g4, g5, g6⟩ := runs_l0 l (by omega) 3000 (by omega) l.length 0 10 100000 0 0 0 0 0 [] (by omega) rfl CI0
  refine ⟨f0, f1, f2, f3, f4, f5, f6, ws, 0, fun k hk => ⟨?_, ?_⟩, by omega, fun _ => ⟨rfl, g2, g3, fun j a hj => g5 j a (by rw [Nat.zero_add]; exact hj), g6⟩⟩
  · rw [impl_CubicRun.f, if_neg h1, if_neg h2]
    have := g1 k (by omega)
    rw [List.drop_zero] at this
    rw [this]; rfl
  · rw [spec_CubicRun.f, if_neg (by omega), if_neg (by omega), spec_NewCubic.f, Option.bind_some]
    exact g4 k (by omega)
theorem eqC (a b c d e f g : Int) : laws_eqCubic.f a b c d e f g a b c d e f g = some true := by simp [laws_eqCubic.f]
theorem runLaw (l0 : List S25) (hm : l0.length ≤ maxLen) : ∃ k, laws_FnExactCubicRun.f k l0 = some true := by
  refine ⟨1100000, ?_⟩
  rw [laws_FnExactCubicRun.f, laws_szPaceActS.f]
  by_cases hs : wrap64 (1048576 - (l0.length : Int)) < 0
  · rw [if_pos hs, Option.bind_some, if_pos (by omega)]
  have hl : l0.length ≤ 1048576 := by unfold wrap64 at hs; unfold maxLen at hm; omega
  rw [if_neg hs, Option.bind_some, if_neg hs, toPaceActS_ok l0 hl _ (by omega)]
  obtain ⟨f0, f1, f2, f3, f4, f5, f6, ws, code, e, hws, _⟩ := runs_ok (l0.map toA) (by simpa using hl)
  obtain ⟨mk, e3, h3, h4⟩ := markIntS_ok ws 1 (by omega) (by omega) (by omega) 1099998 (by omega)
  have e4 : ∀ k, 1000 < k → laws_heldIntS.f k mk 1 = some (1 + (ws.length : Int)) := fun k hk => by rw [← h3]; exact heldIntS_ok mk 1 (by omega) (by omega) (by omega) h4 k (by omega)
  obtain ⟨ma, e5⟩ := markPaceActS_l0 (l0.map toA).length 1099999 0 1 (l0.map toA) (by omega) (by simp; omega) (by simp; omega) (by omega) (by simp; omega)
  have e6 : laws_markPaceActS.f 1099999 (l0.map toA) 1 = some (1 + 2 * ((l0.map toA).length : Int), ma) := e5
  rw [Option.bind_some, (e _ (by omega)).2, Option.bind_some, Option.bind_some, (e _ (by omega)).1, Option.bind_some]
  dsimp only
  rw [eqC, Option.bind_some, if_pos rfl, eqIntS_self ws (by omega) _ (by omega), Option.bind_some, if_pos rfl, bne_self_eq_false, laws_FnExactCubicRun.j0, if_neg (by decide),
    toPaceActS_ok l0 hl _ (by omega), Option.bind_some, eqPaceActS_self _ (by simp; omega) _ (by simp; omega), Option.bind_some, if_pos rfl, e6, Option.bind_some]
  dsimp only
  rw [if_neg (by omega), eqC, Option.bind_some, if_pos rfl, eqIntS_self ws (by omega) _ (by omega), Option.bind_some, if_pos rfl, bne_self_eq_false, laws_FnExactCubicRun.j1, if_neg (by decide), e3, Option.bind_some]
  dsimp only
  rw [e4 _ (by omega), Option.bind_some, if_neg (by omega), if_pos rfl, toPaceActS_ok l0 hl _ (by omega), Option.bind_some, (e _ (by omega)).1, Option.bind_some]
  dsimp only
  rw [eqC, Option.bind_some, if_pos rfl, eqIntS_self ws (by omega) _ (by omega), Option.bind_some, if_pos rfl, bne_self_eq_false, laws_FnExactCubicRun.j2, if_neg (by decide), e4 _ (by omega), Option.bind_some, if_neg (by omega), if_pos rfl]
end Go.Proofs.Ytjfbeakmpmjadaa.Pure
