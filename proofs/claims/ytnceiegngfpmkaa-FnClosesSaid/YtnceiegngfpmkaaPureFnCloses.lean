/- Plain law: FnCloses: in whatever order things arrive, both are closed in the end. -/
import Derived.Test.YtnceiegngfpmkaaPStax38
namespace Go.Proofs.Ytnceiegngfpmkaa.Pure
open Go.RowKit Go.Proofs.Ytnceiegngfpmkaa.PSta Go.Proofs.YtnceiegngfpmkaaW.PrintWords Go.Proofs.YtnceiegngfpmkaaW.PrintLast
set_option linter.unusedVariables false
set_option linter.unusedSimpArgs false
theorem rd_in {c : List Int} (h : ∀ x ∈ c, 0 ≤ x ∧ x ≤ 255) (i : Int) : 0 ≤ rd c i ∧ rd c i ≤ 255 := by
  unfold rd
  by_cases hi : i.toNat < c.length
  · have e : c.getD i.toNat 0 = c[i.toNat] := by simp [List.getD, hi]
    rw [e]; exact h _ (List.getElem_mem hi)
  · have e : c.getD i.toNat 0 = 0 := by simp [List.getD, List.getElem?_eq_none (by omega : c.length ≤ i.toNat)]
    rw [e]; omega
theorem tmod_in {a n : Int} (h : 0 ≤ a) (hn : 1 < n) : 0 ≤ Int.tmod a n ∧ Int.tmod a n < n := by
  rw [Int.tmod_eq_emod_of_nonneg h]
  exact ⟨Int.emod_nonneg _ (by omega), Int.emod_lt_of_pos _ (by omega)⟩
theorem u8_in {l : List Int} (h : ∀ x ∈ l, (Lit.int .u8 x).wf = true) : ∀ x ∈ l, 0 ≤ x ∧ x ≤ 255 := fun x hx => by
  have h1 := h x hx
  have e1 : IntKind.u8.min = 0 := rfl
  have e2 : IntKind.u8.max = 255 := rfl
  simp [Lit.wf, e1, e2] at h1
  omega
theorem at_ok {l : List Int} (h : ∀ x ∈ l, 0 ≤ x ∧ x ≤ 255) (hl : l.length ≤ 1048576) (i n : Int) (hi : 0 ≤ i) (hi2 : i ≤ 1000000000000) (hn : 1 < n) :
    ∃ r, laws_at.f l i n = some r ∧ 0 ≤ r ∧ r < n := by
  unfold laws_at.f
  rw [if_neg (by omega)]
  by_cases h0 : (l.length : Int) = 0
  · rw [if_pos h0, if_neg (by omega)]
    have e : wrap64 (i * 7) = i * 7 := by unfold wrap64; omega
    rw [e]
    have := tmod_in (show 0 ≤ i * 7 by omega) hn
    exact ⟨_, rfl, this.1, this.2⟩
  · rw [if_neg h0]
    have hp : 0 < (l.length : Int) := by omega
    have e : wrap64 (i + 1) = i + 1 := by unfold wrap64; omega
    rw [e, Int.tmod_eq_emod_of_nonneg hi, Int.tmod_eq_emod_of_nonneg (show 0 ≤ i + 1 by omega), Int.tdiv_eq_ediv_of_nonneg hi]
    rw [if_pos (Int.emod_nonneg _ h0), if_pos (Int.emod_lt_of_pos _ hp), if_pos (Int.emod_nonneg _ h0), if_pos (Int.emod_lt_of_pos _ hp), if_neg (by omega)]
    have b1 := rd_in h (i % (l.length : Int))
    have b2 := rd_in h ((i + 1) % (l.length : Int))
    have d1 : 0 ≤ i / (l.length : Int) := Int.ediv_nonneg hi (by omega)
    have d2 : i / (l.length : Int) ≤ i := Int.ediv_le_self _ hi
    generalize rd l (i % (l.length : Int)) = p at b1 ⊢
    generalize rd l ((i + 1) % (l.length : Int)) = q at b2 ⊢
    generalize i / (l.length : Int) = d at d1 d2 ⊢
    have e : wrap64 (wrap64 (wrap64 (wrap64 p * 31) + wrap64 q) + wrap64 d) = p * 31 + q + d := by unfold wrap64; omega
    rw [e]
    have := tmod_in (show 0 ≤ p * 31 + q + d by omega) hn
    exact ⟨_, rfl, this.1, this.2⟩
abbrev St := Int × Int × List Int × List Int × Int × Bool × Bool
def j4ok (k : Nat) (s : St) (side kind : Int) : Option St :=
  (impl_PairStep.f k s.1 s.2.1 s.2.2.1 s.2.2.2.1 s.2.2.2.2.1 side kind).bind fun r => ((spec_PairStep.f k s.1 s.2.1 s.2.2.1 s.2.2.2.1 s.2.2.2.2.1 side kind).bind fun q =>
    (if r.2.2.2.2.2.2 = 0 then (if r.2.2.2.2.2.1 = q.2.2.2.2.2.1 then (if r.1 = q.1 then (if r.2.1 = q.2.1 then ((impl_PairOK.f k r.1 r.2.1 r.2.2.1 r.2.2.2.1 r.2.2.2.2.1).bind fun t => if t = true then some (r.1, r.2.1, r.2.2.1, r.2.2.2.1, r.2.2.2.2.1, s.2.2.2.2.2.1, s.2.2.2.2.2.2) else none) else none) else none) else none) else none))
def closeS (s : St) (side : Int) : St := if side = 0 then (s.1, s.2.1, s.2.2.1, s.2.2.2.1, s.2.2.2.2.1, true, s.2.2.2.2.2.2) else (s.1, s.2.1, s.2.2.1, s.2.2.2.1, s.2.2.2.2.1, s.2.2.2.2.2.1, true)
def isC (s : St) (side : Int) : Bool := if side = 0 then s.2.2.2.2.2.1 else s.2.2.2.2.2.2
def fin (k : Nat) (s : St) : Option Bool := (impl_PairDrain.f k s.1 s.2.1 s.2.2.1 s.2.2.2.1 s.2.2.2.2.1).bind fun bt => (if bt.2.2.2.2.2 = 0 then (laws_FnCloses.l1 k 0 bt.1 bt.2.1 bt.2.2.1 bt.2.2.2.1 bt.2.2.2.2.1) else (some false))
def start (k : Nat) : Option St := (spec_PairRun.f k (([(⟨1, 1⟩ : S34), (⟨0, 2⟩ : S34)] : List (S34)))).bind fun b => ((spec_PairDrain.f k b.1 b.2.1 b.2.2.1 b.2.2.2.1 b.2.2.2.2.1).bind fun d => some (d.1, d.2.1, d.2.2.1, d.2.2.2.1, d.2.2.2.2.1, false, false))
def reach : List St := [(4, 4, [], [], 0, false, false), (5, 4, [], [4], 0, true, false), (4, 5, [4], [], 0, false, true),
  (5, 7, [16], [], 0, true, false), (5, 5, [4], [4], 0, true, true), (7, 5, [], [16], 0, false, true),
  (6, 7, [], [], 0, true, false), (5, 9, [16, 4], [], 0, true, true), (8, 5, [], [4, 16], 0, true, true),
  (5, 8, [4, 16], [], 0, true, true), (9, 5, [], [16, 4], 0, true, true), (7, 6, [], [], 0, false, true),
  (6, 9, [4], [], 0, true, true), (8, 8, [16], [16], 0, true, true), (9, 6, [], [4], 0, true, true),
  (10, 9, [], [16], 0, true, true), (10, 8, [], [16], 0, true, true), (8, 10, [16], [], 0, true, true),
  (9, 10, [16], [], 0, true, true), (10, 0, [], [], 0, true, true), (10, 10, [], [], 0, true, true),
  (0, 10, [], [], 0, true, true)]
theorem start_in : ∃ s, start 60 = some s ∧ s ∈ reach ∧ isC s 0 = false ∧ isC s 1 = false := by
  have h : (match start 60 with | some s => decide (s ∈ reach) && !isC s 0 && !isC s 1 | none => false) = true := by decide +kernel
  cases e : start 60 with
  | none => rw [e] at h; cases h
  | some s => rw [e] at h; simp only [Bool.and_eq_true, decide_eq_true_eq, Bool.not_eq_true'] at h; exact ⟨s, rfl, h.1.1, h.1.2, h.2⟩
theorem seg_in : ∀ s ∈ reach, ∀ side ∈ [(0 : Int), 1], ∃ s', j4ok 60 s side 5 = some s' ∧ s' ∈ reach ∧ isC s' 0 = isC s 0 ∧ isC s' 1 = isC s 1 := by
  have h : ∀ s ∈ reach, ∀ side ∈ [(0 : Int), 1], (match j4ok 60 s side 5 with | some s' => decide (s' ∈ reach) && (isC s' 0 == isC s 0) && (isC s' 1 == isC s 1) | none => false) = true := by decide +kernel
  intro s hs side hd
  have g := h s hs side hd
  cases e : j4ok 60 s side 5 with
  | none => rw [e] at g; cases g
  | some s' => rw [e] at g; simp only [Bool.and_eq_true, decide_eq_true_eq, beq_iff_eq] at g; exact ⟨s', rfl, g.1.1, g.1.2, g.2⟩
theorem close_in : ∀ s ∈ reach, ∀ side ∈ [(0 : Int), 1], isC s side = false → ∃ s', j4ok 60 (closeS s side) side 3 = some s' ∧ s' ∈ reach ∧ isC s' 0 = isC (closeS s side) 0 ∧ isC s' 1 = isC (closeS s side) 1 := by
  have h : ∀ s ∈ reach, ∀ side ∈ [(0 : Int), 1], (isC s side || (match j4ok 60 (closeS s side) side 3 with | some s' => decide (s' ∈ reach) && (isC s' 0 == isC (closeS s side) 0) && (isC s' 1 == isC (closeS s side) 1) | none => false)) = true := by decide +kernel
  intro s hs side hd hc
  have g := h s hs side hd
  rw [hc, Bool.false_or] at g
  cases e : j4ok 60 (closeS s side) side 3 with
  | none => rw [e] at g; cases g
  | some s' => rw [e] at g; simp only [Bool.and_eq_true, decide_eq_true_eq, beq_iff_eq] at g; exact ⟨s', rfl, g.1.1, g.1.2, g.2⟩
theorem fin_in : ∀ s ∈ reach, isC s 0 = true → isC s 1 = true → fin 60 s = some true := by
  have h : ∀ s ∈ reach, (!(isC s 0 && isC s 1) || decide (fin 60 s = some true)) = true := by decide +kernel
  intro s hs h0 h1
  have g := h s hs
  rw [h0, h1] at g
  simpa using g
theorem j4ok_mono (s : St) (side kind : Int) (k : Nat) : LeO (j4ok k s side kind) (j4ok (k + 1) s side kind) := by
  unfold j4ok
  exact LeO.bind (impl_PairStep.mono _ _ _ _ _ _ _ _) (fun _ => LeO.bind (spec_PairStep.mono _ _ _ _ _ _ _ _) (fun _ => LeO.ite (LeO.ite (LeO.ite (LeO.ite (LeO.bind (impl_PairOK.mono _ _ _ _ _ _) (fun _ => LeO.refl _)) (LeO.refl _)) (LeO.refl _)) (LeO.refl _)) (LeO.refl _)))
theorem fin_mono (s : St) (k : Nat) : LeO (fin k s) (fin (k + 1) s) := by
  unfold fin
  exact LeO.bind (impl_PairDrain.mono _ _ _ _ _ _) (fun _ => LeO.ite ((laws_FnCloses.mono_l k).2.2.2.2.2 _ _ _ _ _ _) (LeO.refl _))
theorem start_mono (k : Nat) : LeO (start k) (start (k + 1)) := by
  unfold start
  exact LeO.bind (spec_PairRun.mono _ _) (fun _ => LeO.bind (spec_PairDrain.mono _ _ _ _ _ _) (fun _ => LeO.refl _))
theorem j4_eq (k : Nat) (x0 x1 : List Int) (c0 c1 : Bool) (n i : Int) (s s' : St) (side kind : Int) (h : j4ok k s side kind = some s') : laws_FnCloses.j4 (k + 1) x0 x1 [c0, c1] n i s.1 s.2.1 s.2.2.1 s.2.2.2.1 s.2.2.2.2.1 side kind = laws_FnCloses.l0 k x0 x1 [c0, c1] n (wrap64 (i + 1)) s'.1 s'.2.1 s'.2.2.1 s'.2.2.2.1 s'.2.2.2.2.1 := by
  unfold j4ok at h
  rw [laws_FnCloses.j4]
  obtain ⟨r, e1, h⟩ := Option.bind_eq_some_iff.mp h
  obtain ⟨q, e2, h⟩ := Option.bind_eq_some_iff.mp h
  rw [e1, Option.bind_some, e2, Option.bind_some]
  by_cases h1 : r.2.2.2.2.2.2 = 0
  case neg => rw [if_neg h1] at h; cases h
  rw [if_pos h1] at h ⊢
  by_cases h2 : r.2.2.2.2.2.1 = q.2.2.2.2.2.1
  case neg => rw [if_neg h2] at h; cases h
  rw [if_pos h2] at h ⊢
  by_cases h3 : r.1 = q.1
  case neg => rw [if_neg h3] at h; cases h
  rw [if_pos h3] at h ⊢
  by_cases h4 : r.2.1 = q.2.1
  case neg => rw [if_neg h4] at h; cases h
  rw [if_pos h4] at h ⊢
  obtain ⟨t, e3, h⟩ := Option.bind_eq_some_iff.mp h
  rw [e3, Option.bind_some]
  cases t with
  | false => rw [if_neg (by decide)] at h; cases h
  | true =>
    rw [if_pos rfl] at h ⊢
    injection h with h
    subst h
    rfl
theorem cl_l0 {x0 x1 : List Int} (h0 : ∀ x ∈ x0, 0 ≤ x ∧ x ≤ 255) (g0 : x0.length ≤ 1048576) (h1 : ∀ x ∈ x1, 0 ≤ x ∧ x ≤ 255) (g1 : x1.length ≤ 1048576) (n : Int) (hn0 : 0 ≤ n) (hn1 : n < 12) : ∀ (d k : Nat) (i : Int) (s : St), 0 ≤ i → n + 2 - i = d → 62 + 4 * d ≤ k → s ∈ reach → (n + 1 ≤ i → isC s 0 = true) → (n + 2 ≤ i → isC s 1 = true) →
    laws_FnCloses.l0 k x0 x1 [isC s 0, isC s 1] n i s.1 s.2.1 s.2.2.1 s.2.2.2.1 s.2.2.2.2.1 = some true
  | 0, k, i, s, hi, hd, hk, hs, hc0, hc1 => by
    obtain ⟨k, rfl⟩ : ∃ m, k = m + 1 := ⟨k - 1, by omega⟩
    have w1 : wrap64 (n + 2) = n + 2 := by unfold wrap64; omega
    rw [laws_FnCloses.l0, w1, if_neg (by omega)]
    exact at_rounds (fin_mono s) (show 60 ≤ k by omega) (fin_in s hs (hc0 (by omega)) (hc1 (by omega)))
  | d + 1, k, i, s, hi, hd, hk, hs, hc0, hc1 => by
    obtain ⟨k, rfl⟩ : ∃ m, k = m + 4 := ⟨k - 4, by omega⟩
    have w1 : wrap64 (n + 2) = n + 2 := by unfold wrap64; omega
    have w2 : wrap64 (i + 1) = i + 1 := by unfold wrap64; omega
    obtain ⟨t, et, ht0, ht1⟩ := at_ok h1 g1 (i + 1) 2 (by omega) (by omega) (by omega)
    rw [laws_FnCloses.l0, w1, if_pos (by omega), w2, et, Option.bind_some]
    -- one act that closes
    have closing : ∀ side : Int, side = 0 ∨ side = 1 → (n ≤ i → side = i - n) → laws_FnCloses.j3 (k + 2) x0 x1 [isC s 0, isC s 1] n i true s.1 s.2.1 s.2.2.1 s.2.2.2.1 s.2.2.2.2.1 side = some true := by
      intro side hside hni
      rw [laws_FnCloses.j3, if_pos rfl, if_pos (by omega), if_pos (by simp; omega)]
      have hrd : rdOf false [isC s 0, isC s 1] side = isC s side := by rcases hside with rfl | rfl <;> rfl
      rw [hrd]
      cases hc : isC s side with
      | true =>
        rw [if_pos rfl, w2]
        exact cl_l0 h0 g0 h1 g1 n hn0 hn1 d _ (i + 1) s (by omega) (by omega) (by omega) hs (fun h => by
          by_cases hi2 : n + 1 ≤ i
          · exact hc0 hi2
          · have := hni (by omega); have : side = 0 := by omega
            subst this; exact hc) (fun h => by have := hni (by omega); have : side = 1 := by omega
                                               subst this; exact hc)
      | false =>
        rw [if_neg (by decide)]
        obtain ⟨s', e, hr, q0, q1⟩ := close_in s hs side (by rcases hside with rfl | rfl <;> simp) hc
        have e' := at_rounds (j4ok_mono (closeS s side) side 3) (show 60 ≤ k by omega) e
        have hset : [isC s 0, isC s 1].set side.toNat true = [isC (closeS s side) 0, isC (closeS s side) 1] := by rcases hside with rfl | rfl <;> rfl
        have hj := j4_eq k x0 x1 (isC (closeS s side) 0) (isC (closeS s side) 1) n i (closeS s side) s' side 3 e'
        have hsame : (closeS s side).1 = s.1 ∧ (closeS s side).2.1 = s.2.1 ∧ (closeS s side).2.2.1 = s.2.2.1 ∧ (closeS s side).2.2.2.1 = s.2.2.2.1 ∧ (closeS s side).2.2.2.2.1 = s.2.2.2.2.1 := by rcases hside with rfl | rfl <;> exact ⟨rfl, rfl, rfl, rfl, rfl⟩
        rw [hsame.1, hsame.2.1, hsame.2.2.1, hsame.2.2.2.1, hsame.2.2.2.2] at hj
        rw [hset, hj, w2, ← q0, ← q1]
        have c0' : side = 0 → isC s' 0 = true := fun h => by rw [q0, h]; rfl
        have c1' : side = 1 → isC s' 1 = true := fun h => by rw [q1, h]; rfl
        have k0 : isC s 0 = true → isC s' 0 = true := fun h => by rw [q0]; rcases hside with rfl | rfl; rfl; exact h
        exact cl_l0 h0 g0 h1 g1 n hn0 hn1 d k (i + 1) s' (by omega) (by omega) (by omega) hr (fun h => by
          by_cases hi2 : n + 1 ≤ i
          · exact k0 (hc0 hi2)
          · exact c0' (by have := hni (by omega); omega)) (fun h => c1' (by have := hni (by omega); omega))
    by_cases hni : i ≥ n
    · have w3 : wrap64 (i - n) = i - n := by unfold wrap64; omega
      rw [if_pos hni, laws_FnCloses.j2, if_pos hni, w3]
      exact closing (i - n) (by omega) (fun _ => rfl)
    · rw [if_neg hni, laws_FnCloses.j2, if_neg hni]
      obtain ⟨z, ez, hz0, hz1⟩ := at_ok h0 g0 i 3 (by omega) (by omega) (by omega)
      rw [ez, Option.bind_some]
      cases hz : (z == 0) with
      | true => exact closing t (by omega) (fun h => by omega)
      | false =>
        rw [laws_FnCloses.j3, if_neg (by decide)]
        obtain ⟨s', e, hr, q0, q1⟩ := seg_in s hs t (by have : t = 0 ∨ t = 1 := by omega
                                                        rcases this with rfl | rfl <;> simp)
        have e' := at_rounds (j4ok_mono s t 5) (show 60 ≤ k by omega) e
        rw [j4_eq k x0 x1 (isC s 0) (isC s 1) n i s s' t 5 e', w2, ← q0, ← q1]
        exact cl_l0 h0 g0 h1 g1 n hn0 hn1 d k (i + 1) s' (by omega) (by omega) (by omega) hr (fun h => by omega) (fun h => by omega)
theorem FnCloses : laws_FnCloses.Pure := by
  intro l0 l1 _ _ h0 _ _ h1
  have b0 := u8_in h0
  have b1 := u8_in h1
  by_cases g0 : (l0.length : Int) > 1048576
  · exact ⟨1, by rw [laws_FnCloses.f, if_pos g0, laws_FnCloses.j0, if_pos rfl]⟩
  by_cases g1 : (l1.length : Int) > 1048576
  · exact ⟨1, by rw [laws_FnCloses.f, if_neg g0, decide_eq_true g1, laws_FnCloses.j0, if_pos rfl]⟩
  obtain ⟨n, en, hn0, hn1⟩ := at_ok b1 (by omega) 0 12 (by omega) (by omega) (by omega)
  obtain ⟨s, es, hs, c0, c1⟩ := start_in
  refine ⟨201, ?_⟩
  have es' := at_rounds start_mono (show 60 ≤ 200 by omega) es
  unfold start at es'
  obtain ⟨b, e1, es'⟩ := Option.bind_eq_some_iff.mp es'
  obtain ⟨q, e2, es'⟩ := Option.bind_eq_some_iff.mp es'
  injection es' with es'
  rw [laws_FnCloses.f, if_neg g0, decide_eq_false g1, laws_FnCloses.j0, if_neg Bool.false_ne_true, e1, Option.bind_some, e2, Option.bind_some, en, Option.bind_some]
  have h := cl_l0 b0 (by omega) b1 (by omega) n hn0 hn1 (n + 2).toNat 200 0 s (by omega) (by omega) (by omega) hs (fun h => by omega) (fun h => by omega)
  rw [c0, c1, ← es'] at h
  exact h
end Go.Proofs.Ytnceiegngfpmkaa.Pure
