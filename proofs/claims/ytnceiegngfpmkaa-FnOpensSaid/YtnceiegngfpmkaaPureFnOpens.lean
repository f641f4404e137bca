/- Plain law: FnOpens: behind each beginning of arrivals both ends are open. -/
import Derived.Test.YtnceiegngfpmkaaPStax37
namespace Go.Proofs.Ytnceiegngfpmkaa.Pure
open Go.RowKit Go.Proofs.Ytnceiegngfpmkaa.PSta Go.Proofs.YtnceiegngfpmkaaW.PrintWords Go.Proofs.YtnceiegngfpmkaaW.PrintLast
set_option linter.unusedVariables false
set_option linter.unusedSimpArgs false
theorem rd_in {c : List Int} (h : ∀ x ∈ c, 0 ≤ x ∧ x ≤ 255) (i : Int) : 0 ≤ rd c i ∧ rd c i ≤ 255 := by
  unfold rd
  by_cases hi : i.toNat < c.length
  · have e : c.getD i.toNat 0 = c[i.toNat] := by simp [List.getD, hi]
    rw [e]; exact h _ (List.getElem_mem hi)
  · have e : c.getD i.toNat 0 = 0 := by simp [List.getD, List.getElem?_eq_none (by omega : c.length ≤ i.toNat)]
    rw [e]; omega
theorem tmod_in {a n : Int} (h : 0 ≤ a) (hn : 1 < n) : 0 ≤ Int.tmod a n ∧ Int.tmod a n < n := by
  rw [Int.tmod_eq_emod_of_nonneg h]
  exact ⟨Int.emod_nonneg _ (by omega), Int.emod_lt_of_pos _ (by omega)⟩
theorem u8_in {l : List Int} (h : ∀ x ∈ l, (Lit.int .u8 x).wf = true) : ∀ x ∈ l, 0 ≤ x ∧ x ≤ 255 := fun x hx => by
  have h1 := h x hx
  have e1 : IntKind.u8.min = 0 := rfl
  have e2 : IntKind.u8.max = 255 := rfl
  simp [Lit.wf, e1, e2] at h1
  omega
theorem at_ok {l : List Int} (h : ∀ x ∈ l, 0 ≤ x ∧ x ≤ 255) (hl : l.length ≤ 1048576) (i n : Int) (hi : 0 ≤ i) (hi2 : i ≤ 1000000000000) (hn : 1 < n) :
    ∃ r, laws_at.f l i n = some r ∧ 0 ≤ r ∧ r < n := by
  unfold laws_at.f
  rw [if_neg (by omega)]
  by_cases h0 : (l.length : Int) = 0
  · rw [if_pos h0, if_neg (by omega)]
    have e : wrap64 (i * 7) = i * 7 := by unfold wrap64; omega
    rw [e]
    have := tmod_in (show 0 ≤ i * 7 by omega) hn
    exact ⟨_, rfl, this.1, this.2⟩
  · rw [if_neg h0]
    have hp : 0 < (l.length : Int) := by omega
    have e : wrap64 (i + 1) = i + 1 := by unfold wrap64; omega
    rw [e, Int.tmod_eq_emod_of_nonneg hi, Int.tmod_eq_emod_of_nonneg (show 0 ≤ i + 1 by omega), Int.tdiv_eq_ediv_of_nonneg hi]
    rw [if_pos (Int.emod_nonneg _ h0), if_pos (Int.emod_lt_of_pos _ hp), if_pos (Int.emod_nonneg _ h0), if_pos (Int.emod_lt_of_pos _ hp), if_neg (by omega)]
    have b1 := rd_in h (i % (l.length : Int))
    have b2 := rd_in h ((i + 1) % (l.length : Int))
    have d1 : 0 ≤ i / (l.length : Int) := Int.ediv_nonneg hi (by omega)
    have d2 : i / (l.length : Int) ≤ i := Int.ediv_le_self _ hi
    generalize rd l (i % (l.length : Int)) = p at b1 ⊢
    generalize rd l ((i + 1) % (l.length : Int)) = q at b2 ⊢
    generalize i / (l.length : Int) = d at d1 d2 ⊢
    have e : wrap64 (wrap64 (wrap64 (wrap64 p * 31) + wrap64 q) + wrap64 d) = p * 31 + q + d := by unfold wrap64; omega
    rw [e]
    have := tmod_in (show 0 ≤ p * 31 + q + d by omega) hn
    exact ⟨_, rfl, this.1, this.2⟩

def opTail (k : Nat) (x5 : List S34) : Option Bool := (impl_PairRun.f k x5).bind fun bt521 => ((spec_PairRun.f k x5).bind fun bt535 => ((impl_PairDrain.f k bt521.1 bt521.2.1 bt521.2.2.1 bt521.2.2.2.1 bt521.2.2.2.2.1).bind fun bt549 => (if bt521.2.2.2.2.2.2 = 0 then (if bt549.2.2.2.2.2 = 0 then ((laws_sameInts.f k bt521.2.2.2.2.2.1 bt535.2.2.2.2.2.1).bind fun t560 => (if t560 = true then (if bt521.1 = bt535.1 then (if bt521.2.1 = bt535.2.1 then ((laws_sameInts.f k bt521.2.2.1 bt535.2.2.1).bind fun t561 => (if t561 = true then ((laws_sameInts.f k bt521.2.2.2.1 bt535.2.2.2.1).bind fun t562 => (if t562 = true then (if bt549.1 = 4 then (if bt549.2.1 = 4 then (if bt549.2.2.2.2.1 = 0 then (some ((wrap64 ((bt549.2.2.1.length : Int) + (bt549.2.2.2.1.length : Int))) == 0)) else (some false)) else (some false)) else (some false)) else (some false))) else (some false))) else (some false)) else (some false)) else (some false))) else (some false)) else (some false))))
def bits : Nat → List (List Int)
  | 0 => [[]]
  | n + 1 => (bits n).flatMap fun l => [0 :: l, 1 :: l]
theorem mem_bits : ∀ (l : List Int), (∀ s ∈ l, s = 0 ∨ s = 1) → l ∈ bits l.length
  | [], _ => by simp [bits]
  | s :: l, h => by
    have h1 := mem_bits l (fun x hx => h x (List.mem_cons_of_mem _ hx))
    rw [List.length_cons, bits, List.mem_flatMap]
    refine ⟨l, h1, ?_⟩
    rcases h s (List.mem_cons_self ..) with rfl | rfl <;> simp
def arr (l : List Int) : List S34 := l.map fun s => (⟨s, 5⟩ : S34)
theorem op_check : ∀ n ∈ List.range 6, ∀ l ∈ bits n, opTail 60 ([(⟨0, 2⟩ : S34), ⟨1, 2⟩] ++ arr l) = some true ∧ opTail 60 ([(⟨1, 1⟩ : S34), ⟨0, 2⟩] ++ arr l) = some true := by decide +kernel
theorem op_l0 {c : List Int} (hc : ∀ x ∈ c, 0 ≤ x ∧ x ≤ 255) (hl : c.length ≤ 1048576) (n : Int) (hn : laws_at.f c 0 6 = some n) (hn1 : n < 6) : ∀ (d : Nat) (i : Int) (x5 : List S34), 0 ≤ i → n - i = d → x5.length + d ≤ 100 → (∀ l : List Int, l.length = d → (∀ s ∈ l, s = 0 ∨ s = 1) → opTail 60 (x5 ++ arr l) = some true) → laws_FnOpens.l0 (60 + d + 1) c x5 i = some true
  | 0, i, x5, h0, hd, h5, h => by
    rw [laws_FnOpens.l0, hn, Option.bind_some, if_neg (by omega)]
    have := h [] rfl (by simp)
    rw [arr, List.map_nil, List.append_nil] at this
    exact this
  | d + 1, i, x5, h0, hd, h5, h => by
    have w1 : wrap64 (i + 1) = i + 1 := by unfold wrap64; omega
    obtain ⟨s, es, hs0, hs1⟩ := at_ok hc hl (i + 1) 2 (by omega) (by omega) (by omega)
    rw [laws_FnOpens.l0, hn, Option.bind_some, if_pos (by omega), w1, es, Option.bind_some, if_pos (by omega)]
    refine op_l0 hc hl n hn hn1 d (i + 1) (x5 ++ [(⟨s, 5⟩ : S34)]) (by omega) (by omega) (by simp; omega) (fun l hlen hb => ?_)
    rw [List.append_assoc]
    exact h (s :: l) (by simp [hlen]) (fun x hx => by
      rcases List.mem_cons.1 hx with rfl | hx
      · omega
      · exact hb x hx)
theorem FnOpens : laws_FnOpens.Pure := by
  intro l0 l1 _ _ h0 _ _ h1
  have b0 := u8_in h0
  have b1 := u8_in h1
  by_cases g0 : (l0.length : Int) > 1048576
  · exact ⟨1, by rw [laws_FnOpens.f, if_pos g0, laws_FnOpens.j0, if_pos rfl]⟩
  by_cases g1 : (l1.length : Int) > 1048576
  · exact ⟨1, by rw [laws_FnOpens.f, if_neg g0, decide_eq_true g1, laws_FnOpens.j0, if_pos rfl]⟩
  obtain ⟨t, et, ht0, ht1⟩ := at_ok b0 (by omega) 0 2 (by omega) (by omega) (by omega)
  obtain ⟨n, en, hn0, hn1⟩ := at_ok b1 (by omega) 0 6 (by omega) (by omega) (by omega)
  refine ⟨60 + n.toNat + 1 + 1 + 1, ?_⟩
  rw [laws_FnOpens.f, if_neg g0, decide_eq_false g1, laws_FnOpens.j0, if_neg Bool.false_ne_true, et, Option.bind_some]
  have key : ∀ x5 : List S34, x5.length + n.toNat ≤ 100 → (∀ l : List Int, l.length = n.toNat → (∀ s ∈ l, s = 0 ∨ s = 1) → opTail 60 (x5 ++ arr l) = some true) → laws_FnOpens.j1 (60 + n.toNat + 1 + 1) l1 x5 = some true := fun x5 h5 h => by
    rw [laws_FnOpens.j1]
    exact op_l0 b1 (by omega) n en hn1 n.toNat 0 x5 (by omega) (by omega) h5 h
  have hm : ∀ l : List Int, l.length = n.toNat → (∀ s ∈ l, s = 0 ∨ s = 1) → l ∈ bits n.toNat := fun l hl hs => hl ▸ mem_bits l hs
  by_cases h : t = 0
  · rw [if_pos h]
    exact key _ (by simp; omega) (fun l hl hs => (op_check n.toNat (List.mem_range.2 (by omega)) l (hm l hl hs)).1)
  · rw [if_neg h]
    exact key _ (by simp; omega) (fun l hl hs => (op_check n.toNat (List.mem_range.2 (by omega)) l (hm l hl hs)).2)
end Go.Proofs.Ytnceiegngfpmkaa.Pure
