/- Each state has its word, what resets closes all but a listener, and a closed end answers all but resets by one. No condition beyond the given ones. -/
import Derived.Test.YtnceiegngfpmkaaPStax15
namespace Go.Proofs.Ytnceiegngfpmkaa.Pure
open Go.RowKit Go.Proofs.Ytnceiegngfpmkaa.PSta Go.Proofs.YtnceiegngfpmkaaW.PrintWords Go.Proofs.YtnceiegngfpmkaaW.PrintLast
theorem rd_in {c : List Int} (h : ∀ x ∈ c, 0 ≤ x ∧ x ≤ 255) (i : Int) : 0 ≤ rd c i ∧ rd c i ≤ 255 := by
  unfold rd
  by_cases hi : i.toNat < c.length
  · have e : c.getD i.toNat 0 = c[i.toNat] := by simp [List.getD, hi]
    rw [e]; exact h _ (List.getElem_mem hi)
  · have e : c.getD i.toNat 0 = 0 := by simp [List.getD, List.getElem?_eq_none (by omega : c.length ≤ i.toNat)]
    rw [e]; omega
theorem tmod_in {a n : Int} (h : 0 ≤ a) (hn : 1 < n) : 0 ≤ Int.tmod a n ∧ Int.tmod a n < n := by
  rw [Int.tmod_eq_emod_of_nonneg h]
  exact ⟨Int.emod_nonneg _ (by omega), Int.emod_lt_of_pos _ (by omega)⟩
theorem u8_in {l : List Int} (h : ∀ x ∈ l, (Lit.int .u8 x).wf = true) : ∀ x ∈ l, 0 ≤ x ∧ x ≤ 255 := fun x hx => by
  have h1 := h x hx
  have e1 : IntKind.u8.min = 0 := rfl
  have e2 : IntKind.u8.max = 255 := rfl
  simp [Lit.wf, e1, e2] at h1
  omega
theorem at_ok {l : List Int} (h : ∀ x ∈ l, 0 ≤ x ∧ x ≤ 255) (hl : l.length ≤ 1048576) (i n : Int) (hi : 0 ≤ i) (hi2 : i ≤ 1000000000000) (hn : 1 < n) :
    ∃ r, laws_at.f l i n = some r ∧ 0 ≤ r ∧ r < n := by
  unfold laws_at.f
  rw [if_neg (by omega)]
  by_cases h0 : (l.length : Int) = 0
  · rw [if_pos h0, if_neg (by omega)]
    have e : wrap64 (i * 7) = i * 7 := by unfold wrap64; omega
    rw [e]
    have := tmod_in (show 0 ≤ i * 7 by omega) hn
    exact ⟨_, rfl, this.1, this.2⟩
  · rw [if_neg h0]
    have hp : 0 < (l.length : Int) := by omega
    have e : wrap64 (i + 1) = i + 1 := by unfold wrap64; omega
    rw [e, Int.tmod_eq_emod_of_nonneg hi, Int.tmod_eq_emod_of_nonneg (show 0 ≤ i + 1 by omega), Int.tdiv_eq_ediv_of_nonneg hi]
    rw [if_pos (Int.emod_nonneg _ h0), if_pos (Int.emod_lt_of_pos _ hp), if_pos (Int.emod_nonneg _ h0), if_pos (Int.emod_lt_of_pos _ hp), if_neg (by omega)]
    have b1 := rd_in h (i % (l.length : Int))
    have b2 := rd_in h ((i + 1) % (l.length : Int))
    have d1 : 0 ≤ i / (l.length : Int) := Int.ediv_nonneg hi (by omega)
    have d2 : i / (l.length : Int) ≤ i := Int.ediv_le_self _ hi
    generalize rd l (i % (l.length : Int)) = p at b1 ⊢
    generalize rd l ((i + 1) % (l.length : Int)) = q at b2 ⊢
    generalize i / (l.length : Int) = d at d1 d2 ⊢
    have e : wrap64 (wrap64 (wrap64 (wrap64 p * 31) + wrap64 q) + wrap64 d) = p * 31 + q + d := by unfold wrap64; omega
    rw [e]
    have := tmod_in (show 0 ≤ p * 31 + q + d by omega) hn
    exact ⟨_, rfl, this.1, this.2⟩
def stTail (k : Nat) (t200 t201 : Int) : Option Bool := ((impl_StateWord.f t200).bind fun bt202 => ((spec_StateWord.f t200).bind fun bt204 => ((impl_TcpStep.f k t200 5 t201).bind fun bt206 => ((spec_TcpStep.f k t200 5 t201).bind fun bt211 => (if bt202.2 = 0 then (if bt202.1.toList = bt204.1.toList then (if bt206.2.2 = 0 then (if bt206.1 = bt211.1 then ((laws_sameInts.f k bt206.2.1 bt211.2.1).bind fun t216 => (if t216 = true then (laws_FnStates.j1 k t200 t201 bt206.1 bt206.2.1 (decide ((bt206.2.1.length : Int) > 1))) else (laws_FnStates.j1 k t200 t201 bt206.1 bt206.2.1 true))) else (laws_FnStates.j1 k t200 t201 bt206.1 bt206.2.1 true)) else (laws_FnStates.j1 k t200 t201 bt206.1 bt206.2.1 true)) else (laws_FnStates.j1 k t200 t201 bt206.1 bt206.2.1 true)) else (laws_FnStates.j1 k t200 t201 bt206.1 bt206.2.1 true))))))
theorem st_all : ∀ s ∈ List.range 11, ∀ f ∈ List.range 32, stTail 12 (s : Int) (f : Int) = some true := by decide +kernel
theorem FnStates : laws_FnStates.Pure := by
  intro l0 l1 _ _ h0 _ _ h1
  have b0 := u8_in h0
  have b1 := u8_in h1
  refine ⟨13, ?_⟩
  rw [laws_FnStates.f]
  by_cases g0 : (l0.length : Int) > 1048576
  · rw [if_pos g0, laws_FnStates.j0, if_pos rfl]
  · rw [if_neg g0]
    by_cases g1 : (l1.length : Int) > 1048576
    · rw [decide_eq_true g1, laws_FnStates.j0, if_pos rfl]
    · obtain ⟨s, es, hs0, hs1⟩ := at_ok b0 (by omega) 0 11 (by omega) (by omega) (by omega)
      obtain ⟨f, ef, hf0, hf1⟩ := at_ok b1 (by omega) 0 32 (by omega) (by omega) (by omega)
      rw [decide_eq_false g1, laws_FnStates.j0, if_neg Bool.false_ne_true, es, Option.bind_some, ef, Option.bind_some]
      have := st_all s.toNat (List.mem_range.2 (by omega)) f.toNat (List.mem_range.2 (by omega))
      rw [show ((s.toNat : Nat) : Int) = s by omega, show ((f.toNat : Nat) : Int) = f by omega] at this
      exact this
end Go.Proofs.Ytnceiegngfpmkaa.Pure
