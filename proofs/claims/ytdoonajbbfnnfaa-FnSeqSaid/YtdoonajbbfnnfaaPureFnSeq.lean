/- Of two numbers around the circle just one is ahead, and it stays so wherever both are moved. No condition beyond the given ones. -/
import Derived.Test.YtdoonajbbfnnfaaPSeqx7
namespace Go.Proofs.Ytdoonajbbfnnfaa.Pure
open Go.RowKit Go.Proofs.Ytdoonajbbfnnfaa.PSeq Go.Proofs.YtdoonajbbfnnfaaW.PrintWords Go.Proofs.YtdoonajbbfnnfaaW.PrintLast
/-! What the source of choices answers: plain law over the printed functions of this namespace. -/
def SrcInv (c : List Int) (m : Nat) (s1 s2 : Int) : Prop := 0 ≤ s1 ∧ s1 ≤ m ∧ 0 ≤ s2 ∧ s2 < 2147483648 ∧ c.length ≤ 1048576 ∧ ∀ x ∈ c, 0 ≤ x ∧ x ≤ 255
theorem rd_in {c : List Int} (h : ∀ x ∈ c, 0 ≤ x ∧ x ≤ 255) (i : Int) : 0 ≤ rd c i ∧ rd c i ≤ 255 := by
  unfold rd
  by_cases hi : i.toNat < c.length
  · have e : c.getD i.toNat 0 = c[i.toNat] := by simp [List.getD, hi]
    rw [e]; exact h _ (List.getElem_mem hi)
  · have e : c.getD i.toNat 0 = 0 := by simp [List.getD, List.getElem?_eq_none (by omega : c.length ≤ i.toNat)]
    rw [e]; omega
theorem byte_ok {c : List Int} {m : Nat} {s1 s2 : Int} (h : SrcInv c m s1 s2) (hm : m < 1000000000000) :
    ∃ r t1 t2, spec_l00Src_byte.f c s1 s2 = some (r, t1, t2) ∧ 0 ≤ r ∧ r ≤ 255 ∧ SrcInv c (m + 1) t1 t2 := by
  obtain ⟨h1, h2, h3, h4, h5, h6⟩ := h
  have hb := rd_in h6 s1
  unfold spec_l00Src_byte.f
  rw [if_pos ⟨h1, by omega, h3, h4, by omega⟩]
  split
  · try rw [if_pos hb]
    exact ⟨_, _, _, rfl, hb.1, hb.2, by omega, by omega, by omega, by omega, h5, h6⟩
  · split
    · exact ⟨_, _, _, rfl, by omega, by omega, by omega, by omega, by omega, by omega, h5, h6⟩
    · exact ⟨_, _, _, rfl, by omega, by omega, by omega, by omega, by omega, by omega, h5, h6⟩
theorem tmod_in {a n : Int} (h : 0 ≤ a) (hn : 1 < n) : 0 ≤ Int.tmod a n ∧ Int.tmod a n < n := by
  rw [Int.tmod_eq_emod_of_nonneg h]
  exact ⟨Int.emod_nonneg _ (by omega), Int.emod_lt_of_pos _ (by omega)⟩
theorem next_ok {c : List Int} {m : Nat} {s1 s2 : Int} (h : SrcInv c m s1 s2) (hm : m + 3 < 1000000000000) (n : Int) :
    ∃ r t1 t2, spec_l00Src_next.f c s1 s2 n = some (r, t1, t2) ∧ 0 ≤ r ∧ (r < n ∨ n ≤ 1 ∧ r = 0) ∧ SrcInv c (m + 3) t1 t2 := by
  have wk : ∀ {m' : Nat} {a b : Int}, SrcInv c m' a b → m' ≤ m + 3 → SrcInv c (m + 3) a b := fun h hm => ⟨h.1, by have := h.2.1; omega, h.2.2⟩
  unfold spec_l00Src_next.f
  by_cases h1 : n ≤ 1
  · rw [if_pos h1]; exact ⟨0, s1, s2, rfl, by omega, .inr ⟨h1, rfl⟩, wk h (by omega)⟩
  · rw [if_neg h1]
    by_cases h2 : n ≤ 256
    · rw [if_pos h2]
      obtain ⟨r, t1, t2, e, hr0, hr1, hi⟩ := byte_ok h (by omega)
      rw [e]; simp only [Option.bind_some]
      rw [if_neg (by omega)]
      have := tmod_in hr0 (show 1 < n by omega)
      exact ⟨_, t1, t2, rfl, this.1, .inl this.2, wk hi (by omega)⟩
    · rw [if_neg h2]
      obtain ⟨r, t1, t2, e, hr0, hr1, hi⟩ := byte_ok h (by omega)
      rw [e]; simp only [Option.bind_some]
      obtain ⟨q, u1, u2, e, hq0, hq1, hj⟩ := byte_ok hi (by omega)
      rw [e]; simp only [Option.bind_some]
      obtain ⟨p, v1, v2, e, hp0, hp1, hk⟩ := byte_ok hj (by omega)
      rw [e]; simp only [Option.bind_some]
      rw [if_neg (by omega)]
      have e1 : wrap64 (wrap64 (wrap64 (r * 65536) + wrap64 (q * 256)) + p) = r * 65536 + q * 256 + p := by unfold wrap64; omega
      rw [e1]
      have := tmod_in (show 0 ≤ r * 65536 + q * 256 + p by omega) (show 1 < n by omega)
      exact ⟨_, v1, v2, rfl, this.1, .inl this.2, wk hk (by omega)⟩
theorem u8_in {l : List Int} (h : ∀ x ∈ l, (Lit.int .u8 x).wf = true) : ∀ x ∈ l, 0 ≤ x ∧ x ≤ 255 := fun x hx => by
  have h1 := h x hx
  have e1 : IntKind.u8.min = 0 := rfl
  have e2 : IntKind.u8.max = 255 := rfl
  simp [Lit.wf, e1, e2] at h1
  omega
theorem at_ok {l : List Int} (h : ∀ x ∈ l, 0 ≤ x ∧ x ≤ 255) (hl : l.length ≤ 1048576) (i n : Int) (hi : 0 ≤ i) (hi2 : i ≤ 1000000000000) (hn : 1 < n) :
    ∃ r, laws_at.f l i n = some r ∧ 0 ≤ r ∧ r < n := by
  unfold laws_at.f
  rw [if_neg (by omega)]
  by_cases h0 : (l.length : Int) = 0
  · rw [if_pos h0, if_neg (by omega)]
    have e : wrap64 (i * 7) = i * 7 := by unfold wrap64; omega
    rw [e]
    have := tmod_in (show 0 ≤ i * 7 by omega) hn
    exact ⟨_, rfl, this.1, this.2⟩
  · rw [if_neg h0]
    have hp : 0 < (l.length : Int) := by omega
    have e : wrap64 (i + 1) = i + 1 := by unfold wrap64; omega
    rw [e, Int.tmod_eq_emod_of_nonneg hi, Int.tmod_eq_emod_of_nonneg (show 0 ≤ i + 1 by omega), Int.tdiv_eq_ediv_of_nonneg hi]
    rw [if_pos (Int.emod_nonneg _ h0), if_pos (Int.emod_lt_of_pos _ hp), if_pos (Int.emod_nonneg _ h0), if_pos (Int.emod_lt_of_pos _ hp), if_neg (by omega)]
    have b1 := rd_in h (i % (l.length : Int))
    have b2 := rd_in h ((i + 1) % (l.length : Int))
    have d1 : 0 ≤ i / (l.length : Int) := Int.ediv_nonneg hi (by omega)
    have d2 : i / (l.length : Int) ≤ i := Int.ediv_le_self _ hi
    generalize rd l (i % (l.length : Int)) = p at b1 ⊢
    generalize rd l ((i + 1) % (l.length : Int)) = q at b2 ⊢
    generalize i / (l.length : Int) = d at d1 d2 ⊢
    have e : wrap64 (wrap64 (wrap64 (wrap64 p * 31) + wrap64 q) + wrap64 d) = p * 31 + q + d := by unfold wrap64; omega
    rw [e]
    have := tmod_in (show 0 ≤ p * 31 + q + d by omega) hn
    exact ⟨_, rfl, this.1, this.2⟩
theorem first_ok {c : List Int} {m : Nat} {s1 s2 : Int} (h : SrcInv c m s1 s2) (hm : m + 6 < 1000000000000) :
    ∃ r t1 t2, spec_l00Src_first.f c s1 s2 = some (r, t1, t2) ∧ 0 ≤ r ∧ r ≤ 4294967295 ∧ SrcInv c (m + 6) t1 t2 := by
  unfold spec_l00Src_first.f
  obtain ⟨r, t1, t2, e, hr0, hr1, hi⟩ := next_ok h (by omega) 60000
  rw [e]; simp only [Option.bind_some]
  obtain ⟨q, u1, u2, e, hq0, hq1, hj⟩ := next_ok hi (by omega) 6
  rw [e]; simp only [Option.bind_some]
  rw [if_pos hq0, if_pos (by simp; omega)]
  refine ⟨_, _, _, rfl, ?_, ?_, hj⟩
  all_goals
    have : q = 0 ∨ q = 1 ∨ q = 2 ∨ q = 3 ∨ q = 4 ∨ q = 5 := by omega
    rcases this with rfl | rfl | rfl | rfl | rfl | rfl <;> simp [rd] <;> omega
theorem srcInv0 {c : List Int} (h : ∀ x ∈ c, 0 ≤ x ∧ x ≤ 255) (hl : c.length ≤ 1048576) : SrcInv c 0 0 ((c.length : Int) % 1000) := ⟨by omega, by omega, by omega, by omega, hl, h⟩
theorem FirstOf_ok {c : List Int} (h : ∀ x ∈ c, 0 ≤ x ∧ x ≤ 255) (hl : c.length ≤ 1048576) : ∃ r, spec_FirstOf.f c = some r ∧ 0 ≤ r ∧ r ≤ 4294967295 := by
  obtain ⟨r, t1, t2, e, hr0, hr1, _⟩ := first_ok (srcInv0 h hl) (by omega)
  exact ⟨r, by rw [spec_FirstOf.f, spec_l00Source.f, Option.bind_some, e, Option.bind_some], hr0, hr1⟩
theorem inRange_eq (a b c : Int) : impl_inRange.f a b c = some (decide (b ≤ a ∧ a ≤ c)) := by
  unfold impl_inRange.f
  by_cases h : a ≥ b <;> simp [h]
theorem l01In_eq (a b c : Int) : spec_l01In.f a b c = some (decide (b ≤ a ∧ a ≤ c)) := by
  unfold spec_l01In.f
  by_cases h : a ≥ b <;> simp [h]
theorem dist_eq {a b : Int} (ha : 0 ≤ a ∧ a ≤ 4294967295) (hb : 0 ≤ b ∧ b ≤ 4294967295) : Int.tmod (wrap64 (wrap64 (b - a) + 4294967296)) 4294967296 = (b - a) % 4294967296 := by
  have e : wrap64 (wrap64 (b - a) + 4294967296) = b - a + 4294967296 := by unfold wrap64; omega
  rw [e, Int.tmod_eq_emod_of_nonneg (by omega)]
  omega
theorem before_eq {a b : Int} (ha : 0 ≤ a ∧ a ≤ 4294967295) (hb : 0 ≤ b ∧ b ≤ 4294967295) :
    impl_SeqBefore.f a b = some (decide (1 ≤ (b - a) % 4294967296 ∧ (b - a) % 4294967296 ≤ 2147483647), 0) := by
  unfold impl_SeqBefore.f
  simp only [inRange_eq, Option.bind_some, decide_eq_true_eq, if_pos ha, if_pos hb, dist_eq ha hb]
theorem spec_before_eq {a b : Int} (k : Nat) (ha : 0 ≤ a ∧ a ≤ 4294967295) (hb : 0 ≤ b ∧ b ≤ 4294967295) :
    spec_SeqBefore.f (k + 1) a b = some (decide (1 ≤ (b - a) % 4294967296 ∧ (b - a) % 4294967296 ≤ 2147483647), 0) := by
  unfold spec_SeqBefore.f
  simp only [l01In_eq, Option.bind_some, decide_eq_true_eq, if_pos ha, decide_eq_true hb, spec_SeqBefore.j0, Bool.not_true, Bool.false_eq_true, if_false, spec_l08Minus.f, dist_eq ha hb]
theorem bne_self_bool (b : Bool) : (b != b) = false := by cases b <;> rfl
theorem j1_eq (k : Nat) (a b : Int) (ha : 0 ≤ a ∧ a ≤ 4294967295) (hb : 0 ≤ b ∧ b ≤ 4294967295) :
    laws_FnSeq.j1 (k + 1) a b (decide (1 ≤ (b - a) % 4294967296 ∧ (b - a) % 4294967296 ≤ 2147483647)) (decide (1 ≤ (a - b) % 4294967296 ∧ (a - b) % 4294967296 ≤ 2147483647)) false = some true := by
  rw [laws_FnSeq.j1, if_neg Bool.false_ne_true, dist_eq hb ha]
  by_cases c1 : a = b
  · have p : ¬ (1 ≤ (b - a) % 4294967296 ∧ (b - a) % 4294967296 ≤ 2147483647) := by omega
    have q : ¬ (1 ≤ (a - b) % 4294967296 ∧ (a - b) % 4294967296 ≤ 2147483647) := by omega
    rw [if_pos c1, decide_eq_false p, decide_eq_false q]; rfl
  · rw [if_neg c1]
    by_cases c2 : (a - b) % 4294967296 = 2147483648
    · have p : ¬ (1 ≤ (b - a) % 4294967296 ∧ (b - a) % 4294967296 ≤ 2147483647) := by omega
      have q : ¬ (1 ≤ (a - b) % 4294967296 ∧ (a - b) % 4294967296 ≤ 2147483647) := by omega
      rw [if_pos c2, decide_eq_false p, decide_eq_false q]; rfl
    · rw [if_neg c2]
      by_cases p : 1 ≤ (b - a) % 4294967296 ∧ (b - a) % 4294967296 ≤ 2147483647
      · have q : ¬ (1 ≤ (a - b) % 4294967296 ∧ (a - b) % 4294967296 ≤ 2147483647) := by omega
        rw [decide_eq_true p, decide_eq_false q]; rfl
      · have q : (1 ≤ (a - b) % 4294967296 ∧ (a - b) % 4294967296 ≤ 2147483647) := by omega
        rw [decide_eq_false p, decide_eq_true q]; rfl
theorem FnSeq : laws_FnSeq.Pure := by
  intro l0 l1 _ _ h0 _ _ h1
  have b0 := u8_in h0
  have b1 := u8_in h1
  refine ⟨3, ?_⟩
  rw [laws_FnSeq.f]
  by_cases g0 : (l0.length : Int) > 1048576
  · rw [if_pos g0, laws_FnSeq.j0, if_pos rfl]
  · rw [if_neg g0]
    by_cases g1 : (l1.length : Int) > 1048576
    · rw [decide_eq_true g1, laws_FnSeq.j0, if_pos rfl]
    · obtain ⟨a, ea, ha0, ha1⟩ := FirstOf_ok b0 (by omega)
      obtain ⟨b, eb, hb0, hb1⟩ := FirstOf_ok b1 (by omega)
      obtain ⟨t, et, ht0, ht1⟩ := at_ok b1 (by omega) 0 9000 (by omega) (by omega) (by omega)
      have e1 : wrap64 (t * 500000) = t * 500000 := by unfold wrap64; omega
      have e2 : wrap64 (a + t * 500000) = a + t * 500000 := by unfold wrap64; omega
      have e3 : wrap64 (b + t * 500000) = b + t * 500000 := by unfold wrap64; omega
      have em : ((b + t * 500000) % 4294967296 - (a + t * 500000) % 4294967296) % 4294967296 = (b - a) % 4294967296 := by omega
      rw [decide_eq_false g1, laws_FnSeq.j0, if_neg Bool.false_ne_true, ea, Option.bind_some, eb, Option.bind_some, et, Option.bind_some, before_eq ⟨ha0, ha1⟩ ⟨hb0, hb1⟩, Option.bind_some, before_eq ⟨hb0, hb1⟩ ⟨ha0, ha1⟩, Option.bind_some,
        e1, e2, e3, Int.tmod_eq_emod_of_nonneg (show 0 ≤ a + t * 500000 by omega), Int.tmod_eq_emod_of_nonneg (show 0 ≤ b + t * 500000 by omega), before_eq (by omega) (by omega), Option.bind_some, spec_before_eq 1 ⟨ha0, ha1⟩ ⟨hb0, hb1⟩, Option.bind_some, em]
      rw [if_pos rfl, if_pos rfl, if_pos rfl]
      dsimp only
      rw [bne_self_bool, if_neg Bool.false_ne_true]
      exact j1_eq 1 a b ⟨ha0, ha1⟩ ⟨hb0, hb1⟩
end Go.Proofs.Ytdoonajbbfnnfaa.Pure
