/- Plain laws over what the functions come to. -/
import Derived.Test.YteiigocdefjijaaF5x2
namespace Go.Proofs.YteiigocdefjijaaAm.W
set_option linter.unusedVariables false
set_option linter.unusedSimpArgs false
abbrev W (n : Int) : Int := IntKind.wrap IntKind.i64 n
theorem W_succ (i : Nat) (h : i < 4611686018427387904) : IntKind.wrap IntKind.i64 ((i : Int) + 1) = ((i + 1 : Nat) : Int) := by
  rw [W_id (by omega) (by omega)]; rfl
theorem in37 (n lo hi : Int) : f37 n lo hi = some (decide (lo ≤ n ∧ n ≤ hi)) := by
  unfold f37
  by_cases h : lo ≤ n <;> simp [h]
theorem in52 (n lo hi : Int) : f52 n lo hi = some (decide (lo ≤ n ∧ n ≤ hi)) := by
  unfold f52
  by_cases h : lo ≤ n <;> simp [h]
def small (n : Nat) : Prop := n ≤ 1048576
theorem has53 (l : List Int) (n : Int) (hl : small l.length) : f53 l n = some (l.contains n) := by
  have hl : l.length ≤ 1048576 := hl
  have h : f53l0 n l 0 = some (if l.any (· == n) then .inl true else .inr ()) := by
    unfold f53l0
    refine find_loop_any l (· == n) (fun i hi => ?_) ?_
    · simp only [f53l0b, f53l0bp, f53l0_0, f53l0_1]
      rw [if_pos (by omega), show decide ((i : Int) < (l.length : Int)) = true by simpa using hi]
      simp only [cond_true, Int.toNat_natCast, Nat.zero_add, getD_lt hi, W_succ i (by omega)]
      cases (l[i] == n) <;> rfl
    · simp [f53l0b, f53l0bp]
  simp only [f53, h, Option.bind_some, f53_0, f53_1]
  rw [show l.contains n = l.any (· == n) by rw [List.contains_eq_any_beq]; congr 1; funext x; exact Bool.beq_comm ..]
  cases l.any (· == n) <;> rfl
theorem idx54 (l : List Int) (n : Int) (hl : small l.length) : f54 l n = some (match l.findIdx? (fun x => n == x) with | some i => (i : Int) | none => -1) := by
  have hl : l.length ≤ 1048576 := hl
  have h : f54l0 n (l.length : Int) l 0 = some (match l.findIdx? (fun x => n == x) with | some i => .inl (i : Int) | none => .inr ()) := by
    unfold f54l0
    refine find_loop l (fun x => n == x) (fun i => (i : Int)) (fun i hi => ?_) ?_
    · simp only [f54l0b, f54l0bp, f54l0_0, f54l0_1]
      rw [if_pos (by omega), show decide ((i : Int) < (l.length : Int)) = true by simpa using hi]
      simp only [cond_true, Int.toNat_natCast, Nat.zero_add, getD_lt hi, W_succ i (by omega)]
      cases (n == l[i]) <;> rfl
    · simp [f54l0b, f54l0bp]
  simp only [f54, h, Option.bind_some, f54_0, f54_1]
  cases l.findIdx? (fun x => n == x) <;> rfl
theorem has38 (l : List Int) (n : Int) (hl : small l.length) : f38 l n = some (l.contains n) := by
  simp only [f38, idx54 l n hl, Option.bind_some, f38_0]
  rw [List.contains_eq_any_beq]
  have := List.findIdx?_isSome (xs := l) (p := fun x => n == x)
  rw [← this]
  cases l.findIdx? (fun x => n == x) with
  | none => rfl
  | some i => simp
/-! ### What the laws do -/
theorem to24 (l : List (Int × Int)) (hl : small l.length) : f24 l = some l := by
  have hl : l.length ≤ 1048576 := hl
  have h : f24l0 l (0, List.replicate l.length (0, 0)) = some (l.map id) := by
    unfold f24l0
    refine copy_loop l id (0, 0) (fun i hi out ho => ?_) (fun out => ?_)
    · simp only [f24l0b, f24l0bp, f24l0_0, f24l0_1, f15, Option.bind_some]
      rw [if_pos (by omega), if_pos (by omega), show decide ((i : Int) < (l.length : Int)) = true by simpa using hi]
      simp only [cond_true, Int.toNat_natCast, Nat.zero_add, getD_lt hi, W_succ i (by omega), id]
      rw [List.set_set, getD_lt (by rw [List.length_set]; omega), List.getElem_set_self]
    · simp [f24l0b, f24l0bp]
  simp only [f24, Int.toNat_natCast, h, Option.bind_some, f24_0, List.map_id]
  rw [if_pos (by omega)]
theorem eq43 (l : List Int) (hl : small l.length) : f43 l l = some true := by
  have hl : l.length ≤ 1048576 := hl
  have h : f43l0 l l 0 = some (.inr ()) := by
    unfold f43l0
    refine loopD_up (fun i => (i : Int)) l.length rfl (fun i hi => ?_) ?_
    · simp only [f43l0b, f43l0bp, f43l0_0, f43l0_1]
      rw [if_pos (by omega), if_pos (by omega), show decide ((i : Int) < (l.length : Int)) = true by simpa using hi]
      simp only [cond_true, bne_self_eq_false, cond_false, W_succ i (by omega)]
    · simp [f43l0b, f43l0bp]
  simp [f43, f43_0, f43_1, f43_2, h]
theorem eq46 (a b : Int) : f46 a b a b = some true := by simp [f46, f46_0, f46_1]
theorem eq26 (l : List (Int × Int)) (hl : small l.length) : f26 l l = some true := by
  have hl : l.length ≤ 1048576 := hl
  have h : f26l0 l l 0 = some (.inr ()) := by
    unfold f26l0
    refine loopD_up (fun i => (i : Int)) l.length rfl (fun i hi => ?_) ?_
    · simp only [f26l0b, f26l0bp, f26l0_0, f26l0_1, f26l0_2, eq46, Option.bind_some]
      rw [if_pos (by omega), if_pos (by omega), show decide ((i : Int) < (l.length : Int)) = true by simpa using hi]
      simp only [cond_true, Bool.not_true, cond_false, W_succ i (by omega)]
    · simp [f26l0b, f26l0bp]
  simp [f26, f26_0, f26_1, f26_2, h]
theorem eq17 (a : Int) (b : Bool) (c d : List Int) (e f g h : Int) (hc : small c.length) (hd : small d.length) : f17 a b c d e f g h a b c d e f g h = some true := by
  simp [f17, f17_0, f17_1, f17_2, f17_3, f17_4, f17_5, f17_6, f17_7, f17_8, f17_9, eq43 c hc, eq43 d hd]
theorem eq18 (a : Int) (c : List Int) (hc : small c.length) : f18 a c a c = some true := by
  simp [f18, f18_0, f18_1, f18_2, eq43 c hc]
theorem eq25 (l : List (Int × List Int)) (hl : small l.length) (he : ∀ x ∈ l, small x.2.length) : f25 l l = some true := by
  have hl : l.length ≤ 1048576 := hl
  have h : f25l0 l l 0 = some (.inr ()) := by
    unfold f25l0
    refine loopD_up (fun i => (i : Int)) l.length rfl (fun i hi => ?_) ?_
    · simp only [f25l0b, f25l0bp, f25l0_0, f25l0_1, f25l0_2, Int.toNat_natCast, Nat.zero_add, getD_lt hi]
      rw [if_pos (by omega), if_pos (by omega), show decide ((i : Int) < (l.length : Int)) = true by simpa using hi]
      simp only [cond_true, eq18 _ _ (he _ (List.getElem_mem hi)), Option.bind_some, Bool.not_true, cond_false, W_succ i (by omega)]
    · simp [f25l0b, f25l0bp]
  simp [f25, f25_0, f25_1, f25_2, h]
/-! Marks -/
def mkI (_ : Int) (k : Int) : Int := k
def szI (_ : Int) : Int := 1
theorem szI_list (l : List Int) : szL szI l = l.length := by
  induction l with
  | nil => rfl
  | cons a l ih => simp only [szL, ih, szI, List.length_cons]; omega
theorem mark44 (l : List Int) (k : Int) (hk : 0 ≤ k) (hB : k + l.length ≤ 4611686018427387904) : f44 l k = some (k + l.length, marksL mkI szI l k) := by
  have h : f44l0 (k, 0, l) = some (k + szL szI l, marksL mkI szI l k) := by
    unfold f44l0
    refine mark_loop (fun a => by simp [szI]) 4611686018427387904 l (fun k i l hi hl _ hk hb => ?_) (fun k l _ => ?_) hk (by rw [szI_list]; exact hB)
    · simp only [f44l0b, f44l0bp, f44l0_0, szI, mkI] at hb ⊢
      rw [if_pos (by omega), show decide ((i : Int) < (l.length : Int)) = true by simpa using hi]
      simp only [cond_true, Int.toNat_natCast, Nat.zero_add]
      rw [W_id (n := k + 1) (by omega) (by omega), W_succ i (by omega)]
    · simp [f44l0b, f44l0bp]
  rw [szI_list] at h
  simp only [f44, h, Option.bind_some, f44_0]
theorem held45 (l : List Int) (k : Int) (hk : 0 ≤ k) (hB : k + l.length ≤ 4611686018427387904) : f45 (marksL mkI szI l k) k = some (k + l.length) := by
  have hl := marksL_length mkI szI l k
  have h : f45l0 (marksL mkI szI l k) (k, 0) = some (.inr (k + szL szI l)) := by
    unfold f45l0
    refine held_loop (mk := mkI) (sz := szI) (fun a => by simp [szI]) 4611686018427387904 l (fun k i hi a _ hk hb he => ?_) (fun k => ?_) hk (by rw [szI_list]; exact hB) rfl
    · simp only [f45l0b, f45l0bp, f45l0_0, f45l0_1, szI, mkI] at hb he ⊢
      rw [if_pos (by omega), show decide ((i : Int) < ((marksL mkI szI l _).length : Int)) = true by simpa using hi]
      simp only [cond_true, Int.toNat_natCast, Nat.zero_add, getD_lt hi, he, bne_self_eq_false, cond_false]
      rw [W_id (n := k + 1) (by omega) (by omega), W_succ i (by omega)]
    · simp [f45l0b, f45l0bp]
  rw [szI_list] at h
  simp only [f45, h, Option.bind_some, f45_0, f45_1, Sum.elim_inr]
theorem mark19 (a : Int) (b : Bool) (c d : List Int) (e f g h k : Int) (hk : 0 ≤ k) (hB : k + c.length + d.length ≤ 4611686018427387904) :
    f19 a b c d e f g h k = some (k + c.length + d.length, marksL mkI szI c k, marksL mkI szI d (k + c.length)) := by
  simp only [f19, f19_0, f19_1, mark44 c k hk (by omega), mark44 d (k + c.length) (by omega) (by omega), Option.bind_some]
theorem held21 (a : Int) (b : Bool) (c d : List Int) (e f g h k : Int) (hk : 0 ≤ k) (hB : k + c.length + d.length ≤ 4611686018427387904) :
    f21 a b (marksL mkI szI c k) (marksL mkI szI d (k + c.length)) e f g h k = some (k + c.length + d.length) := by
  simp only [f21, f21_0, f21_1, f21_2, f21_3, held45 c k hk (by omega), held45 d (k + c.length) (by omega) (by omega), Option.bind_some]
  rw [show decide (k + (c.length : Int) < 0) = false by simp; omega, show decide (k + (c.length : Int) + d.length < 0) = false by simp; omega]
  rfl
def mkR (a : Int × List Int) (k : Int) : Int × List Int := (k, marksL mkI szI a.2 (k + 1))
def szR (a : Int × List Int) : Int := 1 + a.2.length
theorem mark28 (l : List (Int × List Int)) (k : Int) (hk : 0 ≤ k) (hl : small l.length) (hB : k + szL szR l ≤ 4611686018427387904) : f28 l k = some (k + szL szR l, marksL mkR szR l k) := by
  have hl : l.length ≤ 1048576 := hl
  have h : f28l0 (k, 0, l) = some (k + szL szR l, marksL mkR szR l k) := by
    unfold f28l0
    refine mark_loop (fun a => by simp only [szR]; omega) 4611686018427387904 l (fun k i l hi hl _ hk hb => ?_) (fun k l _ => ?_) hk hB
    · simp only [f28l0b, f28l0bp, f28l0_0, f28l0_1, szR] at hb ⊢
      have hi2 : i < (l.set i (k, l[i].2)).length := by rw [List.length_set]; exact hi
      rw [if_pos (by omega), show decide ((i : Int) < (l.length : Int)) = true by simpa using hi]
      simp only [cond_true, Int.toNat_natCast, Nat.zero_add, getD_lt hi, List.length_set, getD_lt hi2, List.getElem_set_self, List.set_set]
      rw [if_pos (by omega), W_id (n := k + 1) (by omega) (by omega), mark44 _ (k + 1) (by omega) (by omega), Option.bind_some, W_succ i (by omega)]
      simp only [mkR, Int.add_assoc]
    · simp [f28l0b, f28l0bp]
  simp only [f28, h, Option.bind_some, f28_0]
theorem held29 (l : List (Int × List Int)) (k : Int) (hk : 0 ≤ k) (hl : small l.length) (hB : k + szL szR l ≤ 4611686018427387904) : f29 (marksL mkR szR l k) k = some (k + szL szR l) := by
  have hl : l.length ≤ 1048576 := hl
  have hl2 := marksL_length mkR szR l k
  have h : f29l0 (marksL mkR szR l k) (k, 0) = some (.inr (k + szL szR l)) := by
    unfold f29l0
    refine held_loop (mk := mkR) (sz := szR) (fun a => by simp only [szR]; omega) 4611686018427387904 l (fun k i hi a _ hk hb he => ?_) (fun k => ?_) hk hB rfl
    · simp only [f29l0b, f29l0bp, f29l0_0, f29l0_1, f29l0_2, f29l0_3, szR, mkR] at hb he ⊢
      rw [if_pos (by omega), if_pos (by omega), show decide ((i : Int) < ((marksL mkR szR l _).length : Int)) = true by simpa using hi]
      simp only [cond_true, Int.toNat_natCast, Nat.zero_add, getD_lt hi, he, bne_self_eq_false, cond_false]
      rw [W_id (n := k + 1) (by omega) (by omega), held45 a.2 (k + 1) (by omega) (by omega), Option.bind_some, W_succ i (by omega)]
      rw [show decide (k + 1 + (a.2.length : Int) < 0) = false by simp; omega]
      simp only [cond_false, Int.add_assoc]
    · simp [f29l0b, f29l0bp]
  simp only [f29, h, Option.bind_some, f29_0, f29_1, Sum.elim_inr]
def mkA (_ : Int × Int) (k : Int) : Int × Int := (k, k + 1)
def szA (_ : Int × Int) : Int := 2
theorem szA_list (l : List (Int × Int)) : szL szA l = 2 * l.length := by
  induction l with
  | nil => rfl
  | cons a l ih => simp only [szL, ih, szA, List.length_cons]; omega
theorem mark27 (l : List (Int × Int)) (k : Int) (hk : 0 ≤ k) (hl : small l.length) (hB : k + 2 * l.length ≤ 4611686018427387904) : f27 l k = some (k + 2 * l.length, marksL mkA szA l k) := by
  have hl : l.length ≤ 1048576 := hl
  have h : f27l0 (k, 0, l) = some (k + szL szA l, marksL mkA szA l k) := by
    unfold f27l0
    refine mark_loop (fun a => by simp [szA]) 4611686018427387904 l (fun k i l hi hl _ hk hb => ?_) (fun k l _ => ?_) hk (by rw [szA_list]; exact hB)
    · simp only [f27l0b, f27l0bp, f27l0_0, szA] at hb ⊢
      have hi2 : i < (l.set i (k, l[i].2)).length := by rw [List.length_set]; exact hi
      rw [if_pos (by omega), show decide ((i : Int) < (l.length : Int)) = true by simpa using hi]
      simp only [cond_true, Int.toNat_natCast, Nat.zero_add, getD_lt hi, List.length_set, getD_lt hi2, List.getElem_set_self, List.set_set]
      rw [if_pos (by omega), W_id (n := k + 1) (by omega) (by omega), W_id (n := k + 1 + 1) (by omega) (by omega), W_succ i (by omega)]
      simp only [mkA, Int.add_assoc]
      rfl
    · simp [f27l0b, f27l0bp]
  rw [szA_list] at h
  simp only [f27, h, Option.bind_some, f27_0]
end Go.Proofs.YteiigocdefjijaaAm.W
namespace Go.Proofs.YteiigocdefjijaaAm.W
set_option linter.unusedVariables false
set_option linter.unusedSimpArgs false
/-! ### Arrivals -/
abbrev A := List Int × List Int × Int × Int × Int × List Int
def cap9 (x : Int) : Int := if 1000000000 < x then 1000000000 else x
def arr (up : Bool) (ev : Int) : A → A
  | (ps, d, l, p, g, o) => match up, ps with
    | true, n :: ps => (ps, d ++ [n], l, if IntKind.wrap IntKind.i64 (p + 1) = ev then 0 else IntKind.wrap IntKind.i64 (p + 1), if IntKind.wrap IntKind.i64 (p + 1) = ev then cap9 (IntKind.wrap IntKind.i64 (g + 1)) else g, o ++ [n])
    | _, _ => (ps, d, cap9 (IntKind.wrap IntKind.i64 (l + 1)), p, g, o)
def arrs (up : Bool) (ev : Int) : Nat → A → A
  | 0, s => s
  | n + 1, s => arr up ev (arrs up ev n s)
def A.ok (s : A) (n : Nat) : Prop := s.1.length + s.2.1.length ≤ 4096 ∧ s.2.2.2.2.2.length ≤ n
theorem arr_ok {up : Bool} {ev : Int} {s : A} {n : Nat} (h : s.ok n) : (arr up ev s).ok (n + 1) := by
  obtain ⟨ps, d, l, p, g, o⟩ := s
  obtain ⟨h1, h2⟩ := h
  simp only at h1 h2
  unfold arr
  cases up with
  | false => exact ⟨h1, by simp only; omega⟩
  | true =>
    cases ps with
    | nil => exact ⟨h1, by simp only; omega⟩
    | cons n ps => simp only [A.ok, List.length_cons, List.length_append, List.length_nil] at h1 ⊢; omega
theorem arrs_ok {up : Bool} {ev : Int} {s : A} {k : Nat} (h : s.ok k) : ∀ n, (arrs up ev n s).ok (k + n)
  | 0 => h
  | n + 1 => arr_ok (arrs_ok h n)
theorem body35 (a b : Int) (c0 c1 c2 c3 : Int) (n : Int) (up : Bool) (y0 : Int) (y2 : Int) (y3 : Bool) (y4 y5 : List Int) (y6 y7 y8 y9 y10 : Int) (y11 : List Int) (y12 : Int) (ev y15 : Int) (i : Nat) (s : A) (hi : (i : Int) < n) (hn : n ≤ 100) (hs : s.ok 4096) :
    f35l0b y0 n y2 y3 y4 y5 y6 y7 y8 y9 y10 y11 y12 up ev y15 ((i : Int), s) = some (.inl (((i + 1 : Nat) : Int), arr up ev s)) := by
  obtain ⟨ps, d, l, p, g, o⟩ := s
  obtain ⟨h1, h2⟩ := hs
  simp only at h1 h2
  have hw : IntKind.wrap IntKind.i64 ((i : Int) + 1) = (i : Int) + 1 := W_id (by omega) (by omega)
  simp only [f35l0b, f35l0bp, f35l0_0, f35l0_1, f35l0_2, show decide ((i : Int) < n) = true by simpa using hi, cond_true, W_succ i (by omega)]
  cases up with
  | false => simp [arr, cap9]
  | true =>
    cases ps with
    | nil => simp [arr, cap9]
    | cons m ps =>
      simp only [List.length_cons] at h1
      simp only [Bool.not_true, cond_false, List.length_cons, f35l0_3, f35l0_4, f35l0_5, f35k0, List.length_nil, List.getD_cons_zero, Int.toNat_zero, Nat.zero_add, List.drop_succ_cons, List.drop_zero, List.nil_append, arr, Int.toNat_natCast]
      rw [show (((ps.length + 1 : Nat) : Int) == 0) = false by simp; omega]
      simp only [cond_false]
      rw [if_pos (by omega), if_pos (by omega), if_pos (by omega), if_pos (by omega)]
      rw [show List.take (ps.length + 1 - Int.toNat 1) ps = ps from List.take_of_length_le (by simp)]
      rw [if_pos (by omega)]
      by_cases e : IntKind.wrap IntKind.i64 (p + 1) = ev
      · simp [e, cap9, hw]
      · simp [e, hw, beq_eq_false_iff_ne.2 e]
theorem loop35 (n : Nat) (up : Bool) (y0 : Int) (y2 : Int) (y3 : Bool) (y4 y5 : List Int) (y6 y7 y8 y9 y10 : Int) (y11 : List Int) (y12 : Int) (ev y15 : Int) (s : A) (hn : n ≤ 100) (hs : s.ok 3000) :
    f35l0 y0 (n : Int) y2 y3 y4 y5 y6 y7 y8 y9 y10 y11 y12 up ev y15 (0, s) = some (arrs up ev n s) := by
  unfold f35l0
  refine loopD_up (fun i => ((i : Int), arrs up ev i s)) n rfl (fun i hi => ?_) ?_
  · have := arrs_ok (up := up) (ev := ev) hs i
    exact body35 0 0 0 0 0 0 n up y0 y2 y3 y4 y5 y6 y7 y8 y9 y10 y11 y12 ev y15 i _ (by omega) (by omega) ⟨this.1, by have := this.2; omega⟩
  · simp [f35l0b, f35l0bp]
theorem body51 (z : Int) (up : Bool) (ps d : List Int) (l p ev g : Int) (o : List Int) (h1 : ps.length + d.length ≤ 4096) (h2 : o.length ≤ 4096) :
    f51 z up ps d l p ev g o = some (z, up, (arr up ev (ps, d, l, p, g, o)).1, (arr up ev (ps, d, l, p, g, o)).2.1, (arr up ev (ps, d, l, p, g, o)).2.2.1, (arr up ev (ps, d, l, p, g, o)).2.2.2.1, ev, (arr up ev (ps, d, l, p, g, o)).2.2.2.2.1, (arr up ev (ps, d, l, p, g, o)).2.2.2.2.2) := by
  simp only [f51, f51_0, f51_1]
  cases up with
  | false => simp [arr, cap9]
  | true =>
    cases ps with
    | nil => simp [arr, cap9]
    | cons m ps =>
      simp only [List.length_cons] at h1
      simp only [Bool.not_true, cond_false, List.length_cons, f51_2, f51_3, f51_4, List.length_nil, List.getD_cons_zero, List.drop_succ_cons, List.drop_zero, arr, Int.toNat_natCast]
      rw [show (((ps.length + 1 : Nat) : Int) == 0) = false by simp; omega]
      simp only [cond_false]
      rw [if_pos (by omega), if_pos (by omega), if_pos (by omega)]
      rw [show List.take (ps.length + 1 - Int.toNat 1) ps = ps from List.take_of_length_le (by simp)]
      rw [if_pos (by omega)]
      by_cases e : IntKind.wrap IntKind.i64 (p + 1) = ev
      · simp [e, cap9]
      · simp [e, beq_eq_false_iff_ne.2 e]
        omega
theorem loop33 (n : Nat) (y2 : Int) (y3 : List Int) (y4 : Int) (z : Int) (up : Bool) (ev : Int) (s : A) (hn : n ≤ 100) (hs : s.ok 3000) :
    f33l0 (n : Int) y2 y3 y4 (0, z, up, s.1, s.2.1, s.2.2.1, s.2.2.2.1, ev, s.2.2.2.2.1, s.2.2.2.2.2) =
      some (z, up, (arrs up ev n s).1, (arrs up ev n s).2.1, (arrs up ev n s).2.2.1, (arrs up ev n s).2.2.2.1, ev, (arrs up ev n s).2.2.2.2.1, (arrs up ev n s).2.2.2.2.2) := by
  unfold f33l0
  refine loopD_up (fun i => ((i : Int), z, up, (arrs up ev i s).1, (arrs up ev i s).2.1, (arrs up ev i s).2.2.1, (arrs up ev i s).2.2.2.1, ev, (arrs up ev i s).2.2.2.2.1, (arrs up ev i s).2.2.2.2.2)) n rfl (fun i hi => ?_) ?_
  · have h := arrs_ok (up := up) (ev := ev) hs i
    simp only [f33l0b, f33l0bp, f33l0_0, show decide ((i : Int) < (n : Int)) = true by simpa using hi, cond_true]
    rw [body51 _ _ _ _ _ _ _ _ _ h.1 (by have := h.2; omega), Option.bind_some]
    simp only [f33l0_1, W_succ i (by omega), arrs]
  · simp [f33l0b, f33l0bp]
/-! ### One act -/
abbrev R := Int × Bool × List Int × List Int × Int × Int × Int × Int
abbrev Rep := Int × List Int
def stepR (r : R) (kind n : Int) : R × Rep :=
  match r with
  | (z, up, ps, d, l, p, ev, g) =>
    if kind = 1 then
      if ¬ (0 ≤ n ∧ n ≤ 999) then (r, 4, [])
      else if ps.contains n || d.contains n then (r, 9, [])
      else if ((ps.length + d.length : Nat) : Int) = z then (r, 7, [])
      else ((z, up, ps ++ [n], d, l, p, ev, g), 0, [])
    else if kind = 2 then
      if ¬ (0 ≤ n ∧ n ≤ 100) then (r, 4, [])
      else ((z, up, (arrs up ev n.toNat (ps, d, l, p, g, [])).1, (arrs up ev n.toNat (ps, d, l, p, g, [])).2.1, (arrs up ev n.toNat (ps, d, l, p, g, [])).2.2.1, (arrs up ev n.toNat (ps, d, l, p, g, [])).2.2.2.1, ev, (arrs up ev n.toNat (ps, d, l, p, g, [])).2.2.2.2.1), 0, (arrs up ev n.toNat (ps, d, l, p, g, [])).2.2.2.2.2)
    else if kind = 3 then
      if n ≤ 0 then (r, 4, [])
      else ((z, up, ps, d.drop (min n.toNat d.length), l, (if ((d.length - min n.toNat d.length : Nat) : Int) < p then ((d.length - min n.toNat d.length : Nat) : Int) else p), ev, g), 0, d.take (min n.toNat d.length))
    else if kind = 4 then ((z, up, [], [], l, 0, ev, g), 0, d ++ ps)
    else if kind = 5 then ((z, n == 1, ps, d, l, p, ev, g), 0, [])
    else (r, 3, [])
def R.ok (r : R) : Prop := r.2.2.1.length + r.2.2.2.1.length ≤ 3000
def flat (x : R × Rep) : Int × Bool × List Int × List Int × Int × Int × Int × Int × Int × List Int :=
  (x.1.1, x.1.2.1, x.1.2.2.1, x.1.2.2.2.1, x.1.2.2.2.2.1, x.1.2.2.2.2.2.1, x.1.2.2.2.2.2.2.1, x.1.2.2.2.2.2.2.2, x.2.1, x.2.2)
theorem min_cut (n : Int) (d : List Int) (h : 0 < n) : (if (d.length : Int) < n then (d.length : Int) else n) = ((min n.toNat d.length : Nat) : Int) := by
  split <;> omega
theorem own36 (z : Int) (up : Bool) (ps d : List Int) (l p ev g : Int) (h : ps.length + d.length ≤ 3000) : f36 z up ps d l p ev g = some (z, up, ps, d, l, p, ev, g) := by
  simp only [f36]
  delta f36k0
  rw [if_pos (by simp only [List.length_nil]; omega), if_pos (by simp only [List.length_nil]; omega)]
  rfl
theorem step35 (z : Int) (up : Bool) (ps d : List Int) (l p ev g kind n : Int) (h : ps.length + d.length ≤ 3000) : f35 z up ps d l p ev g kind n = some (flat (stepR (z, up, ps, d, l, p, ev, g) kind n)) := by
  have hW : IntKind.wrap IntKind.i64 ((ps.length : Int) + d.length) = ((ps.length + d.length : Nat) : Int) := by rw [W_id (by omega) (by omega)]; rfl
  simp only [f35, own36 z up ps d l p ev g h, Option.bind_some, f35_0, f35k0]
  by_cases k1 : kind = 1
  · simp only [k1, beq_self_eq_true, cond_true, in52, Option.bind_some, f35_1, f35_2, f35_3, f35_4, f35_5, f35_6, f35_7, f35k0, has53 ps n (by show _ ≤ _; omega), has53 d n (by show _ ≤ _; omega), hW, stepR, if_true, flat]
    by_cases c1 : 0 ≤ n ∧ n ≤ 999
    · simp only [c1, and_self, decide_true, Bool.not_true, cond_false, not_true_eq_false, if_false]
      cases e1 : ps.contains n <;> cases e2 : d.contains n <;> simp only [cond_true, cond_false, Bool.or_true, Bool.or_false, Bool.true_or, Bool.false_or, if_true, Bool.false_eq_true, if_false]
      by_cases c2 : ((ps.length + d.length : Nat) : Int) = z
      · simp [c2]
      · rw [beq_eq_false_iff_ne.2 c2, if_neg c2]
        simp only [cond_false, List.length_cons, List.length_nil]
        rw [if_pos (by omega)]
    · simp [c1, flat]
  · simp only [beq_eq_false_iff_ne.2 k1, cond_false, f35_8]
    by_cases k2 : kind = 2
    · simp only [k2, beq_self_eq_true, cond_true, in52, Option.bind_some, f35_9, f35_2, f35_10, f35_11, stepR, if_true, flat]
      by_cases c1 : 0 ≤ n ∧ n ≤ 100
      · obtain ⟨m, rfl⟩ := Int.eq_ofNat_of_zero_le c1.1
        simp only [c1, and_self, decide_true, Bool.not_true, cond_false, not_true_eq_false, if_false, Int.toNat_natCast]
        rw [loop35 m up _ _ _ _ _ _ _ _ _ _ _ _ ev _ (ps, d, l, p, g, []) (by omega) ⟨by simp only; omega, by simp⟩]
        simp
      · simp [c1, flat]
    · simp only [beq_eq_false_iff_ne.2 k2, cond_false, f35_12]
      by_cases k3 : kind = 3
      · simp only [k3, beq_self_eq_true, cond_true, f35_13, f35_2, stepR, if_true, flat]
        by_cases c1 : n ≤ 0
        · simp [c1, show n < 1 by omega, flat]
        · simp only [show decide (n < 1) = false by simp; omega, cond_false, f35_14, min_cut n d (by omega)]
          generalize hm' : min n.toNat d.length = m
          have hm : m ≤ d.length := by omega
          delta f35k0
          simp only [Int.toNat_natCast, Nat.zero_add, Int.toNat_zero, Nat.sub_zero, List.drop_zero, List.length_nil, List.nil_append, List.length_take, List.length_drop]
          rw [if_pos (by omega), if_pos (by omega), if_pos (by omega), if_pos (by omega)]
          have e1 : List.take (d.length - m) (List.drop m d) = d.drop m := List.take_of_length_le (by simp)
          simp [e1, c1, hm', show min m d.length = m by omega]
      · simp only [beq_eq_false_iff_ne.2 k3, cond_false, f35_15]
        by_cases k4 : kind = 4
        · simp only [k4, beq_self_eq_true, cond_true, f35_16, stepR, List.length_nil, List.nil_append, f35k0]
          rw [if_pos (by omega), if_pos (by omega)]
          simp [flat]
        · simp only [beq_eq_false_iff_ne.2 k4, cond_false, f35_17, f35_2]
          by_cases k5 : kind = 5
          · simp [k5, k1, k2, k3, k4, stepR, flat]
          · simp [k5, k1, k2, k3, k4, stepR, flat, beq_eq_false_iff_ne.2 k5]
theorem post50 (z : Int) (up : Bool) (ps d : List Int) (l p ev g n : Int) (h : ps.length + d.length ≤ 3000) :
    f50 z up ps d l p ev g n = some (if ¬ (0 ≤ n ∧ n ≤ 999) then (4, z, up, ps, d, l, p, ev, g) else if ps.contains n || d.contains n then (9, z, up, ps, d, l, p, ev, g) else if ((ps.length + d.length : Nat) : Int) = z then (7, z, up, ps, d, l, p, ev, g) else (0, z, up, ps ++ [n], d, l, p, ev, g)) := by
  have hW : IntKind.wrap IntKind.i64 ((ps.length : Int) + d.length) = ((ps.length + d.length : Nat) : Int) := by rw [W_id (by omega) (by omega)]; rfl
  simp only [f50, f50_0, f50_1, f50_2, f50_3, f50_4, f50_5, in37, Option.bind_some, has38 ps n (by show _ ≤ _; omega), has38 d n (by show _ ≤ _; omega), hW]
  by_cases c1 : 0 ≤ n ∧ n ≤ 999
  · simp only [c1, and_self, decide_true, Bool.not_true, cond_false, not_true_eq_false, if_false]
    cases e1 : ps.contains n <;> cases e2 : d.contains n <;> simp only [cond_true, cond_false, Bool.or_true, Bool.or_false, Bool.true_or, Bool.false_or, if_true, Bool.false_eq_true, if_false, Option.bind_some]
    by_cases c2 : ((ps.length + d.length : Nat) : Int) = z
    · simp [c2]
    · rw [beq_eq_false_iff_ne.2 c2, if_neg c2]
      simp only [cond_false, List.length_cons, List.length_nil]
      rw [if_pos (by omega)]
  · simp [c1]
theorem step33 (z : Int) (up : Bool) (ps d : List Int) (l p ev g kind n : Int) (h : ps.length + d.length ≤ 3000) : f33 z up ps d l p ev g kind n = some (flat (stepR (z, up, ps, d, l, p, ev, g) kind n)) := by
  simp only [f33, post50 z up ps d l p ev g n h, Option.bind_some, f33_0]
  by_cases k1 : kind = 1
  · simp only [k1, beq_self_eq_true, cond_true, stepR, if_true, flat]
    by_cases c1 : 0 ≤ n ∧ n ≤ 999
    · simp only [c1, and_self, not_true_eq_false, if_false]
      cases e1 : ps.contains n <;> cases e2 : d.contains n <;> simp only [Bool.or_true, Bool.or_false, if_true, Bool.false_eq_true, if_false]
      by_cases c2 : ((ps.length + d.length : Nat) : Int) = z
      · simp only [if_pos c2]
      · simp only [if_neg c2]
    · simp [c1]
  · simp only [beq_eq_false_iff_ne.2 k1, cond_false, f33_1]
    by_cases k2 : kind = 2
    · simp only [k2, beq_self_eq_true, cond_true, in37, Option.bind_some, f33_2, f33_3, f33_4, stepR, if_true, flat]
      by_cases c1 : 0 ≤ n ∧ n ≤ 100
      · obtain ⟨m, rfl⟩ := Int.eq_ofNat_of_zero_le c1.1
        simp only [c1, and_self, decide_true, Bool.not_true, cond_false, not_true_eq_false, if_false, Int.toNat_natCast]
        rw [loop33 m _ _ _ z up ev (ps, d, l, p, g, []) (by omega) ⟨by simp only; omega, by simp⟩]
        simp
      · simp [c1, flat]
    · simp only [beq_eq_false_iff_ne.2 k2, cond_false, f33_5]
      by_cases k3 : kind = 3
      · simp only [k3, beq_self_eq_true, cond_true, f33_6, stepR, if_true, flat]
        by_cases c1 : n ≤ 0
        · simp [c1, flat]
        · simp only [show decide (n ≤ 0) = false by simpa using c1, cond_false, f33_7, min_cut n d (by omega)]
          generalize hm' : min n.toNat d.length = m
          have hm : m ≤ d.length := by omega
          delta f33k0
          simp only [Int.toNat_natCast, Nat.zero_add, Int.toNat_zero, Nat.sub_zero, List.drop_zero, List.length_nil, List.nil_append, List.length_take, List.length_drop]
          rw [if_pos (by omega), if_pos (by omega), if_pos (by omega)]
          have e1 : List.take (d.length - m) (List.drop m d) = d.drop m := List.take_of_length_le (by simp)
          simp [e1, c1, hm', show min m d.length = m by omega]
      · simp only [beq_eq_false_iff_ne.2 k3, cond_false, f33_8]
        by_cases k4 : kind = 4
        · delta f33k0
          simp only [k4, beq_self_eq_true, cond_true, f33_9, stepR, List.length_nil, List.nil_append]
          rw [if_pos (by omega), if_pos (by omega)]
          simp [flat]
        · simp only [beq_eq_false_iff_ne.2 k4, cond_false, f33_10, f33_11, f33_12]
          by_cases k5 : kind = 5
          · simp [k5, k1, k2, k3, k4, stepR, flat]
          · simp [k5, k1, k2, k3, k4, stepR, flat, beq_eq_false_iff_ne.2 k5]
/-! ### Runs -/
theorem arrs_len (up : Bool) (ev : Int) (s : A) : ∀ n, (arrs up ev n s).1.length + (arrs up ev n s).2.1.length = s.1.length + s.2.1.length
  | 0 => rfl
  | n + 1 => by
    rw [← arrs_len up ev s n]
    simp only [arrs]
    obtain ⟨ps, d, l, p, g, o⟩ := arrs up ev n s
    unfold arr
    cases up with
    | false => rfl
    | true =>
      cases ps with
      | nil => rfl
      | cons m ps => simp only [List.length_cons, List.length_append, List.length_nil]; omega
/-- What is posted or done fits, and what an act tells is not long. -/
theorem step_ok (r : R) (kind n : Int) (h : (r.2.2.1.length + r.2.2.2.1.length : Nat) ≤ 16 ∧ r.1 ≤ 16 ∧ ((r.2.2.1.length + r.2.2.2.1.length : Nat) : Int) ≤ r.1) :
    ((stepR r kind n).1.2.2.1.length + (stepR r kind n).1.2.2.2.1.length : Nat) ≤ 16 ∧ (stepR r kind n).1.1 ≤ 16 ∧ (((stepR r kind n).1.2.2.1.length + (stepR r kind n).1.2.2.2.1.length : Nat) : Int) ≤ (stepR r kind n).1.1 ∧ (stepR r kind n).2.2.length ≤ 100 := by
  obtain ⟨z, up, ps, d, l, p, ev, g⟩ := r
  obtain ⟨h1, h2, h3⟩ := h
  simp only at h1 h2 h3
  simp only [stepR]
  by_cases k1 : kind = 1
  · simp only [k1, if_true]
    repeat' split
    all_goals simp only [List.length_nil, List.length_append, List.length_cons]
    all_goals omega
  · simp only [k1, if_false]
    by_cases k2 : kind = 2
    · simp only [k2, if_true]
      split
      · simp only [List.length_nil]; omega
      · have a1 := arrs_len up ev (ps, d, l, p, g, []) n.toNat
        have a2 := (arrs_ok (up := up) (ev := ev) (s := (ps, d, l, p, g, [])) (k := 0) ⟨by simp only; omega, by simp⟩ n.toNat).2
        simp only at a1
        refine ⟨?_, ?_, ?_, ?_⟩ <;> simp only <;> omega
    · simp only [k2, if_false]
      by_cases k3 : kind = 3
      · simp only [k3, if_true]
        split
        · simp only [List.length_nil]; omega
        · simp only [List.length_drop, List.length_take]; omega
      · simp only [k3, if_false]
        by_cases k4 : kind = 4
        · simp only [k4, if_true, List.length_nil, List.length_append]; omega
        · simp only [k4, if_false]
          split <;> simp only [List.length_nil] <;> omega
def runR (r : R) : List (Int × Int) → R × List Rep
  | [] => (r, [])
  | a :: l => ((runR (stepR r a.1 a.2).1 l).1, (stepR r a.1 a.2).2 :: (runR (stepR r a.1 a.2).1 l).2)
def Okk (r : R) : Prop := (r.2.2.1.length + r.2.2.2.1.length : Nat) ≤ 16 ∧ r.1 ≤ 16 ∧ ((r.2.2.1.length + r.2.2.2.1.length : Nat) : Int) ≤ r.1
theorem Okk.step {r : R} (h : Okk r) (k n : Int) : Okk (stepR r k n).1 := by
  obtain ⟨a, b, c, _⟩ := step_ok r k n h
  exact ⟨a, b, c⟩
end Go.Proofs.YteiigocdefjijaaAm.W
namespace Go.Proofs.YteiigocdefjijaaAm.W
set_option linter.unusedVariables false
set_option linter.unusedSimpArgs false
theorem runR_snoc (r : R) (l : List (Int × Int)) (a : Int × Int) : runR r (l ++ [a]) = ((stepR (runR r l).1 a.1 a.2).1, (runR r l).2 ++ [(stepR (runR r l).1 a.1 a.2).2]) := by
  induction l generalizing r with
  | nil => simp [runR]
  | cons b l ih => simp [runR, ih]
theorem runR_take (r : R) (l : List (Int × Int)) (i : Nat) (hi : i < l.length) : runR r (l.take (i + 1)) = ((stepR (runR r (l.take i)).1 l[i].1 l[i].2).1, (runR r (l.take i)).2 ++ [(stepR (runR r (l.take i)).1 l[i].1 l[i].2).2]) := by
  rw [List.take_succ_eq_append_getElem hi, runR_snoc]
theorem runR_len (r : R) (l : List (Int × Int)) : (runR r l).2.length = l.length := by
  induction l generalizing r with
  | nil => rfl
  | cons b l ih => simp [runR, ih]
theorem runR_ok {r : R} (h : Okk r) (l : List (Int × Int)) : Okk (runR r l).1 := by
  induction l generalizing r with
  | nil => exact h
  | cons b l ih => exact ih (h.step _ _)
theorem runR_reps {r : R} (h : Okk r) (l : List (Int × Int)) : ∀ x ∈ (runR r l).2, x.2.length ≤ 100 := by
  induction l generalizing r with
  | nil => intro x hx; simp [runR] at hx
  | cons b l ih =>
    intro x hx
    simp only [runR, List.mem_cons] at hx
    rcases hx with rfl | hx
    · exact (step_ok r b.1 b.2 h).2.2.2
    · exact ih (h.step _ _) x hx
def cat (x : R × List Rep) : Int × Bool × List Int × List Int × Int × Int × Int × Int × List Rep :=
  (x.1.1, x.1.2.1, x.1.2.2.1, x.1.2.2.2.1, x.1.2.2.2.2.1, x.1.2.2.2.2.2.1, x.1.2.2.2.2.2.2.1, x.1.2.2.2.2.2.2.2, x.2)
theorem loop9 (l : List (Int × Int)) (hl : l.length ≤ 300) (a : Int) (b : Bool) (c d : List Int) (e f g h : Int) (r : R) (hr : Okk r) :
    f9l0 l a b c d e f g h (0, r.1, r.2.1, r.2.2.1, r.2.2.2.1, r.2.2.2.2.1, r.2.2.2.2.2.1, r.2.2.2.2.2.2.1, r.2.2.2.2.2.2.2, []) = some (cat (runR r l)) := by
  have := @loopD_up _ _ (f9l0b l a b c d e f g h) _ (cat (runR r l)) (fun i : Nat => ((i : Int), cat (runR r (l.take i)))) l.length rfl (fun i hi => by
    have ho := runR_ok hr (l.take i)
    have hn := runR_len r (l.take i)
    rw [List.length_take] at hn
    have ht : 0 ≤ (i : Int) ∧ (i : Int) < (l.length : Int) := by omega
    generalize hx : runR r (l.take i) = x at ho hn
    obtain ⟨⟨z, up, ps, dd, ll, p, ev, gg⟩, o⟩ := x
    obtain ⟨h1, h2, h3⟩ := ho
    simp only at h1 h2 h3 hn
    simp only [f9l0b, f9l0bp, f9l0_0, f9l0_1, cat, show decide ((i : Int) < (l.length : Int)) = true by simpa using hi, cond_true, Int.toNat_natCast, Nat.zero_add, getD_lt hi]
    rw [if_pos ht, step35 _ _ _ _ _ _ _ _ _ _ (by omega), Option.bind_some, runR_take r l i hi, hx]
    simp only [flat, List.length_cons, List.length_nil, W_succ i (by omega)]
    rw [if_pos (by omega)]) (by simp [f9l0b, f9l0bp, cat])
  exact this
theorem set_rep {α : Type} (A : List α) (z v : α) (n : Nat) (h : A.length < n) : (A ++ List.replicate (n - A.length) z).set A.length v = A ++ [v] ++ List.replicate (n - (A.length + 1)) z := by
  rw [List.set_append_right _ _ (by omega), Nat.sub_self, show n - A.length = (n - (A.length + 1)) + 1 by omega, List.replicate_succ, List.set_cons_zero]
  simp
theorem loop8 (l : List (Int × Int)) (hl : l.length ≤ 300) (a : Int) (b : Bool) (c d : List Int) (e f g h : Int) (r : R) (hr : Okk r) :
    f8l0 (l.length : Int) l a b c d e f g h (0, r.1, r.2.1, r.2.2.1, r.2.2.2.1, r.2.2.2.2.1, r.2.2.2.2.2.1, r.2.2.2.2.2.2.1, r.2.2.2.2.2.2.2, List.replicate l.length (0, [])) = some (cat (runR r l)) := by
  have := @loopD_up _ _ (f8l0b (l.length : Int) l a b c d e f g h) _ (cat (runR r l)) (fun i : Nat => ((i : Int), cat ((runR r (l.take i)).1, (runR r (l.take i)).2 ++ List.replicate (l.length - i) (0, [])))) l.length rfl (fun i hi => by
    have ho := runR_ok hr (l.take i)
    have hn := runR_len r (l.take i)
    rw [List.length_take] at hn
    have ht : 0 ≤ (i : Int) ∧ (i : Int) < (l.length : Int) := by omega
    generalize hx : runR r (l.take i) = x at ho hn
    obtain ⟨⟨z, up, ps, dd, ll, p, ev, gg⟩, o⟩ := x
    obtain ⟨h1, h2, h3⟩ := ho
    simp only at h1 h2 h3 hn
    simp only [f8l0b, f8l0bp, f8l0_0, f8l0_1, cat, show decide ((i : Int) < (l.length : Int)) = true by simpa using hi, cond_true, Int.toNat_natCast, Nat.zero_add, getD_lt hi]
    have hol : o.length = i := by omega
    have hi2 : i < (o ++ List.replicate (l.length - i) (0, ([] : List Int))).length := by simp; omega
    rw [if_pos ht, step33 _ _ _ _ _ _ _ _ _ _ (by omega), Option.bind_some, runR_take r l i hi, hx]
    simp only [flat, W_succ i (by omega)]
    rw [if_pos (by simp; omega), List.set_set, getD_lt (by rw [List.length_set]; exact hi2), List.getElem_set_self]
    subst hol
    rw [set_rep _ _ _ _ hi]) (by simp [f8l0b, f8l0bp, cat])
  exact this
abbrev R0 : R := (0, false, [], [], 0, 0, 0, 0)
def theRun (size every : Int) (l : List (Int × Int)) : Int × R × List Rep :=
  if 4096 < l.length then (2, R0, [])
  else if ¬ ((1 ≤ size ∧ size ≤ 16) ∧ 1 ≤ every ∧ every ≤ 16) then (4, R0, [])
  else if 300 < l.length then (6, R0, [])
  else (0, runR (size, true, [], [], 0, 0, every, 0) l)
theorem new32 (a b : Int) : f32 a b = some (if ((1 ≤ a ∧ a ≤ 16) ∧ 1 ≤ b ∧ b ≤ 16) then (0, a, true, [], [], 0, 0, b, 0) else (4, 0, false, [], [], 0, 0, 0, 0)) := by
  simp only [f32, f32_0, f32_1, f32_2, f32_3, in37, Option.bind_some]
  by_cases h : 1 ≤ a ∧ a ≤ 16 <;> by_cases h' : 1 ≤ b ∧ b ≤ 16 <;> simp [h, h']
theorem new34 (a b : Int) : f34 a b = some (if ((1 ≤ a ∧ a ≤ 16) ∧ 1 ≤ b ∧ b ≤ 16) then (0, a, true, [], [], 0, 0, b, 0) else (4, 0, false, [], [], 0, 0, 0, 0)) := by
  simp only [f34, f34_0, f34_1, f34_2, f34_3, in52, Option.bind_some]
  by_cases h : 1 ≤ a ∧ a ≤ 16 <;> by_cases h' : 1 ≤ b ∧ b ≤ 16 <;> simp [h, h']
theorem start_ok {a b : Int} (h : (1 ≤ a ∧ a ≤ 16) ∧ 1 ≤ b ∧ b ≤ 16) : Okk (a, true, [], [], 0, 0, b, 0) := by
  simp only [Okk, List.length_nil]; omega
theorem run8 (a b : Int) (l : List (Int × Int)) : f8 a b l = some ((theRun a b l).1, cat (theRun a b l).2) := by
  simp only [f8, f8_0, f8_1, f8_2, f8_3, f8_4, new32, Option.bind_some, theRun]
  by_cases h1 : 4096 < l.length
  · simp only [h1, if_true, show decide ((l.length : Int) > 4096) = true by simp; omega, cond_true]
    rfl
  · simp only [h1, if_false, show decide ((l.length : Int) > 4096) = false by simp; omega, cond_false]
    by_cases h2 : (1 ≤ a ∧ a ≤ 16) ∧ 1 ≤ b ∧ b ≤ 16
    · simp only [h2, and_self, not_true_eq_false, if_true, if_false, bne_self_eq_false, cond_false]
      by_cases h3 : 300 < l.length
      · simp only [h3, if_true, show decide ((l.length : Int) > 300) = true by simp; omega, cond_true]
        rfl
      · simp only [h3, if_false, show decide ((l.length : Int) > 300) = false by simp; omega, cond_false, Int.toNat_natCast]
        rw [if_pos (by omega), loop8 l (by omega) 0 false [] [] 0 0 0 0 (a, true, [], [], 0, 0, b, 0) (start_ok h2), Option.bind_some]
    · simp [h2, cat]
theorem run9 (a b : Int) (l : List (Int × Int)) : f9 a b l = some ((theRun a b l).1, cat (theRun a b l).2) := by
  simp only [f9, f9_0, f9_1, f9_2, f9_3, f9_4, f9_5, f9k0, new34, Option.bind_some, theRun]
  by_cases h1 : 4096 < l.length
  · simp only [h1, if_true, show decide ((l.length : Int) > 4096) = true by simp; omega, cond_true]
    rfl
  · simp only [h1, if_false, show decide ((l.length : Int) > 4096) = false by simp; omega, cond_false]
    by_cases h2 : (1 ≤ a ∧ a ≤ 16) ∧ 1 ≤ b ∧ b ≤ 16
    · simp only [h2, and_self, not_true_eq_false, if_true, if_false, bne_self_eq_false, cond_false]
      by_cases h3 : 300 < l.length
      · simp only [h3, if_true, show decide ((l.length : Int) > 300) = true by simp; omega, cond_true]
        rfl
      · simp only [h3, if_false, show decide ((l.length : Int) > 300) = false by simp; omega, cond_false, Int.toNat_natCast]
        rw [loop9 l (by omega) 0 false [] [] 0 0 0 0 (a, true, [], [], 0, 0, b, 0) (start_ok h2), Option.bind_some]
        have hk := runR_ok (start_ok h2) l
        simp only [cat]
        rw [own36 _ _ _ _ _ _ _ _ (by have := hk.1; omega), Option.bind_some]
    · simp [h2, cat]
end Go.Proofs.YteiigocdefjijaaAm.W
namespace Go.Proofs.YteiigocdefjijaaAm.W
set_option linter.unusedVariables false
set_option linter.unusedSimpArgs false
theorem szR_bound (l : List Rep) (h : ∀ x ∈ l, x.2.length ≤ 100) : szL szR l ≤ 101 * l.length := by
  induction l with
  | nil => simp [szL]
  | cons a l ih =>
    have h1 := h a (by simp)
    have h2 := ih (fun x hx => h x (by simp [hx]))
    simp only [szL, szR, List.length_cons] at h2 ⊢
    omega
theorem szR_nonneg (l : List Rep) : 0 ≤ szL szR l := by
  induction l with
  | nil => simp [szL]
  | cons a l ih => simp only [szL, szR] at ih ⊢; omega
theorem theRun_ok (a b : Int) (l : List (Int × Int)) : ((theRun a b l).2.1.2.2.1.length + (theRun a b l).2.1.2.2.2.1.length : Nat) ≤ 16 ∧ (theRun a b l).2.2.length ≤ 300 ∧ ∀ x ∈ (theRun a b l).2.2, x.2.length ≤ 100 := by
  unfold theRun
  split
  · simp
  · split
    · simp
    · split
      · simp
      · rename_i _ h _
        have h := Classical.not_not.1 h
        refine ⟨(runR_ok (start_ok h) l).1, ?_, runR_reps (start_ok h) l⟩
        simp only [runR_len]
        omega
theorem ring_true (a b : Int) (l : List (Int × Int)) (hl : (l.length : Int) ≤ 9223372036854775807) : f5 a b l = some true := by
  simp only [f5, f23, f23_0, f5_0, W_id (n := 1048576 - (l.length : Int)) (by omega) (by omega)]
  by_cases hd : 1048576 - (l.length : Int) < 0
  · simp [hd]
  · have hs : small l.length := by show _ ≤ _; omega
    have hl2 : (l.length : Int) ≤ 1048576 := by omega
    obtain ⟨hk, hn, hr⟩ := theRun_ok a b l
    have r8 := run8 a b l
    have r9 := run9 a b l
    simp only [hd, decide_false, cond_false, Option.bind_some, f5_1, to24 l hs, f5_2, r9]
    generalize theRun a b l = x at hk hn hr r8
    obtain ⟨c, ⟨z, up, ps, d, ll, p, ev, g⟩, o⟩ := x
    simp only at hk hn hr
    simp only [cat] at r8 ⊢
    have h1 : small ps.length := by show _ ≤ _; omega
    have h2 : small d.length := by show _ ≤ _; omega
    have h3 : small o.length := by show _ ≤ _; omega
    have h4 : ∀ x ∈ o, small x.2.length := fun x hx => by have := hr x hx; show _ ≤ _; omega
    have h5 := szR_bound o hr
    have h6 := szR_nonneg o
    simp only [f5_3, to24 l hs, f5_4, Option.bind_some, r8, f5_5, eq17 _ _ _ _ _ _ _ _ h1 h2, f5_6, Bool.not_true, cond_false, eq25 o h3 h4, f5_35, bne_self_eq_false, f5_7, f5_8, f5_9, eq26 l hs, f5_10, f5_11, mark27 l 1 (by omega) hs (by omega), f5_12,
      show decide ((1 : Int) + 2 * (l.length : Int) < 0) = false by simp; omega, f5_33, f5_34, f5_13, f5_14, mark19 z up ps d ll p ev g 1 (by omega) (by omega), f5_15, mark28 o (1 + ps.length + d.length) (by omega) h3 (by omega), f5_16, held21 z up ps d ll p ev g 1 (by omega) (by omega), f5_17,
      show decide ((1 : Int) + (ps.length : Int) + d.length < 0) = false by simp; omega, f5_18, held29 o (1 + ps.length + d.length) (by omega) h3 (by omega), f5_19, show decide ((1 : Int) + (ps.length : Int) + d.length + szL szR o < 0) = false by simp; omega, f5_20, f5_21, f5_22, f5_23, f5_24, f5_32, f5_25, f5_26, f5_27, f5_28, f5_29, f5_30, f5_31]
theorem law_FnExactRingRun (x0 x1 : Interp (.int .i64)) (x2 : Interp (.sl (.pair (.int .i64) (.int .i64)))) (_ : Wf (.int .i64) x0) (_ : Wf (.int .i64) x1) (h : Wf (.sl (.pair (.int .i64) (.int .i64))) x2) : f5 x0 x1 x2 = some true :=
  ring_true x0 x1 x2 (by have := h.1; unfold maxLen at this; omega)
end Go.Proofs.YteiigocdefjijaaAm.W
