/- Plain laws over what the functions come to. -/
import Derived.Test.YtnceiegngfpmkaaF8x2
namespace Go.Proofs.YtnceiegngfpmkaaAm.W
set_option linter.unusedVariables false
set_option linter.unusedSimpArgs false
set_option maxHeartbeats 0
theorem W_succ (i : Nat) (h : i < 4611686018427387904) : IntKind.wrap IntKind.i64 ((i : Int) + 1) = ((i + 1 : Nat) : Int) := by
  rw [W_id (by omega) (by omega)]; rfl
def small (n : Nat) : Prop := n ≤ 1048576
theorem in37 (n lo hi : Int) : f37 n lo hi = some (decide (lo ≤ n ∧ n ≤ hi)) := by
  unfold f37
  by_cases h : lo ≤ n <;> simp [h]
theorem in35 (n lo hi : Int) : f35 n lo hi = some (decide (lo ≤ n ∧ n ≤ hi)) := by
  unfold f35
  by_cases h : lo ≤ n <;> simp [h]
def bitv (fl m : Int) : Bool := IntKind.wrap IntKind.i64 (↑(BitVec.toNat (BitVec.ofInt (IntKind.bits IntKind.i64) fl &&& BitVec.ofInt (IntKind.bits IntKind.i64) m)) : Int) != 0
theorem bit_fold (fl m : Int) : (IntKind.wrap IntKind.i64 (↑(BitVec.toNat (BitVec.ofInt (IntKind.bits IntKind.i64) fl &&& BitVec.ofInt (IntKind.bits IntKind.i64) m)) : Int) != 0) = bitv fl m := rfl
theorem has57 (m fl : Int) : f57 m fl = some (bitv fl m, fl) := rfl
def sentL (s : Int) : List Int := if s = 0 then [] else [s]
theorem state_cases {st : Int} (h : 0 ≤ st ∧ st ≤ 10) : st = 0 ∨ st = 1 ∨ st = 2 ∨ st = 3 ∨ st = 4 ∨ st = 5 ∨ st = 6 ∨ st = 7 ∨ st = 8 ∨ st = 9 ∨ st = 10 := by omega
theorem seg_eq (st fl : Int) (h : 0 ≤ st ∧ st ≤ 10) : ∃ x, f50 st fl = some x ∧ f39_1 st 5 fl = some (x.1, 0, sentL x.2) ∧ 0 ≤ x.1 ∧ x.1 ≤ 10 := by
  rcases state_cases h with rfl | rfl | rfl | rfl | rfl | rfl | rfl | rfl | rfl | rfl | rfl <;>
  simp only [f39_1, f39_4, f39_6, f53, f53_0, f54, f54_0, bit_fold] <;>
  cases h8 : bitv fl 8 <;> (try (simp [f50, f50_0, f50_1, f50_2, has57, f39_2, f39_3, f39k0, h8, sentL]; done)) <;>
  cases h1 : bitv fl 1 <;> cases h2 : bitv fl 2 <;> cases h4 : bitv fl 4 <;> cases h16 : bitv fl 16 <;>
  simp [f50, f50_0, f50_3, f50_4, f50_5, f50_6, f50_7, f50_8, f50_9, f50_10, f50_11, f50_12, f50_13, f50_14, f50_15, f50_16, f50_17, f50_18, f50_19, f50_20, f50_21, f50_22, f50_23, f50_24, f50_25, f50_26, f39_5, f39_7, f58, f58_0, f58_1, f58_2, f58_3, f58_4, f58_5, f58_6, f58_7, f58_8, f58_9, f58_10, f58_11, f58_12, has57, f39_1, f39_4, f39_5, f39_6, f39_7, f53, f53_0, f53_1, f53_2, f53_3, f53_4, f53_5, f53_6, f53k0, f53k1, f53k2, f53k3, f54, f54_0, f54_1, f54_2, f54_3, f54_4, f54_5, f54_6, f54_7, f54_8, f54_9, f54_10, f54_11, f54_12, f54_13, f54_14, f54_15, f54_16, f54_17, f54k0, f54k1, f54k2, bit_fold, h8, h1, h2, h4, h16, sentL]
theorem call_eq (st k : Int) (h : 0 ≤ st ∧ st ≤ 10) : ∃ x, f38_1 st k 0 = some x ∧ f52 st k = some (x.1, x.2.2, sentL x.2.1) ∧ 0 ≤ x.1 ∧ x.1 ≤ 10 ∧ (x.2.2 ≠ 0 → x.1 = st ∧ x.2.1 = 0) := by
  by_cases k1 : k = 1
  · subst k1
    rcases state_cases h with rfl | rfl | rfl | rfl | rfl | rfl | rfl | rfl | rfl | rfl | rfl <;> simp [f38_1, f38_2, f38_3, f38_4, f51, f51_0, f51_1, f51_2, f51_3, f51_4, f51_5, f51_6, f52, f52_0, f52_1, f52_2, f52_3, f52_4, f52_5, f52_6, f52_7, f52k0, f52k1, f52k2, sentL]
  by_cases k2 : k = 2
  · subst k2
    rcases state_cases h with rfl | rfl | rfl | rfl | rfl | rfl | rfl | rfl | rfl | rfl | rfl <;> simp [f38_1, f38_2, f38_3, f38_4, f51, f51_0, f51_1, f51_2, f51_3, f51_4, f51_5, f51_6, f52, f52_0, f52_1, f52_2, f52_3, f52_4, f52_5, f52_6, f52_7, f52k0, f52k1, f52k2, sentL]
  by_cases k3 : k = 3
  · subst k3
    rcases state_cases h with rfl | rfl | rfl | rfl | rfl | rfl | rfl | rfl | rfl | rfl | rfl <;> simp [f38_1, f38_2, f38_3, f38_4, f51, f51_0, f51_1, f51_2, f51_3, f51_4, f51_5, f51_6, f52, f52_0, f52_1, f52_2, f52_3, f52_4, f52_5, f52_6, f52_7, f52k0, f52k1, f52k2, sentL]
  by_cases k4 : k = 4
  · subst k4
    rcases state_cases h with rfl | rfl | rfl | rfl | rfl | rfl | rfl | rfl | rfl | rfl | rfl <;> simp [f38_1, f38_2, f38_3, f38_4, f51, f51_0, f51_1, f51_2, f51_3, f51_4, f51_5, f51_6, f52, f52_0, f52_1, f52_2, f52_3, f52_4, f52_5, f52_6, f52_7, f52k0, f52k1, f52k2, sentL]
  · rcases state_cases h with rfl | rfl | rfl | rfl | rfl | rfl | rfl | rfl | rfl | rfl | rfl <;> simp [beq_eq_false_iff_ne.2 k1, beq_eq_false_iff_ne.2 k2, beq_eq_false_iff_ne.2 k3, beq_eq_false_iff_ne.2 k4, f38_1, f38_2, f38_3, f38_4, f51, f51_0, f51_1, f51_2, f51_3, f51_4, f51_5, f51_6, f52, f52_0, f52_1, f52_2, f52_3, f52_4, f52_5, f52_6, f52_7, f52k0, f52k1, f52k2, sentL]
theorem adv_eq (st k fl : Int) (h : 0 ≤ st ∧ st ≤ 10) (hk : k = 5 ∨ fl = 0) : ∃ x, f38 st k fl = some x ∧ f39 st k fl = some (x.1, x.2.2, sentL x.2.1) ∧ (0 ≤ x.1 ∧ x.1 ≤ 10) ∧ (x.2.2 ≠ 0 → x.1 = st ∧ x.2.1 = 0) ∧ (k = 5 → x.2.2 = 0) := by
  by_cases k5 : k = 5
  · subst k5
    obtain ⟨x, h1, h2, h3, h4⟩ := seg_eq st fl h
    refine ⟨(x.1, x.2, 0), ?_, ?_, ⟨h3, h4⟩, by simp, fun _ => rfl⟩
    · simp only [f38, beq_self_eq_true, cond_true, h1, Option.bind_some, f38_0]
    · simp only [f39, bne_self_eq_false, cond_false, h2]
  · have hf : fl = 0 := hk.resolve_left k5
    subst hf
    obtain ⟨x, h1, h2, h3, h4, h5⟩ := call_eq st k h
    refine ⟨x, ?_, ?_, ⟨h3, h4⟩, h5, fun h => absurd h k5⟩
    · simp only [f38, beq_eq_false_iff_ne.2 k5, cond_false, h1]
    · simp only [f39, bne, beq_eq_false_iff_ne.2 k5, Bool.not_false, cond_true, h2, Option.bind_some, f39_0]
end Go.Proofs.YtnceiegngfpmkaaAm.W
namespace Go.Proofs.YtnceiegngfpmkaaAm.W
set_option linter.unusedVariables false
set_option linter.unusedSimpArgs false
set_option maxHeartbeats 0
abbrev Q := Int × Int × List Int × List Int × Int
def more (r : Int) : Int := if 1000 < IntKind.wrap IntKind.i64 (r + 1) then 1000 else IntKind.wrap IntKind.i64 (r + 1)
theorem more_min (r : Int) : (if IntKind.wrap IntKind.i64 (r + 1) < 1000 then IntKind.wrap IntKind.i64 (r + 1) else 1000) = more r := by
  unfold more; split <;> split <;> omega
/-- What one side does: its state, what comes to it, what goes out, the resets; by x = (next, sent, code). -/
def side (st : Int) (inn out : List Int) (r k : Int) (x : Int × Int × Int) : Int × Int × List Int × List Int × Int :=
  if x.2.2 ≠ 0 then (x.2.2, st, inn, out, r)
  else if x.2.1 ≠ 0 ∧ out.length = 200 then (7, st, inn, out, r)
  else (0, x.1, if k = 5 then inn.tail else inn, out ++ sentL x.2.1, if x.2.1 = 8 then more r else r)
def actQ (adv : Int → Int → Int → Int × Int × Int) (q : Q) (s k : Int) : Int × Q :=
  match q with
  | (a, b, ta, tb, r) =>
    if ¬ ((s = 0 ∨ s = 1) ∧ 1 ≤ k ∧ k ≤ 5) then (3, q)
    else if s = 1 then
      if k = 5 ∧ tb = [] then (5, q)
      else
        let y := side b tb ta r k (adv b k (if k = 5 then tb.headD 0 else 0))
        (y.1, a, y.2.1, y.2.2.2.1, y.2.2.1, y.2.2.2.2)
    else
      if k = 5 ∧ ta = [] then (5, q)
      else
        let y := side a ta tb r k (adv a k (if k = 5 then ta.headD 0 else 0))
        (y.1, y.2.1, b, y.2.2.1, y.2.2.2.1, y.2.2.2.2)
noncomputable def adv (st k fl : Int) : Int × Int × Int := (f38 st k fl).getD (0, 0, 0)
theorem adv_spec (st k fl : Int) (h : 0 ≤ st ∧ st ≤ 10) (hk : k = 5 ∨ fl = 0) : f38 st k fl = some (adv st k fl) ∧ f39 st k fl = some ((adv st k fl).1, (adv st k fl).2.2, sentL (adv st k fl).2.1) ∧ (0 ≤ (adv st k fl).1 ∧ (adv st k fl).1 ≤ 10) ∧ ((adv st k fl).2.2 ≠ 0 → (adv st k fl).1 = st ∧ (adv st k fl).2.1 = 0) ∧ (k = 5 → (adv st k fl).2.2 = 0) := by
  obtain ⟨x, h1, h2, h3⟩ := adv_eq st k fl h hk
  have e : adv st k fl = x := by unfold adv; rw [h1]; rfl
  rw [e]
  exact ⟨h1, h2, h3⟩
def Qok (q : Q) : Prop := (0 ≤ q.1 ∧ q.1 ≤ 10) ∧ (0 ≤ q.2.1 ∧ q.2.1 ≤ 10) ∧ q.2.2.1.length ≤ 200 ∧ q.2.2.2.1.length ≤ 200
def fl6 (x : Int × Q) : Int × Int × Int × List Int × List Int × Int := (x.1, x.2.1, x.2.2.1, x.2.2.2.1, x.2.2.2.2.1, x.2.2.2.2.2)
theorem act40 (a b : Int) (ta tb : List Int) (r s k : Int) (h : Qok (a, b, ta, tb, r)) : f40 a b ta tb r s k = some (fl6 (actQ adv (a, b, ta, tb, r) s k)) := by
  obtain ⟨ha, hb, h1, h2⟩ := h
  simp only at ha hb h1 h2
  have main1 : 1 ≤ k → k ≤ 5 → f40_1 a b ta tb r 1 k = some (fl6 (actQ adv (a, b, ta, tb, r) 1 k)) := by
    intro k1 k2
    simp only [f40_1, beq_self_eq_true, cond_true, f40_2]
    simp only [actQ, or_true, k1, k2, and_self, not_true_eq_false, if_false, if_true]
    by_cases k5 : k = 5
    · subst k5
      cases tb with
      | nil => simp [f40_3, fl6]
      | cons m tb =>
        obtain ⟨e1, _, _, _, e5⟩ := adv_spec b 5 m hb (.inl rfl)
        simp only [List.length_cons] at h2
        simp only [beq_self_eq_true, cond_true, List.length_cons, f40_3, f40_4, List.getD_cons_zero, e1, Option.bind_some, f40_5, f40_6, f40_7, f40_8, f40_9, f40_10, f40_12, f40_13, f40_15, f40_16, e5 rfl, bne_self_eq_false, cond_false, List.drop_succ_cons, List.drop_zero, List.headD_cons, if_true, reduceCtorEq, and_false, if_false, side, ne_eq, not_true_eq_false, List.tail_cons, Int.toNat_natCast, List.length_nil]
        rw [show (((tb.length + 1 : Nat) : Int) == 0) = false by simp; omega]
        have e2 : List.take (tb.length + 1 - Int.toNat 1) tb = tb := List.take_of_length_le (by simp)
        simp only [cond_false, e2]
        rw [if_pos (by omega)]
        generalize adv b 5 m = x
        obtain ⟨n, t, c⟩ := x
        by_cases t0 : t = 0
        · subst t0
          simp [fl6, sentL]
          omega
        · have t0' : (t != 0) = true := by simpa using t0
          by_cases l2 : ta.length = 200
          · have l2' : (((ta.length : Nat) : Int) == 200) = true := by simp [l2]
            simp [t0, t0', l2, l2', fl6, sentL]
          · have l2' : (((ta.length : Nat) : Int) == 200) = false := beq_eq_false_iff_ne.2 (by omega)
            have g : (ta.length + (0 + 1)) * 8 ≤ 140737488355328 ∧ ta.length + (0 + 1) ≤ 9223372036854775807 := by omega
            by_cases t8 : t = 8
            · subst t8
              simp only [t0', cond_true, l2', cond_false, beq_self_eq_true, if_pos g]
              simp [l2, fl6, sentL, more] <;> omega
            · have t8' : (t == 8) = false := beq_eq_false_iff_ne.2 t8
              simp only [t0', cond_true, l2', cond_false, t8', if_pos g]
              simp [t0, l2, t8, fl6, sentL] <;> omega
    · obtain ⟨e1, _, _, e4, _⟩ := adv_spec b k 0 hb (.inr rfl)
      simp only [beq_eq_false_iff_ne.2 k5, cond_false, f40_18, e1, Option.bind_some, f40_19, k5, false_and, if_false, side]
      generalize adv b k 0 = x at e4
      obtain ⟨n, t, c⟩ := x
      simp only at e4
      by_cases c0 : c = 0
      · subst c0
        simp only [bne_self_eq_false, cond_false, f40_6, f40_7, f40_8, f40_9, f40_11, f40_12, f40_14, f40_15, f40_17, beq_eq_false_iff_ne.2 k5, ne_eq, not_true_eq_false, if_false, List.length_cons, List.length_nil]
        by_cases t0 : t = 0
        · subst t0
          simp [fl6, sentL]
        · have t0' : (t != 0) = true := by simpa using t0
          by_cases l2 : ta.length = 200
          · have l2' : (((ta.length : Nat) : Int) == 200) = true := by simp [l2]
            simp [t0, t0', l2, l2', fl6, sentL]
          · have l2' : (((ta.length : Nat) : Int) == 200) = false := beq_eq_false_iff_ne.2 (by omega)
            have g : (ta.length + (0 + 1)) * 8 ≤ 140737488355328 ∧ ta.length + (0 + 1) ≤ 9223372036854775807 := by omega
            by_cases t8 : t = 8
            · subst t8
              simp only [t0', cond_true, l2', cond_false, beq_self_eq_true, if_pos g]
              simp [l2, fl6, sentL, more] <;> omega
            · have t8' : (t == 8) = false := beq_eq_false_iff_ne.2 t8
              simp only [t0', cond_true, l2', cond_false, t8', if_pos g]
              simp [t0, l2, t8, fl6, sentL] <;> omega
      · simp [bne, beq_eq_false_iff_ne.2 c0, c0, fl6]
  have main0 : 1 ≤ k → k ≤ 5 → f40_1 a b ta tb r 0 k = some (fl6 (actQ adv (a, b, ta, tb, r) 0 k)) := by
    intro k1 k2
    simp only [f40_1, show ((0 : Int) == 1) = false from rfl, cond_false, f40_20]
    simp only [actQ, true_or, k1, k2, and_self, not_true_eq_false, if_false, if_true, show ¬ ((0 : Int) = 1) by decide]
    by_cases k5 : k = 5
    · subst k5
      cases ta with
      | nil => simp [f40_21, fl6]
      | cons m ta =>
        obtain ⟨e1, _, _, _, e5⟩ := adv_spec a 5 m ha (.inl rfl)
        simp only [List.length_cons] at h1
        simp only [beq_self_eq_true, cond_true, List.length_cons, f40_21, f40_22, List.getD_cons_zero, e1, Option.bind_some, f40_23, f40_24, f40_25, f40_26, f40_27, f40_28, f40_30, f40_31, f40_33, f40_34, e5 rfl, bne_self_eq_false, cond_false, List.drop_succ_cons, List.drop_zero, List.headD_cons, if_true, reduceCtorEq, and_false, if_false, side, ne_eq, not_true_eq_false, List.tail_cons, Int.toNat_natCast, List.length_nil]
        rw [show (((ta.length + 1 : Nat) : Int) == 0) = false by simp; omega]
        have e2 : List.take (ta.length + 1 - Int.toNat 1) ta = ta := List.take_of_length_le (by simp)
        simp only [cond_false, e2]
        rw [if_pos (by omega)]
        generalize adv a 5 m = x
        obtain ⟨n, t, c⟩ := x
        by_cases t0 : t = 0
        · subst t0
          simp [fl6, sentL]
          omega
        · have t0' : (t != 0) = true := by simpa using t0
          by_cases l2 : tb.length = 200
          · have l2' : (((tb.length : Nat) : Int) == 200) = true := by simp [l2]
            simp [t0, t0', l2, l2', fl6, sentL]
          · have l2' : (((tb.length : Nat) : Int) == 200) = false := beq_eq_false_iff_ne.2 (by omega)
            have g : (tb.length + (0 + 1)) * 8 ≤ 140737488355328 ∧ tb.length + (0 + 1) ≤ 9223372036854775807 := by omega
            by_cases t8 : t = 8
            · subst t8
              simp only [t0', cond_true, l2', cond_false, beq_self_eq_true, if_pos g]
              simp [l2, fl6, sentL, more] <;> omega
            · have t8' : (t == 8) = false := beq_eq_false_iff_ne.2 t8
              simp only [t0', cond_true, l2', cond_false, t8', if_pos g]
              simp [t0, l2, t8, fl6, sentL] <;> omega
    · obtain ⟨e1, _, _, e4, _⟩ := adv_spec a k 0 ha (.inr rfl)
      simp only [beq_eq_false_iff_ne.2 k5, cond_false, f40_36, e1, Option.bind_some, f40_37, k5, false_and, if_false, side]
      generalize adv a k 0 = x at e4
      obtain ⟨n, t, c⟩ := x
      simp only at e4
      by_cases c0 : c = 0
      · subst c0
        simp only [bne_self_eq_false, cond_false, f40_24, f40_25, f40_26, f40_27, f40_29, f40_30, f40_32, f40_33, f40_35, beq_eq_false_iff_ne.2 k5, ne_eq, not_true_eq_false, if_false, List.length_cons, List.length_nil]
        by_cases t0 : t = 0
        · subst t0
          simp [fl6, sentL]
        · have t0' : (t != 0) = true := by simpa using t0
          by_cases l2 : tb.length = 200
          · have l2' : (((tb.length : Nat) : Int) == 200) = true := by simp [l2]
            simp [t0, t0', l2, l2', fl6, sentL]
          · have l2' : (((tb.length : Nat) : Int) == 200) = false := beq_eq_false_iff_ne.2 (by omega)
            have g : (tb.length + (0 + 1)) * 8 ≤ 140737488355328 ∧ tb.length + (0 + 1) ≤ 9223372036854775807 := by omega
            by_cases t8 : t = 8
            · subst t8
              simp only [t0', cond_true, l2', cond_false, beq_self_eq_true, if_pos g]
              simp [l2, fl6, sentL, more] <;> omega
            · have t8' : (t == 8) = false := beq_eq_false_iff_ne.2 t8
              simp only [t0', cond_true, l2', cond_false, t8', if_pos g]
              simp [t0, l2, t8, fl6, sentL] <;> omega
      · simp [bne, beq_eq_false_iff_ne.2 c0, c0, fl6]
  have bad : ¬ ((s = 0 ∨ s = 1) ∧ 1 ≤ k ∧ k ≤ 5) → some (3, a, b, ta, tb, r) = some (fl6 (actQ adv (a, b, ta, tb, r) s k)) := by
    intro hn
    simp only [actQ, hn, not_false_eq_true, if_true, fl6]
  simp only [f40, in37, Option.bind_some, f40_38, f40_39, f40_0]
  by_cases s0 : s = 0
  · subst s0
    by_cases hk : 1 ≤ k ∧ k ≤ 5
    · simp only [bne_self_eq_false, cond_false, hk, and_self, decide_true, Bool.not_true, main0 hk.1 hk.2]
    · simp only [bne_self_eq_false, cond_false, hk, decide_false, Bool.not_false, cond_true]
      exact bad (by simpa using hk)
  · by_cases s1 : s = 1
    · subst s1
      by_cases hk : 1 ≤ k ∧ k ≤ 5
      · simp [hk, main1 hk.1 hk.2]
      · simp only [show ((1 : Int) != 0) = true from rfl, cond_true, bne_self_eq_false, cond_false, hk, decide_false, Bool.not_false]
        exact bad (by simpa using hk)
    · simp only [bne, beq_eq_false_iff_ne.2 s0, beq_eq_false_iff_ne.2 s1, Bool.not_false, cond_true]
      exact bad (by simp [s0, s1])
end Go.Proofs.YtnceiegngfpmkaaAm.W
namespace Go.Proofs.YtnceiegngfpmkaaAm.W
set_option linter.unusedVariables false
set_option linter.unusedSimpArgs false
set_option maxHeartbeats 0
def bump (t r : Int) : Int := if t = 8 then more r else r
theorem sent_loop {f : Int × Int → Option ((Int × Int) ⊕ Int)} (t r : Int)
    (hs : t ≠ 0 → f (0, r) = some (.inl (1, bump t r)))
    (he : ∀ x, f (((sentL t).length : Int), x) = some (.inr x)) : loopD f (0, r) = some (bump t r) := by
  by_cases t0 : t = 0
  · subst t0
    refine loopD_up (fun i => ((i : Int), r)) 0 rfl (fun i hi => absurd hi (by omega)) ?_
    exact he r
  · refine loopD_up (fun i => ((i : Int), if i = 0 then r else bump t r)) 1 rfl (fun i hi => ?_) ?_
    · have : i = 0 := by omega
      subst this
      simpa using hs t0
    · have := he (bump t r)
      simpa [sentL, t0] using this
theorem sent_loop0 (t r : Int) (y0 y1 y2 y3 : Int) (y4 y5 : List Int) (y6 y7 y8 y9 y10 : Int) (y11 y12 : List Int) (y13 y14 y15 : Int) (y16 y17 y18 : List Int) :
    f41l0 y0 y1 y2 y3 y4 y5 y6 y7 y8 y9 y10 y11 y12 y13 y14 y15 y16 y17 y18 (sentL t) (0, r) = some (bump t r) := by
  unfold f41l0
  refine sent_loop t r (fun t0 => ?_) (fun x => ?_)
  · have e : sentL t = [t] := by simp [sentL, t0]
    simp only [e, f41l0b, f41l0bp, f41l0_0, f41l0_1, f41l0_2, List.length_cons, List.length_nil]
    by_cases t8 : t = 8
    · subst t8; simp [bump, more_min]; rfl
    · simp [bump, t8, beq_eq_false_iff_ne.2 t8]; rfl
  · simp [f41l0b, f41l0bp]
theorem sent_loop1 (t r : Int) (y0 y1 y2 y3 : Int) (y4 y5 : List Int) (y6 y7 y8 y9 y10 : Int) (y11 y12 : List Int) (y13 y14 y15 : Int) (y16 y17 : List Int) :
    f41l1 y0 y1 y2 y3 y4 y5 y6 y7 y8 y9 y10 y11 y12 y13 y14 y15 y16 y17 (sentL t) (0, r) = some (bump t r) := by
  unfold f41l1
  refine sent_loop t r (fun t0 => ?_) (fun x => ?_)
  · have e : sentL t = [t] := by simp [sentL, t0]
    simp only [e, f41l1b, f41l1bp, f41l1_0, f41l1_1, f41l1_2, List.length_cons, List.length_nil]
    by_cases t8 : t = 8
    · subst t8; simp [bump, more_min]; rfl
    · simp [bump, t8, beq_eq_false_iff_ne.2 t8]; rfl
  · simp [f41l1b, f41l1bp]
theorem sent_loop2 (t r : Int) (y0 y1 y2 y3 : Int) (y4 y5 : List Int) (y6 y7 y8 y9 y10 : Int) (y11 y12 : List Int) (y13 y14 y15 : Int) (y16 y17 : List Int) :
    f41l2 y0 y1 y2 y3 y4 y5 y6 y7 y8 y9 y10 y11 y12 y13 y14 y15 y16 y17 (sentL t) (0, r) = some (bump t r) := by
  unfold f41l2
  refine sent_loop t r (fun t0 => ?_) (fun x => ?_)
  · have e : sentL t = [t] := by simp [sentL, t0]
    simp only [e, f41l2b, f41l2bp, f41l2_0, f41l2_1, f41l2_2, List.length_cons, List.length_nil]
    by_cases t8 : t = 8
    · subst t8; simp [bump, more_min]; rfl
    · simp [bump, t8, beq_eq_false_iff_ne.2 t8]; rfl
  · simp [f41l2b, f41l2bp]
theorem own42 (a b : Int) (ta tb : List Int) (r : Int) (h1 : ta.length ≤ 3000) (h2 : tb.length ≤ 3000) : f42 a b ta tb r = some (a, b, ta, tb, r) := by
  simp only [f42]
  delta f42k0
  rw [if_pos (by simp only [List.length_nil]; omega), if_pos (by simp only [List.length_nil]; omega)]
  rfl
theorem sentL_len (t : Int) : (sentL t).length ≤ 1 := by unfold sentL; split <;> simp
theorem sentL_pos {t : Int} (h : t ≠ 0) : (sentL t).length = 1 := by simp [sentL, h]
theorem act41 (a b : Int) (ta tb : List Int) (r s k : Int) (h : Qok (a, b, ta, tb, r)) : f41 a b ta tb r s k = some (fl6 (actQ adv (a, b, ta, tb, r) s k)) := by
  obtain ⟨ha, hb, h1, h2⟩ := h
  simp only at ha hb h1 h2
  have own := own42 a b ta tb r (by omega) (by omega)
  simp only [f41, own, Option.bind_some, f41_0, in35, f41_1, f41_27, f41_2]
  by_cases hs : 0 ≤ s ∧ s ≤ 1
  · by_cases hk : 1 ≤ k ∧ k ≤ 5
    · simp only [hs, hk, and_self, decide_true, Bool.not_true, cond_false, f41_3]
      rcases (show s = 0 ∨ s = 1 by omega) with rfl | rfl
      · simp only [show ((0 : Int) == 1) = false from rfl, cond_false, f41_19]
        simp only [actQ, true_or, hk, and_self, not_true_eq_false, if_false, if_true, show ¬ ((0 : Int) = 1) by decide]
        by_cases k5 : k = 5
        · subst k5
          cases ta with
          | nil => simp [f41_20, fl6]
          | cons m ta =>
            obtain ⟨_, e1, e2, e3, e5⟩ := adv_spec a 5 m ha (.inl rfl)
            simp only [List.length_cons] at h1
            simp only [beq_self_eq_true, cond_true, List.length_cons, f41_20, f41_21, List.getD_cons_zero, e1, e5 rfl, Option.bind_some, f41_7, sent_loop0, f41_8, f41_9, f41_10, f41_11, f41_12, List.headD_cons, if_true, reduceCtorEq, and_false, if_false, side, ne_eq, not_true_eq_false, List.tail_cons, Int.toNat_natCast, List.drop_succ_cons, List.drop_zero]
            have e4 : List.take (ta.length + 1 - Int.toNat 1) ta = ta := List.take_of_length_le (by simp)
            delta f41k0
            simp only [e4, List.length_nil, List.nil_append]
            rw [show (((ta.length + 1 : Nat) : Int) == 0) = false by simp; omega]
            simp only [cond_false]
            rw [if_pos (by omega), if_pos (by omega), if_pos (by omega)]
            generalize adv a 5 m = x
            obtain ⟨n, t, c⟩ := x
            have hl := sentL_len t
            simp only [List.length_append]
            rw [if_pos (by omega), show decide ((ta.length : Int) > 200) = false by simp; omega]
            simp only [cond_false]
            by_cases l2 : t ≠ 0 ∧ tb.length = 200
            · have := sentL_pos l2.1
              rw [show decide (((tb.length + (sentL t).length : Nat) : Int) > 200) = true by simp; omega]
              simp [own, l2, fl6]
            · have : tb.length + (sentL t).length ≤ 200 := by
                by_cases t0 : t = 0
                · subst t0; simp [sentL]; omega
                · have : tb.length ≠ 200 := fun h => l2 ⟨t0, h⟩
                  omega
              rw [show decide (((tb.length + (sentL t).length : Nat) : Int) > 200) = false by simp; omega]
              rw [if_neg (by simpa using l2)]
              simp [fl6, bump]
        · obtain ⟨_, e1, e2, e3, _⟩ := adv_spec a k 0 ha (.inr rfl)
          simp only [beq_eq_false_iff_ne.2 k5, cond_false, f41_22, e1, Option.bind_some, f41_23, sent_loop2, f41_24, f41_25, f41_10, f41_11, f41_12, k5, false_and, if_false, side, ne_eq, beq_self_eq_true, cond_true, show ((1 : Int) == 0) = false from rfl]
          generalize adv a k 0 = x at e3
          obtain ⟨n, t, c⟩ := x
          simp only at e3
          have hl := sentL_len t
          simp only [List.length_append]
          rw [if_pos (by omega)]
          rw [show decide ((ta.length : Int) > 200) = false by simp; omega]
          simp only [cond_false]
          by_cases c0 : c = 0
          · subst c0
            simp only [not_true_eq_false, if_false]
            by_cases l2 : t ≠ 0 ∧ tb.length = 200
            · have := sentL_pos l2.1
              rw [show decide (((tb.length + (sentL t).length : Nat) : Int) > 200) = true by simp; omega]
              simp [own, l2, fl6]
            · have : tb.length + (sentL t).length ≤ 200 := by
                by_cases t0 : t = 0
                · subst t0; simp [sentL]; omega
                · have : tb.length ≠ 200 := fun h => l2 ⟨t0, h⟩
                  omega
              rw [show decide (((tb.length + (sentL t).length : Nat) : Int) > 200) = false by simp; omega]
              rw [if_neg (by simpa using l2)]
              simp [fl6, bump]
          · obtain ⟨rfl, rfl⟩ := e3 c0
            rw [show decide (((tb.length + (sentL 0).length : Nat) : Int) > 200) = false by simp [sentL]; omega]
            simp [fl6, bump, c0, sentL]
      · simp only [beq_self_eq_true, cond_true, f41_4]
        simp only [actQ, or_true, hk, and_self, not_true_eq_false, if_false, if_true]
        by_cases k5 : k = 5
        · subst k5
          cases tb with
          | nil => simp [f41_5, fl6]
          | cons m tb =>
            obtain ⟨_, e1, e2, e3, e5⟩ := adv_spec b 5 m hb (.inl rfl)
            simp only [List.length_cons] at h2
            simp only [beq_self_eq_true, cond_true, List.length_cons, f41_5, f41_6, List.getD_cons_zero, e1, e5 rfl, Option.bind_some, f41_7, sent_loop0, f41_8, f41_13, f41_10, f41_11, f41_12, List.headD_cons, if_true, reduceCtorEq, and_false, if_false, side, ne_eq, not_true_eq_false, List.tail_cons, Int.toNat_natCast, List.drop_succ_cons, List.drop_zero, show ((1 : Int) == 0) = false from rfl, cond_false]
            have e4 : List.take (tb.length + 1 - Int.toNat 1) tb = tb := List.take_of_length_le (by simp)
            delta f41k0
            simp only [e4, List.length_nil, List.nil_append]
            rw [show (((tb.length + 1 : Nat) : Int) == 0) = false by simp; omega]
            simp only [cond_false]
            rw [if_pos (by omega), if_pos (by omega), if_pos (by omega)]
            generalize adv b 5 m = x
            obtain ⟨n, t, c⟩ := x
            have hl := sentL_len t
            simp only [List.length_append]
            rw [if_pos (by omega), show decide ((tb.length : Int) > 200) = false by simp; omega]
            simp only [cond_false]
            by_cases l2 : t ≠ 0 ∧ ta.length = 200
            · have := sentL_pos l2.1
              rw [show decide (((ta.length + (sentL t).length : Nat) : Int) > 200) = true by simp; omega]
              simp [own, l2, fl6]
            · have : ta.length + (sentL t).length ≤ 200 := by
                by_cases t0 : t = 0
                · subst t0; simp [sentL]; omega
                · have : ta.length ≠ 200 := fun h => l2 ⟨t0, h⟩
                  omega
              rw [show decide (((ta.length + (sentL t).length : Nat) : Int) > 200) = false by simp; omega]
              rw [if_neg (by simpa using l2)]
              simp [fl6, bump]
        · obtain ⟨_, e1, e2, e3, _⟩ := adv_spec b k 0 hb (.inr rfl)
          simp only [beq_eq_false_iff_ne.2 k5, cond_false, f41_14, e1, Option.bind_some, f41_15, sent_loop1, f41_16, f41_18, f41_10, f41_11, f41_12, k5, false_and, if_false, side, ne_eq, beq_self_eq_true, cond_true, show ((1 : Int) == 0) = false from rfl]
          generalize adv b k 0 = x at e3
          obtain ⟨n, t, c⟩ := x
          simp only at e3
          have hl := sentL_len t
          simp only [List.length_append]
          rw [if_pos (by omega)]
          rw [show decide ((tb.length : Int) > 200) = false by simp; omega]
          simp only [cond_false]
          by_cases c0 : c = 0
          · subst c0
            simp only [not_true_eq_false, if_false]
            by_cases l2 : t ≠ 0 ∧ ta.length = 200
            · have := sentL_pos l2.1
              rw [show decide (((ta.length + (sentL t).length : Nat) : Int) > 200) = true by simp; omega]
              simp [own, l2, fl6]
            · have : ta.length + (sentL t).length ≤ 200 := by
                by_cases t0 : t = 0
                · subst t0; simp [sentL]; omega
                · have : ta.length ≠ 200 := fun h => l2 ⟨t0, h⟩
                  omega
              rw [show decide (((ta.length + (sentL t).length : Nat) : Int) > 200) = false by simp; omega]
              rw [if_neg (by simpa using l2)]
              simp [fl6, bump]
          · obtain ⟨rfl, rfl⟩ := e3 c0
            rw [show decide (((ta.length + (sentL 0).length : Nat) : Int) > 200) = false by simp [sentL]; omega]
            simp [fl6, bump, c0, sentL]
    · simp only [hs, and_self, decide_true, Bool.not_true, cond_false, hk, decide_false, Bool.not_false, cond_true]
      have : ¬ ((s = 0 ∨ s = 1) ∧ 1 ≤ k ∧ k ≤ 5) := fun h => hk h.2
      simp only [actQ, this, not_false_eq_true, if_true, fl6]
  · simp only [hs, decide_false, Bool.not_false, cond_true]
    have : ¬ ((s = 0 ∨ s = 1) ∧ 1 ≤ k ∧ k ≤ 5) := fun h => hs (by omega)
    simp only [actQ, this, not_false_eq_true, if_true, fl6]
end Go.Proofs.YtnceiegngfpmkaaAm.W
namespace Go.Proofs.YtnceiegngfpmkaaAm.W
set_option linter.unusedVariables false
set_option linter.unusedSimpArgs false
set_option maxHeartbeats 0
theorem eq25 (l : List Int) (hl : small l.length) : f25 l l = some true := by
  have hl : l.length ≤ 1048576 := hl
  have h : f25l0 l l 0 = some (.inr ()) := by
    unfold f25l0
    refine loopD_up (fun i => (i : Int)) l.length rfl (fun i hi => ?_) ?_
    · simp only [f25l0b, f25l0bp, f25l0_0, f25l0_1]
      rw [if_pos (by omega), if_pos (by omega), show decide ((i : Int) < (l.length : Int)) = true by simpa using hi]
      simp only [cond_true, bne_self_eq_false, cond_false, W_succ i (by omega)]
    · simp [f25l0b, f25l0bp]
  simp [f25, f25_0, f25_1, f25_2, h]
/-! Marks -/
def mkI (_ : Int) (k : Int) : Int := k
def szI (_ : Int) : Int := 1
theorem szI_list (l : List Int) : szL szI l = l.length := by
  induction l with
  | nil => rfl
  | cons a l ih => simp only [szL, ih, szI, List.length_cons]; omega
theorem mark29 (l : List Int) (k : Int) (hk : 0 ≤ k) (hB : k + l.length ≤ 4611686018427387904) : f29 l k = some (k + l.length, marksL mkI szI l k) := by
  have h : f29l0 (k, 0, l) = some (k + szL szI l, marksL mkI szI l k) := by
    unfold f29l0
    refine mark_loop (fun a => by simp [szI]) 4611686018427387904 l (fun k i l hi hl _ hk hb => ?_) (fun k l _ => ?_) hk (by rw [szI_list]; exact hB)
    · simp only [f29l0b, f29l0bp, f29l0_0, szI, mkI] at hb ⊢
      rw [if_pos (by omega), show decide ((i : Int) < (l.length : Int)) = true by simpa using hi]
      simp only [cond_true, Int.toNat_natCast, Nat.zero_add]
      rw [W_id (n := k + 1) (by omega) (by omega), W_succ i (by omega)]
    · simp [f29l0b, f29l0bp]
  rw [szI_list] at h
  simp only [f29, h, Option.bind_some, f29_0]
theorem held31 (l : List Int) (k : Int) (hk : 0 ≤ k) (hB : k + l.length ≤ 4611686018427387904) : f31 (marksL mkI szI l k) k = some (k + l.length) := by
  have hl := marksL_length mkI szI l k
  have h : f31l0 (marksL mkI szI l k) (k, 0) = some (.inr (k + szL szI l)) := by
    unfold f31l0
    refine held_loop (mk := mkI) (sz := szI) (fun a => by simp [szI]) 4611686018427387904 l (fun k i hi a _ hk hb he => ?_) (fun k => ?_) hk (by rw [szI_list]; exact hB) rfl
    · simp only [f31l0b, f31l0bp, f31l0_0, f31l0_1, szI, mkI] at hb he ⊢
      rw [if_pos (by omega), show decide ((i : Int) < ((marksL mkI szI l _).length : Int)) = true by simpa using hi]
      simp only [cond_true, Int.toNat_natCast, Nat.zero_add, getD_lt hi, he, bne_self_eq_false, cond_false]
      rw [W_id (n := k + 1) (by omega) (by omega), W_succ i (by omega)]
    · simp [f31l0b, f31l0bp]
  rw [szI_list] at h
  simp only [f31, h, Option.bind_some, f31_0, f31_1, Sum.elim_inr]
theorem eqP (a b : Int) (ta tb : List Int) (r : Int) (hc : small ta.length) (hd : small tb.length) : f24 a b ta tb r a b ta tb r = some true := by
  simp [f24, f24_0, f24_1, f24_2, f24_3, f24_4, f24_5, f24_6, eq25 ta hc, eq25 tb hd]
theorem markP (a b : Int) (c d : List Int) (e k : Int) (hk : 0 ≤ k) (hB : k + c.length + d.length ≤ 4611686018427387904) :
    f28 a b c d e k = some (k + c.length + d.length, marksL mkI szI c k, marksL mkI szI d (k + c.length)) := by
  simp only [f28, f28_0, f28_1, mark29 c k hk (by omega), mark29 d (k + c.length) (by omega) (by omega), Option.bind_some]
theorem heldP (a b : Int) (c d : List Int) (e k : Int) (hk : 0 ≤ k) (hB : k + c.length + d.length ≤ 4611686018427387904) :
    f30 a b (marksL mkI szI c k) (marksL mkI szI d (k + c.length)) e k = some (k + c.length + d.length) := by
  simp only [f30, f30_0, f30_1, f30_2, f30_3, held31 c k hk (by omega), held31 d (k + c.length) (by omega) (by omega), Option.bind_some]
  rw [show decide (k + (c.length : Int) < 0) = false by simp; omega, show decide (k + (c.length : Int) + d.length < 0) = false by simp; omega]
  rfl
end Go.Proofs.YtnceiegngfpmkaaAm.W
namespace Go.Proofs.YtnceiegngfpmkaaAm.W
set_option linter.unusedVariables false
set_option linter.unusedSimpArgs false
set_option maxHeartbeats 0
theorem side_ok (st : Int) (inn out : List Int) (r k : Int) (x : Int × Int × Int) (hs : 0 ≤ st ∧ st ≤ 10) (hx : 0 ≤ x.1 ∧ x.1 ≤ 10) (h1 : inn.length ≤ 200) (h2 : out.length ≤ 200) :
    (0 ≤ (side st inn out r k x).2.1 ∧ (side st inn out r k x).2.1 ≤ 10) ∧ (side st inn out r k x).2.2.1.length ≤ 200 ∧ (side st inn out r k x).2.2.2.1.length ≤ 200 := by
  unfold side
  split
  · exact ⟨hs, h1, h2⟩
  · split
    · exact ⟨hs, h1, h2⟩
    · rename_i hn
      refine ⟨hx, ?_, ?_⟩
      · simp only
        split
        · rw [List.length_tail]; omega
        · exact h1
      · simp only [List.length_append]
        have := sentL_len x.2.1
        by_cases t0 : x.2.1 = 0
        · simp [sentL, t0]; exact h2
        · have : out.length ≠ 200 := fun h => hn ⟨t0, h⟩
          omega
theorem Qok.step {q : Q} (h : Qok q) (s k : Int) : Qok (actQ adv q s k).2 := by
  obtain ⟨a, b, ta, tb, r⟩ := q
  obtain ⟨ha, hb, h1, h2⟩ := h
  simp only at ha hb h1 h2
  simp only [actQ]
  have z (k : Int) (l : List Int) : k = 5 ∨ (if k = 5 then l.headD 0 else 0) = 0 := by by_cases h : k = 5 <;> simp [h]
  split
  · exact ⟨ha, hb, h1, h2⟩
  · split
    · split
      · exact ⟨ha, hb, h1, h2⟩
      · obtain ⟨e1, e2, e3⟩ := side_ok b tb ta r k _ hb (adv_spec b k _ hb (z k tb)).2.2.1 h2 h1
        exact ⟨ha, e1, e3, e2⟩
    · split
      · exact ⟨ha, hb, h1, h2⟩
      · obtain ⟨e1, e2, e3⟩ := side_ok a ta tb r k _ ha (adv_spec a k _ ha (z k ta)).2.2.1 h1 h2
        exact ⟨e1, hb, e2, e3⟩
abbrev Q0 : Q := (0, 0, [], [], 0)
theorem Q0_ok : Qok Q0 := by simp [Qok]
end Go.Proofs.YtnceiegngfpmkaaAm.W
namespace Go.Proofs.YtnceiegngfpmkaaAm.W
set_option linter.unusedVariables false
set_option linter.unusedSimpArgs false
set_option maxHeartbeats 0
def in31 (x : Int) : Bool := decide (1 ≤ x ∧ x ≤ 31)
theorem way46 (l : List Int) : f46 l = some (decide (l.length ≤ 200) && l.all in31) := by
  simp only [f46]
  by_cases hl : l.length ≤ 200
  · have h : f59_56l0 (l.length : Int) l 0 = some (match l.findIdx? (fun x => !in31 x) with | some i => .inl (i : Int) | none => .inr ()) := by
      unfold f59_56l0
      refine find_loop l (fun x => !in31 x) (fun i => (i : Int)) (fun i hi => ?_) ?_
      · simp only [f59_56l0b, f59_56l0bp, f59_56l0_0, f59_56l0_1, f59_56l0_2, f56, f56_0, in37, Option.bind_some]
        rw [if_pos (by omega), show decide ((i : Int) < (l.length : Int)) = true by simpa using hi]
        simp only [cond_true, Int.toNat_natCast, Nat.zero_add, getD_lt hi, W_succ i (by omega), in31]
        by_cases hx : 1 ≤ l[i] ∧ l[i] ≤ 31 <;> simp [hx]
      · simp [f59_56l0b, f59_56l0bp]
    have hf : f55_56 l = some (!l.all in31) := by
      simp only [f55_56, f59_56, h, Option.bind_some, f59_56_0, f59_56_1]
      have e := List.findIdx?_isSome (xs := l) (p := fun x => !in31 x)
      have e2 : l.any (fun x => !in31 x) = !l.all in31 := by rw [List.all_eq_not_any_not]; simp
      rw [← e2, ← e]
      cases l.findIdx? (fun x => !in31 x) with
      | none => simp [f55_56_0]
      | some i => simp [f55_56_0]
    have d : decide ((l.length : Int) ≤ 200) = true := by simp; omega
    simp only [d, cond_true, hf, Option.bind_some, f46_0, Bool.not_not, hl, decide_true, Bool.true_and]
  · have d : decide ((l.length : Int) ≤ 200) = false := by simp; omega
    simp [d, hl]
def okP (a b : Int) (ta tb : List Int) (r : Int) : Bool :=
  decide (0 ≤ a ∧ a ≤ 10) && (decide (0 ≤ b ∧ b ≤ 10) && (decide (0 ≤ r ∧ r ≤ 1000) && ((decide (ta.length ≤ 200) && ta.all in31) && (decide (tb.length ≤ 200) && tb.all in31))))
theorem ok21 (a b : Int) (ta tb : List Int) (r : Int) : f21 a b ta tb r = some (okP a b ta tb r) := by
  simp only [f21, f21_0, f21_1, f21_2, f21_3, f21_4, f21_5, f21_6, in37, way46, Option.bind_some, okP]
  cases decide (0 ≤ a ∧ a ≤ 10) <;> cases decide (0 ≤ b ∧ b ≤ 10) <;> cases decide (0 ≤ r ∧ r ≤ 1000) <;> cases (decide (ta.length ≤ 200) && ta.all in31) <;> cases (decide (tb.length ≤ 200) && tb.all in31) <;> rfl
theorem ok44 (a b : Int) (ta tb : List Int) (r : Int) : f44 a b ta tb r = some (okP a b ta tb r) := by
  have body (h1 : ta.length ≤ 200) (h2 : tb.length ≤ 200) : f44_2 a b ta tb r = some (ta.all in31 && tb.all in31) := by
    simp only [f44_2]
    delta f44k0
    simp only [List.nil_append, List.length_nil]
    have h : f44l0 (ta ++ tb) 0 = some (match (ta ++ tb).findIdx? (fun x => !in31 x) with | some i => .inl false | none => .inr ()) := by
      unfold f44l0
      refine find_loop (ta ++ tb) (fun x => !in31 x) (fun _ => false) (fun i hi => ?_) ?_
      · have hlen : (ta ++ tb).length ≤ 400 := by rw [List.length_append]; omega
        simp only [f44l0b, f44l0bp, f44l0_0, f44l0_1, f44l0_2, in35, Option.bind_some]
        rw [if_pos (by omega), decide_eq_true (Int.ofNat_lt.2 hi)]
        simp only [cond_true, Int.toNat_natCast, Nat.zero_add, getD_lt hi, W_succ i (by omega), in31]
        by_cases hx : 1 ≤ (ta ++ tb)[i] ∧ (ta ++ tb)[i] ≤ 31
        · simp only [decide_eq_true hx, Bool.not_true, cond_false, if_false, Bool.false_eq_true]
        · simp only [decide_eq_false hx, Bool.not_false, cond_true, if_true]
      · simp [f44l0b, f44l0bp]
    rw [if_pos (by omega), if_pos (by omega), h, Option.bind_some]
    have e := List.findIdx?_isSome (xs := ta ++ tb) (p := fun x => !in31 x)
    have e2 : (ta ++ tb).any (fun x => !in31 x) = !(ta ++ tb).all in31 := by rw [List.all_eq_not_any_not]; simp
    rw [e2] at e
    rw [← List.all_append]
    cases hx : (ta ++ tb).findIdx? (fun x => !in31 x) with
    | none =>
      rw [hx] at e
      have : (ta ++ tb).all in31 = true := by
        cases hb : (ta ++ tb).all in31 with
        | true => rfl
        | false => rw [hb] at e; exact absurd e (by simp)
      simp only [Sum.elim_inr, f44_4, this]
    | some i =>
      rw [hx] at e
      have : (ta ++ tb).all in31 = false := by
        cases hb : (ta ++ tb).all in31 with
        | true => rw [hb] at e; exact absurd e (by simp)
        | false => rfl
      simp only [Sum.elim_inl, f44_3, this]
  simp only [f44, f44_0, f44_1, f44_5, f44_6, in35, Option.bind_some, okP]
  by_cases h1 : ta.length ≤ 200
  · by_cases h2 : tb.length ≤ 200
    · rw [body h1 h2, show decide ((ta.length : Int) > 200) = false by simp; omega, show decide ((tb.length : Int) > 200) = false by simp; omega]
      simp only [h1, h2, decide_true, Bool.true_and]
      cases decide (0 ≤ a ∧ a ≤ 10) <;> cases decide (0 ≤ b ∧ b ≤ 10) <;> cases decide (0 ≤ r ∧ r ≤ 1000) <;> rfl
    · rw [show decide ((ta.length : Int) > 200) = false by simp; omega, show decide ((tb.length : Int) > 200) = true by simp; omega]
      simp only [h1, h2, decide_true, decide_false, Bool.true_and, Bool.false_and, Bool.and_false]
      cases decide (0 ≤ a ∧ a ≤ 10) <;> cases decide (0 ≤ b ∧ b ≤ 10) <;> cases decide (0 ≤ r ∧ r ≤ 1000) <;> rfl
  · rw [show decide ((ta.length : Int) > 200) = true by simp; omega]
    simp only [h1, decide_false, Bool.false_and, Bool.and_false]
    cases decide (0 ≤ a ∧ a ≤ 10) <;> cases decide (0 ≤ b ∧ b ≤ 10) <;> cases decide (0 ≤ r ∧ r ≤ 1000) <;> rfl
theorem okP_Q {a b : Int} {ta tb : List Int} {r : Int} (h : okP a b ta tb r = true) : Qok (a, b, ta, tb, r) := by
  simp only [okP, Bool.and_eq_true, decide_eq_true_eq] at h
  exact ⟨h.1, h.2.1, h.2.2.2.1.1, h.2.2.2.2.1⟩
theorem own43 (a b : Int) (ta tb : List Int) (r : Int) (h1 : ta.length ≤ 3000) (h2 : tb.length ≤ 3000) : f43 a b ta tb r = some (a, b, ta, tb, r) := by
  simp only [f43]
  delta f43k0
  rw [if_pos (by simp only [List.length_nil]; omega), if_pos (by simp only [List.length_nil]; omega)]
  rfl
end Go.Proofs.YtnceiegngfpmkaaAm.W
namespace Go.Proofs.YtnceiegngfpmkaaAm.W
set_option linter.unusedVariables false
set_option linter.unusedSimpArgs false
set_option maxHeartbeats 0
theorem to49 (l : List Int) (hl : small l.length) : f49 l = some l := by
  have hl : l.length ≤ 1048576 := hl
  have h : f49l0 l (0, List.replicate l.length 0) = some (l.map id) := by
    unfold f49l0
    refine copy_loop l id 0 (fun i hi out ho => ?_) (fun out => ?_)
    · simp only [f49l0b, f49l0bp, f49l0_0]
      rw [if_pos (by omega), if_pos (by omega), show decide ((i : Int) < (l.length : Int)) = true by simpa using hi]
      simp only [cond_true, Int.toNat_natCast, Nat.zero_add, getD_lt hi, W_succ i (by omega), id]
    · simp [f49l0b, f49l0bp]
  simp only [f49, Int.toNat_natCast, h, Option.bind_some, f49_0, List.map_id]
  rw [if_pos (by omega)]
theorem toP (a b : Int) (ta tb : List Int) (r : Int) (h1 : small ta.length) (h2 : small tb.length) : f33 a b ta tb r = some (a, b, ta, tb, r) := by
  simp only [f33, f33_0, f33_1, to49 ta h1, to49 tb h2, Option.bind_some]
theorem szP (a b : Int) (ta tb : List Int) (r : Int) (h1 : (ta.length : Int) ≤ 9223372036854775807) (h2 : (tb.length : Int) ≤ 9223372036854775807) :
    ∃ z, f32 a b ta tb r 1048576 = some z ∧ (z < 0 ∨ ta.length + tb.length ≤ 1048576) := by
  simp only [f32, f32_0, f32_1, f32_2, f32_3, f48, f48_0, W_id (n := 1048576 - (ta.length : Int)) (by omega) (by omega)]
  by_cases d1 : 1048576 - (ta.length : Int) < 0
  · exact ⟨-1, by simp [d1], .inl (by omega)⟩
  · simp only [d1, decide_false, cond_false, Option.bind_some, W_id (n := 1048576 - (ta.length : Int) - tb.length) (by omega) (by omega)]
    by_cases d2 : 1048576 - (ta.length : Int) - tb.length < 0
    · exact ⟨-1, by simp [d2], .inl (by omega)⟩
    · exact ⟨_, by simp only [d2, decide_false, cond_false, Option.bind_some]; rfl, .inr (by omega)⟩
abbrev τP : Ty := .pair (.int .i64) (.pair (.int .i64) (.pair (.sl (.int .i64)) (.pair (.sl (.int .i64)) (.int .i64))))
end Go.Proofs.YtnceiegngfpmkaaAm.W
namespace Go.Proofs.YtnceiegngfpmkaaAm.W
set_option linter.unusedVariables false
set_option linter.unusedSimpArgs false
set_option maxHeartbeats 0
/-! ### Draining -/
def emptyQ (q : Q) : Bool := q.2.2.1.length == 0 && q.2.2.2.1.length == 0
noncomputable def drainQ : Nat → Q → Q
  | 0, q => q
  | n + 1, q => if emptyQ q then q else drainQ n (actQ adv (actQ adv q 0 5).2 1 5).2
theorem drain_ok : ∀ (n : Nat) {q : Q}, Qok q → Qok (drainQ n q)
  | 0, q, h => h
  | n + 1, q, h => by
    simp only [drainQ]
    split
    · exact h
    · exact drain_ok n ((h.step 0 5).step 1 5)
theorem loopD_inl {D E : Type} {f : D → Option (D ⊕ E)} {d d' : D} (h : f d = some (.inl d')) : loopD f d = loopD f d' := loopD_next h
theorem loopD_inr {D E : Type} {f : D → Option (D ⊕ E)} {d : D} {e : E} (h : f d = some (.inr e)) : loopD f d = some e := loopD_end h
theorem drain45 (z0 z1 : Int) (z2 z3 : List Int) (z4 : Int) : ∀ (n : Nat) (hn : n ≤ 1000) (q : Q), Qok q →
    f45l0 z0 z1 z2 z3 z4 (((1000 - n : Nat) : Int), q.1, q.2.1, q.2.2.1, q.2.2.2.1, q.2.2.2.2) = some (drainQ n q)
  | 0, hn, q, hq => by
    unfold f45l0
    refine loopD_inr ?_
    simp [f45l0b, f45l0bp, f45l0_0, drainQ]
  | n + 1, hn, q, hq => by
    obtain ⟨a, b, ta, tb, r⟩ := q
    have h1 : ta.length ≤ 200 := hq.2.2.1
    have h2 : tb.length ≤ 200 := hq.2.2.2
    have hw : IntKind.wrap IntKind.i64 ((ta.length : Int) + tb.length) = (ta.length : Int) + tb.length := W_id (by omega) (by omega)
    have hlt : decide (((1000 - (n + 1) : Nat) : Int) < 1000) = true := by simp; omega
    simp only [drainQ]
    by_cases he : emptyQ (a, b, ta, tb, r) = true
    · rw [if_pos he]
      unfold f45l0
      refine loopD_inr ?_
      simp only [emptyQ, Bool.and_eq_true, beq_iff_eq] at he
      have : decide ((ta.length : Int) + tb.length > 0) = false := by simp; omega
      simp only [f45l0b, f45l0bp, hlt, cond_true, hw, this, f45l0_0, cond_false]
    · rw [if_neg he]
      have : decide ((ta.length : Int) + tb.length > 0) = true := by
        simp only [emptyQ, Bool.and_eq_true, beq_iff_eq] at he
        simp; omega
      have q1 := hq.step 0 5
      have q2 := q1.step 1 5
      have ih := drain45 z0 z1 z2 z3 z4 n (by omega) _ q2
      have hstep : f45l0b z0 z1 z2 z3 z4 (((1000 - (n + 1) : Nat) : Int), a, b, ta, tb, r) = some (.inl (((1000 - n : Nat) : Int), (actQ adv (actQ adv (a, b, ta, tb, r) 0 5).2 1 5).2)) := by
        simp only [f45l0b, f45l0bp, hlt, cond_true, hw, this, f45l0_0, f45l0_1, act41 a b ta tb r 0 5 hq, Option.bind_some, f45l0_2, fl6]
        generalize (actQ adv (a, b, ta, tb, r) 0 5).2 = y at q1
        obtain ⟨a', b', ta', tb', r'⟩ := y
        simp only [act41 a' b' ta' tb' r' 1 5 q1, Option.bind_some, f45l0_3, fl6]
        rw [W_succ _ (by omega), show 1000 - (n + 1) + 1 = 1000 - n by omega]
      unfold f45l0 at ih ⊢
      rw [loopD_inl hstep]
      exact ih
/-- What impl's loop comes to, by the end it came to. -/
def fin17 (e : (Int × Int × Int × List Int × List Int × Int) ⊕ (Int × Int × List Int × List Int × Int)) (q : Q) : Prop :=
  (e = .inl (0, q.1, q.2.1, q.2.2.1, q.2.2.2.1, q.2.2.2.2) ∧ emptyQ q = true) ∨ e = .inr (q.1, q.2.1, q.2.2.1, q.2.2.2.1, q.2.2.2.2)
theorem drain17 (z0 z1 : Int) (z2 z3 : List Int) (z4 : Int) : ∀ (n : Nat) (hn : n ≤ 1000) (q : Q), Qok q →
    ∃ e, f17l0 z0 z1 z2 z3 z4 (((1000 - n : Nat) : Int), q.1, q.2.1, q.2.2.1, q.2.2.2.1, q.2.2.2.2) = some e ∧ fin17 e (drainQ n q)
  | 0, hn, q, hq => by
    refine ⟨.inr (q.1, q.2.1, q.2.2.1, q.2.2.2.1, q.2.2.2.2), ?_, .inr rfl⟩
    unfold f17l0
    refine loopD_inr ?_
    simp [f17l0b, f17l0bp]
  | n + 1, hn, q, hq => by
    obtain ⟨a, b, ta, tb, r⟩ := q
    have h1 : ta.length ≤ 200 := hq.2.2.1
    have h2 : tb.length ≤ 200 := hq.2.2.2
    have hlt : decide (((1000 - (n + 1) : Nat) : Int) < 1000) = true := by simp; omega
    simp only [drainQ]
    by_cases he : emptyQ (a, b, ta, tb, r) = true
    · rw [if_pos he]
      refine ⟨.inl (0, a, b, ta, tb, r), ?_, .inl ⟨rfl, he⟩⟩
      unfold f17l0
      refine loopD_inr ?_
      simp only [emptyQ, Bool.and_eq_true, beq_iff_eq] at he
      simp only [f17l0b, f17l0bp, hlt, cond_true, f17l0_0, f17l0_1, he.1, he.2]
      rfl
    · rw [if_neg he]
      have q1 := hq.step 0 5
      have q2 := q1.step 1 5
      obtain ⟨e, ih, hf⟩ := drain17 z0 z1 z2 z3 z4 n (by omega) _ q2
      have hstep : f17l0b z0 z1 z2 z3 z4 (((1000 - (n + 1) : Nat) : Int), a, b, ta, tb, r) = some (.inl (((1000 - n : Nat) : Int), (actQ adv (actQ adv (a, b, ta, tb, r) 0 5).2 1 5).2)) := by
        have go : f17l0_2 z0 z1 z2 z3 z4 ((1000 - (n + 1) : Nat) : Int) a b ta tb r = some (.inl (((1000 - n : Nat) : Int), (actQ adv (actQ adv (a, b, ta, tb, r) 0 5).2 1 5).2)) := by
          simp only [f17l0_2, act40 a b ta tb r 0 5 hq, Option.bind_some, f17l0_3, fl6]
          generalize (actQ adv (a, b, ta, tb, r) 0 5).2 = y at q1
          obtain ⟨a', b', ta', tb', r'⟩ := y
          simp only [act40 a' b' ta' tb' r' 1 5 q1, Option.bind_some, f17l0_4, fl6]
          rw [W_succ _ (by omega), show 1000 - (n + 1) + 1 = 1000 - n by omega]
        simp only [f17l0b, f17l0bp, hlt, cond_true, f17l0_0, f17l0_1, go]
        simp only [emptyQ, Bool.and_eq_true, beq_iff_eq] at he
        by_cases e1 : ta.length = 0
        · have e2 : ((tb.length : Int) == 0) = false := beq_eq_false_iff_ne.2 (by omega)
          simp only [e1, e2, cond_false]
          simp
        · have e2 : ((ta.length : Int) == 0) = false := beq_eq_false_iff_ne.2 (by omega)
          simp only [e2, cond_false]
      refine ⟨e, ?_, hf⟩
      unfold f17l0 at ih ⊢
      rw [loopD_inl hstep]
      exact ih
def outQ (ok : Bool) (q : Q) : Int × Int × Int × List Int × List Int × Int :=
  if ok then (if emptyQ q then (0, q.1, q.2.1, q.2.2.1, q.2.2.2.1, q.2.2.2.2) else (7, 0, 0, [], [], 0)) else (1, 0, 0, [], [], 0)
theorem run18 (a b : Int) (ta tb : List Int) (r : Int) : f18 a b ta tb r = some (outQ (okP a b ta tb r) (drainQ 1000 (a, b, ta, tb, r))) := by
  simp only [f18, ok44, Option.bind_some, f18_0]
  cases h : okP a b ta tb r with
  | false => rfl
  | true =>
    have hq := okP_Q h
    have hd := drain_ok 1000 hq
    have d := drain45 0 0 [] [] 0 1000 (by omega) (a, b, ta, tb, r) hq
    simp only [Nat.sub_self, Int.natCast_zero] at d
    simp only [Bool.not_true, cond_false, f18_1, own42 a b ta tb r (by have := hq.2.2.1; simp only at this; omega) (by have := hq.2.2.2; simp only at this; omega), Option.bind_some, f18_2, f45]
    rw [d, Option.bind_some]
    simp only [f45_0, Option.bind_some, f18_3, f18_4, outQ, if_true]
    generalize drainQ 1000 (a, b, ta, tb, r) = q at hd
    obtain ⟨a', b', ta', tb', r'⟩ := q
    have k1 : ta'.length ≤ 200 := hd.2.2.1
    have k2 : tb'.length ≤ 200 := hd.2.2.2
    dsimp only
    rw [W_id (n := (ta'.length : Int) + tb'.length) (by omega) (by omega)]
    by_cases he : emptyQ (a', b', ta', tb', r') = true
    · rw [if_pos he]
      simp only [emptyQ, Bool.and_eq_true, beq_iff_eq] at he
      rw [show decide ((ta'.length : Int) + tb'.length > 0) = false by simp; omega]
      rfl
    · rw [if_neg he]
      simp only [emptyQ, Bool.and_eq_true, beq_iff_eq] at he
      rw [show decide ((ta'.length : Int) + tb'.length > 0) = true by simp; omega]
      rfl
theorem run17 (a b : Int) (ta tb : List Int) (r : Int) : f17 a b ta tb r = some (outQ (okP a b ta tb r) (drainQ 1000 (a, b, ta, tb, r))) := by
  simp only [f17, ok21, Option.bind_some, f17_0]
  cases h : okP a b ta tb r with
  | false => rfl
  | true =>
    have hq := okP_Q h
    obtain ⟨e, d, hf⟩ := drain17 0 0 [] [] 0 1000 (by omega) (a, b, ta, tb, r) hq
    simp only [Nat.sub_self, Int.natCast_zero] at d
    simp only [Bool.not_true, cond_false, f17_1, own43 a b ta tb r (by have := hq.2.2.1; simp only at this; omega) (by have := hq.2.2.2; simp only at this; omega), Option.bind_some, f17_2]
    rw [d, Option.bind_some]
    simp only [outQ, if_true]
    generalize drainQ 1000 (a, b, ta, tb, r) = q at hf
    obtain ⟨a', b', ta', tb', r'⟩ := q
    rcases hf with ⟨rfl, he⟩ | rfl
    · rw [if_pos he]
      rfl
    · simp only [Sum.elim_inr, f17_4, f17_5, f17_6]
      by_cases he : emptyQ (a', b', ta', tb', r') = true
      · rw [if_pos he]
        simp only [emptyQ, Bool.and_eq_true, beq_iff_eq] at he
        simp [he.1, he.2]
      · rw [if_neg he]
        simp only [emptyQ, Bool.and_eq_true, beq_iff_eq] at he
        by_cases e1 : ta'.length = 0
        · have e2 : 0 < tb'.length := by
            rcases Nat.eq_zero_or_pos tb'.length with h | h
            · exact absurd ⟨e1, h⟩ he
            · exact h
          rw [decide_eq_false (show ¬ (ta'.length : Int) > 0 by omega), decide_eq_true (show (tb'.length : Int) > 0 by omega)]
          rfl
        · rw [decide_eq_true (show (ta'.length : Int) > 0 by omega)]
          rfl
theorem outQ_ok (a b : Int) (ta tb : List Int) (r : Int) : (outQ (okP a b ta tb r) (drainQ 1000 (a, b, ta, tb, r))).2.2.2.1.length ≤ 200 ∧ (outQ (okP a b ta tb r) (drainQ 1000 (a, b, ta, tb, r))).2.2.2.2.1.length ≤ 200 := by
  unfold outQ
  cases h : okP a b ta tb r with
  | false => simp
  | true =>
    have hd := drain_ok 1000 (okP_Q h)
    simp only [if_true]
    split
    · exact ⟨hd.2.2.1, hd.2.2.2⟩
    · simp
theorem pdrain_true (a b : Int) (ta tb : List Int) (r : Int) (h1 : (ta.length : Int) ≤ 9223372036854775807) (h2 : (tb.length : Int) ≤ 9223372036854775807) : f8 a b ta tb r = some true := by
  obtain ⟨z, hz, hc⟩ := szP a b ta tb r h1 h2
  simp only [f8, hz, Option.bind_some, f8_0]
  by_cases hd : z < 0
  · simp [hd]
  · have hl : ta.length + tb.length ≤ 1048576 := hc.resolve_left hd
    have s1 : small ta.length := by show _ ≤ _; omega
    have s2 : small tb.length := by show _ ≤ _; omega
    have hq := outQ_ok a b ta tb r
    have r17 := run17 a b ta tb r
    have r18 := run18 a b ta tb r
    generalize outQ (okP a b ta tb r) (drainQ 1000 (a, b, ta, tb, r)) = x at hq r17 r18
    obtain ⟨c, a', b', ta', tb', r'⟩ := x
    obtain ⟨k1, k2⟩ := hq
    simp only at k1 k2
    have s3 : small ta'.length := by show _ ≤ _; omega
    have s4 : small tb'.length := by show _ ≤ _; omega
    simp only [hd, decide_false, cond_false, f8_1, toP a b ta tb r s1 s2, Option.bind_some, r18, f8_2, f8_3, r17, f8_4, f8_5, eqP a' b' ta' tb' r' s3 s4, f8_6, bne_self_eq_false, Bool.not_true, f8_7, f8_8, f8_9, eqP a b ta tb r s1 s2, f8_10, f8_11, markP a b ta tb r 1 (by omega) (by omega), f8_12,
      show decide ((1 : Int) + (ta.length : Int) + tb.length < 0) = false by simp; omega, f8_27, f8_13, f8_14, markP a' b' ta' tb' r' 1 (by omega) (by omega), f8_15, heldP a' b' ta' tb' r' 1 (by omega) (by omega), f8_16,
      show decide ((1 : Int) + (ta'.length : Int) + tb'.length < 0) = false by simp; omega, f8_17, f8_18, f8_19, f8_20, f8_21, f8_22, f8_23, f8_24, f8_25, f8_26]
theorem law_FnExactPairDrain (a b : Int) (ta tb : List Int) (r : Int) (h : Wf τP (a, b, ta, tb, r)) : f8 a b ta tb r = some true :=
  pdrain_true a b ta tb r (by have : ta.length ≤ maxLen := h.2.2.1.1; unfold maxLen at this; omega) (by have : tb.length ≤ maxLen := h.2.2.2.1.1; unfold maxLen at this; omega)
end Go.Proofs.YtnceiegngfpmkaaAm.W
