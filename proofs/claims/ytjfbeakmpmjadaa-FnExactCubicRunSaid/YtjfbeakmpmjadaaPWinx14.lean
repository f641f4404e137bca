-- Written by plug.py, a program of this work, over the kit's printing program: the functions that it prints, and this work's own proofs of those that it does not.
import Derived.Test.YtjfbeakmpmjadaaPWinx0
import Derived.Test.YtjfbeakmpmjadaaPWinx10
import Derived.Test.YtjfbeakmpmjadaaPWinx13
namespace Go.Proofs.Ytjfbeakmpmjadaa.PWin
open Go.RowKit Go.Proofs.YtjfbeakmpmjadaaW.PrintWords Go.Proofs.YtjfbeakmpmjadaaW.PrintLast Go.Proofs.YtjfbeakmpmjadaaW.PrintMore
attribute [local go_sem] max2_int min2_int max_two min_two max_three min_three max_four min_four   -- for this text's walks alone
set_option linter.unusedVariables false
set_option linter.unusedSimpArgs false

/-! ### impl_CubicRun: function 14 -/
def impl_CubicRun.l (k : Nat) : List S30 → Int → Int → Int → Int → Int → Int → Int → Option ((Int × Int × Int × Int × Int × Int × Int) × List Int)
  | [], c0, c1, c2, c3, c4, c5, c6 => some ((c0, c1, c2, c3, c4, c5, c6), [])
  | a :: al, c0, c1, c2, c3, c4, c5, c6 => (impl_Cubic_act.f k c0 c1 c2 c3 c4 c5 c6 a.f0 a.f1).bind fun r =>
      (impl_CubicRun.l k al r.2.1 r.2.2.1 r.2.2.2.1 r.2.2.2.2.1 r.2.2.2.2.2.1 r.2.2.2.2.2.2.1 r.2.2.2.2.2.2.2).bind fun q => some (q.1, r.2.1 :: q.2)
def impl_CubicRun.f (k : Nat) (l0 : List S30) : Option (Int × Int × Int × Int × Int × Int × Int × List Int × Int) :=
  if 4096 < l0.length then some (0, 0, 0, 0, 0, 0, 0, [], 2)
  else if 300 < l0.length then some (0, 0, 0, 0, 0, 0, 0, [], 6)
  else (impl_CubicRun.l k l0 10 100000 0 0 0 0 0).bind fun q => some (q.1.1, q.1.2.1, q.1.2.2.1, q.1.2.2.2.1, q.1.2.2.2.2.1, q.1.2.2.2.2.2.1, q.1.2.2.2.2.2.2, q.2, 0)
theorem impl_CubicRun.mono_l : ∀ al a0 a1 a2 a3 a4 a5 a6 k, LeO (impl_CubicRun.l k al a0 a1 a2 a3 a4 a5 a6) (impl_CubicRun.l (k + 1) al a0 a1 a2 a3 a4 a5 a6) := by
  intro al
  induction al with
  | nil => intro a0 a1 a2 a3 a4 a5 a6 k; exact LeO.refl _
  | cons a al ih =>
    intro a0 a1 a2 a3 a4 a5 a6 k
    unfold impl_CubicRun.l
    exact LeO.bind (impl_Cubic_act.mono _ _ _ _ _ _ _ _ _ _) (fun _ => LeO.bind (ih _ _ _ _ _ _ _ _) (fun _ => LeO.refl _))
theorem impl_CubicRun.mono : ∀ a0 k, LeO (impl_CubicRun.f k a0) (impl_CubicRun.f (k + 1) a0) := by
  intro a0 k
  unfold impl_CubicRun.f
  exact LeO.ite (LeO.refl _) (LeO.ite (LeO.refl _) (LeO.bind (impl_CubicRun.mono_l _ _ _ _ _ _ _ _ _) (fun _ => LeO.refl _)))

def impl_CubicRun.RunPost (w : World) (r1 r2 r3 r4 r5 r6 r7 : Int) (r8 : List Int) (r9 : Int) (e : Ending) (w' : World) : Prop := ∃ v7_ : Value, e = .returned (.tuple #[.agg #[.int .i64 r1, .int .i64 r2, .int .i64 r3, .int .i64 r4, .int .i64 r5, .int .i64 r6, .int .i64 r7], v7_, .int .i64 r9]) ∧ Kd.R (Kd.int .i64) 3 w' w.heap.size (fun _ => True) v7_ r8 ∧ Below w.heap.size w w'
set_option maxHeartbeats 2000000 in
set_option maxRecDepth 100000 in
theorem impl_CubicRun.run_long (A0 : Option Addr) (c0 n : Nat) (w : World) (h : 4096 < n) : Calls Try.prog 14 #[.slice A0 n c0] w (impl_CubicRun.RunPost w 0 0 0 0 0 0 0 [] 2) := by
  have h' : (4096 : Int) < (n : Int) := by omega
  have hu26 := Try.underlying26
  go_enter Try.func14, Try.ntmps14
  go_wp2
  refine bodyPost_ret (results_ctt rfl _ _ w.heap.size 26 #[.int .i64 0, .int .i64 0, .int .i64 0, .int .i64 0, .int .i64 0, .int .i64 0, .int .i64 0] (0, 0) _ rfl (by (with_reducible repeat (first | refine blk_drewN ?_ _ | refine blk_drew ?_)); exact blk_new _ _) Try.underlying26 rfl (by kernel_rfl)) rfl ?_
  exact ⟨_, rfl, Kd.R_nil _ _ _ _ _, by with_reducible (repeat (first | exact Below.refl _ _ | apply pw_below_drewN | apply below_drew1 | apply below_alloc))⟩
set_option maxHeartbeats 2000000 in
set_option maxRecDepth 100000 in
theorem impl_CubicRun.run_many (A0 : Option Addr) (c0 n : Nat) (w : World) (h : 300 < n) (h1 : ¬ 4096 < n) : Calls Try.prog 14 #[.slice A0 n c0] w (impl_CubicRun.RunPost w 0 0 0 0 0 0 0 [] 6) := by
  have h' : (300 : Int) < (n : Int) := by omega
  have h'' : (n : Int) ≤ 4096 := by omega
  clear h h1
  have hu26 := Try.underlying26
  go_enter Try.func14, Try.ntmps14
  go_wp2
  refine bodyPost_ret (results_ctt rfl _ _ w.heap.size 26 #[.int .i64 0, .int .i64 0, .int .i64 0, .int .i64 0, .int .i64 0, .int .i64 0, .int .i64 0] (0, 0) _ rfl (by (with_reducible repeat (first | refine blk_drewN ?_ _ | refine blk_drew ?_)); exact blk_new _ _) Try.underlying26 rfl (by kernel_rfl)) rfl ?_
  exact ⟨_, rfl, Kd.R_nil _ _ _ _ _, by with_reducible (repeat (first | exact Below.refl _ _ | apply pw_below_drewN | apply below_drew1 | apply below_alloc))⟩
set_option maxHeartbeats 2000000 in
set_option maxRecDepth 100000 in
theorem impl_CubicRun.new_calls (w : World) : Calls Try.prog 23 #[] w fun e w' => e = .returned (.agg #[.int .i64 10, .int .i64 100000, .int .i64 0, .int .i64 0, .int .i64 0, .int .i64 0, .int .i64 0]) ∧ Below w.heap.size w w' := by
  have hu26 := Try.underlying26
  go_enter Try.func23, Try.ntmps23
  go_wp2
  refine bodyPost_ret (results_cell_row rfl _ _ w.heap.size 26 #[.int .i64 10, .int .i64 100000, .int .i64 0, .int .i64 0, .int .i64 0, .int .i64 0, .int .i64 0] (0, 0) _ rfl (by (with_reducible repeat (first | refine blk_drewN ?_ _ | refine blk_drew ?_)); exact blk_new _ _) Try.underlying26 rfl (by kernel_rfl)) rfl ?_
  exact ⟨rfl, by with_reducible (repeat (first | exact Below.refl _ _ | apply pw_below_drewN | apply below_drew1 | apply below_alloc))⟩
set_option maxHeartbeats 2000000 in
set_option maxRecDepth 100000 in
theorem impl_CubicRun.run_go (k : Nat) (A0 : Option Addr) (c0 : Nat) (l0 : List S30) (w : World) (hr0 : Kd.C k30 w A0 l0.length l0) (hn : l0.length ≤ 300) (f0 f1 f2 f3 f4 f5 f6 : Int) (ws : List Int) (hl : impl_CubicRun.l k l0 10 100000 0 0 0 0 0 = some ((f0, f1, f2, f3, f4, f5, f6), ws)) :
    Calls Try.prog 14 #[.slice A0 l0.length c0] w (impl_CubicRun.RunPost w f0 f1 f2 f3 f4 f5 f6 ws 0) := by
  have HR := Aside0.mk hr0
  have HL := Aside0.mk hl
  have hn1 : (l0.length : Int) ≤ 300 := by omega
  have hn2 : (l0.length : Int) ≤ 4096 := by omega
  have hu26 := Try.underlying26
  have hmk := print_make_int (P := Try.prog) 36 3 (.int .i64 0) 8 Try.underlying36 (by kernel_rfl) rfl (by decide) (l0.length : Int) (by omega) (by simp; omega)
  simp only [Int.toNat_natCast] at hmk
  clear hr0 hl hn
  go_enter Try.func14, Try.ntmps14
  go_wp2_with (first | (go_at_call 23; refine (impl_CubicRun.new_calls _).mono ?_; rintro e w1 ⟨rfl, hbel⟩; have HB1 := Aside0.mk hbel; have HW1 : Aside0 (w1.heap[w.heap.size]? = some (.cells #[.int .i64 0, .int .i64 0, .int .i64 0, .int .i64 0, .int .i64 0, .int .i64 0, .int .i64 0] 26 (0, 0))) := Aside0.mk (by refine blk_below ?_ hbel; exact blk_new _ _); clear hbel))
  go_loopg [23] l0.length (fun gk v23 w' => ∃ (j : Nat) (x0 x1 x2 x3 x4 x5 x6 : Int) (ys zs : List Int), j ≤ l0.length ∧ gk = l0.length - j ∧ v23 = .int .i64 j ∧ Aside0 (impl_CubicRun.l k (l0.drop j) x0 x1 x2 x3 x4 x5 x6 = some ((f0, f1, f2, f3, f4, f5, f6), zs)) ∧ Aside0 (ys.length = j ∧ ws = ys ++ zs) ∧ Aside0 (IsS26 w w' w1.heap.size x0 x1 x2 x3 x4 x5 x6) ∧ Aside0 (Below w.heap.size w w') ∧ Aside0 (w'.heap[w.heap.size]? = some (.cells #[.int .i64 0, .int .i64 0, .int .i64 0, .int .i64 0, .int .i64 0, .int .i64 0, .int .i64 0] 26 (0, 0))) ∧ Aside0 (Kd.R (Kd.int .i64) 3 w' w.heap.size (fun q => q ≠ w1.heap.size ∧ q ≠ w.heap.size) (.slice (some ⟨w1.heap.size + 1, 0, none⟩) l0.length l0.length) (ys ++ List.replicate (l0.length - j) 0)))
  case atStart =>
    have hsz := blk_lt HW1.out
    have hBw : Below w.heap.size w w1 := below_then (below_alloc (Below.refl _ _) _) (by simp) HB1.out
    refine ⟨0, 10, 100000, 0, 0, 0, 0, 0, [], ws, by omega, by omega, rfl, HL, ⟨rfl, rfl⟩, ⟨(IsS26.new w w1 10 100000 0 0 0 0 0 hBw).alloc _⟩, ⟨below_alloc (below_alloc hBw _) _⟩, ⟨blk_alloc (blk_alloc HW1.out _) _⟩, ⟨?_⟩⟩
    have h := own_made' (w1.alloc (.cells #[.int .i64 10, .int .i64 100000, .int .i64 0, .int .i64 0, .int .i64 0, .int .i64 0, .int .i64 0] 26)) w.heap.size 3 .i64 l0.length (by simp; omega) (by omega)
    have hs1 : (w1.alloc (.cells #[.int .i64 10, .int .i64 100000, .int .i64 0, .int .i64 0, .int .i64 0, .int .i64 0, .int .i64 0] 26)).heap.size = w1.heap.size + 1 := by simp
    rw [hs1] at h
    simp only [List.nil_append, Nat.sub_zero]
    refine Kd.R_of_own (enc := Value.int .i64) h (fun q hq => ?_)
    have : w1.heap.size + 1 = q := by simpa [Value.ownBlock] using hq
    constructor <;> omega
  case round =>
    obtain ⟨j, x0, x1, x2, x3, x4, x5, x6, ys, zs, hj, hgk, rfl, HF, HY, HI, HB, HW, HO⟩ := hrel
    have HGK := Aside0.mk hgk
    by_cases hlt : j < l0.length
    · have hlt2 : (j : Int) < (l0.length : Int) := by omega
      obtain ⟨ad, rfl, e0, e1⟩ := at_T30 (Kd.C_below HR.out HB.out) (j : Int) (by omega) hlt2
      simp only [Int.toNat_natCast] at e0 e1
      have hf := HF.out
      rw [List.drop_eq_getElem_cons hlt] at hf
      simp only [impl_CubicRun.l] at hf
      obtain ⟨⟨q1, q2, q3, q4, q5, q6, q7, q8⟩, ha, hf2⟩ := Option.bind_eq_some_iff.mp hf
      have hx : rd_T30 l0 (j : Int) = l0[j] := by simp [rd_T30, List.getD_eq_getElem?_getD, List.getElem?_eq_getElem hlt]
      rw [← hx] at ha
      have HA := Aside0.mk ha
      have HF2 := Aside0.mk hf2
      clear hf ha hf2 HF hgk hx hlt
      have hne : w.heap.size ≠ w1.heap.size := fun h => by have := HB1.out.size; have h2 := blk_lt HW1.out; omega
      go_wp2_with (first | (go_at_call 26; refine (impl_Cubic_act.calls k w1.heap.size _ _ _ _ _ _ _ _ _ _ _ _ _ _ _ _ _ w _ (HI.out.alloc _) (below_alloc HB.out _) HA.out).mono ?_; rintro e w2 ⟨rfl, hI2, hB2, hK2⟩; have HI2 := Aside0.mk hI2; have HB2 := Aside0.mk hB2; have HW2 := Aside0.mk (KeepBut.blk hK2 (blk_alloc HW.out _) hne (by simp)); have HO2 := Aside0.mk (Kd.R_keep (Kd.R_alloc HO.out _) hK2 (fun q hq => hq.1)); have k20 := cellS26_0 hI2.1; have hcell := Kd.R_celln (0 : Int) HO2.out (j : Int) (by omega) (by omega); simp only [Int.toNat_natCast] at hcell; obtain ⟨kc, fc⟩ := hcell; clear hI2 hB2 hK2))
      go_roundg (l0.length - (j + 1))
      case rel =>
        obtain ⟨⟨⟨p0, p1, p2, p3, p4, p5, p6⟩, zs'⟩, h1, h2⟩ := Option.bind_eq_some_iff.mp HF2.out
        simp only [Option.some.injEq, Prod.mk.injEq] at h2
        obtain ⟨⟨rfl, rfl, rfl, rfl, rfl, rfl, rfl⟩, rfl⟩ := h2
        have hlen := HY.out.1
        have hp := (Kd.R_putg HO2.out (j : Int) q2).1
        simp only [Int.toNat_natCast] at hp
        have hset : (ys ++ List.replicate (l0.length - j) 0).set j q2 = (ys ++ [q2]) ++ List.replicate (l0.length - (j + 1)) 0 := by
          rw [List.set_append_right _ _ (by omega), hlen, Nat.sub_self, show l0.length - j = (l0.length - (j + 1)) + 1 by omega, List.replicate_succ, List.set_cons_zero, List.append_assoc, List.singleton_append]
        rw [hset] at hp
        exact ⟨j + 1, q2, q3, q4, q5, q6, q7, q8, ys ++ [q2], zs', by omega, rfl, by go_num, ⟨h1⟩, ⟨by simp [hlen], by rw [HY.out.2]; simp⟩, ⟨HI2.out.far (by simp) _⟩, ⟨below_set HB2.out (by have := blk_lt HW1.out; omega)⟩, ⟨blk_far HW2.out (by have := blk_lt HW1.out; show w.heap.size ≠ w1.heap.size + 1; omega) _⟩, ⟨hp⟩⟩
      case measure => have := HGK.out; omega
    · obtain rfl : j = l0.length := by omega
      have hf := HF.out
      rw [List.drop_length] at hf
      simp only [impl_CubicRun.l, Option.some.injEq, Prod.mk.injEq] at hf
      obtain ⟨⟨rfl, rfl, rfl, rfl, rfl, rfl, rfl⟩, rfl⟩ := hf
      have hws : ws = ys := by rw [HY.out.2, List.append_nil]
      have hO : Kd.R (Kd.int .i64) 3 wr w.heap.size (fun q => q ≠ w1.heap.size ∧ q ≠ w.heap.size) (.slice (some ⟨w1.heap.size + 1, 0, none⟩) l0.length l0.length) ws := by
        have h := HO.out
        rw [Nat.sub_self, List.replicate_zero, List.append_nil, ← hws] at h
        exact h
      have HO2 := Aside0.mk hO
      have k0 := cellS26_0 HI.out.1
      have k1 := cellS26_1 HI.out.1
      have k2 := cellS26_2 HI.out.1
      have k3 := cellS26_3 HI.out.1
      have k4 := cellS26_4 HI.out.1
      have k5 := cellS26_5 HI.out.1
      have k6 := cellS26_6 HI.out.1
      have z0 := blk_cell HW.out 0
      have z1 := blk_cell HW.out 1
      have z2 := blk_cell HW.out 2
      have z3 := blk_cell HW.out 3
      have z4 := blk_cell HW.out 4
      have z5 := blk_cell HW.out 5
      have z6 := blk_cell HW.out 6
      have y0 := blk_frozen HW.out 0
      have y1 := blk_frozen HW.out 1
      have y2 := blk_frozen HW.out 2
      have y3 := blk_frozen HW.out 3
      have y4 := blk_frozen HW.out 4
      have y5 := blk_frozen HW.out 5
      have y6 := blk_frozen HW.out 6
      clear hgk HGK hj hlt hO hws HF HY HO
      go_wp2
      refine bodyPost_ret (results_ctt rfl _ _ w.heap.size 26 #[.int .i64 x0, .int .i64 x1, .int .i64 x2, .int .i64 x3, .int .i64 x4, .int .i64 x5, .int .i64 x6] (0, 0) _ rfl (by refine blk_put (cs := #[.int .i64 x0, .int .i64 x1, .int .i64 x2, .int .i64 x3, .int .i64 x4, .int .i64 x5, .int .i64 0]) ?_ 6 _ rfl; refine blk_put (cs := #[.int .i64 x0, .int .i64 x1, .int .i64 x2, .int .i64 x3, .int .i64 x4, .int .i64 0, .int .i64 0]) ?_ 5 _ rfl; refine blk_put (cs := #[.int .i64 x0, .int .i64 x1, .int .i64 x2, .int .i64 x3, .int .i64 0, .int .i64 0, .int .i64 0]) ?_ 4 _ rfl; refine blk_put (cs := #[.int .i64 x0, .int .i64 x1, .int .i64 x2, .int .i64 0, .int .i64 0, .int .i64 0, .int .i64 0]) ?_ 3 _ rfl; refine blk_put (cs := #[.int .i64 x0, .int .i64 x1, .int .i64 0, .int .i64 0, .int .i64 0, .int .i64 0, .int .i64 0]) ?_ 2 _ rfl; refine blk_put (cs := #[.int .i64 x0, .int .i64 0, .int .i64 0, .int .i64 0, .int .i64 0, .int .i64 0, .int .i64 0]) ?_ 1 _ rfl; refine blk_put (cs := #[.int .i64 0, .int .i64 0, .int .i64 0, .int .i64 0, .int .i64 0, .int .i64 0, .int .i64 0]) ?_ 0 _ rfl; exact HW.out) Try.underlying26 rfl (by kernel_rfl)) rfl ?_
      refine ⟨_, rfl, ?_, by with_reducible (repeat (first | exact HB.out | refine below_set ?_ (Nat.le_refl _)))⟩
      refine Kd.R_mono (ok := fun q => q ≠ w1.heap.size ∧ q ≠ w.heap.size) ?_ (fun _ _ => trivial)
      iterate 7 refine Kd.R_far ?_ (fun q hq => hq.2) _
      exact HO2.out

set_option maxHeartbeats 8000000 in
set_option maxRecDepth 100000 in
theorem impl_CubicRun.calls (k : Nat) (A0 : Option Addr) (c0 : Nat) (l0 : List (S30)) (r1 : Int) (r2 : Int) (r3 : Int) (r4 : Int) (r5 : Int) (r6 : Int) (r7 : Int) (r8 : List Int) (r9 : Int) (w : World) (hr0 : Kd.C k30 w A0 l0.length l0) (hc0 : l0.length ≤ c0) (h : impl_CubicRun.f k l0 = some (r1, r2, r3, r4, r5, r6, r7, r8, r9)) :
    Calls Try.prog 14 #[.slice A0 l0.length c0] w fun e w' => ∃ v7_ : Value, e = .returned (.tuple #[.agg #[.int .i64 r1, .int .i64 r2, .int .i64 r3, .int .i64 r4, .int .i64 r5, .int .i64 r6, .int .i64 r7], v7_, .int .i64 r9]) ∧ Kd.R (Kd.int .i64) 3 w' w.heap.size (fun _ => True) v7_ r8 ∧ Below w.heap.size w w' := by
  unfold impl_CubicRun.f at h
  by_cases h1 : 4096 < l0.length
  · rw [if_pos h1] at h
    simp only [Option.some.injEq, Prod.mk.injEq] at h
    obtain ⟨rfl, rfl, rfl, rfl, rfl, rfl, rfl, rfl, rfl⟩ := h
    exact impl_CubicRun.run_long A0 c0 _ w h1
  rw [if_neg h1] at h
  by_cases h2 : 300 < l0.length
  · rw [if_pos h2] at h
    simp only [Option.some.injEq, Prod.mk.injEq] at h
    obtain ⟨rfl, rfl, rfl, rfl, rfl, rfl, rfl, rfl, rfl⟩ := h
    exact impl_CubicRun.run_many A0 c0 _ w h2 h1
  rw [if_neg h2] at h
  obtain ⟨⟨⟨p0, p1, p2, p3, p4, p5, p6⟩, ws⟩, hl, h⟩ := Option.bind_eq_some_iff.mp h
  simp only [Option.some.injEq, Prod.mk.injEq] at h
  obtain ⟨rfl, rfl, rfl, rfl, rfl, rfl, rfl, rfl, rfl⟩ := h
  exact impl_CubicRun.run_go k A0 c0 l0 w hr0 (by omega) _ _ _ _ _ _ _ _ hl

end Go.Proofs.Ytjfbeakmpmjadaa.PWin
