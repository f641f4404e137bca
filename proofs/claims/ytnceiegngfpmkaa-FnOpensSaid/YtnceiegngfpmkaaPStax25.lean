-- Written by plug.py, a program of this work, over the kit's printing program: the functions that it prints, and this work's own proofs of those that it does not.
import Derived.Test.YtnceiegngfpmkaaPairAct
import Derived.Test.YtnceiegngfpmkaaPStax0
namespace Go.Proofs.Ytnceiegngfpmkaa.PSta
open Go.RowKit Go.Proofs.YtnceiegngfpmkaaW.PrintWords Go.Proofs.YtnceiegngfpmkaaW.PrintLast Go.Proofs.YtnceiegngfpmkaaW.PrintMore
attribute [local go_sem] max2_int min2_int max_two min_two max_three min_three max_four min_four   -- for this text's walks alone
set_option linter.unusedVariables false
set_option linter.unusedSimpArgs false

/-! ### impl_PairRun: function 15 -/
def impl_PairRun.l (k : Nat) : List S34 → Int → Int → List Int → List Int → Int → Option ((Int × Int × List Int × List Int × Int) × List Int)
  | [], A, B, la, lb, R => some ((A, B, la, lb, R), [])
  | a :: al, A, B, la, lb, R => (pAct k A B la lb R a.f0 a.f1).bind fun r =>
      (impl_PairRun.l k al r.1 r.2.1 r.2.2.1 r.2.2.2.1 r.2.2.2.2.1).bind fun q => some (q.1, r.2.2.2.2.2 :: q.2)
def impl_PairRun.f (k : Nat) (l0 : List S34) : Option (Int × Int × List Int × List Int × Int × List Int × Int) :=
  if 4096 < l0.length then some (0, 0, [], [], 0, [], 2)
  else if 300 < l0.length then some (0, 0, [], [], 0, [], 6)
  else (impl_PairRun.l k l0 0 0 [] [] 0).bind fun q => some (q.1.1, q.1.2.1, q.1.2.2.1, q.1.2.2.2.1, q.1.2.2.2.2, q.2, 0)
theorem impl_PairRun.mono_l (k : Nat) : ∀ al A B la lb R, LeO (impl_PairRun.l k al A B la lb R) (impl_PairRun.l (k + 1) al A B la lb R)
  | [], A, B, la, lb, R => LeO.refl _
  | a :: al, A, B, la, lb, R => by
    simp only [impl_PairRun.l]
    exact LeO.bind (pAct_mono _ _ _ _ _ _ _ _) (fun _ => LeO.bind (impl_PairRun.mono_l k al _ _ _ _ _) (fun _ => LeO.refl _))
theorem impl_PairRun.mono : ∀ a0 k, LeO (impl_PairRun.f k a0) (impl_PairRun.f (k + 1) a0) := by
  intro a0 k
  unfold impl_PairRun.f
  exact LeO.ite (LeO.refl _) (LeO.ite (LeO.refl _) (LeO.bind (impl_PairRun.mono_l _ _ _ _ _ _ _) (fun _ => LeO.refl _)))

theorem impl_PairRun.blk_at (w : World) (o : Obj) (n : Nat) (h : n = w.heap.size) : (w.alloc o).heap[n]? = some o := by subst h; exact blk_new w o
def impl_PairRun.PR (w : World) (r1 r2 : Int) (r3 r4 : List Int) (r5 : Int) (r6 : List Int) (r7 : Int) (e : Ending) (w' : World) : Prop := ∃ v2_ v3_ v5_ : Value, e = .returned (.tuple #[.agg #[.int .i64 r1, .int .i64 r2, v2_, v3_, .int .i64 r5], v5_, .int .i64 r7]) ∧ Kd.Q (Kd.int .i64) 3 w' w.heap.size (fun k_ => some k_ ≠ (v3_ : Value).ownBlock ∧ some k_ ≠ (v5_ : Value).ownBlock) v2_ r3 ∧ Kd.Q (Kd.int .i64) 3 w' w.heap.size (fun k_ => some k_ ≠ (v2_ : Value).ownBlock ∧ some k_ ≠ (v5_ : Value).ownBlock) v3_ r4 ∧ Kd.R (Kd.int .i64) 3 w' w.heap.size (fun k_ => some k_ ≠ (v2_ : Value).ownBlock ∧ some k_ ≠ (v3_ : Value).ownBlock) v5_ r6 ∧ Below w.heap.size w w'
theorem impl_PairRun.setx {gx n c : Nat} {lx : List Int} {w W : World} {b : Nat} {A B R : Int} {la lb : List Int} {vA vB : Value} (h : PairS (.slice (some ⟨gx, 0, none⟩) n c) lx w W b A B la lb R vA vB) (j : Nat) (x : Int) :
    PairS (.slice (some ⟨gx, 0, none⟩) n c) (lx.set j x) w (W.setCell ⟨gx, j, none⟩ (.int .i64 x)) b A B la lb R vA vB := by
  have ox : (Value.slice (some ⟨gx, 0, none⟩) n c).ownBlock = some gx := rfl
  have nb : b ≠ gx := fun e => Kd.R_ne h.hx h.hb (by decide) (by rw [ox, e])
  have nx := h.hx.1 gx ox
  have hp := (Kd.R_putg h.hx (j : Int) x).1
  simp only [Int.toNat_natCast] at hp
  refine ⟨blk_far h.hb nb _, h.hg, ?_, ?_, hp, below_set h.bel (Kd.R_base h.hx gx ox)⟩
  · exact Kd.Q_mono (Kd.Q_far (Kd.Q_tight rfl h.hA) (fun k hk e => nx.1 (by have e_ : k = gx := e; rw [← e_]; exact hk)) _) (fun k hk => Kd.Q_ok h.hA k hk.symm)
  · exact Kd.Q_mono (Kd.Q_far (Kd.Q_tight rfl h.hB) (fun k hk e => nx.2 (by have e_ : k = gx := e; rw [← e_]; exact hk)) _) (fun k hk => Kd.Q_ok h.hB k hk.symm)
theorem impl_PairRun.setc3 {w W : World} {b : Nat} {x0 x1 x2 x3 x4 : Value} {v u z : Value} {l m n : List Int} {base : Nat} {o1 o2 o3 : Nat → Prop} (hb : W.heap[b]? = some (.cells #[.int .i64 0, .int .i64 0, .slice none 0 0, .slice none 0 0, .int .i64 0] 37 (0, 0))) (h1 : Kd.Q (Kd.int .i64) 3 W base o1 v l) (h2 : Kd.Q (Kd.int .i64) 3 W base o2 u m) (h3 : Kd.R (Kd.int .i64) 3 W base o3 z n) (hB : Below w.heap.size w W) (hle : w.heap.size ≤ b) :
    (((((W.setCell ⟨b, 0, none⟩ x0).setCell ⟨b, 1, none⟩ x1).setCell ⟨b, 2, none⟩ x2).setCell ⟨b, 3, none⟩ x3).setCell ⟨b, 4, none⟩ x4).heap[b]? = some (.cells #[x0, x1, x2, x3, x4] 37 (0, 0)) ∧ Kd.Q (Kd.int .i64) 3 (((((W.setCell ⟨b, 0, none⟩ x0).setCell ⟨b, 1, none⟩ x1).setCell ⟨b, 2, none⟩ x2).setCell ⟨b, 3, none⟩ x3).setCell ⟨b, 4, none⟩ x4) base o1 v l ∧ Kd.Q (Kd.int .i64) 3 (((((W.setCell ⟨b, 0, none⟩ x0).setCell ⟨b, 1, none⟩ x1).setCell ⟨b, 2, none⟩ x2).setCell ⟨b, 3, none⟩ x3).setCell ⟨b, 4, none⟩ x4) base o2 u m ∧ Kd.R (Kd.int .i64) 3 (((((W.setCell ⟨b, 0, none⟩ x0).setCell ⟨b, 1, none⟩ x1).setCell ⟨b, 2, none⟩ x2).setCell ⟨b, 3, none⟩ x3).setCell ⟨b, 4, none⟩ x4) base o3 z n ∧ Below w.heap.size w (((((W.setCell ⟨b, 0, none⟩ x0).setCell ⟨b, 1, none⟩ x1).setCell ⟨b, 2, none⟩ x2).setCell ⟨b, 3, none⟩ x3).setCell ⟨b, 4, none⟩ x4) := by
  have h0 := blk_put (cs' := #[x0, .int .i64 0, .slice none 0 0, .slice none 0 0, .int .i64 0]) hb 0 x0 rfl
  have g1 := blk_put (cs' := #[x0, x1, .slice none 0 0, .slice none 0 0, .int .i64 0]) h0 1 x1 rfl
  have g2 := blk_put (cs' := #[x0, x1, x2, .slice none 0 0, .int .i64 0]) g1 2 x2 rfl
  have g3 := blk_put (cs' := #[x0, x1, x2, x3, .int .i64 0]) g2 3 x3 rfl
  have g4 := blk_put (cs' := #[x0, x1, x2, x3, x4]) g3 4 x4 rfl
  exact ⟨g4, Kd.Q_set (Kd.Q_set (Kd.Q_set (Kd.Q_set (Kd.Q_set h1 hb (by decide) _ _) h0 (by decide) _ _) g1 (by decide) _ _) g2 (by decide) _ _) g3 (by decide) _ _, Kd.Q_set (Kd.Q_set (Kd.Q_set (Kd.Q_set (Kd.Q_set h2 hb (by decide) _ _) h0 (by decide) _ _) g1 (by decide) _ _) g2 (by decide) _ _) g3 (by decide) _ _, Kd.R_set (Kd.R_set (Kd.R_set (Kd.R_set (Kd.R_set h3 hb (by decide) _ _) h0 (by decide) _ _) g1 (by decide) _ _) g2 (by decide) _ _) g3 (by decide) _ _, below_set (below_set (below_set (below_set (below_set hB hle) hle) hle) hle) hle⟩
set_option maxHeartbeats 2000000 in
set_option maxRecDepth 100000 in
theorem impl_PairRun.pr_long (A0 : Option Addr) (c0 n : Nat) (w : World) (h : 4096 < n) : Calls Try.prog 15 #[.slice A0 n c0] w (impl_PairRun.PR w 0 0 [] [] 0 [] 2) := by
  have h' : (4096 : Int) < (n : Int) := by omega
  have hu37 := Try.underlying37
  go_enter Try.func15, Try.ntmps15
  go_wp2
  refine bodyPost_ret (results_ctt rfl _ _ w.heap.size 37 #[.int .i64 0, .int .i64 0, .slice none 0 0, .slice none 0 0, .int .i64 0] (0, 0) _ rfl (by (with_reducible repeat (first | refine blk_drewN ?_ _ | refine blk_drew ?_)); exact blk_new _ _) Try.underlying37 rfl (by kernel_rfl)) rfl ?_
  exact ⟨_, _, _, rfl, Kd.Q_nil _ _ _ _ _, Kd.Q_nil _ _ _ _ _, Kd.R_nil _ _ _ _ _, by with_reducible (repeat (first | exact Below.refl _ _ | apply pw_below_drewN | apply below_drew1 | apply below_alloc))⟩
set_option maxHeartbeats 2000000 in
set_option maxRecDepth 100000 in
theorem impl_PairRun.pr_many (A0 : Option Addr) (c0 n : Nat) (w : World) (h : 300 < n) (h1 : ¬ 4096 < n) : Calls Try.prog 15 #[.slice A0 n c0] w (impl_PairRun.PR w 0 0 [] [] 0 [] 6) := by
  have h' : (300 : Int) < (n : Int) := by omega
  have h'' : (n : Int) ≤ 4096 := by omega
  clear h h1
  have hu37 := Try.underlying37
  go_enter Try.func15, Try.ntmps15
  go_wp2
  refine bodyPost_ret (results_ctt rfl _ _ w.heap.size 37 #[.int .i64 0, .int .i64 0, .slice none 0 0, .slice none 0 0, .int .i64 0] (0, 0) _ rfl (by (with_reducible repeat (first | refine blk_drewN ?_ _ | refine blk_drew ?_)); exact blk_new _ _) Try.underlying37 rfl (by kernel_rfl)) rfl ?_
  exact ⟨_, _, _, rfl, Kd.Q_nil _ _ _ _ _, Kd.Q_nil _ _ _ _ _, Kd.R_nil _ _ _ _ _, by with_reducible (repeat (first | exact Below.refl _ _ | apply pw_below_drewN | apply below_drew1 | apply below_alloc))⟩
set_option maxHeartbeats 4000000 in
set_option maxRecDepth 100000 in
theorem impl_PairRun.pr_go (k : Nat) (A0 : Option Addr) (c0 : Nat) (l0 : List S34) (w : World) (hr0 : Kd.C k34 w A0 l0.length l0) (hn : l0.length ≤ 300) (r1 r2 r5 : Int) (r3 r4 ws : List Int) (hl : impl_PairRun.l k l0 0 0 [] [] 0 = some ((r1, r2, r3, r4, r5), ws)) :
    Calls Try.prog 15 #[.slice A0 l0.length c0] w (impl_PairRun.PR w r1 r2 r3 r4 r5 ws 0) := by
  have HR := Aside0.mk hr0
  have HL := Aside0.mk hl
  have hn1 : (l0.length : Int) ≤ 300 := by omega
  have hn2 : (l0.length : Int) ≤ 4096 := by omega
  have hu37 := Try.underlying37
  have hu34 := Try.underlying34
  have hmk := print_make_int (P := Try.prog) 26 3 (.int .i64 0) 8 Try.underlying26 (by kernel_rfl) rfl (by decide) (l0.length : Int) (by omega) (by simp; omega)
  simp only [Int.toNat_natCast] at hmk
  clear hr0 hl hn
  go_enter Try.func15, Try.ntmps15
  go_wp2
  go_loopg [23] l0.length (fun gk v23 w' => ∃ (j : Nat) (A B R : Int) (la lb : List Int) (vA vB : Value) (ys zs : List Int), j ≤ l0.length ∧ gk = l0.length - j ∧ v23 = .int .i64 j ∧ Aside0 (impl_PairRun.l k (l0.drop j) A B la lb R = some ((r1, r2, r3, r4, r5), zs)) ∧ Aside0 (ys.length = j ∧ ws = ys ++ zs) ∧ Aside0 (PairS (.slice (some ⟨w.heap.size + 1 + 1, 0, none⟩) l0.length l0.length) (ys ++ List.replicate (l0.length - j) 0) (w.alloc (.cells #[.int .i64 0, .int .i64 0, .slice none 0 0, .slice none 0 0, .int .i64 0] 37)) w' (w.heap.size + 1) A B la lb R vA vB))
  case atStart =>
    refine ⟨0, 0, 0, 0, [], [], _, _, [], ws, by omega, by omega, rfl, HL, ⟨rfl, rfl⟩, ⟨⟨?_, by simp, Kd.Q_nil _ _ _ _ _, Kd.Q_nil _ _ _ _ _, ?_, by (repeat (first | exact Below.refl _ _ | apply below_alloc))⟩⟩⟩
    · exact blk_alloc (impl_PairRun.blk_at _ _ _ (by simp)) _
    · have h := own_made' ((w.alloc (.cells #[.int .i64 0, .int .i64 0, .slice none 0 0, .slice none 0 0, .int .i64 0] 37)).alloc (.cells #[.int .i64 0, .int .i64 0, .slice none 0 0, .slice none 0 0, .int .i64 0] 37)) (w.alloc (.cells #[.int .i64 0, .int .i64 0, .slice none 0 0, .slice none 0 0, .int .i64 0] 37)).heap.size 3 .i64 l0.length (by simp) (by omega)
      have hs1 : ((w.alloc (.cells #[.int .i64 0, .int .i64 0, .slice none 0 0, .slice none 0 0, .int .i64 0] 37)).alloc (.cells #[.int .i64 0, .int .i64 0, .slice none 0 0, .slice none 0 0, .int .i64 0] 37)).heap.size = w.heap.size + 1 + 1 := by simp
      rw [hs1] at h
      simp only [List.nil_append, Nat.sub_zero]
      exact Kd.R_of_own (enc := Value.int .i64) h (fun q hq => ⟨by simp [Value.ownBlock], by simp [Value.ownBlock]⟩)
  case round =>
    obtain ⟨j, A, B, R, la, lb, vA, vB, ys, zs, hj, hgk, rfl, HF, HY, HS⟩ := hrel
    have HGK := Aside0.mk hgk
    obtain ⟨Bo2, do2, e2, _⟩ := Kd.Q_slice HS.out.hA
    subst e2
    obtain ⟨Bo3, do3, e3, _⟩ := Kd.Q_slice HS.out.hB
    subst e3
    have hb3 := HS.out.hb
    unfold PairB at hb3
    have hr3 : wr.heap[w.heap.size]? = some (.cells #[.int .i64 0, .int .i64 0, .slice none 0 0, .slice none 0 0, .int .i64 0] 37 (0, 0)) := blk_below (blk_new _ _) HS.out.bel
    have HR3_ := Aside0.mk hr3
    have m0 := blk_cell hb3 0; have m1 := blk_cell hb3 1; have m2 := blk_cell hb3 2; have m3 := blk_cell hb3 3; have m4 := blk_cell hb3 4; have ltb3 := blk_lt hb3; have n0 := blk_cell hr3 0; have fn0 := blk_frozen hr3 0; have n1 := blk_cell hr3 1; have fn1 := blk_frozen hr3 1; have n2 := blk_cell hr3 2; have fn2 := blk_frozen hr3 2; have n3 := blk_cell hr3 3; have fn3 := blk_frozen hr3 3; have n4 := blk_cell hr3 4; have fn4 := blk_frozen hr3 4; have ltr3 := blk_lt hr3
    clear hb3 hr3
    by_cases hlt : j < l0.length
    · have hlt2 : (j : Int) < (l0.length : Int) := by omega
      have HLT := Aside0.mk hlt
      obtain ⟨ad, rfl, e0, e1⟩ := at_T34 (Kd.C_below HR.out (below_then (below_alloc (Below.refl _ _) _) (by simp) HS.out.bel)) (j : Int) (by omega) hlt2
      simp only [Int.toNat_natCast] at e0 e1
      have la0 := World.block_lt_of_cell? wr _ e0
      have la1 := World.block_lt_of_cell? wr _ e1
      have hf := HF.out
      rw [List.drop_eq_getElem_cons hlt] at hf
      simp only [impl_PairRun.l] at hf
      obtain ⟨⟨A1, B1, la1_, lb1_, R1, q1⟩, ha, hf2⟩ := Option.bind_eq_some_iff.mp hf
      have hx : rd_T34 l0 (j : Int) = l0[j] := by simp [rd_T34, List.getD_eq_getElem?_getD, List.getElem?_eq_getElem hlt]
      rw [← hx] at ha
      have HA := Aside0.mk ha
      have HF2 := Aside0.mk hf2
      have HJ := Aside0.mk hj
      clear hf ha hf2 HF hgk hx hlt hj
      go_wp2_with (go_at_call 40; ((refine (act_calls (.slice (some ⟨w.heap.size + 1 + 1, 0, none⟩) l0.length l0.length) (ys ++ List.replicate (l0.length - j) 0) k (w.heap.size + 1) A B R _ _ A1 B1 R1 q1 la lb la1_ lb1_ _ _ (w.alloc (.cells #[.int .i64 0, .int .i64 0, .slice none 0 0, .slice none 0 0, .int .i64 0] 37)) _ (HS.out.below (below_alloc (Below.refl _ _) _)) HA.out).mono ?_); rintro e w4 ⟨rfl, vA4, vB4, hS4⟩; have HS4 := Aside0.mk hS4; have hcell := Kd.R_celln (0 : Int) hS4.hx (j : Int) (by omega) (by omega); simp only [Int.toNat_natCast] at hcell; obtain ⟨kc, fc⟩ := hcell; clear hS4))
      go_roundg (l0.length - (j + 1))
      case rel =>
        obtain ⟨⟨⟨p0, p1, p2, p3, p4⟩, zs'⟩, h1, h2⟩ := Option.bind_eq_some_iff.mp HF2.out
        simp only [Option.some.injEq, Prod.mk.injEq] at h2
        obtain ⟨⟨rfl, rfl, rfl, rfl, rfl⟩, rfl⟩ := h2
        have hlen := HY.out.1
        have hltj := HLT.out
        have hp := impl_PairRun.setx HS4.out j q1
        have hset : (ys ++ List.replicate (l0.length - j) 0).set j q1 = (ys ++ [q1]) ++ List.replicate (l0.length - (j + 1)) 0 := by
          rw [List.set_append_right _ _ (by omega), hlen, Nat.sub_self, show l0.length - j = (l0.length - (j + 1)) + 1 by omega, List.replicate_succ, List.set_cons_zero, List.append_assoc, List.singleton_append]
        rw [hset] at hp
        exact ⟨j + 1, A1, B1, R1, la1_, lb1_, _, _, ys ++ [q1], zs', by omega, rfl, by go_num, ⟨h1⟩, ⟨by simp [hlen], by rw [HY.out.2]; simp⟩, ⟨hp⟩⟩
      case measure => have := HGK.out; have := HLT.out; omega
    · obtain rfl : j = l0.length := by omega
      have hf := HF.out
      rw [List.drop_length] at hf
      simp only [impl_PairRun.l, Option.some.injEq, Prod.mk.injEq] at hf
      obtain ⟨⟨rfl, rfl, rfl, rfl, rfl⟩, rfl⟩ := hf
      have hws : ws = ys := by rw [HY.out.2, List.append_nil]
      have hS := HS.out
      rw [Nat.sub_self, List.replicate_zero, List.append_nil, ← hws] at hS
      have HS5 := Aside0.mk hS
      clear hgk HGK hj hlt hws HF HY HS hS
      go_wp2
      have nx := HS5.out.hx.1 (w.heap.size + 1 + 1) rfl
      have q2 : Kd.Q (Kd.int .i64) 3 wr w.heap.size (fun k_ => some k_ ≠ (Value.slice Bo3 lb.length do3).ownBlock ∧ some k_ ≠ (Value.slice (some ⟨w.heap.size + 1 + 1, 0, none⟩) l0.length l0.length).ownBlock) (.slice Bo2 la.length do2) la :=
        Kd.Q_lower (Kd.Q_mono (Kd.Q_tight rfl HS5.out.hA) (fun k hk => ⟨Kd.Q_ok HS5.out.hA k hk.symm, fun e => nx.1 (by rw [← hk, e]; rfl)⟩)) (by simp)
      have q3 : Kd.Q (Kd.int .i64) 3 wr w.heap.size (fun k_ => some k_ ≠ (Value.slice Bo2 la.length do2).ownBlock ∧ some k_ ≠ (Value.slice (some ⟨w.heap.size + 1 + 1, 0, none⟩) l0.length l0.length).ownBlock) (.slice Bo3 lb.length do3) lb :=
        Kd.Q_lower (Kd.Q_mono (Kd.Q_tight rfl HS5.out.hB) (fun k hk => ⟨Kd.Q_ok HS5.out.hB k hk.symm, fun e => nx.2 (by rw [← hk, e]; rfl)⟩)) (by simp)
      have hs := @setc3 w wr w.heap.size (.int .i64 A) (.int .i64 B) (.slice Bo2 la.length do2) (.slice Bo3 lb.length do3) (.int .i64 R) _ _ _ _ _ _ w.heap.size _ _ _ HR3_.out q2 q3 (Kd.R_lower HS5.out.hx (by simp)) (below_then (below_alloc (Below.refl _ _) _) (by simp) HS5.out.bel) (Nat.le_refl _)
      exact bodyPost_ret (results_ctt rfl _ _ w.heap.size 37 #[.int .i64 A, .int .i64 B, .slice Bo2 la.length do2, .slice Bo3 lb.length do3, .int .i64 R] (0, 0) _ rfl hs.1 Try.underlying37 rfl (by kernel_rfl)) rfl ⟨_, _, _, rfl, hs.2.1, hs.2.2.1, hs.2.2.2.1, hs.2.2.2.2⟩

set_option maxHeartbeats 8000000 in
set_option maxRecDepth 100000 in
theorem impl_PairRun.calls (k : Nat) (A0 : Option Addr) (c0 : Nat) (l0 : List (S34)) (r1 : Int) (r2 : Int) (r3 : List Int) (r4 : List Int) (r5 : Int) (r6 : List Int) (r7 : Int) (w : World) (hr0 : Kd.C k34 w A0 l0.length l0) (hc0 : l0.length ≤ c0) (h : impl_PairRun.f k l0 = some (r1, r2, r3, r4, r5, r6, r7)) :
    Calls Try.prog 15 #[.slice A0 l0.length c0] w fun e w' => ∃ v2_ v3_ v5_ : Value, e = .returned (.tuple #[.agg #[.int .i64 r1, .int .i64 r2, v2_, v3_, .int .i64 r5], v5_, .int .i64 r7]) ∧ Kd.Q (Kd.int .i64) 3 w' w.heap.size (fun k_ => some k_ ≠ (v3_ : Value).ownBlock ∧ some k_ ≠ (v5_ : Value).ownBlock) v2_ r3 ∧ Kd.Q (Kd.int .i64) 3 w' w.heap.size (fun k_ => some k_ ≠ (v2_ : Value).ownBlock ∧ some k_ ≠ (v5_ : Value).ownBlock) v3_ r4 ∧ Kd.R (Kd.int .i64) 3 w' w.heap.size (fun k_ => some k_ ≠ (v2_ : Value).ownBlock ∧ some k_ ≠ (v3_ : Value).ownBlock) v5_ r6 ∧ Below w.heap.size w w' := by
  unfold impl_PairRun.f at h
  by_cases h1 : 4096 < l0.length
  · rw [if_pos h1] at h
    simp only [Option.some.injEq, Prod.mk.injEq] at h
    obtain ⟨rfl, rfl, rfl, rfl, rfl, rfl, rfl⟩ := h
    exact impl_PairRun.pr_long A0 c0 _ w h1
  rw [if_neg h1] at h
  by_cases h2 : 300 < l0.length
  · rw [if_pos h2] at h
    simp only [Option.some.injEq, Prod.mk.injEq] at h
    obtain ⟨rfl, rfl, rfl, rfl, rfl, rfl, rfl⟩ := h
    exact impl_PairRun.pr_many A0 c0 _ w h2 h1
  rw [if_neg h2] at h
  obtain ⟨⟨⟨p0, p1, p2, p3, p4⟩, ws⟩, hl, h⟩ := Option.bind_eq_some_iff.mp h
  simp only [Option.some.injEq, Prod.mk.injEq] at h
  obtain ⟨rfl, rfl, rfl, rfl, rfl, rfl, rfl⟩ := h
  exact impl_PairRun.pr_go k A0 c0 l0 w hr0 (by omega) _ _ _ _ _ _ hl

end Go.Proofs.Ytnceiegngfpmkaa.PSta
