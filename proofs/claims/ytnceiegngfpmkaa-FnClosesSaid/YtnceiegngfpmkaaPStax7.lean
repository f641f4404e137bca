-- Written by plug.py, a program of this work, over the kit's printing program: the functions that it prints, and this work's own proofs of those that it does not.
import Derived.Test.YtnceiegngfpmkaaPairAct
import Derived.Test.YtnceiegngfpmkaaPStax0
import Derived.Test.YtnceiegngfpmkaaPStax2
import Derived.Test.YtnceiegngfpmkaaPStax6
namespace Go.Proofs.Ytnceiegngfpmkaa.PSta
open Go.RowKit Go.Proofs.YtnceiegngfpmkaaW.PrintWords Go.Proofs.YtnceiegngfpmkaaW.PrintLast Go.Proofs.YtnceiegngfpmkaaW.PrintMore
attribute [local go_sem] max2_int min2_int max_two min_two max_three min_three max_four min_four   -- for this text's walks alone
set_option linter.unusedVariables false
set_option linter.unusedSimpArgs false

/-! ### impl_PairStep: function 19 -/
def impl_PairStep.f (k : Nat) (a0_0 : Int) (a0_1 : Int) (l0_2 : List Int) (l0_3 : List Int) (a0_4 : Int) (a1_0 : Int) (a1_1 : Int) : Option (Int × Int × List Int × List Int × Int × Int × Int) :=
 (impl_PairOK.f k a0_0 a0_1 l0_2 l0_3 a0_4).bind fun ok =>
  if ok = true then (pAct k a0_0 a0_1 l0_2 l0_3 a0_4 a1_0 a1_1).bind fun r => some (r.1, r.2.1, r.2.2.1, r.2.2.2.1, r.2.2.2.2.1, r.2.2.2.2.2, 0)
  else some (0, 0, [], [], 0, 0, 1)
theorem impl_PairStep.mono : ∀ a0 a1 a2 a3 a4 a5 a6 k, LeO (impl_PairStep.f k a0 a1 a2 a3 a4 a5 a6) (impl_PairStep.f (k + 1) a0 a1 a2 a3 a4 a5 a6) := by
 intro a0 a1 a2 a3 a4 a5 a6 k
 unfold impl_PairStep.f
 exact LeO.bind (impl_PairOK.mono _ _ _ _ _ _) (fun _ => LeO.ite (LeO.bind (pAct_mono _ _ _ _ _ _ _ _) (fun _ => LeO.refl _)) (LeO.refl _))

theorem impl_PairStep.blk_at (w : World) (o : Obj) (n : Nat) (h : n = w.heap.size) : (w.alloc o).heap[n]? = some o := by subst h; exact blk_new w o
def impl_PairStep.PS (w : World) (r1 r2 : Int) (r3 r4 : List Int) (r5 r6 r7 : Int) (e : Ending) (w' : World) : Prop := ∃ v2_ v3_ : Value, e = .returned (.tuple #[.agg #[.int .i64 r1, .int .i64 r2, v2_, v3_, .int .i64 r5], .int .i64 r6, .int .i64 r7]) ∧ Kd.Q (Kd.int .i64) 3 w' w.heap.size (fun k_ => some k_ ≠ (v3_ : Value).ownBlock) v2_ r3 ∧ Kd.Q (Kd.int .i64) 3 w' w.heap.size (fun k_ => some k_ ≠ (v2_ : Value).ownBlock) v3_ r4 ∧ Below w.heap.size w w'
/-- Five cells of a block of the type of pairs, stored: what stays. -/
theorem impl_PairStep.setc {w W : World} {b : Nat} {x0 x1 x2 x3 x4 : Value} {v u : Value} {l m : List Int} {base : Nat} (hb : W.heap[b]? = some (.cells #[.int .i64 0, .int .i64 0, .slice none 0 0, .slice none 0 0, .int .i64 0] 37 (0, 0))) (h1 : Kd.Q (Kd.int .i64) 3 W base (fun k => some k ≠ u.ownBlock) v l) (h2 : Kd.Q (Kd.int .i64) 3 W base (fun k => some k ≠ v.ownBlock) u m) (hB : Below w.heap.size w W) (hle : w.heap.size ≤ b) :
  (((((W.setCell ⟨b, 0, none⟩ x0).setCell ⟨b, 1, none⟩ x1).setCell ⟨b, 2, none⟩ x2).setCell ⟨b, 3, none⟩ x3).setCell ⟨b, 4, none⟩ x4).heap[b]? = some (.cells #[x0, x1, x2, x3, x4] 37 (0, 0)) ∧ Kd.Q (Kd.int .i64) 3 (((((W.setCell ⟨b, 0, none⟩ x0).setCell ⟨b, 1, none⟩ x1).setCell ⟨b, 2, none⟩ x2).setCell ⟨b, 3, none⟩ x3).setCell ⟨b, 4, none⟩ x4) base (fun k => some k ≠ u.ownBlock) v l ∧ Kd.Q (Kd.int .i64) 3 (((((W.setCell ⟨b, 0, none⟩ x0).setCell ⟨b, 1, none⟩ x1).setCell ⟨b, 2, none⟩ x2).setCell ⟨b, 3, none⟩ x3).setCell ⟨b, 4, none⟩ x4) base (fun k => some k ≠ v.ownBlock) u m ∧ Below w.heap.size w (((((W.setCell ⟨b, 0, none⟩ x0).setCell ⟨b, 1, none⟩ x1).setCell ⟨b, 2, none⟩ x2).setCell ⟨b, 3, none⟩ x3).setCell ⟨b, 4, none⟩ x4) := by
 have h0 := blk_put (cs' := #[x0, .int .i64 0, .slice none 0 0, .slice none 0 0, .int .i64 0]) hb 0 x0 rfl
 have g1 := blk_put (cs' := #[x0, x1, .slice none 0 0, .slice none 0 0, .int .i64 0]) h0 1 x1 rfl
 have g2 := blk_put (cs' := #[x0, x1, x2, .slice none 0 0, .int .i64 0]) g1 2 x2 rfl
 have g3 := blk_put (cs' := #[x0, x1, x2, x3, .int .i64 0]) g2 3 x3 rfl
 have g4 := blk_put (cs' := #[x0, x1, x2, x3, x4]) g3 4 x4 rfl
 exact ⟨g4, Kd.Q_set (Kd.Q_set (Kd.Q_set (Kd.Q_set (Kd.Q_set h1 hb (by decide) _ _) h0 (by decide) _ _) g1 (by decide) _ _) g2 (by decide) _ _) g3 (by decide) _ _, Kd.Q_set (Kd.Q_set (Kd.Q_set (Kd.Q_set (Kd.Q_set h2 hb (by decide) _ _) h0 (by decide) _ _) g1 (by decide) _ _) g2 (by decide) _ _) g3 (by decide) _ _, below_set (below_set (below_set (below_set (below_set hB hle) hle) hle) hle) hle⟩
set_option maxHeartbeats 4000000 in
set_option maxRecDepth 100000 in
theorem impl_PairStep.ps_bad (k : Nat) (A B R side kind : Int) (A2 A3 : Option Addr) (c2 c3 : Nat) (la lb : List Int) (w : World) (hr2 : Kd.C (Kd.int .i64) w A2 la.length la) (hc2 : la.length ≤ c2) (hr3 : Kd.C (Kd.int .i64) w A3 lb.length lb) (hc3 : lb.length ≤ c3) (hok : impl_PairOK.f k A B la lb R = some false) : Calls Try.prog 19 #[.agg #[.int .i64 A, .int .i64 B, .slice A2 la.length c2, .slice A3 lb.length c3, .int .i64 R], .agg #[.int .i64 side, .int .i64 kind]] w (impl_PairStep.PS w 0 0 [] [] 0 0 1) := by
 have HR2 := Aside0.mk hr2
 have HR3 := Aside0.mk hr3
 have HC2 := Aside0.mk hc2
 have HC3 := Aside0.mk hc3
 have HOK := Aside0.mk hok
 clear hr2 hr3 hc2 hc3 hok
 have hu37 := Try.underlying37
 have hu34 := Try.underlying34
 go_enter Try.func19, Try.ntmps19
 go_wp2_with (go_at_call 21; ((with_reducible refine (impl_PairOK.calls k _ _ _ _ _ _ _ _ _ _ _ (Kd.C_below HR2.out ?h2) HC2.out (Kd.C_below HR3.out ?h3) HC3.out HOK.out).mono ?_); (case h2 => repeat (first | exact Below.refl _ _ | apply below_alloc)); (case h3 => repeat (first | exact Below.refl _ _ | apply below_alloc)); rintro e w1 ⟨rfl, hbel⟩; have hB : Below w.heap.size w w1 := below_then (by repeat (first | exact Below.refl _ _ | apply below_alloc)) (by simp <;> omega) hbel; have HB1 := Aside0.mk hB; have hp : w1.heap[w.heap.size]? = some (.cells #[.int .i64 A, .int .i64 B, .slice A2 la.length c2, .slice A3 lb.length c3, .int .i64 R] 37 (0, 0)) := blk_below (blk_alloc (blk_alloc (blk_new _ _) _) _) hbel; have ha : w1.heap[w.heap.size + 1]? = some (.cells #[.int .i64 side, .int .i64 kind] 34 (0, 0)) := blk_below (blk_alloc (impl_PairStep.blk_at _ _ _ (by simp)) _) hbel; have hr : w1.heap[w.heap.size + 2]? = some (.cells #[.int .i64 0, .int .i64 0, .slice none 0 0, .slice none 0 0, .int .i64 0] 37 (0, 0)) := blk_below (impl_PairStep.blk_at _ _ _ (by simp)) hbel; have HP := Aside0.mk hp; have HA := Aside0.mk ha; have HR := Aside0.mk hr; have kp0 := blk_cell hp 0; have kp1 := blk_cell hp 1; have kp2 := blk_cell hp 2; have kp3 := blk_cell hp 3; have kp4 := blk_cell hp 4; have ka0 := blk_cell ha 0; have ka1 := blk_cell ha 1; have kr0 := blk_cell hr 0; have kr1 := blk_cell hr 1; have kr2 := blk_cell hr 2; have kr3 := blk_cell hr 3; have kr4 := blk_cell hr 4; have fr0 := blk_frozen hr 0; have fr1 := blk_frozen hr 1; have fr2 := blk_frozen hr 2; have fr3 := blk_frozen hr 3; have fr4 := blk_frozen hr 4; have lt2 := blk_lt hr; clear hp ha hr hbel hB))
 have hs := @setc w w1 (w.heap.size + 2) (.int .i64 0) (.int .i64 0) (.slice none 0 0) (.slice none 0 0) (.int .i64 0) (.slice none 0 0) (.slice none 0 0) [] [] w.heap.size HR.out (Kd.Q_nil _ _ _ _ _) (Kd.Q_nil _ _ _ _ _) HB1.out (by omega)
 exact bodyPost_ret (results_ctt rfl _ _ (w.heap.size + 2) 37 #[.int .i64 0, .int .i64 0, .slice none 0 0, .slice none 0 0, .int .i64 0] (0, 0) _ rfl hs.1 Try.underlying37 rfl (by kernel_rfl)) rfl ⟨_, _, rfl, hs.2.1, hs.2.2.1, hs.2.2.2⟩
set_option maxHeartbeats 4000000 in
set_option maxRecDepth 100000 in
theorem impl_PairStep.ps_good (k : Nat) (A B R side kind : Int) (A2 A3 : Option Addr) (c2 c3 : Nat) (la lb : List Int) (w : World) (hr2 : Kd.C (Kd.int .i64) w A2 la.length la) (hc2 : la.length ≤ c2) (hr3 : Kd.C (Kd.int .i64) w A3 lb.length lb) (hc3 : lb.length ≤ c3) (A' B' R' code : Int) (la' lb' : List Int) (hok : impl_PairOK.f k A B la lb R = some true) (hf : impl_clonePair.f A B la lb R = some (A, B, la, lb, R)) (hact : pAct k A B la lb R side kind = some (A', B', la', lb', R', code)) : Calls Try.prog 19 #[.agg #[.int .i64 A, .int .i64 B, .slice A2 la.length c2, .slice A3 lb.length c3, .int .i64 R], .agg #[.int .i64 side, .int .i64 kind]] w (impl_PairStep.PS w A' B' la' lb' R' code 0) := by
 have HF := Aside0.mk hf
 have HACT := Aside0.mk hact
 clear hf hact
 have HR2 := Aside0.mk hr2
 have HR3 := Aside0.mk hr3
 have HC2 := Aside0.mk hc2
 have HC3 := Aside0.mk hc3
 have HOK := Aside0.mk hok
 clear hr2 hr3 hc2 hc3 hok
 have hu37 := Try.underlying37
 have hu34 := Try.underlying34
 go_enter Try.func19, Try.ntmps19
 go_wp2_with (first | (go_at_call 21; ((with_reducible refine (impl_PairOK.calls k _ _ _ _ _ _ _ _ _ _ _ (Kd.C_below HR2.out ?h2) HC2.out (Kd.C_below HR3.out ?h3) HC3.out HOK.out).mono ?_); (case h2 => repeat (first | exact Below.refl _ _ | apply below_alloc)); (case h3 => repeat (first | exact Below.refl _ _ | apply below_alloc)); rintro e w1 ⟨rfl, hbel⟩; have hB : Below w.heap.size w w1 := below_then (by repeat (first | exact Below.refl _ _ | apply below_alloc)) (by simp <;> omega) hbel; have HB1 := Aside0.mk hB; have hp : w1.heap[w.heap.size]? = some (.cells #[.int .i64 A, .int .i64 B, .slice A2 la.length c2, .slice A3 lb.length c3, .int .i64 R] 37 (0, 0)) := blk_below (blk_alloc (blk_alloc (blk_new _ _) _) _) hbel; have ha : w1.heap[w.heap.size + 1]? = some (.cells #[.int .i64 side, .int .i64 kind] 34 (0, 0)) := blk_below (blk_alloc (impl_PairStep.blk_at _ _ _ (by simp)) _) hbel; have hr : w1.heap[w.heap.size + 2]? = some (.cells #[.int .i64 0, .int .i64 0, .slice none 0 0, .slice none 0 0, .int .i64 0] 37 (0, 0)) := blk_below (impl_PairStep.blk_at _ _ _ (by simp)) hbel; have HP := Aside0.mk hp; have HA := Aside0.mk ha; have HR := Aside0.mk hr; have kp0 := blk_cell hp 0; have kp1 := blk_cell hp 1; have kp2 := blk_cell hp 2; have kp3 := blk_cell hp 3; have kp4 := blk_cell hp 4; have ka0 := blk_cell ha 0; have ka1 := blk_cell ha 1; have kr0 := blk_cell hr 0; have kr1 := blk_cell hr 1; have kr2 := blk_cell hr 2; have kr3 := blk_cell hr 3; have kr4 := blk_cell hr 4; have fr0 := blk_frozen hr 0; have fr1 := blk_frozen hr 1; have fr2 := blk_frozen hr 2; have fr3 := blk_frozen hr 3; have fr4 := blk_frozen hr 4; have lt2 := blk_lt hr; clear hp ha hr hbel hB)) | (go_at_call 43; ((with_reducible refine (impl_clonePair.calls A B A2 c2 la A3 c3 lb R A B la lb R _ (Kd.C_below HR2.out ?hq2) HC2.out (Kd.C_below HR3.out ?hq3) HC3.out HF.out).mono ?_); (case hq2 => exact HB1.out); (case hq3 => exact HB1.out); rintro e w2 ⟨v2, v3, rfl, h2, h3, hbel⟩; obtain ⟨Ao2, co2, e2⟩ := Kd.R_slice h2; subst e2; obtain ⟨Ao3, co3, e3⟩ := Kd.R_slice h3; subst e3; have HB2 := Aside0.mk hbel; have H2 := Aside0.mk h2; have H3 := Aside0.mk h3; have ha2 := blk_below HA.out hbel; have q0 := blk_cell ha2 0; have q1 := blk_cell ha2 1; have ltb := blk_lt ha2; clear h2 h3 hbel ha2)) | (go_at_call 40; ((refine (act_calls (.slice none 0 0) [] k w2.heap.size A B R side kind A' B' R' code la lb la' lb' (.slice Ao2 la.length co2) (.slice Ao3 lb.length co3) w1 _ ?hS HACT.out).mono ?_); (case hS => exact ⟨blk_new _ _, HB2.out.size, Kd.Q_of_R (Kd.R_alloc H2.out _), Kd.Q_of_R (Kd.R_alloc H3.out _), Kd.R_nil _ _ _ _ _, below_alloc HB2.out _⟩); rintro e w3 ⟨rfl, v2, v3, hS⟩; obtain ⟨Bo2, do2, e2, _⟩ := Kd.Q_slice hS.hA; subst e2; obtain ⟨Bo3, do3, e3, _⟩ := Kd.Q_slice hS.hB; subst e3; have HS := Aside0.mk hS; have hb3 := hS.hb; unfold PairB at hb3; have m0 := blk_cell hb3 0; have m1 := blk_cell hb3 1; have m2 := blk_cell hb3 2; have m3 := blk_cell hb3 3; have m4 := blk_cell hb3 4; have hr3 := blk_below HR.out hS.bel; have n0 := blk_cell hr3 0; have n1 := blk_cell hr3 1; have n2 := blk_cell hr3 2; have n3 := blk_cell hr3 3; have n4 := blk_cell hr3 4; have fn0 := blk_frozen hr3 0; have fn1 := blk_frozen hr3 1; have fn2 := blk_frozen hr3 2; have fn3 := blk_frozen hr3 3; have fn4 := blk_frozen hr3 4; have HR3_ := Aside0.mk hr3; clear hS hb3 hr3)))
 have hs := @setc w w3 (w.heap.size + 2) (.int .i64 A') (.int .i64 B') (.slice Bo2 la'.length do2) (.slice Bo3 lb'.length do3) (.int .i64 R') (.slice Bo2 la'.length do2) (.slice Bo3 lb'.length do3) la' lb' w.heap.size HR3_.out (Kd.Q_lower HS.out.hA HB1.out.size) (Kd.Q_lower HS.out.hB HB1.out.size) (below_then HB1.out HB1.out.size HS.out.bel) (by omega)
 exact bodyPost_ret (results_ctt rfl _ _ (w.heap.size + 2) 37 #[.int .i64 A', .int .i64 B', .slice Bo2 la'.length do2, .slice Bo3 lb'.length do3, .int .i64 R'] (0, 0) _ rfl hs.1 Try.underlying37 rfl (by kernel_rfl)) rfl ⟨_, _, rfl, hs.2.1, hs.2.2.1, hs.2.2.2⟩

set_option maxHeartbeats 8000000 in
set_option maxRecDepth 100000 in
theorem impl_PairStep.calls (k : Nat) (a0_0 : Int) (a0_1 : Int) (A0_2 : Option Addr) (c0_2 : Nat) (l0_2 : List Int) (A0_3 : Option Addr) (c0_3 : Nat) (l0_3 : List Int) (a0_4 : Int) (a1_0 : Int) (a1_1 : Int) (r1 : Int) (r2 : Int) (r3 : List Int) (r4 : List Int) (r5 : Int) (r6 : Int) (r7 : Int) (w : World) (hr0_2 : Kd.C (Kd.int .i64) w A0_2 l0_2.length l0_2) (hc0_2 : l0_2.length ≤ c0_2) (hr0_3 : Kd.C (Kd.int .i64) w A0_3 l0_3.length l0_3) (hc0_3 : l0_3.length ≤ c0_3) (h : impl_PairStep.f k a0_0 a0_1 l0_2 l0_3 a0_4 a1_0 a1_1 = some (r1, r2, r3, r4, r5, r6, r7)) :
  Calls Try.prog 19 #[.agg #[.int .i64 a0_0, .int .i64 a0_1, .slice A0_2 l0_2.length c0_2, .slice A0_3 l0_3.length c0_3, .int .i64 a0_4], .agg #[.int .i64 a1_0, .int .i64 a1_1]] w fun e w' => ∃ v2_ v3_ : Value, e = .returned (.tuple #[.agg #[.int .i64 r1, .int .i64 r2, v2_, v3_, .int .i64 r5], .int .i64 r6, .int .i64 r7]) ∧ Kd.Q (Kd.int .i64) 3 w' w.heap.size (fun k_ => some k_ ≠ (v3_ : Value).ownBlock) v2_ r3 ∧ Kd.Q (Kd.int .i64) 3 w' w.heap.size (fun k_ => some k_ ≠ (v2_ : Value).ownBlock) v3_ r4 ∧ Below w.heap.size w w' := by
 replace h : ((impl_PairOK.f k a0_0 a0_1 l0_2 l0_3 a0_4).bind fun ok =>
  if ok = true then (pAct k a0_0 a0_1 l0_2 l0_3 a0_4 a1_0 a1_1).bind fun r => some (r.1, r.2.1, r.2.2.1, r.2.2.2.1, r.2.2.2.2.1, r.2.2.2.2.2, (0 : Int))
  else some (0, 0, [], [], 0, 0, 1)) = some (r1, r2, r3, r4, r5, r6, r7) := h
 obtain ⟨ok, hok, h⟩ := Option.bind_eq_some_iff.mp h
 cases ok with
 | true =>
  rw [if_pos rfl] at h
  obtain ⟨⟨q1, q2, q3, q4, q5, q6⟩, ha, h⟩ := Option.bind_eq_some_iff.mp h
  simp only [Option.some.injEq, Prod.mk.injEq] at h
  obtain ⟨rfl, rfl, rfl, rfl, rfl, rfl, rfl⟩ := h
  have hl : l0_2.length ≤ 200 ∧ l0_3.length ≤ 200 := by
   unfold pAct at ha
   by_cases hb : 0 ≤ a0_4 ∧ a0_4 ≤ 1000 ∧ l0_2.length ≤ 200 ∧ l0_3.length ≤ 200
   ·exact ⟨hb.2.2.1, hb.2.2.2⟩
   ·rw [if_pos hb] at ha; cases ha
  exact impl_PairStep.ps_good k _ _ _ _ _ _ _ _ _ _ _ w hr0_2 hc0_2 hr0_3 hc0_3 _ _ _ _ _ _ hok (by unfold impl_clonePair.f; rw [Option.bind_some, if_pos (by simp; omega), Option.bind_some, if_pos (by simp; omega)]; rfl) ha
 | false =>
  rw [if_neg (by decide)] at h
  simp only [Option.some.injEq, Prod.mk.injEq] at h
  obtain ⟨rfl, rfl, rfl, rfl, rfl, rfl, rfl⟩ := h
  exact impl_PairStep.ps_bad k _ _ _ _ _ _ _ _ _ _ _ w hr0_2 hc0_2 hr0_3 hc0_3 hok

/-! ### spec_l01In: function 35 -/
def spec_l01In.f (a0 : Int) (a1 : Int) (a2 : Int) : Option (Bool) := if a0 ≥ a1 then (some (decide (a0 ≤ a2))) else (some false)
set_option maxHeartbeats 8000000 in
set_option maxRecDepth 100000 in
theorem spec_l01In.calls (a0 : Int) (a1 : Int) (a2 : Int) (r : Bool) (w : World) (h : spec_l01In.f a0 a1 a2 = some r) :
  Calls Try.prog 35 #[.int .i64 a0, .int .i64 a1, .int .i64 a2] w fun e w' => e = .returned (.bool r) ∧ Drawn0 w w' := by
 have H : (if a0 ≥ a1 then (some (decide (a0 ≤ a2))) else (some false)) = some r := h
 clear h
 by_cases c4 : a0 ≥ a1
 ·rw [if_pos c4] at H
  have c4b0 : decide (a1 ≤ a0) = true := decide_eq_true c4
  clear c4
  obtain rfl := Option.some.inj H
  go_enter Try.func35, Try.ntmps35
  go_wp2
  go_ret
  exact ⟨by first | rfl | (simp; done) | (simp [*]; done), by repeat (first | exact Drawn0.refl _ | apply Drawn0.step)⟩
 ·rw [if_neg c4] at H
  have c4b0 : decide (a1 ≤ a0) = false := decide_eq_false c4
  clear c4
  obtain rfl := Option.some.inj H
  go_enter Try.func35, Try.ntmps35
  go_wp2
  go_ret
  exact ⟨by first | rfl | (simp; done) | (simp [*]; done), by repeat (first | exact Drawn0.refl _ | apply Drawn0.step)⟩

end Go.Proofs.Ytnceiegngfpmkaa.PSta
