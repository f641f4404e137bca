-- Written by plug.py, a program of this work, over the kit's printing program: the functions that it prints, and this work's own proofs of those that it does not.
import Derived.Test.YtnceiegngfpmkaaPairAct
import Derived.Test.YtnceiegngfpmkaaPStax0
import Derived.Test.YtnceiegngfpmkaaPStax2
import Derived.Test.YtnceiegngfpmkaaPStax6
namespace Go.Proofs.Ytnceiegngfpmkaa.PSta
open Go.RowKit Go.Proofs.YtnceiegngfpmkaaW.PrintWords Go.Proofs.YtnceiegngfpmkaaW.PrintLast Go.Proofs.YtnceiegngfpmkaaW.PrintMore
attribute [local go_sem] max2_int min2_int max_two min_two max_three min_three max_four min_four   -- for this text's walks alone
set_option linter.unusedVariables false
set_option linter.unusedSimpArgs false

/-! ### impl_PairDrain: function 17 -/
def impl_PairDrain.l (k : Nat) : Nat → Int → Int → List Int → List Int → Int → Option (Int × Int × List Int × List Int × Int × Int)
 | 0, A, B, la, lb, R => if la = [] ∧ lb = [] then some (A, B, la, lb, R, 0) else some (0, 0, [], [], 0, 7)
 | n + 1, A, B, la, lb, R => if la = [] ∧ lb = [] then some (A, B, la, lb, R, 0) else
   (pAct k A B la lb R 0 5).bind fun r => (pAct k r.1 r.2.1 r.2.2.1 r.2.2.2.1 r.2.2.2.2.1 1 5).bind fun q => impl_PairDrain.l k n q.1 q.2.1 q.2.2.1 q.2.2.2.1 q.2.2.2.2.1
def impl_PairDrain.f (k : Nat) (a0_0 : Int) (a0_1 : Int) (l0_2 : List Int) (l0_3 : List Int) (a0_4 : Int) : Option (Int × Int × List Int × List Int × Int × Int) :=
 (impl_PairOK.f k a0_0 a0_1 l0_2 l0_3 a0_4).bind fun ok =>
  if ok = true then impl_PairDrain.l k 1000 a0_0 a0_1 l0_2 l0_3 a0_4 else some (0, 0, [], [], 0, 1)
theorem impl_PairDrain.mono_l (k : Nat) : ∀ n A B la lb R, LeO (impl_PairDrain.l k n A B la lb R) (impl_PairDrain.l (k + 1) n A B la lb R)
 | 0, A, B, la, lb, R => LeO.refl _
 | n + 1, A, B, la, lb, R => by
  simp only [impl_PairDrain.l]
  exact LeO.ite (LeO.refl _) (LeO.bind (pAct_mono _ _ _ _ _ _ _ _) (fun _ => LeO.bind (pAct_mono _ _ _ _ _ _ _ _) (fun _ => impl_PairDrain.mono_l k n _ _ _ _ _)))
theorem impl_PairDrain.mono : ∀ a0 a1 a2 a3 a4 k, LeO (impl_PairDrain.f k a0 a1 a2 a3 a4) (impl_PairDrain.f (k + 1) a0 a1 a2 a3 a4) := by
 intro a0 a1 a2 a3 a4 k
 unfold impl_PairDrain.f
 exact LeO.bind (impl_PairOK.mono _ _ _ _ _ _) (fun _ => LeO.ite (impl_PairDrain.mono_l _ _ _ _ _ _ _) (LeO.refl _))

theorem impl_PairDrain.blk_at (w : World) (o : Obj) (n : Nat) (h : n = w.heap.size) : (w.alloc o).heap[n]? = some o := by subst h; exact blk_new w o
/-- Five cells of a block of the type of pairs, stored: what stays. -/
theorem impl_PairDrain.setc {w W : World} {b : Nat} {x0 x1 x2 x3 x4 : Value} {v u : Value} {l m : List Int} {base : Nat} (hb : W.heap[b]? = some (.cells #[.int .i64 0, .int .i64 0, .slice none 0 0, .slice none 0 0, .int .i64 0] 37 (0, 0))) (h1 : Kd.Q (Kd.int .i64) 3 W base (fun k => some k ≠ u.ownBlock) v l) (h2 : Kd.Q (Kd.int .i64) 3 W base (fun k => some k ≠ v.ownBlock) u m) (hB : Below w.heap.size w W) (hle : w.heap.size ≤ b) :
  (((((W.setCell ⟨b, 0, none⟩ x0).setCell ⟨b, 1, none⟩ x1).setCell ⟨b, 2, none⟩ x2).setCell ⟨b, 3, none⟩ x3).setCell ⟨b, 4, none⟩ x4).heap[b]? = some (.cells #[x0, x1, x2, x3, x4] 37 (0, 0)) ∧ Kd.Q (Kd.int .i64) 3 (((((W.setCell ⟨b, 0, none⟩ x0).setCell ⟨b, 1, none⟩ x1).setCell ⟨b, 2, none⟩ x2).setCell ⟨b, 3, none⟩ x3).setCell ⟨b, 4, none⟩ x4) base (fun k => some k ≠ u.ownBlock) v l ∧ Kd.Q (Kd.int .i64) 3 (((((W.setCell ⟨b, 0, none⟩ x0).setCell ⟨b, 1, none⟩ x1).setCell ⟨b, 2, none⟩ x2).setCell ⟨b, 3, none⟩ x3).setCell ⟨b, 4, none⟩ x4) base (fun k => some k ≠ v.ownBlock) u m ∧ Below w.heap.size w (((((W.setCell ⟨b, 0, none⟩ x0).setCell ⟨b, 1, none⟩ x1).setCell ⟨b, 2, none⟩ x2).setCell ⟨b, 3, none⟩ x3).setCell ⟨b, 4, none⟩ x4) := by
 have h0 := blk_put (cs' := #[x0, .int .i64 0, .slice none 0 0, .slice none 0 0, .int .i64 0]) hb 0 x0 rfl
 have g1 := blk_put (cs' := #[x0, x1, .slice none 0 0, .slice none 0 0, .int .i64 0]) h0 1 x1 rfl
 have g2 := blk_put (cs' := #[x0, x1, x2, .slice none 0 0, .int .i64 0]) g1 2 x2 rfl
 have g3 := blk_put (cs' := #[x0, x1, x2, x3, .int .i64 0]) g2 3 x3 rfl
 have g4 := blk_put (cs' := #[x0, x1, x2, x3, x4]) g3 4 x4 rfl
 exact ⟨g4, Kd.Q_set (Kd.Q_set (Kd.Q_set (Kd.Q_set (Kd.Q_set h1 hb (by decide) _ _) h0 (by decide) _ _) g1 (by decide) _ _) g2 (by decide) _ _) g3 (by decide) _ _, Kd.Q_set (Kd.Q_set (Kd.Q_set (Kd.Q_set (Kd.Q_set h2 hb (by decide) _ _) h0 (by decide) _ _) g1 (by decide) _ _) g2 (by decide) _ _) g3 (by decide) _ _, below_set (below_set (below_set (below_set (below_set hB hle) hle) hle) hle) hle⟩
def impl_PairDrain.PD (w : World) (r1 r2 : Int) (r3 r4 : List Int) (r5 r6 : Int) (e : Ending) (w' : World) : Prop := ∃ v2_ v3_ : Value, e = .returned (.tuple #[.agg #[.int .i64 r1, .int .i64 r2, v2_, v3_, .int .i64 r5], .int .i64 r6]) ∧ Kd.Q (Kd.int .i64) 3 w' w.heap.size (fun k_ => some k_ ≠ (v3_ : Value).ownBlock) v2_ r3 ∧ Kd.Q (Kd.int .i64) 3 w' w.heap.size (fun k_ => some k_ ≠ (v2_ : Value).ownBlock) v3_ r4 ∧ Below w.heap.size w w'
set_option maxHeartbeats 4000000 in
set_option maxRecDepth 100000 in
theorem impl_PairDrain.pd_bad (k : Nat) (A B R : Int) (A2 A3 : Option Addr) (c2 c3 : Nat) (la lb : List Int) (w : World) (hr2 : Kd.C (Kd.int .i64) w A2 la.length la) (hc2 : la.length ≤ c2) (hr3 : Kd.C (Kd.int .i64) w A3 lb.length lb) (hc3 : lb.length ≤ c3) (hok : impl_PairOK.f k A B la lb R = some false) : Calls Try.prog 17 #[.agg #[.int .i64 A, .int .i64 B, .slice A2 la.length c2, .slice A3 lb.length c3, .int .i64 R]] w (impl_PairDrain.PD w 0 0 [] [] 0 1) := by
 have HR2 := Aside0.mk hr2
 have HR3 := Aside0.mk hr3
 have HC2 := Aside0.mk hc2
 have HC3 := Aside0.mk hc3
 have HOK := Aside0.mk hok
 clear hr2 hr3 hc2 hc3 hok
 have hu37 := Try.underlying37
 have hu34 := Try.underlying34
 go_enter Try.func17, Try.ntmps17
 go_wp2_with (go_at_call 21; ((with_reducible refine (impl_PairOK.calls k _ _ _ _ _ _ _ _ _ _ _ (Kd.C_below HR2.out ?h2) HC2.out (Kd.C_below HR3.out ?h3) HC3.out HOK.out).mono ?_); (case h2 => repeat (first | exact Below.refl _ _ | apply below_alloc)); (case h3 => repeat (first | exact Below.refl _ _ | apply below_alloc)); rintro e w1 ⟨rfl, hbel⟩; have hB : Below w.heap.size w w1 := below_then (by repeat (first | exact Below.refl _ _ | apply below_alloc)) (by simp <;> omega) hbel; have HB1 := Aside0.mk hB; have hp : w1.heap[w.heap.size]? = some (.cells #[.int .i64 A, .int .i64 B, .slice A2 la.length c2, .slice A3 lb.length c3, .int .i64 R] 37 (0, 0)) := blk_below (blk_alloc (blk_new _ _) _) hbel; have hr : w1.heap[w.heap.size + 1]? = some (.cells #[.int .i64 0, .int .i64 0, .slice none 0 0, .slice none 0 0, .int .i64 0] 37 (0, 0)) := blk_below (impl_PairDrain.blk_at _ _ _ (by simp)) hbel; have HP := Aside0.mk hp; have HR := Aside0.mk hr; have kp0 := blk_cell hp 0; have kp1 := blk_cell hp 1; have kp2 := blk_cell hp 2; have kp3 := blk_cell hp 3; have kp4 := blk_cell hp 4; have kr0 := blk_cell hr 0; have kr1 := blk_cell hr 1; have kr2 := blk_cell hr 2; have kr3 := blk_cell hr 3; have kr4 := blk_cell hr 4; have fr0 := blk_frozen hr 0; have fr1 := blk_frozen hr 1; have fr2 := blk_frozen hr 2; have fr3 := blk_frozen hr 3; have fr4 := blk_frozen hr 4; have lt2 := blk_lt hr; clear hp hr hbel hB))
 have hs := @setc w w1 (w.heap.size + 1) (.int .i64 0) (.int .i64 0) (.slice none 0 0) (.slice none 0 0) (.int .i64 0) (.slice none 0 0) (.slice none 0 0) [] [] w.heap.size HR.out (Kd.Q_nil _ _ _ _ _) (Kd.Q_nil _ _ _ _ _) HB1.out (by omega)
 exact bodyPost_ret (results_ct rfl _ _ (w.heap.size + 1) 37 #[.int .i64 0, .int .i64 0, .slice none 0 0, .slice none 0 0, .int .i64 0] (0, 0) _ rfl hs.1 Try.underlying37 rfl (by kernel_rfl)) rfl ⟨_, _, rfl, hs.2.1, hs.2.2.1, hs.2.2.2⟩
set_option maxHeartbeats 4000000 in
set_option maxRecDepth 100000 in
theorem impl_PairDrain.pd_good (k : Nat) (A B R : Int) (A2 A3 : Option Addr) (c2 c3 : Nat) (la lb : List Int) (w : World) (hr2 : Kd.C (Kd.int .i64) w A2 la.length la) (hc2 : la.length ≤ c2) (hr3 : Kd.C (Kd.int .i64) w A3 lb.length lb) (hc3 : lb.length ≤ c3) (r1 r2 r5 r6 : Int) (r3 r4 : List Int) (hok : impl_PairOK.f k A B la lb R = some true) (hf : impl_clonePair.f A B la lb R = some (A, B, la, lb, R)) (hl : impl_PairDrain.l k 1000 A B la lb R = some (r1, r2, r3, r4, r5, r6)) : Calls Try.prog 17 #[.agg #[.int .i64 A, .int .i64 B, .slice A2 la.length c2, .slice A3 lb.length c3, .int .i64 R]] w (impl_PairDrain.PD w r1 r2 r3 r4 r5 r6) := by
 have HF := Aside0.mk hf
 have HL := Aside0.mk hl
 clear hf hl
 have HR2 := Aside0.mk hr2
 have HR3 := Aside0.mk hr3
 have HC2 := Aside0.mk hc2
 have HC3 := Aside0.mk hc3
 have HOK := Aside0.mk hok
 clear hr2 hr3 hc2 hc3 hok
 have hu37 := Try.underlying37
 have hu34 := Try.underlying34
 go_enter Try.func17, Try.ntmps17
 go_wp2_with (first | (go_at_call 21; ((with_reducible refine (impl_PairOK.calls k _ _ _ _ _ _ _ _ _ _ _ (Kd.C_below HR2.out ?h2) HC2.out (Kd.C_below HR3.out ?h3) HC3.out HOK.out).mono ?_); (case h2 => repeat (first | exact Below.refl _ _ | apply below_alloc)); (case h3 => repeat (first | exact Below.refl _ _ | apply below_alloc)); rintro e w1 ⟨rfl, hbel⟩; have hB : Below w.heap.size w w1 := below_then (by repeat (first | exact Below.refl _ _ | apply below_alloc)) (by simp <;> omega) hbel; have HB1 := Aside0.mk hB; have hp : w1.heap[w.heap.size]? = some (.cells #[.int .i64 A, .int .i64 B, .slice A2 la.length c2, .slice A3 lb.length c3, .int .i64 R] 37 (0, 0)) := blk_below (blk_alloc (blk_new _ _) _) hbel; have hr : w1.heap[w.heap.size + 1]? = some (.cells #[.int .i64 0, .int .i64 0, .slice none 0 0, .slice none 0 0, .int .i64 0] 37 (0, 0)) := blk_below (impl_PairDrain.blk_at _ _ _ (by simp)) hbel; have HP := Aside0.mk hp; have HR := Aside0.mk hr; have kp0 := blk_cell hp 0; have kp1 := blk_cell hp 1; have kp2 := blk_cell hp 2; have kp3 := blk_cell hp 3; have kp4 := blk_cell hp 4; have kr0 := blk_cell hr 0; have kr1 := blk_cell hr 1; have kr2 := blk_cell hr 2; have kr3 := blk_cell hr 3; have kr4 := blk_cell hr 4; have fr0 := blk_frozen hr 0; have fr1 := blk_frozen hr 1; have fr2 := blk_frozen hr 2; have fr3 := blk_frozen hr 3; have fr4 := blk_frozen hr 4; have lt2 := blk_lt hr; clear hp hr hbel hB)) | (go_at_call 43; ((with_reducible refine (impl_clonePair.calls A B A2 c2 la A3 c3 lb R A B la lb R _ (Kd.C_below HR2.out ?hq2) HC2.out (Kd.C_below HR3.out ?hq3) HC3.out HF.out).mono ?_); (case hq2 => exact HB1.out); (case hq3 => exact HB1.out); rintro e w2 ⟨v2, v3, rfl, h2, h3, hbel⟩; obtain ⟨Ao2, co2, e2⟩ := Kd.R_slice h2; subst e2; obtain ⟨Ao3, co3, e3⟩ := Kd.R_slice h3; subst e3; have HB2 := Aside0.mk hbel; have H2 := Aside0.mk h2; have H3 := Aside0.mk h3; have hr2 := blk_below HR.out hbel; have ltb := blk_lt hr2; clear h2 h3 hbel hr2)))
 go_loopg [11] 1000 (fun gk v11 w' => ∃ (j : Nat) (A B R : Int) (la lb : List Int) (v2 v3 : Value), j ≤ 1000 ∧ gk = 1000 - j ∧ v11 = .int .i64 j ∧ Aside0 (impl_PairDrain.l k (1000 - j) A B la lb R = some (r1, r2, r3, r4, r5, r6)) ∧ Aside0 (PairS (.slice none 0 0) [] w1 w' w2.heap.size A B la lb R v2 v3))
 case atStart => exact ⟨0, A, B, R, la, lb, _, _, by omega, rfl, rfl, HL, ⟨⟨blk_new _ _, HB2.out.size, Kd.Q_of_R (Kd.R_alloc H2.out _), Kd.Q_of_R (Kd.R_alloc H3.out _), Kd.R_nil _ _ _ _ _, below_alloc HB2.out _⟩⟩⟩
 case round =>
  clear HL HR2 HR3 HC2 HC3 HF HOK H2 H3 HP kp0 kp1 kp2 kp3 kp4 kr0 kr1 kr2 kr3 kr4 fr0 fr1 fr2 fr3 fr4
  have HLB2 := Aside0.mk ltb
  clear ltb
  generalize w2.heap.size = b at *
  clear HB2
  obtain ⟨j, A, B, R, la, lb, v2, v3, hj, hgk, rfl, HL, HS⟩ := hrel
  have HGK := Aside0.mk hgk
  clear hgk
  obtain ⟨Bo2, do2, e2, _⟩ := Kd.Q_slice HS.out.hA
  subst e2
  obtain ⟨Bo3, do3, e3, _⟩ := Kd.Q_slice HS.out.hB
  subst e3
  have hb3 := HS.out.hb; unfold PairB at hb3; have m0 := blk_cell hb3 0; have m1 := blk_cell hb3 1; have m2 := blk_cell hb3 2; have m3 := blk_cell hb3 3; have m4 := blk_cell hb3 4; have ltb3 := blk_lt hb3; have hr3 := blk_below HR.out HS.out.bel; have n0 := blk_cell hr3 0; have n1 := blk_cell hr3 1; have n2 := blk_cell hr3 2; have n3 := blk_cell hr3 3; have n4 := blk_cell hr3 4; have fn0 := blk_frozen hr3 0; have fn1 := blk_frozen hr3 1; have fn2 := blk_frozen hr3 2; have fn3 := blk_frozen hr3 3; have fn4 := blk_frozen hr3 4; have HR3_ := Aside0.mk hr3; clear hb3 hr3
  have hl := HL.out
  clear HL
  by_cases he : la = [] ∧ lb = []
  ·obtain ⟨ha0, hb0⟩ := he
   have hl2 : some (A, B, la, lb, R, (0 : Int)) = some (r1, r2, r3, r4, r5, r6) := by
    cases hn : 1000 - j with
    | zero => rw [hn, impl_PairDrain.l, if_pos ⟨ha0, hb0⟩] at hl; exact hl
    | succ n => rw [hn, impl_PairDrain.l, if_pos ⟨ha0, hb0⟩] at hl; exact hl
   clear hl
   simp only [Option.some.injEq, Prod.mk.injEq] at hl2
   obtain ⟨rfl, rfl, rfl, rfl, rfl, rfl⟩ := hl2
   subst ha0 hb0
   simp only [List.length_nil] at *
   by_cases hj2 : (j : Int) < 1000
   ·go_wp2
    have hs := @setc w wr (w.heap.size + 1) (.int .i64 A) (.int .i64 B) (.slice Bo2 0 do2) (.slice Bo3 0 do3) (.int .i64 R) (.slice Bo2 0 do2) (.slice Bo3 0 do3) [] [] w.heap.size HR3_.out (Kd.Q_lower HS.out.hA HB1.out.size) (Kd.Q_lower HS.out.hB HB1.out.size) (below_then HB1.out HB1.out.size HS.out.bel) (by omega)
    exact bodyPost_ret (results_ct rfl _ _ (w.heap.size + 1) 37 #[.int .i64 A, .int .i64 B, .slice Bo2 0 do2, .slice Bo3 0 do3, .int .i64 R] (0, 0) _ rfl hs.1 Try.underlying37 rfl (by kernel_rfl)) rfl ⟨_, _, rfl, hs.2.1, hs.2.2.1, hs.2.2.2⟩
   ·go_wp2
    have hs := @setc w wr (w.heap.size + 1) (.int .i64 A) (.int .i64 B) (.slice Bo2 0 do2) (.slice Bo3 0 do3) (.int .i64 R) (.slice Bo2 0 do2) (.slice Bo3 0 do3) [] [] w.heap.size HR3_.out (Kd.Q_lower HS.out.hA HB1.out.size) (Kd.Q_lower HS.out.hB HB1.out.size) (below_then HB1.out HB1.out.size HS.out.bel) (by omega)
    exact bodyPost_ret (results_ct rfl _ _ (w.heap.size + 1) 37 #[.int .i64 A, .int .i64 B, .slice Bo2 0 do2, .slice Bo3 0 do3, .int .i64 R] (0, 0) _ rfl hs.1 Try.underlying37 rfl (by kernel_rfl)) rfl ⟨_, _, rfl, hs.2.1, hs.2.2.1, hs.2.2.2⟩
  ·by_cases hj2 : j < 1000
   ·obtain ⟨n, hn⟩ : ∃ n, 1000 - j = n + 1 := ⟨1000 - j - 1, by omega⟩
    have hn2 : n = 1000 - (j + 1) := by omega
    subst hn2
    rw [hn, impl_PairDrain.l, if_neg he] at hl
    obtain ⟨⟨A1, B1, la1, lb1, R1, q1⟩, h1, hl⟩ := Option.bind_eq_some_iff.mp hl
    obtain ⟨⟨A2, B2, la2, lb2, R2, q2⟩, h2, hl⟩ := Option.bind_eq_some_iff.mp hl
    have HL := Aside0.mk hl
    have H1 := Aside0.mk h1
    have H2 := Aside0.mk h2
    have HJ := Aside0.mk hj2
    have hj3 : (j : Int) < 1000 := by omega
    clear hl h1 h2 hn hj2 hj
    by_cases ha0 : la = []
    ·have hb0 : ¬ lb = [] := fun h => he ⟨ha0, h⟩
     have z1 : ((la.length : Int) == 0) = true := by rw [ha0]; rfl
     have z2 : ((lb.length : Int) == 0) = false := by rw [beq_eq_false_iff_ne]; have := List.length_pos_iff.mpr hb0; omega
     clear he ha0 hb0
     go_wp2_with (first | (go_at_call 40; ((with_reducible refine (act_calls (.slice none 0 0) [] k b A B R 0 5 A1 B1 R1 q1 la lb la1 lb1 (.slice Bo2 la.length do2) (.slice Bo3 lb.length do3) w1 _ HS.out H1.out).mono ?_); rintro e w3 ⟨rfl, v23, v33, hS3⟩; have HS3 := Aside0.mk hS3; clear hS3)) | (go_at_call 40; ((with_reducible refine (act_calls (.slice none 0 0) [] k b A1 B1 R1 1 5 A2 B2 R2 q2 la1 lb1 la2 lb2 v23 v33 w1 _ HS3.out H2.out).mono ?_); rintro e w4 ⟨rfl, v24, v34, hS4⟩; have HS4 := Aside0.mk hS4; clear hS4)))
     go_roundg (1000 - (j + 1))
     case rel => exact ⟨j + 1, A2, B2, R2, la2, lb2, _, _, by have := HJ.out; omega, rfl, by go_num, HL, HS4⟩
     case measure => have := HGK.out; have := HJ.out; omega
    ·have z1 : ((la.length : Int) == 0) = false := by rw [beq_eq_false_iff_ne]; have := List.length_pos_iff.mpr ha0; omega
     clear he ha0
     go_wp2_with (first | (go_at_call 40; ((with_reducible refine (act_calls (.slice none 0 0) [] k b A B R 0 5 A1 B1 R1 q1 la lb la1 lb1 (.slice Bo2 la.length do2) (.slice Bo3 lb.length do3) w1 _ HS.out H1.out).mono ?_); rintro e w3 ⟨rfl, v23, v33, hS3⟩; have HS3 := Aside0.mk hS3; clear hS3)) | (go_at_call 40; ((with_reducible refine (act_calls (.slice none 0 0) [] k b A1 B1 R1 1 5 A2 B2 R2 q2 la1 lb1 la2 lb2 v23 v33 w1 _ HS3.out H2.out).mono ?_); rintro e w4 ⟨rfl, v24, v34, hS4⟩; have HS4 := Aside0.mk hS4; clear hS4)))
     go_roundg (1000 - (j + 1))
     case rel => exact ⟨j + 1, A2, B2, R2, la2, lb2, _, _, by have := HJ.out; omega, rfl, by go_num, HL, HS4⟩
     case measure => have := HGK.out; have := HJ.out; omega
   ·obtain rfl : j = 1000 := by omega
    rw [Nat.sub_self, impl_PairDrain.l, if_neg he] at hl
    simp only [Option.some.injEq, Prod.mk.injEq] at hl
    obtain ⟨rfl, rfl, rfl, rfl, rfl, rfl⟩ := hl
    clear hj2 hj
    by_cases ha0 : la = []
    ·have hb0 : ¬ lb = [] := fun h => he ⟨ha0, h⟩
     have z1 : decide (0 < (la.length : Int)) = false := by rw [ha0]; rfl
     have z2 : decide (0 < (lb.length : Int)) = true := by have := List.length_pos_iff.mpr hb0; simp only [decide_eq_true_eq]; omega
     have z3 : decide (0 < la.length) = false := by rw [ha0]; rfl
     have z4 : decide (0 < lb.length) = true := by have := List.length_pos_iff.mpr hb0; simp only [decide_eq_true_eq]; omega
     clear he ha0 hb0
     go_wp2
     have hs := @setc w wr (w.heap.size + 1) (.int .i64 0) (.int .i64 0) (.slice none 0 0) (.slice none 0 0) (.int .i64 0) (.slice none 0 0) (.slice none 0 0) [] [] w.heap.size HR3_.out (Kd.Q_nil _ _ _ _ _) (Kd.Q_nil _ _ _ _ _) (below_then HB1.out HB1.out.size HS.out.bel) (by omega)
     exact bodyPost_ret (results_ct rfl _ _ (w.heap.size + 1) 37 #[.int .i64 0, .int .i64 0, .slice none 0 0, .slice none 0 0, .int .i64 0] (0, 0) _ rfl hs.1 Try.underlying37 rfl (by kernel_rfl)) rfl ⟨_, _, rfl, hs.2.1, hs.2.2.1, hs.2.2.2⟩
    ·have z1 : decide (0 < (la.length : Int)) = true := by have := List.length_pos_iff.mpr ha0; simp only [decide_eq_true_eq]; omega
     have z3 : decide (0 < la.length) = true := by have := List.length_pos_iff.mpr ha0; simp only [decide_eq_true_eq]; omega
     clear he ha0
     go_wp2
     have hs := @setc w wr (w.heap.size + 1) (.int .i64 0) (.int .i64 0) (.slice none 0 0) (.slice none 0 0) (.int .i64 0) (.slice none 0 0) (.slice none 0 0) [] [] w.heap.size HR3_.out (Kd.Q_nil _ _ _ _ _) (Kd.Q_nil _ _ _ _ _) (below_then HB1.out HB1.out.size HS.out.bel) (by omega)
     exact bodyPost_ret (results_ct rfl _ _ (w.heap.size + 1) 37 #[.int .i64 0, .int .i64 0, .slice none 0 0, .slice none 0 0, .int .i64 0] (0, 0) _ rfl hs.1 Try.underlying37 rfl (by kernel_rfl)) rfl ⟨_, _, rfl, hs.2.1, hs.2.2.1, hs.2.2.2⟩

set_option maxHeartbeats 8000000 in
set_option maxRecDepth 100000 in
theorem impl_PairDrain.calls (k : Nat) (a0_0 : Int) (a0_1 : Int) (A0_2 : Option Addr) (c0_2 : Nat) (l0_2 : List Int) (A0_3 : Option Addr) (c0_3 : Nat) (l0_3 : List Int) (a0_4 : Int) (r1 : Int) (r2 : Int) (r3 : List Int) (r4 : List Int) (r5 : Int) (r6 : Int) (w : World) (hr0_2 : Kd.C (Kd.int .i64) w A0_2 l0_2.length l0_2) (hc0_2 : l0_2.length ≤ c0_2) (hr0_3 : Kd.C (Kd.int .i64) w A0_3 l0_3.length l0_3) (hc0_3 : l0_3.length ≤ c0_3) (h : impl_PairDrain.f k a0_0 a0_1 l0_2 l0_3 a0_4 = some (r1, r2, r3, r4, r5, r6)) :
  Calls Try.prog 17 #[.agg #[.int .i64 a0_0, .int .i64 a0_1, .slice A0_2 l0_2.length c0_2, .slice A0_3 l0_3.length c0_3, .int .i64 a0_4]] w fun e w' => ∃ v2_ v3_ : Value, e = .returned (.tuple #[.agg #[.int .i64 r1, .int .i64 r2, v2_, v3_, .int .i64 r5], .int .i64 r6]) ∧ Kd.Q (Kd.int .i64) 3 w' w.heap.size (fun k_ => some k_ ≠ (v3_ : Value).ownBlock) v2_ r3 ∧ Kd.Q (Kd.int .i64) 3 w' w.heap.size (fun k_ => some k_ ≠ (v2_ : Value).ownBlock) v3_ r4 ∧ Below w.heap.size w w' := by
 unfold impl_PairDrain.f at h
 obtain ⟨ok, hok, h⟩ := Option.bind_eq_some_iff.mp h
 cases ok with
 | true =>
  rw [if_pos rfl] at h
  by_cases hl : l0_2.length ≤ 200 ∧ l0_3.length ≤ 200
  ·exact impl_PairDrain.pd_good k _ _ _ _ _ _ _ _ _ w hr0_2 hc0_2 hr0_3 hc0_3 _ _ _ _ _ _ hok (by unfold impl_clonePair.f; rw [Option.bind_some, if_pos (by simp; omega), Option.bind_some, if_pos (by simp; omega)]; rfl) h
  ·exfalso
   have e : impl_PairDrain.l k (999 + 1) a0_0 a0_1 l0_2 l0_3 a0_4 = some (r1, r2, r3, r4, r5, r6) := h
   rw [impl_PairDrain.l, if_neg (fun he => hl (by rw [he.1, he.2]; simp))] at e
   obtain ⟨q, hq, _⟩ := Option.bind_eq_some_iff.mp e
   unfold pAct at hq
   rw [if_pos (fun hb => hl ⟨hb.2.2.1, hb.2.2.2⟩)] at hq
   cases hq
 | false =>
  rw [if_neg (by decide)] at h
  simp only [Option.some.injEq, Prod.mk.injEq] at h
  obtain ⟨rfl, rfl, rfl, rfl, rfl, rfl⟩ := h
  exact impl_PairDrain.pd_bad k _ _ _ _ _ _ _ _ _ w hr0_2 hc0_2 hr0_3 hc0_3 hok

end Go.Proofs.Ytnceiegngfpmkaa.PSta
