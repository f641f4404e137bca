/- Walks of a pair's act: what it does to the pair, while another row stays. -/
import Derived.Test.YtnceiegngfpmkaaPStax6
import Derived.Test.YtnceiegngfpmkaaPStax1
namespace Go.Proofs.Ytnceiegngfpmkaa.PSta
open Go.RowKit Go.Proofs.YtnceiegngfpmkaaW.PrintWords Go.Proofs.YtnceiegngfpmkaaW.PrintLast Go.Proofs.YtnceiegngfpmkaaW.PrintMore
attribute [local go_sem] max2_int min2_int max_two min_two max_three min_three max_four min_four
set_option linter.unusedVariables false
set_option linter.unusedSimpArgs false

/-- The pair's variable. -/
def PairB (W : World) (b : Nat) (A B : Int) (vA vB : Value) (R : Int) : Prop := W.heap[b]? = some (.cells #[.int .i64 A, .int .i64 B, vA, vB, .int .i64 R] 37 (0, 0))
def QI (w W : World) (v u : Value) (l : List Int) : Prop := Kd.Q (Kd.int .i64) 3 W w.heap.size (fun k => some k ≠ u.ownBlock) v l
structure PairS (vx : Value) (lx : List Int) (w W : World) (b : Nat) (A B : Int) (la lb : List Int) (R : Int) (vA vB : Value) : Prop where
 hb : PairB W b A B vA vB R
 hg : w.heap.size ≤ b
 hA : QI w W vA vB la
 hB : QI w W vB vA lb
 hx : Kd.R (Kd.int .i64) 3 W w.heap.size (fun k => some k ≠ vA.ownBlock ∧ some k ≠ vB.ownBlock) vx lx
 bel : Below w.heap.size w W
def ActPost (vx : Value) (lx : List Int) (w : World) (b : Nat) (A B : Int) (la lb : List Int) (R code : Int) (e : Ending) (W' : World) : Prop :=
 e = .returned (.int .i64 code) ∧ ∃ vA vB, PairS vx lx w W' b A B la lb R vA vB
def core (k : Nat) (st : Int) (inn out : List Int) (R kind : Int) : Option (Int × List Int × List Int × Int × Int) :=
 if kind = 5 ∧ inn = [] then some (st, inn, out, R, 5)
 else (impl_advance.f k st kind (if kind = 5 then inn.headD 0 else 0)).bind fun r =>
  if r.2.2 = 0 then
   (if r.2.1 = 0 then some (r.1, if kind = 5 then inn.drop 1 else inn, out, R, 0)
    else if out.length = 200 then some (st, inn, out, R, 7)
    else some (r.1, if kind = 5 then inn.drop 1 else inn, out ++ [r.2.1], if r.2.1 = 8 then mn (R + 1) 1000 else R, 0))
  else some (st, inn, out, R, r.2.2)
theorem info3_ : (Try.prog.info? 3).map (fun i => (i.zero, i.size, i.bytes)) = some (some (.int .i64 0), 1, 8) := by kernel_rfl
theorem PairS.below {vx : Value} {lx : List Int} {w W W1 : World} {b : Nat} {A B R : Int} {la lb : List Int} {vA vB : Value} (h : PairS vx lx w W b A B la lb R vA vB) (hb : Below W.heap.size W W1) : PairS vx lx w W1 b A B la lb R vA vB :=
 ⟨blk_below h.hb hb, h.hg, Kd.Q_below h.hA hb, Kd.Q_below h.hB hb, Kd.R_below h.hx hb, below_then h.bel h.bel.size hb⟩
theorem PairS.set0 {vx : Value} {lx : List Int} {w W : World} {b : Nat} {A B R : Int} {la lb : List Int} {vA vB : Value} (h : PairS vx lx w W b A B la lb R vA vB) (x : Int) : PairS vx lx w (W.setCell ⟨b, 0, none⟩ (.int .i64 x)) b x B la lb R vA vB :=
 ⟨by simpa [PairB] using blk_set h.hb 0 (.int .i64 x), h.hg, Kd.Q_set h.hA h.hb (by decide) _ _, Kd.Q_set h.hB h.hb (by decide) _ _, Kd.R_set h.hx h.hb (by decide) _ _, below_set h.bel h.hg⟩
theorem PairS.set1 {vx : Value} {lx : List Int} {w W : World} {b : Nat} {A B R : Int} {la lb : List Int} {vA vB : Value} (h : PairS vx lx w W b A B la lb R vA vB) (x : Int) : PairS vx lx w (W.setCell ⟨b, 1, none⟩ (.int .i64 x)) b A x la lb R vA vB :=
 ⟨by simpa [PairB] using blk_set h.hb 1 (.int .i64 x), h.hg, Kd.Q_set h.hA h.hb (by decide) _ _, Kd.Q_set h.hB h.hb (by decide) _ _, Kd.R_set h.hx h.hb (by decide) _ _, below_set h.bel h.hg⟩
theorem PairS.set4 {vx : Value} {lx : List Int} {w W : World} {b : Nat} {A B R : Int} {la lb : List Int} {vA vB : Value} (h : PairS vx lx w W b A B la lb R vA vB) (x : Int) : PairS vx lx w (W.setCell ⟨b, 4, none⟩ (.int .i64 x)) b A B la lb x vA vB :=
 ⟨by simpa [PairB] using blk_set h.hb 4 (.int .i64 x), h.hg, Kd.Q_set h.hA h.hb (by decide) _ _, Kd.Q_set h.hB h.hb (by decide) _ _, Kd.R_set h.hx h.hb (by decide) _ _, below_set h.bel h.hg⟩
/-- An append to B's way, stored. -/
theorem PairS.app3 {vx : Value} {lx : List Int} {w W W1 : World} {b : Nat} {A B R : Int} {la lb : List Int} {vA vB v1 : Value} {x : Int} (h : PairS vx lx w W b A B la lb R vA vB)
  (hQ : Kd.Q (Kd.int .i64) 3 W1 w.heap.size (fun k => some k ≠ vA.ownBlock) v1 (lb ++ [x])) (hbel : Below w.heap.size w W1) (hg : W.grownBy W1 vB.ownBlock) (hat : v1.ownBlock = vB.ownBlock ∨ ∃ k, v1.ownBlock = some k ∧ W.heap.size ≤ k) :
  PairS vx lx w (W1.setCell ⟨b, 3, none⟩ v1) b A B la (lb ++ [x]) R vA v1 := by
 have hb1 := blk_grown h.hb hg (Kd.Q_ne h.hB h.hb (by decide))
 have hA1 : QI w W1 vA v1 la := Kd.Q_mono (Kd.Q_after (ok := fun _ => True) (Kd.Q_mono h.hA (fun k hk => ⟨trivial, hk⟩)) hg hat) (fun _ hk => hk.2)
 have hx1 : Kd.R (Kd.int .i64) 3 W1 w.heap.size (fun k => some k ≠ vA.ownBlock ∧ some k ≠ v1.ownBlock) vx lx := Kd.R_after h.hx hg hat
 exact ⟨by simpa [PairB] using blk_set hb1 3 v1, h.hg, Kd.Q_set hA1 hb1 (by decide) _ _, Kd.Q_set hQ hb1 (by decide) _ _, Kd.R_set hx1 hb1 (by decide) _ _, below_set hbel h.hg⟩
theorem PairS.app2 {vx : Value} {lx : List Int} {w W W1 : World} {b : Nat} {A B R : Int} {la lb : List Int} {vA vB v1 : Value} {x : Int} (h : PairS vx lx w W b A B la lb R vA vB)
  (hQ : Kd.Q (Kd.int .i64) 3 W1 w.heap.size (fun k => some k ≠ vB.ownBlock) v1 (la ++ [x])) (hbel : Below w.heap.size w W1) (hg : W.grownBy W1 vA.ownBlock) (hat : v1.ownBlock = vA.ownBlock ∨ ∃ k, v1.ownBlock = some k ∧ W.heap.size ≤ k) :
  PairS vx lx w (W1.setCell ⟨b, 2, none⟩ v1) b A B (la ++ [x]) lb R v1 vB := by
 have hb1 := blk_grown h.hb hg (Kd.Q_ne h.hA h.hb (by decide))
 have hB1 : QI w W1 vB v1 lb := Kd.Q_mono (Kd.Q_after (ok := fun _ => True) (Kd.Q_mono h.hB (fun k hk => ⟨trivial, hk⟩)) hg hat) (fun _ hk => hk.2)
 have hx1 : Kd.R (Kd.int .i64) 3 W1 w.heap.size (fun k => some k ≠ v1.ownBlock ∧ some k ≠ vB.ownBlock) vx lx := Kd.R_mono (Kd.R_after (ok := fun k => some k ≠ vB.ownBlock) (Kd.R_mono h.hx (fun k hk => ⟨hk.2, hk.1⟩)) hg hat) (fun k hk => ⟨hk.2, hk.1⟩)
 exact ⟨by simpa [PairB] using blk_set hb1 2 v1, h.hg, Kd.Q_set hQ hb1 (by decide) _ _, Kd.Q_set hB1 hb1 (by decide) _ _, Kd.R_set hx1 hb1 (by decide) _ _, below_set hbel h.hg⟩
theorem ActPost.of {vx : Value} {lx : List Int} {w W' : World} {b : Nat} {A B R code : Int} {la lb : List Int} {vA vB : Value} (h : PairS vx lx w W' b A B la lb R vA vB) : ActPost vx lx w b A B la lb R code (.returned (.int .i64 code)) W' := ⟨rfl, vA, vB, h⟩
theorem own_drop1 (g o c n : Nat) : (Value.slice (if c = 1 then some ⟨g, o, none⟩ else some ⟨g, o + 1, none⟩) n (c - 1)).ownBlock = (Value.slice (some ⟨g, o, none⟩) (n + 1) c).ownBlock := by
 by_cases h : c = 1 <;> simp [h, Value.ownBlock]
theorem Qi_drop {w W : World} {u : Value} {g o c n : Nat} {x : Int} {la : List Int} (h : QI w W (.slice (some ⟨g, o, none⟩) n c) u (x :: la)) :
  QI w W (.slice (if c = 1 then some ⟨g, o, none⟩ else some ⟨g, o + 1, none⟩) (n - 1) (c - 1)) u la := by
 have h2 := Kd.Q_drop (k := 1) h (by simp)
 have e : (if c = 1 then (some ⟨g, o, none⟩ : Option Addr) else (some (⟨g, o, none⟩ : Addr)).map (·.add (1 * (Kd.int .i64).sz))) = (if c = 1 then some ⟨g, o, none⟩ else some ⟨g, o + 1, none⟩) := by
  by_cases hc : c = 1
  ·simp [hc]
  ·rw [if_neg hc, if_neg hc]; rfl
 rw [e] at h2
 exact h2
theorem PairS.drop2 {vx : Value} {lx : List Int} {w W : World} {b : Nat} {A B R : Int} {la lb : List Int} {vB : Value} {g o c n : Nat} {x : Int} (h : PairS vx lx w W b A B (x :: la) lb R (.slice (some ⟨g, o, none⟩) (n + 1) c) vB) :
  PairS vx lx w (W.setCell ⟨b, 2, none⟩ (.slice (if c = 1 then some ⟨g, o, none⟩ else some ⟨g, o + 1, none⟩) n (c - 1))) b A B la lb R (.slice (if c = 1 then some ⟨g, o, none⟩ else some ⟨g, o + 1, none⟩) n (c - 1)) vB := by
 have hA := Qi_drop h.hA
 have hB : QI w W vB (.slice (if c = 1 then some ⟨g, o, none⟩ else some ⟨g, o + 1, none⟩) n (c - 1)) lb := Kd.Q_mono h.hB (fun k hk => by rw [own_drop1 g o c n]; exact hk)
 exact ⟨by simpa [PairB] using blk_set h.hb 2 (.slice (if c = 1 then some ⟨g, o, none⟩ else some ⟨g, o + 1, none⟩) n (c - 1)), h.hg, Kd.Q_set hA h.hb (by decide) _ _, Kd.Q_set hB h.hb (by decide) _ _, Kd.R_set (Kd.R_mono h.hx (fun k hk => ⟨by rw [own_drop1 g o c n]; exact hk.1, hk.2⟩)) h.hb (by decide) _ _, below_set h.bel h.hg⟩
theorem PairS.drop3 {vx : Value} {lx : List Int} {w W : World} {b : Nat} {A B R : Int} {la lb : List Int} {vA : Value} {g o c n : Nat} {x : Int} (h : PairS vx lx w W b A B la (x :: lb) R vA (.slice (some ⟨g, o, none⟩) (n + 1) c)) :
  PairS vx lx w (W.setCell ⟨b, 3, none⟩ (.slice (if c = 1 then some ⟨g, o, none⟩ else some ⟨g, o + 1, none⟩) n (c - 1))) b A B la lb R vA (.slice (if c = 1 then some ⟨g, o, none⟩ else some ⟨g, o + 1, none⟩) n (c - 1)) := by
 have hB := Qi_drop h.hB
 have hA : QI w W vA (.slice (if c = 1 then some ⟨g, o, none⟩ else some ⟨g, o + 1, none⟩) n (c - 1)) la := Kd.Q_mono h.hA (fun k hk => by rw [own_drop1 g o c n]; exact hk)
 exact ⟨by simpa [PairB] using blk_set h.hb 3 (.slice (if c = 1 then some ⟨g, o, none⟩ else some ⟨g, o + 1, none⟩) n (c - 1)), h.hg, Kd.Q_set hA h.hb (by decide) _ _, Kd.Q_set hB h.hb (by decide) _ _, Kd.R_set (Kd.R_mono h.hx (fun k hk => ⟨hk.1, by rw [own_drop1 g o c n]; exact hk.2⟩)) h.hb (by decide) _ _, below_set h.bel h.hg⟩
set_option maxHeartbeats 4000000 in
set_option maxRecDepth 100000 in
theorem act_u0c (vx : Value) (lx : List Int) (k b : Nat) (A B R kind nx sent code : Int) (la lb : List Int) (Ai Ao : Option Addr) (ci co : Nat) (w W : World)
  (hS : PairS vx lx w W b A B la lb R (.slice Ai la.length ci) (.slice Ao lb.length co)) (h1 : 1 ≤ kind) (h4 : kind ≤ 4) (hR0 : 0 ≤ R) (hR1 : R ≤ 1000) (hadv : impl_advance.f k A kind 0 = some (nx, sent, code)) (hc : (code != 0) = true) :
  Calls Try.prog 40 #[.pointer (some ⟨b, 0, none⟩), .agg #[.int .i64 0, .int .i64 kind]] W (ActPost vx lx w b A B (la) (lb) R code) := by
 have HS := Aside0.mk hS
 have hb := hS.hb
 unfold PairB at hb
 have hlt := blk_lt hb
 have k0 : W.cell? ⟨b, 0, none⟩ = some (.int .i64 A) := (blk_cell hb 0).trans rfl
 have k1 : W.cell? ⟨b, 1, none⟩ = some (.int .i64 B) := (blk_cell hb 1).trans rfl
 have k2 : W.cell? ⟨b, 2, none⟩ = some (.slice Ai la.length ci) := (blk_cell hb 2).trans rfl
 have k3 : W.cell? ⟨b, 3, none⟩ = some (.slice Ao lb.length co) := (blk_cell hb 3).trans rfl
 have k4 : W.cell? ⟨b, 4, none⟩ = some (.int .i64 R) := (blk_cell hb 4).trans rfl
 have HA := Aside0.mk hadv
 have hk5 : (kind == 5) = false := by simp; omega
 clear hadv hS hb
 go_enter Try.func40, Try.ntmps40
 go_wp2_with (first | (go_at_call 37; refine (impl_inRange.calls kind 1 5 true _ (by unfold impl_inRange.f; rw [if_pos h1]; simp; omega)).mono ?_; rintro e w' ⟨rfl, ⟨nd, rfl⟩⟩))
 go_quiet (fail)
 go_wp2
 go_region_with (go_at_call 38; refine (impl_advance.calls k A kind 0 nx sent code _ HA.out).mono ?_; rintro e w1 ⟨rfl, hbel⟩; have HW1 : Below W.heap.size W w1 := (by refine below_then ?_ ?_ hbel; (repeat (first | exact Below.refl _ _ | apply below_alloc | apply pw_below_drewN | apply below_drew1)); (simp <;> omega)); have HA1 : Aside0 (w1.heap[W.heap.size]? = some (.cells #[.int .i64 0, .int .i64 kind] 34 (0, 0))) := Aside0.mk (by refine blk_below ?_ hbel; repeat (first | exact blk_new _ _ | apply blk_alloc | apply blk_drewN)); have q5 := (blk_cell HA1.out 1).trans (rfl : _ = some (Value.int .i64 kind)); have HS1 := Aside0.mk (HS.out.below HW1); clear hbel HS HW1)
 all_goals
  have hb1 := HS1.out.hb
  unfold PairB at hb1
  have q_0 : w1.cell? ⟨b, 0, none⟩ = some (.int .i64 A) := (blk_cell hb1 0).trans rfl
  have q_1 : w1.cell? ⟨b, 1, none⟩ = some (.int .i64 B) := (blk_cell hb1 1).trans rfl
  have q_2 : w1.cell? ⟨b, 2, none⟩ = some (.slice Ai la.length ci) := (blk_cell hb1 2).trans rfl
  have q_3 : w1.cell? ⟨b, 3, none⟩ = some (.slice Ao lb.length co) := (blk_cell hb1 3).trans rfl
  have q_4 : w1.cell? ⟨b, 4, none⟩ = some (.int .i64 R) := (blk_cell hb1 4).trans rfl
  have g_0 := blk_frozen hb1 0
  have g_1 := blk_frozen hb1 1
  have g_2 := blk_frozen hb1 2
  have g_3 := blk_frozen hb1 3
  have g_4 := blk_frozen hb1 4
  have HLT := Aside0.mk (blk_lt hb1)
  clear hb1 k0 k1 k2 k3 k4 hlt
  go_wp2
 all_goals go_ret
 all_goals
  exact ActPost.of HS1.out
set_option maxHeartbeats 4000000 in
set_option maxRecDepth 100000 in
theorem act_u0z (vx : Value) (lx : List Int) (k b : Nat) (A B R kind nx sent code : Int) (la lb : List Int) (Ai Ao : Option Addr) (ci co : Nat) (w W : World)
  (hS : PairS vx lx w W b A B la lb R (.slice Ai la.length ci) (.slice Ao lb.length co)) (h1 : 1 ≤ kind) (h4 : kind ≤ 4) (hR0 : 0 ≤ R) (hR1 : R ≤ 1000) (hadv : impl_advance.f k A kind 0 = some (nx, sent, code)) (hc : (code != 0) = false) (hs : (sent != 0) = false) :
  Calls Try.prog 40 #[.pointer (some ⟨b, 0, none⟩), .agg #[.int .i64 0, .int .i64 kind]] W (ActPost vx lx w b nx B (la) (lb) R 0) := by
 have HS := Aside0.mk hS
 have hb := hS.hb
 unfold PairB at hb
 have hlt := blk_lt hb
 have k0 : W.cell? ⟨b, 0, none⟩ = some (.int .i64 A) := (blk_cell hb 0).trans rfl
 have k1 : W.cell? ⟨b, 1, none⟩ = some (.int .i64 B) := (blk_cell hb 1).trans rfl
 have k2 : W.cell? ⟨b, 2, none⟩ = some (.slice Ai la.length ci) := (blk_cell hb 2).trans rfl
 have k3 : W.cell? ⟨b, 3, none⟩ = some (.slice Ao lb.length co) := (blk_cell hb 3).trans rfl
 have k4 : W.cell? ⟨b, 4, none⟩ = some (.int .i64 R) := (blk_cell hb 4).trans rfl
 have HA := Aside0.mk hadv
 have hk5 : (kind == 5) = false := by simp; omega
 clear hadv hS hb
 go_enter Try.func40, Try.ntmps40
 go_wp2_with (first | (go_at_call 37; refine (impl_inRange.calls kind 1 5 true _ (by unfold impl_inRange.f; rw [if_pos h1]; simp; omega)).mono ?_; rintro e w' ⟨rfl, ⟨nd, rfl⟩⟩))
 go_quiet (fail)
 go_wp2
 go_region_with (go_at_call 38; refine (impl_advance.calls k A kind 0 nx sent code _ HA.out).mono ?_; rintro e w1 ⟨rfl, hbel⟩; have HW1 : Below W.heap.size W w1 := (by refine below_then ?_ ?_ hbel; (repeat (first | exact Below.refl _ _ | apply below_alloc | apply pw_below_drewN | apply below_drew1)); (simp <;> omega)); have HA1 : Aside0 (w1.heap[W.heap.size]? = some (.cells #[.int .i64 0, .int .i64 kind] 34 (0, 0))) := Aside0.mk (by refine blk_below ?_ hbel; repeat (first | exact blk_new _ _ | apply blk_alloc | apply blk_drewN)); have q5 := (blk_cell HA1.out 1).trans (rfl : _ = some (Value.int .i64 kind)); have HS1 := Aside0.mk (HS.out.below HW1); clear hbel HS HW1)
 all_goals
  have hb1 := HS1.out.hb
  unfold PairB at hb1
  have q_0 : w1.cell? ⟨b, 0, none⟩ = some (.int .i64 A) := (blk_cell hb1 0).trans rfl
  have q_1 : w1.cell? ⟨b, 1, none⟩ = some (.int .i64 B) := (blk_cell hb1 1).trans rfl
  have q_2 : w1.cell? ⟨b, 2, none⟩ = some (.slice Ai la.length ci) := (blk_cell hb1 2).trans rfl
  have q_3 : w1.cell? ⟨b, 3, none⟩ = some (.slice Ao lb.length co) := (blk_cell hb1 3).trans rfl
  have q_4 : w1.cell? ⟨b, 4, none⟩ = some (.int .i64 R) := (blk_cell hb1 4).trans rfl
  have g_0 := blk_frozen hb1 0
  have g_1 := blk_frozen hb1 1
  have g_2 := blk_frozen hb1 2
  have g_3 := blk_frozen hb1 3
  have g_4 := blk_frozen hb1 4
  have HLT := Aside0.mk (blk_lt hb1)
  clear hb1 k0 k1 k2 k3 k4 hlt
  go_wp2
 all_goals go_ret
 all_goals
  exact ActPost.of (HS1.out.set0 nx)
set_option maxHeartbeats 4000000 in
set_option maxRecDepth 100000 in
theorem act_u0f (vx : Value) (lx : List Int) (k b : Nat) (A B R kind nx sent code : Int) (la lb : List Int) (Ai Ao : Option Addr) (ci co : Nat) (w W : World)
  (hS : PairS vx lx w W b A B la lb R (.slice Ai la.length ci) (.slice Ao lb.length co)) (h1 : 1 ≤ kind) (h4 : kind ≤ 4) (hR0 : 0 ≤ R) (hR1 : R ≤ 1000) (hadv : impl_advance.f k A kind 0 = some (nx, sent, code)) (hc : (code != 0) = false) (hs : (sent != 0) = true) (hl : lb.length = 200) :
  Calls Try.prog 40 #[.pointer (some ⟨b, 0, none⟩), .agg #[.int .i64 0, .int .i64 kind]] W (ActPost vx lx w b A B (la) (lb) R 7) := by
 have HS := Aside0.mk hS
 have hb := hS.hb
 unfold PairB at hb
 have hlt := blk_lt hb
 have k0 : W.cell? ⟨b, 0, none⟩ = some (.int .i64 A) := (blk_cell hb 0).trans rfl
 have k1 : W.cell? ⟨b, 1, none⟩ = some (.int .i64 B) := (blk_cell hb 1).trans rfl
 have k2 : W.cell? ⟨b, 2, none⟩ = some (.slice Ai la.length ci) := (blk_cell hb 2).trans rfl
 have k3 : W.cell? ⟨b, 3, none⟩ = some (.slice Ao lb.length co) := (blk_cell hb 3).trans rfl
 have k4 : W.cell? ⟨b, 4, none⟩ = some (.int .i64 R) := (blk_cell hb 4).trans rfl
 have HA := Aside0.mk hadv
 have hl2 : ((lb.length : Int) == 200) = true := by simp; omega
 clear hl
 have hk5 : (kind == 5) = false := by simp; omega
 clear hadv hS hb
 go_enter Try.func40, Try.ntmps40
 go_wp2_with (first | (go_at_call 37; refine (impl_inRange.calls kind 1 5 true _ (by unfold impl_inRange.f; rw [if_pos h1]; simp; omega)).mono ?_; rintro e w' ⟨rfl, ⟨nd, rfl⟩⟩))
 go_quiet (fail)
 go_wp2
 go_region_with (go_at_call 38; refine (impl_advance.calls k A kind 0 nx sent code _ HA.out).mono ?_; rintro e w1 ⟨rfl, hbel⟩; have HW1 : Below W.heap.size W w1 := (by refine below_then ?_ ?_ hbel; (repeat (first | exact Below.refl _ _ | apply below_alloc | apply pw_below_drewN | apply below_drew1)); (simp <;> omega)); have HA1 : Aside0 (w1.heap[W.heap.size]? = some (.cells #[.int .i64 0, .int .i64 kind] 34 (0, 0))) := Aside0.mk (by refine blk_below ?_ hbel; repeat (first | exact blk_new _ _ | apply blk_alloc | apply blk_drewN)); have q5 := (blk_cell HA1.out 1).trans (rfl : _ = some (Value.int .i64 kind)); have HS1 := Aside0.mk (HS.out.below HW1); clear hbel HS HW1)
 all_goals
  have hb1 := HS1.out.hb
  unfold PairB at hb1
  have q_0 : w1.cell? ⟨b, 0, none⟩ = some (.int .i64 A) := (blk_cell hb1 0).trans rfl
  have q_1 : w1.cell? ⟨b, 1, none⟩ = some (.int .i64 B) := (blk_cell hb1 1).trans rfl
  have q_2 : w1.cell? ⟨b, 2, none⟩ = some (.slice Ai la.length ci) := (blk_cell hb1 2).trans rfl
  have q_3 : w1.cell? ⟨b, 3, none⟩ = some (.slice Ao lb.length co) := (blk_cell hb1 3).trans rfl
  have q_4 : w1.cell? ⟨b, 4, none⟩ = some (.int .i64 R) := (blk_cell hb1 4).trans rfl
  have g_0 := blk_frozen hb1 0
  have g_1 := blk_frozen hb1 1
  have g_2 := blk_frozen hb1 2
  have g_3 := blk_frozen hb1 3
  have g_4 := blk_frozen hb1 4
  have HLT := Aside0.mk (blk_lt hb1)
  clear hb1 k0 k1 k2 k3 k4 hlt
  go_wp2
 all_goals go_ret
 all_goals
  exact ActPost.of HS1.out
set_option maxHeartbeats 4000000 in
set_option maxRecDepth 100000 in
theorem act_u0a (vx : Value) (lx : List Int) (k b : Nat) (A B R kind nx sent code : Int) (la lb : List Int) (Ai Ao : Option Addr) (ci co : Nat) (w W : World)
  (hS : PairS vx lx w W b A B la lb R (.slice Ai la.length ci) (.slice Ao lb.length co)) (h1 : 1 ≤ kind) (h4 : kind ≤ 4) (hR0 : 0 ≤ R) (hR1 : R ≤ 1000) (hadv : impl_advance.f k A kind 0 = some (nx, sent, code)) (hc : (code != 0) = false) (hs : (sent != 0) = true) (hl : lb.length < 200) (hs8 : (sent == 8) = false) :
  Calls Try.prog 40 #[.pointer (some ⟨b, 0, none⟩), .agg #[.int .i64 0, .int .i64 kind]] W (ActPost vx lx w b nx B (la) (lb ++ [sent]) R 0) := by
 have HS := Aside0.mk hS
 have hb := hS.hb
 unfold PairB at hb
 have hlt := blk_lt hb
 have k0 : W.cell? ⟨b, 0, none⟩ = some (.int .i64 A) := (blk_cell hb 0).trans rfl
 have k1 : W.cell? ⟨b, 1, none⟩ = some (.int .i64 B) := (blk_cell hb 1).trans rfl
 have k2 : W.cell? ⟨b, 2, none⟩ = some (.slice Ai la.length ci) := (blk_cell hb 2).trans rfl
 have k3 : W.cell? ⟨b, 3, none⟩ = some (.slice Ao lb.length co) := (blk_cell hb 3).trans rfl
 have k4 : W.cell? ⟨b, 4, none⟩ = some (.int .i64 R) := (blk_cell hb 4).trans rfl
 have HA := Aside0.mk hadv
 have hl2 : ((lb.length : Int) == 200) = false := by simp; omega
 have HLB := Aside0.mk hl
 clear hl
 have hk5 : (kind == 5) = false := by simp; omega
 clear hadv hS hb
 go_enter Try.func40, Try.ntmps40
 go_wp2_with (first | (go_at_call 37; refine (impl_inRange.calls kind 1 5 true _ (by unfold impl_inRange.f; rw [if_pos h1]; simp; omega)).mono ?_; rintro e w' ⟨rfl, ⟨nd, rfl⟩⟩))
 go_quiet (fail)
 go_wp2
 go_region_with (go_at_call 38; refine (impl_advance.calls k A kind 0 nx sent code _ HA.out).mono ?_; rintro e w1 ⟨rfl, hbel⟩; have HW1 : Below W.heap.size W w1 := (by refine below_then ?_ ?_ hbel; (repeat (first | exact Below.refl _ _ | apply below_alloc | apply pw_below_drewN | apply below_drew1)); (simp <;> omega)); have HA1 : Aside0 (w1.heap[W.heap.size]? = some (.cells #[.int .i64 0, .int .i64 kind] 34 (0, 0))) := Aside0.mk (by refine blk_below ?_ hbel; repeat (first | exact blk_new _ _ | apply blk_alloc | apply blk_drewN)); have q5 := (blk_cell HA1.out 1).trans (rfl : _ = some (Value.int .i64 kind)); have HS1 := Aside0.mk (HS.out.below HW1); clear hbel HS HW1)
 all_goals
  have hb1 := HS1.out.hb
  unfold PairB at hb1
  have q_0 : w1.cell? ⟨b, 0, none⟩ = some (.int .i64 A) := (blk_cell hb1 0).trans rfl
  have q_1 : w1.cell? ⟨b, 1, none⟩ = some (.int .i64 B) := (blk_cell hb1 1).trans rfl
  have q_2 : w1.cell? ⟨b, 2, none⟩ = some (.slice Ai la.length ci) := (blk_cell hb1 2).trans rfl
  have q_3 : w1.cell? ⟨b, 3, none⟩ = some (.slice Ao lb.length co) := (blk_cell hb1 3).trans rfl
  have q_4 : w1.cell? ⟨b, 4, none⟩ = some (.int .i64 R) := (blk_cell hb1 4).trans rfl
  have g_0 := blk_frozen hb1 0
  have g_1 := blk_frozen hb1 1
  have g_2 := blk_frozen hb1 2
  have g_3 := blk_frozen hb1 3
  have g_4 := blk_frozen hb1 4
  have HLT := Aside0.mk (blk_lt hb1)
  clear hb1 k0 k1 k2 k3 k4 hlt
  go_wp2_with (first | (at_builtin; refine Kd.Q_append (Kd.int .i64) (w0 := w) w.heap.size rfl (.tmp 86) (.tmp 88) 26 3 (.int .i64 0) 8 rfl Try.underlying26 info3_ rfl (by decide) (by decide) (.slice Ao lb.length co) lb sent [.int .i64 sent] (fun k_ => some k_ ≠ ((.slice Ai la.length ci) : Value).ownBlock) (fun _ => False) rfl rfl rfl (fun _ h => h.elim) (fun k hk he => by have := Kd.Q_lt HS1.out.hA k he.symm; omega) HS1.out.hB HS1.out.bel HS1.out.bel.size (by have := HLB.out; omega) ?_; intro v1 w2 hQ hbel2 hgrow hat; obtain ⟨A1, c1, hv, hle⟩ := Kd.Q_slice hQ; subst hv; have ha2 := blk_grown HA1.out hgrow (Kd.Q_ne HS1.out.hB HA1.out (by decide)); have hb2 := blk_grown HS1.out.hb hgrow (Kd.Q_ne HS1.out.hB HS1.out.hb (by decide)); have r0 := (blk_cell hb2 0).trans (rfl : _ = some ((.int .i64 A) : Value)); have t0 := blk_frozen hb2 0; have r1 := (blk_cell hb2 1).trans (rfl : _ = some ((.int .i64 B) : Value)); have t1 := blk_frozen hb2 1; have r2 := (blk_cell hb2 2).trans (rfl : _ = some ((.slice Ai la.length ci) : Value)); have t2 := blk_frozen hb2 2; have r3 := (blk_cell hb2 3).trans (rfl : _ = some ((.slice Ao lb.length co) : Value)); have t3 := blk_frozen hb2 3; have r4 := (blk_cell hb2 4).trans (rfl : _ = some ((.int .i64 R) : Value)); have t4 := blk_frozen hb2 4; have r5 := (blk_cell ha2 1).trans (rfl : _ = some (Value.int .i64 kind)); have HS2 := HS1.out.app3 hQ hbel2 hgrow hat; rw [List.length_append, List.length_singleton] at HS2; replace HS2 := Aside0.mk HS2; clear q_0 q_1 q_2 q_3 q_4 g_0 g_1 g_2 g_3 g_4 q5 hQ hbel2 hgrow hat hle ha2 hb2))
 all_goals go_ret
 all_goals
  exact ActPost.of (HS2.out.set0 nx)
set_option maxHeartbeats 4000000 in
set_option maxRecDepth 100000 in
theorem act_u0r (vx : Value) (lx : List Int) (k b : Nat) (A B R kind nx sent code : Int) (la lb : List Int) (Ai Ao : Option Addr) (ci co : Nat) (w W : World)
  (hS : PairS vx lx w W b A B la lb R (.slice Ai la.length ci) (.slice Ao lb.length co)) (h1 : 1 ≤ kind) (h4 : kind ≤ 4) (hR0 : 0 ≤ R) (hR1 : R ≤ 1000) (hadv : impl_advance.f k A kind 0 = some (nx, sent, code)) (hc : (code != 0) = false) (hs : (sent != 0) = true) (hl : lb.length < 200) (hs8 : (sent == 8) = true) :
  Calls Try.prog 40 #[.pointer (some ⟨b, 0, none⟩), .agg #[.int .i64 0, .int .i64 kind]] W (ActPost vx lx w b nx B (la) (lb ++ [sent]) (mn (R + 1) 1000) 0) := by
 have HS := Aside0.mk hS
 have hb := hS.hb
 unfold PairB at hb
 have hlt := blk_lt hb
 have k0 : W.cell? ⟨b, 0, none⟩ = some (.int .i64 A) := (blk_cell hb 0).trans rfl
 have k1 : W.cell? ⟨b, 1, none⟩ = some (.int .i64 B) := (blk_cell hb 1).trans rfl
 have k2 : W.cell? ⟨b, 2, none⟩ = some (.slice Ai la.length ci) := (blk_cell hb 2).trans rfl
 have k3 : W.cell? ⟨b, 3, none⟩ = some (.slice Ao lb.length co) := (blk_cell hb 3).trans rfl
 have k4 : W.cell? ⟨b, 4, none⟩ = some (.int .i64 R) := (blk_cell hb 4).trans rfl
 have HA := Aside0.mk hadv
 have hl2 : ((lb.length : Int) == 200) = false := by simp; omega
 have HLB := Aside0.mk hl
 clear hl
 have hk5 : (kind == 5) = false := by simp; omega
 clear hadv hS hb
 go_enter Try.func40, Try.ntmps40
 go_wp2_with (first | (go_at_call 37; refine (impl_inRange.calls kind 1 5 true _ (by unfold impl_inRange.f; rw [if_pos h1]; simp; omega)).mono ?_; rintro e w' ⟨rfl, ⟨nd, rfl⟩⟩))
 go_quiet (fail)
 go_wp2
 go_region_with (go_at_call 38; refine (impl_advance.calls k A kind 0 nx sent code _ HA.out).mono ?_; rintro e w1 ⟨rfl, hbel⟩; have HW1 : Below W.heap.size W w1 := (by refine below_then ?_ ?_ hbel; (repeat (first | exact Below.refl _ _ | apply below_alloc | apply pw_below_drewN | apply below_drew1)); (simp <;> omega)); have HA1 : Aside0 (w1.heap[W.heap.size]? = some (.cells #[.int .i64 0, .int .i64 kind] 34 (0, 0))) := Aside0.mk (by refine blk_below ?_ hbel; repeat (first | exact blk_new _ _ | apply blk_alloc | apply blk_drewN)); have q5 := (blk_cell HA1.out 1).trans (rfl : _ = some (Value.int .i64 kind)); have HS1 := Aside0.mk (HS.out.below HW1); clear hbel HS HW1)
 all_goals
  have hb1 := HS1.out.hb
  unfold PairB at hb1
  have q_0 : w1.cell? ⟨b, 0, none⟩ = some (.int .i64 A) := (blk_cell hb1 0).trans rfl
  have q_1 : w1.cell? ⟨b, 1, none⟩ = some (.int .i64 B) := (blk_cell hb1 1).trans rfl
  have q_2 : w1.cell? ⟨b, 2, none⟩ = some (.slice Ai la.length ci) := (blk_cell hb1 2).trans rfl
  have q_3 : w1.cell? ⟨b, 3, none⟩ = some (.slice Ao lb.length co) := (blk_cell hb1 3).trans rfl
  have q_4 : w1.cell? ⟨b, 4, none⟩ = some (.int .i64 R) := (blk_cell hb1 4).trans rfl
  have g_0 := blk_frozen hb1 0
  have g_1 := blk_frozen hb1 1
  have g_2 := blk_frozen hb1 2
  have g_3 := blk_frozen hb1 3
  have g_4 := blk_frozen hb1 4
  have HLT := Aside0.mk (blk_lt hb1)
  clear hb1 k0 k1 k2 k3 k4 hlt
  go_wp2_with (first | (at_builtin; refine Kd.Q_append (Kd.int .i64) (w0 := w) w.heap.size rfl (.tmp 86) (.tmp 88) 26 3 (.int .i64 0) 8 rfl Try.underlying26 info3_ rfl (by decide) (by decide) (.slice Ao lb.length co) lb sent [.int .i64 sent] (fun k_ => some k_ ≠ ((.slice Ai la.length ci) : Value).ownBlock) (fun _ => False) rfl rfl rfl (fun _ h => h.elim) (fun k hk he => by have := Kd.Q_lt HS1.out.hA k he.symm; omega) HS1.out.hB HS1.out.bel HS1.out.bel.size (by have := HLB.out; omega) ?_; intro v1 w2 hQ hbel2 hgrow hat; obtain ⟨A1, c1, hv, hle⟩ := Kd.Q_slice hQ; subst hv; have ha2 := blk_grown HA1.out hgrow (Kd.Q_ne HS1.out.hB HA1.out (by decide)); have hb2 := blk_grown HS1.out.hb hgrow (Kd.Q_ne HS1.out.hB HS1.out.hb (by decide)); have r0 := (blk_cell hb2 0).trans (rfl : _ = some ((.int .i64 A) : Value)); have t0 := blk_frozen hb2 0; have r1 := (blk_cell hb2 1).trans (rfl : _ = some ((.int .i64 B) : Value)); have t1 := blk_frozen hb2 1; have r2 := (blk_cell hb2 2).trans (rfl : _ = some ((.slice Ai la.length ci) : Value)); have t2 := blk_frozen hb2 2; have r3 := (blk_cell hb2 3).trans (rfl : _ = some ((.slice Ao lb.length co) : Value)); have t3 := blk_frozen hb2 3; have r4 := (blk_cell hb2 4).trans (rfl : _ = some ((.int .i64 R) : Value)); have t4 := blk_frozen hb2 4; have r5 := (blk_cell ha2 1).trans (rfl : _ = some (Value.int .i64 kind)); have HS2 := HS1.out.app3 hQ hbel2 hgrow hat; rw [List.length_append, List.length_singleton] at HS2; replace HS2 := Aside0.mk HS2; clear q_0 q_1 q_2 q_3 q_4 g_0 g_1 g_2 g_3 g_4 q5 hQ hbel2 hgrow hat hle ha2 hb2))
 all_goals go_ret
 all_goals
  first
   | (have e_ : mn (R + 1) 1000 = 1000 := (by unfold mn; (repeat' split) <;> omega); rw [e_]; exact ActPost.of ((HS2.out.set4 1000).set0 nx))
   | (have e_ : mn (R + 1) 1000 = (R + 1) := (by unfold mn; (repeat' split) <;> omega); rw [e_]; exact ActPost.of ((HS2.out.set4 (R + 1)).set0 nx))
set_option maxHeartbeats 4000000 in
set_option maxRecDepth 100000 in
theorem act_u1c (vx : Value) (lx : List Int) (k b : Nat) (A B R kind nx sent code : Int) (la lb : List Int) (Ai Ao : Option Addr) (ci co : Nat) (w W : World)
  (hS : PairS vx lx w W b A B la lb R (.slice Ao la.length co) (.slice Ai lb.length ci)) (h1 : 1 ≤ kind) (h4 : kind ≤ 4) (hR0 : 0 ≤ R) (hR1 : R ≤ 1000) (hadv : impl_advance.f k B kind 0 = some (nx, sent, code)) (hc : (code != 0) = true) :
  Calls Try.prog 40 #[.pointer (some ⟨b, 0, none⟩), .agg #[.int .i64 1, .int .i64 kind]] W (ActPost vx lx w b A B (la) (lb) R code) := by
 have HS := Aside0.mk hS
 have hb := hS.hb
 unfold PairB at hb
 have hlt := blk_lt hb
 have k0 : W.cell? ⟨b, 0, none⟩ = some (.int .i64 A) := (blk_cell hb 0).trans rfl
 have k1 : W.cell? ⟨b, 1, none⟩ = some (.int .i64 B) := (blk_cell hb 1).trans rfl
 have k2 : W.cell? ⟨b, 2, none⟩ = some (.slice Ao la.length co) := (blk_cell hb 2).trans rfl
 have k3 : W.cell? ⟨b, 3, none⟩ = some (.slice Ai lb.length ci) := (blk_cell hb 3).trans rfl
 have k4 : W.cell? ⟨b, 4, none⟩ = some (.int .i64 R) := (blk_cell hb 4).trans rfl
 have HA := Aside0.mk hadv
 have hk5 : (kind == 5) = false := by simp; omega
 clear hadv hS hb
 go_enter Try.func40, Try.ntmps40
 go_wp2_with (first | (go_at_call 37; refine (impl_inRange.calls kind 1 5 true _ (by unfold impl_inRange.f; rw [if_pos h1]; simp; omega)).mono ?_; rintro e w' ⟨rfl, ⟨nd, rfl⟩⟩))
 go_quiet (fail)
 go_wp2
 go_quiet (fail)
 go_wp2
 go_region_with (go_at_call 38; refine (impl_advance.calls k B kind 0 nx sent code _ HA.out).mono ?_; rintro e w1 ⟨rfl, hbel⟩; have HW1 : Below W.heap.size W w1 := (by refine below_then ?_ ?_ hbel; (repeat (first | exact Below.refl _ _ | apply below_alloc | apply pw_below_drewN | apply below_drew1)); (simp <;> omega)); have HA1 : Aside0 (w1.heap[W.heap.size]? = some (.cells #[.int .i64 1, .int .i64 kind] 34 (0, 0))) := Aside0.mk (by refine blk_below ?_ hbel; repeat (first | exact blk_new _ _ | apply blk_alloc | apply blk_drewN)); have q5 := (blk_cell HA1.out 1).trans (rfl : _ = some (Value.int .i64 kind)); have HS1 := Aside0.mk (HS.out.below HW1); clear hbel HS HW1)
 all_goals
  have hb1 := HS1.out.hb
  unfold PairB at hb1
  have q_0 : w1.cell? ⟨b, 0, none⟩ = some (.int .i64 A) := (blk_cell hb1 0).trans rfl
  have q_1 : w1.cell? ⟨b, 1, none⟩ = some (.int .i64 B) := (blk_cell hb1 1).trans rfl
  have q_2 : w1.cell? ⟨b, 2, none⟩ = some (.slice Ao la.length co) := (blk_cell hb1 2).trans rfl
  have q_3 : w1.cell? ⟨b, 3, none⟩ = some (.slice Ai lb.length ci) := (blk_cell hb1 3).trans rfl
  have q_4 : w1.cell? ⟨b, 4, none⟩ = some (.int .i64 R) := (blk_cell hb1 4).trans rfl
  have g_0 := blk_frozen hb1 0
  have g_1 := blk_frozen hb1 1
  have g_2 := blk_frozen hb1 2
  have g_3 := blk_frozen hb1 3
  have g_4 := blk_frozen hb1 4
  have HLT := Aside0.mk (blk_lt hb1)
  clear hb1 k0 k1 k2 k3 k4 hlt
  go_wp2
 all_goals go_ret
 all_goals
  exact ActPost.of HS1.out
set_option maxHeartbeats 4000000 in
set_option maxRecDepth 100000 in
theorem act_u1z (vx : Value) (lx : List Int) (k b : Nat) (A B R kind nx sent code : Int) (la lb : List Int) (Ai Ao : Option Addr) (ci co : Nat) (w W : World)
  (hS : PairS vx lx w W b A B la lb R (.slice Ao la.length co) (.slice Ai lb.length ci)) (h1 : 1 ≤ kind) (h4 : kind ≤ 4) (hR0 : 0 ≤ R) (hR1 : R ≤ 1000) (hadv : impl_advance.f k B kind 0 = some (nx, sent, code)) (hc : (code != 0) = false) (hs : (sent != 0) = false) :
  Calls Try.prog 40 #[.pointer (some ⟨b, 0, none⟩), .agg #[.int .i64 1, .int .i64 kind]] W (ActPost vx lx w b A nx (la) (lb) R 0) := by
 have HS := Aside0.mk hS
 have hb := hS.hb
 unfold PairB at hb
 have hlt := blk_lt hb
 have k0 : W.cell? ⟨b, 0, none⟩ = some (.int .i64 A) := (blk_cell hb 0).trans rfl
 have k1 : W.cell? ⟨b, 1, none⟩ = some (.int .i64 B) := (blk_cell hb 1).trans rfl
 have k2 : W.cell? ⟨b, 2, none⟩ = some (.slice Ao la.length co) := (blk_cell hb 2).trans rfl
 have k3 : W.cell? ⟨b, 3, none⟩ = some (.slice Ai lb.length ci) := (blk_cell hb 3).trans rfl
 have k4 : W.cell? ⟨b, 4, none⟩ = some (.int .i64 R) := (blk_cell hb 4).trans rfl
 have HA := Aside0.mk hadv
 have hk5 : (kind == 5) = false := by simp; omega
 clear hadv hS hb
 go_enter Try.func40, Try.ntmps40
 go_wp2_with (first | (go_at_call 37; refine (impl_inRange.calls kind 1 5 true _ (by unfold impl_inRange.f; rw [if_pos h1]; simp; omega)).mono ?_; rintro e w' ⟨rfl, ⟨nd, rfl⟩⟩))
 go_quiet (fail)
 go_wp2
 go_quiet (fail)
 go_wp2
 go_region_with (go_at_call 38; refine (impl_advance.calls k B kind 0 nx sent code _ HA.out).mono ?_; rintro e w1 ⟨rfl, hbel⟩; have HW1 : Below W.heap.size W w1 := (by refine below_then ?_ ?_ hbel; (repeat (first | exact Below.refl _ _ | apply below_alloc | apply pw_below_drewN | apply below_drew1)); (simp <;> omega)); have HA1 : Aside0 (w1.heap[W.heap.size]? = some (.cells #[.int .i64 1, .int .i64 kind] 34 (0, 0))) := Aside0.mk (by refine blk_below ?_ hbel; repeat (first | exact blk_new _ _ | apply blk_alloc | apply blk_drewN)); have q5 := (blk_cell HA1.out 1).trans (rfl : _ = some (Value.int .i64 kind)); have HS1 := Aside0.mk (HS.out.below HW1); clear hbel HS HW1)
 all_goals
  have hb1 := HS1.out.hb
  unfold PairB at hb1
  have q_0 : w1.cell? ⟨b, 0, none⟩ = some (.int .i64 A) := (blk_cell hb1 0).trans rfl
  have q_1 : w1.cell? ⟨b, 1, none⟩ = some (.int .i64 B) := (blk_cell hb1 1).trans rfl
  have q_2 : w1.cell? ⟨b, 2, none⟩ = some (.slice Ao la.length co) := (blk_cell hb1 2).trans rfl
  have q_3 : w1.cell? ⟨b, 3, none⟩ = some (.slice Ai lb.length ci) := (blk_cell hb1 3).trans rfl
  have q_4 : w1.cell? ⟨b, 4, none⟩ = some (.int .i64 R) := (blk_cell hb1 4).trans rfl
  have g_0 := blk_frozen hb1 0
  have g_1 := blk_frozen hb1 1
  have g_2 := blk_frozen hb1 2
  have g_3 := blk_frozen hb1 3
  have g_4 := blk_frozen hb1 4
  have HLT := Aside0.mk (blk_lt hb1)
  clear hb1 k0 k1 k2 k3 k4 hlt
  go_wp2
 all_goals go_ret
 all_goals
  exact ActPost.of (HS1.out.set1 nx)
set_option maxHeartbeats 4000000 in
set_option maxRecDepth 100000 in
theorem act_u1f (vx : Value) (lx : List Int) (k b : Nat) (A B R kind nx sent code : Int) (la lb : List Int) (Ai Ao : Option Addr) (ci co : Nat) (w W : World)
  (hS : PairS vx lx w W b A B la lb R (.slice Ao la.length co) (.slice Ai lb.length ci)) (h1 : 1 ≤ kind) (h4 : kind ≤ 4) (hR0 : 0 ≤ R) (hR1 : R ≤ 1000) (hadv : impl_advance.f k B kind 0 = some (nx, sent, code)) (hc : (code != 0) = false) (hs : (sent != 0) = true) (hl : la.length = 200) :
  Calls Try.prog 40 #[.pointer (some ⟨b, 0, none⟩), .agg #[.int .i64 1, .int .i64 kind]] W (ActPost vx lx w b A B (la) (lb) R 7) := by
 have HS := Aside0.mk hS
 have hb := hS.hb
 unfold PairB at hb
 have hlt := blk_lt hb
 have k0 : W.cell? ⟨b, 0, none⟩ = some (.int .i64 A) := (blk_cell hb 0).trans rfl
 have k1 : W.cell? ⟨b, 1, none⟩ = some (.int .i64 B) := (blk_cell hb 1).trans rfl
 have k2 : W.cell? ⟨b, 2, none⟩ = some (.slice Ao la.length co) := (blk_cell hb 2).trans rfl
 have k3 : W.cell? ⟨b, 3, none⟩ = some (.slice Ai lb.length ci) := (blk_cell hb 3).trans rfl
 have k4 : W.cell? ⟨b, 4, none⟩ = some (.int .i64 R) := (blk_cell hb 4).trans rfl
 have HA := Aside0.mk hadv
 have hl2 : ((la.length : Int) == 200) = true := by simp; omega
 clear hl
 have hk5 : (kind == 5) = false := by simp; omega
 clear hadv hS hb
 go_enter Try.func40, Try.ntmps40
 go_wp2_with (first | (go_at_call 37; refine (impl_inRange.calls kind 1 5 true _ (by unfold impl_inRange.f; rw [if_pos h1]; simp; omega)).mono ?_; rintro e w' ⟨rfl, ⟨nd, rfl⟩⟩))
 go_quiet (fail)
 go_wp2
 go_quiet (fail)
 go_wp2
 go_region_with (go_at_call 38; refine (impl_advance.calls k B kind 0 nx sent code _ HA.out).mono ?_; rintro e w1 ⟨rfl, hbel⟩; have HW1 : Below W.heap.size W w1 := (by refine below_then ?_ ?_ hbel; (repeat (first | exact Below.refl _ _ | apply below_alloc | apply pw_below_drewN | apply below_drew1)); (simp <;> omega)); have HA1 : Aside0 (w1.heap[W.heap.size]? = some (.cells #[.int .i64 1, .int .i64 kind] 34 (0, 0))) := Aside0.mk (by refine blk_below ?_ hbel; repeat (first | exact blk_new _ _ | apply blk_alloc | apply blk_drewN)); have q5 := (blk_cell HA1.out 1).trans (rfl : _ = some (Value.int .i64 kind)); have HS1 := Aside0.mk (HS.out.below HW1); clear hbel HS HW1)
 all_goals
  have hb1 := HS1.out.hb
  unfold PairB at hb1
  have q_0 : w1.cell? ⟨b, 0, none⟩ = some (.int .i64 A) := (blk_cell hb1 0).trans rfl
  have q_1 : w1.cell? ⟨b, 1, none⟩ = some (.int .i64 B) := (blk_cell hb1 1).trans rfl
  have q_2 : w1.cell? ⟨b, 2, none⟩ = some (.slice Ao la.length co) := (blk_cell hb1 2).trans rfl
  have q_3 : w1.cell? ⟨b, 3, none⟩ = some (.slice Ai lb.length ci) := (blk_cell hb1 3).trans rfl
  have q_4 : w1.cell? ⟨b, 4, none⟩ = some (.int .i64 R) := (blk_cell hb1 4).trans rfl
  have g_0 := blk_frozen hb1 0
  have g_1 := blk_frozen hb1 1
  have g_2 := blk_frozen hb1 2
  have g_3 := blk_frozen hb1 3
  have g_4 := blk_frozen hb1 4
  have HLT := Aside0.mk (blk_lt hb1)
  clear hb1 k0 k1 k2 k3 k4 hlt
  go_wp2
 all_goals go_ret
 all_goals
  exact ActPost.of HS1.out
set_option maxHeartbeats 4000000 in
set_option maxRecDepth 100000 in
theorem act_u1a (vx : Value) (lx : List Int) (k b : Nat) (A B R kind nx sent code : Int) (la lb : List Int) (Ai Ao : Option Addr) (ci co : Nat) (w W : World)
  (hS : PairS vx lx w W b A B la lb R (.slice Ao la.length co) (.slice Ai lb.length ci)) (h1 : 1 ≤ kind) (h4 : kind ≤ 4) (hR0 : 0 ≤ R) (hR1 : R ≤ 1000) (hadv : impl_advance.f k B kind 0 = some (nx, sent, code)) (hc : (code != 0) = false) (hs : (sent != 0) = true) (hl : la.length < 200) (hs8 : (sent == 8) = false) :
  Calls Try.prog 40 #[.pointer (some ⟨b, 0, none⟩), .agg #[.int .i64 1, .int .i64 kind]] W (ActPost vx lx w b A nx (la ++ [sent]) (lb) R 0) := by
 have HS := Aside0.mk hS
 have hb := hS.hb
 unfold PairB at hb
 have hlt := blk_lt hb
 have k0 : W.cell? ⟨b, 0, none⟩ = some (.int .i64 A) := (blk_cell hb 0).trans rfl
 have k1 : W.cell? ⟨b, 1, none⟩ = some (.int .i64 B) := (blk_cell hb 1).trans rfl
 have k2 : W.cell? ⟨b, 2, none⟩ = some (.slice Ao la.length co) := (blk_cell hb 2).trans rfl
 have k3 : W.cell? ⟨b, 3, none⟩ = some (.slice Ai lb.length ci) := (blk_cell hb 3).trans rfl
 have k4 : W.cell? ⟨b, 4, none⟩ = some (.int .i64 R) := (blk_cell hb 4).trans rfl
 have HA := Aside0.mk hadv
 have hl2 : ((la.length : Int) == 200) = false := by simp; omega
 have HLB := Aside0.mk hl
 clear hl
 have hk5 : (kind == 5) = false := by simp; omega
 clear hadv hS hb
 go_enter Try.func40, Try.ntmps40
 go_wp2_with (first | (go_at_call 37; refine (impl_inRange.calls kind 1 5 true _ (by unfold impl_inRange.f; rw [if_pos h1]; simp; omega)).mono ?_; rintro e w' ⟨rfl, ⟨nd, rfl⟩⟩))
 go_quiet (fail)
 go_wp2
 go_quiet (fail)
 go_wp2
 go_region_with (go_at_call 38; refine (impl_advance.calls k B kind 0 nx sent code _ HA.out).mono ?_; rintro e w1 ⟨rfl, hbel⟩; have HW1 : Below W.heap.size W w1 := (by refine below_then ?_ ?_ hbel; (repeat (first | exact Below.refl _ _ | apply below_alloc | apply pw_below_drewN | apply below_drew1)); (simp <;> omega)); have HA1 : Aside0 (w1.heap[W.heap.size]? = some (.cells #[.int .i64 1, .int .i64 kind] 34 (0, 0))) := Aside0.mk (by refine blk_below ?_ hbel; repeat (first | exact blk_new _ _ | apply blk_alloc | apply blk_drewN)); have q5 := (blk_cell HA1.out 1).trans (rfl : _ = some (Value.int .i64 kind)); have HS1 := Aside0.mk (HS.out.below HW1); clear hbel HS HW1)
 all_goals
  have hb1 := HS1.out.hb
  unfold PairB at hb1
  have q_0 : w1.cell? ⟨b, 0, none⟩ = some (.int .i64 A) := (blk_cell hb1 0).trans rfl
  have q_1 : w1.cell? ⟨b, 1, none⟩ = some (.int .i64 B) := (blk_cell hb1 1).trans rfl
  have q_2 : w1.cell? ⟨b, 2, none⟩ = some (.slice Ao la.length co) := (blk_cell hb1 2).trans rfl
  have q_3 : w1.cell? ⟨b, 3, none⟩ = some (.slice Ai lb.length ci) := (blk_cell hb1 3).trans rfl
  have q_4 : w1.cell? ⟨b, 4, none⟩ = some (.int .i64 R) := (blk_cell hb1 4).trans rfl
  have g_0 := blk_frozen hb1 0
  have g_1 := blk_frozen hb1 1
  have g_2 := blk_frozen hb1 2
  have g_3 := blk_frozen hb1 3
  have g_4 := blk_frozen hb1 4
  have HLT := Aside0.mk (blk_lt hb1)
  clear hb1 k0 k1 k2 k3 k4 hlt
  go_wp2_with (first | (at_builtin; refine Kd.Q_append (Kd.int .i64) (w0 := w) w.heap.size rfl (.tmp 86) (.tmp 88) 26 3 (.int .i64 0) 8 rfl Try.underlying26 info3_ rfl (by decide) (by decide) (.slice Ao la.length co) la sent [.int .i64 sent] (fun k_ => some k_ ≠ ((.slice Ai lb.length ci) : Value).ownBlock) (fun _ => False) rfl rfl rfl (fun _ h => h.elim) (fun k hk he => by have := Kd.Q_lt HS1.out.hB k he.symm; omega) HS1.out.hA HS1.out.bel HS1.out.bel.size (by have := HLB.out; omega) ?_; intro v1 w2 hQ hbel2 hgrow hat; obtain ⟨A1, c1, hv, hle⟩ := Kd.Q_slice hQ; subst hv; have ha2 := blk_grown HA1.out hgrow (Kd.Q_ne HS1.out.hA HA1.out (by decide)); have hb2 := blk_grown HS1.out.hb hgrow (Kd.Q_ne HS1.out.hA HS1.out.hb (by decide)); have r0 := (blk_cell hb2 0).trans (rfl : _ = some ((.int .i64 A) : Value)); have t0 := blk_frozen hb2 0; have r1 := (blk_cell hb2 1).trans (rfl : _ = some ((.int .i64 B) : Value)); have t1 := blk_frozen hb2 1; have r2 := (blk_cell hb2 2).trans (rfl : _ = some ((.slice Ao la.length co) : Value)); have t2 := blk_frozen hb2 2; have r3 := (blk_cell hb2 3).trans (rfl : _ = some ((.slice Ai lb.length ci) : Value)); have t3 := blk_frozen hb2 3; have r4 := (blk_cell hb2 4).trans (rfl : _ = some ((.int .i64 R) : Value)); have t4 := blk_frozen hb2 4; have r5 := (blk_cell ha2 1).trans (rfl : _ = some (Value.int .i64 kind)); have HS2 := HS1.out.app2 hQ hbel2 hgrow hat; rw [List.length_append, List.length_singleton] at HS2; replace HS2 := Aside0.mk HS2; clear q_0 q_1 q_2 q_3 q_4 g_0 g_1 g_2 g_3 g_4 q5 hQ hbel2 hgrow hat hle ha2 hb2))
 all_goals go_ret
 all_goals
  exact ActPost.of (HS2.out.set1 nx)
set_option maxHeartbeats 4000000 in
set_option maxRecDepth 100000 in
theorem act_u1r (vx : Value) (lx : List Int) (k b : Nat) (A B R kind nx sent code : Int) (la lb : List Int) (Ai Ao : Option Addr) (ci co : Nat) (w W : World)
  (hS : PairS vx lx w W b A B la lb R (.slice Ao la.length co) (.slice Ai lb.length ci)) (h1 : 1 ≤ kind) (h4 : kind ≤ 4) (hR0 : 0 ≤ R) (hR1 : R ≤ 1000) (hadv : impl_advance.f k B kind 0 = some (nx, sent, code)) (hc : (code != 0) = false) (hs : (sent != 0) = true) (hl : la.length < 200) (hs8 : (sent == 8) = true) :
  Calls Try.prog 40 #[.pointer (some ⟨b, 0, none⟩), .agg #[.int .i64 1, .int .i64 kind]] W (ActPost vx lx w b A nx (la ++ [sent]) (lb) (mn (R + 1) 1000) 0) := by
 have HS := Aside0.mk hS
 have hb := hS.hb
 unfold PairB at hb
 have hlt := blk_lt hb
 have k0 : W.cell? ⟨b, 0, none⟩ = some (.int .i64 A) := (blk_cell hb 0).trans rfl
 have k1 : W.cell? ⟨b, 1, none⟩ = some (.int .i64 B) := (blk_cell hb 1).trans rfl
 have k2 : W.cell? ⟨b, 2, none⟩ = some (.slice Ao la.length co) := (blk_cell hb 2).trans rfl
 have k3 : W.cell? ⟨b, 3, none⟩ = some (.slice Ai lb.length ci) := (blk_cell hb 3).trans rfl
 have k4 : W.cell? ⟨b, 4, none⟩ = some (.int .i64 R) := (blk_cell hb 4).trans rfl
 have HA := Aside0.mk hadv
 have hl2 : ((la.length : Int) == 200) = false := by simp; omega
 have HLB := Aside0.mk hl
 clear hl
 have hk5 : (kind == 5) = false := by simp; omega
 clear hadv hS hb
 go_enter Try.func40, Try.ntmps40
 go_wp2_with (first | (go_at_call 37; refine (impl_inRange.calls kind 1 5 true _ (by unfold impl_inRange.f; rw [if_pos h1]; simp; omega)).mono ?_; rintro e w' ⟨rfl, ⟨nd, rfl⟩⟩))
 go_quiet (fail)
 go_wp2
 go_quiet (fail)
 go_wp2
 go_region_with (go_at_call 38; refine (impl_advance.calls k B kind 0 nx sent code _ HA.out).mono ?_; rintro e w1 ⟨rfl, hbel⟩; have HW1 : Below W.heap.size W w1 := (by refine below_then ?_ ?_ hbel; (repeat (first | exact Below.refl _ _ | apply below_alloc | apply pw_below_drewN | apply below_drew1)); (simp <;> omega)); have HA1 : Aside0 (w1.heap[W.heap.size]? = some (.cells #[.int .i64 1, .int .i64 kind] 34 (0, 0))) := Aside0.mk (by refine blk_below ?_ hbel; repeat (first | exact blk_new _ _ | apply blk_alloc | apply blk_drewN)); have q5 := (blk_cell HA1.out 1).trans (rfl : _ = some (Value.int .i64 kind)); have HS1 := Aside0.mk (HS.out.below HW1); clear hbel HS HW1)
 all_goals
  have hb1 := HS1.out.hb
  unfold PairB at hb1
  have q_0 : w1.cell? ⟨b, 0, none⟩ = some (.int .i64 A) := (blk_cell hb1 0).trans rfl
  have q_1 : w1.cell? ⟨b, 1, none⟩ = some (.int .i64 B) := (blk_cell hb1 1).trans rfl
  have q_2 : w1.cell? ⟨b, 2, none⟩ = some (.slice Ao la.length co) := (blk_cell hb1 2).trans rfl
  have q_3 : w1.cell? ⟨b, 3, none⟩ = some (.slice Ai lb.length ci) := (blk_cell hb1 3).trans rfl
  have q_4 : w1.cell? ⟨b, 4, none⟩ = some (.int .i64 R) := (blk_cell hb1 4).trans rfl
  have g_0 := blk_frozen hb1 0
  have g_1 := blk_frozen hb1 1
  have g_2 := blk_frozen hb1 2
  have g_3 := blk_frozen hb1 3
  have g_4 := blk_frozen hb1 4
  have HLT := Aside0.mk (blk_lt hb1)
  clear hb1 k0 k1 k2 k3 k4 hlt
  go_wp2_with (first | (at_builtin; refine Kd.Q_append (Kd.int .i64) (w0 := w) w.heap.size rfl (.tmp 86) (.tmp 88) 26 3 (.int .i64 0) 8 rfl Try.underlying26 info3_ rfl (by decide) (by decide) (.slice Ao la.length co) la sent [.int .i64 sent] (fun k_ => some k_ ≠ ((.slice Ai lb.length ci) : Value).ownBlock) (fun _ => False) rfl rfl rfl (fun _ h => h.elim) (fun k hk he => by have := Kd.Q_lt HS1.out.hB k he.symm; omega) HS1.out.hA HS1.out.bel HS1.out.bel.size (by have := HLB.out; omega) ?_; intro v1 w2 hQ hbel2 hgrow hat; obtain ⟨A1, c1, hv, hle⟩ := Kd.Q_slice hQ; subst hv; have ha2 := blk_grown HA1.out hgrow (Kd.Q_ne HS1.out.hA HA1.out (by decide)); have hb2 := blk_grown HS1.out.hb hgrow (Kd.Q_ne HS1.out.hA HS1.out.hb (by decide)); have r0 := (blk_cell hb2 0).trans (rfl : _ = some ((.int .i64 A) : Value)); have t0 := blk_frozen hb2 0; have r1 := (blk_cell hb2 1).trans (rfl : _ = some ((.int .i64 B) : Value)); have t1 := blk_frozen hb2 1; have r2 := (blk_cell hb2 2).trans (rfl : _ = some ((.slice Ao la.length co) : Value)); have t2 := blk_frozen hb2 2; have r3 := (blk_cell hb2 3).trans (rfl : _ = some ((.slice Ai lb.length ci) : Value)); have t3 := blk_frozen hb2 3; have r4 := (blk_cell hb2 4).trans (rfl : _ = some ((.int .i64 R) : Value)); have t4 := blk_frozen hb2 4; have r5 := (blk_cell ha2 1).trans (rfl : _ = some (Value.int .i64 kind)); have HS2 := HS1.out.app2 hQ hbel2 hgrow hat; rw [List.length_append, List.length_singleton] at HS2; replace HS2 := Aside0.mk HS2; clear q_0 q_1 q_2 q_3 q_4 g_0 g_1 g_2 g_3 g_4 q5 hQ hbel2 hgrow hat hle ha2 hb2))
 all_goals go_ret
 all_goals
  first
   | (have e_ : mn (R + 1) 1000 = 1000 := (by unfold mn; (repeat' split) <;> omega); rw [e_]; exact ActPost.of ((HS2.out.set4 1000).set1 nx))
   | (have e_ : mn (R + 1) 1000 = (R + 1) := (by unfold mn; (repeat' split) <;> omega); rw [e_]; exact ActPost.of ((HS2.out.set4 (R + 1)).set1 nx))
set_option maxHeartbeats 4000000 in
set_option maxRecDepth 100000 in
theorem act_s0c (vx : Value) (lx : List Int) (k b g o : Nat) (A B R x nx sent code : Int) (la lb : List Int) (Ao : Option Addr) (ci co : Nat) (w W : World)
  (hS : PairS vx lx w W b A B (x :: la) lb R (.slice (some ⟨g, o, none⟩) (la.length + 1) ci) (.slice Ao lb.length co)) (hR0 : 0 ≤ R) (hR1 : R ≤ 1000) (hadv : impl_advance.f k A 5 x = some (nx, sent, code)) (hc : (code != 0) = true) :
  Calls Try.prog 40 #[.pointer (some ⟨b, 0, none⟩), .agg #[.int .i64 0, .int .i64 5]] W (ActPost vx lx w b A B ((x :: la)) (lb) R code) := by
 have HS := Aside0.mk hS
 have hb := hS.hb
 have hx : W.cell? ⟨g, o, none⟩ = some (.int .i64 x) := (Kd.Q_cell (0 : Int) hS.hA 0 (by omega) (by omega)).1
 have hgl : g < W.heap.size := World.block_lt_of_cell? _ _ hx
 unfold PairB at hb
 have hlt := blk_lt hb
 have k0 : W.cell? ⟨b, 0, none⟩ = some (.int .i64 A) := (blk_cell hb 0).trans rfl
 have k1 : W.cell? ⟨b, 1, none⟩ = some (.int .i64 B) := (blk_cell hb 1).trans rfl
 have k2 : W.cell? ⟨b, 2, none⟩ = some (.slice (some ⟨g, o, none⟩) (la.length + 1) ci) := (blk_cell hb 2).trans rfl
 have k3 : W.cell? ⟨b, 3, none⟩ = some (.slice Ao lb.length co) := (blk_cell hb 3).trans rfl
 have k4 : W.cell? ⟨b, 4, none⟩ = some (.int .i64 R) := (blk_cell hb 4).trans rfl
 have HA := Aside0.mk hadv
 clear hadv hS hb
 go_enter Try.func40, Try.ntmps40
 go_wp2_with (first | (go_at_call 37; refine (impl_inRange.calls 5 1 5 true _ rfl).mono ?_; rintro e w' ⟨rfl, ⟨nd, rfl⟩⟩))
 go_quiet (fail)
 go_wp2
 go_region_with (go_at_call 38; refine (impl_advance.calls k A 5 x nx sent code _ HA.out).mono ?_; rintro e w1 ⟨rfl, hbel⟩; have HW1 : Below W.heap.size W w1 := (by refine below_then ?_ ?_ hbel; (repeat (first | exact Below.refl _ _ | apply below_alloc | apply pw_below_drewN | apply below_drew1)); (simp <;> omega)); have HA1 : Aside0 (w1.heap[W.heap.size]? = some (.cells #[.int .i64 0, .int .i64 5] 34 (0, 0))) := Aside0.mk (by refine blk_below ?_ hbel; repeat (first | exact blk_new _ _ | apply blk_alloc | apply blk_drewN)); have q5 := (blk_cell HA1.out 1).trans (rfl : _ = some (Value.int .i64 5)); have HS1 := Aside0.mk (HS.out.below HW1); clear hbel HS HW1)
 all_goals
  have hb1 := HS1.out.hb
  unfold PairB at hb1
  have q_0 : w1.cell? ⟨b, 0, none⟩ = some (.int .i64 A) := (blk_cell hb1 0).trans rfl
  have q_1 : w1.cell? ⟨b, 1, none⟩ = some (.int .i64 B) := (blk_cell hb1 1).trans rfl
  have q_2 : w1.cell? ⟨b, 2, none⟩ = some (.slice (some ⟨g, o, none⟩) (la.length + 1) ci) := (blk_cell hb1 2).trans rfl
  have q_3 : w1.cell? ⟨b, 3, none⟩ = some (.slice Ao lb.length co) := (blk_cell hb1 3).trans rfl
  have q_4 : w1.cell? ⟨b, 4, none⟩ = some (.int .i64 R) := (blk_cell hb1 4).trans rfl
  have g_0 := blk_frozen hb1 0
  have g_1 := blk_frozen hb1 1
  have g_2 := blk_frozen hb1 2
  have g_3 := blk_frozen hb1 3
  have g_4 := blk_frozen hb1 4
  have HLT := Aside0.mk (blk_lt hb1)
  clear hb1 k0 k1 k2 k3 k4 hlt hx
  go_wp2
 all_goals go_ret
 all_goals
  exact ActPost.of HS1.out
set_option maxHeartbeats 4000000 in
set_option maxRecDepth 100000 in
theorem act_s0f (vx : Value) (lx : List Int) (k b g o : Nat) (A B R x nx sent code : Int) (la lb : List Int) (Ao : Option Addr) (ci co : Nat) (w W : World)
  (hS : PairS vx lx w W b A B (x :: la) lb R (.slice (some ⟨g, o, none⟩) (la.length + 1) ci) (.slice Ao lb.length co)) (hR0 : 0 ≤ R) (hR1 : R ≤ 1000) (hadv : impl_advance.f k A 5 x = some (nx, sent, code)) (hc : (code != 0) = false) (hs : (sent != 0) = true) (hl : lb.length = 200) :
  Calls Try.prog 40 #[.pointer (some ⟨b, 0, none⟩), .agg #[.int .i64 0, .int .i64 5]] W (ActPost vx lx w b A B ((x :: la)) (lb) R 7) := by
 have HS := Aside0.mk hS
 have hb := hS.hb
 have hx : W.cell? ⟨g, o, none⟩ = some (.int .i64 x) := (Kd.Q_cell (0 : Int) hS.hA 0 (by omega) (by omega)).1
 have hgl : g < W.heap.size := World.block_lt_of_cell? _ _ hx
 unfold PairB at hb
 have hlt := blk_lt hb
 have k0 : W.cell? ⟨b, 0, none⟩ = some (.int .i64 A) := (blk_cell hb 0).trans rfl
 have k1 : W.cell? ⟨b, 1, none⟩ = some (.int .i64 B) := (blk_cell hb 1).trans rfl
 have k2 : W.cell? ⟨b, 2, none⟩ = some (.slice (some ⟨g, o, none⟩) (la.length + 1) ci) := (blk_cell hb 2).trans rfl
 have k3 : W.cell? ⟨b, 3, none⟩ = some (.slice Ao lb.length co) := (blk_cell hb 3).trans rfl
 have k4 : W.cell? ⟨b, 4, none⟩ = some (.int .i64 R) := (blk_cell hb 4).trans rfl
 have HA := Aside0.mk hadv
 have hl2 : ((lb.length : Int) == 200) = true := by simp; omega
 clear hl
 clear hadv hS hb
 go_enter Try.func40, Try.ntmps40
 go_wp2_with (first | (go_at_call 37; refine (impl_inRange.calls 5 1 5 true _ rfl).mono ?_; rintro e w' ⟨rfl, ⟨nd, rfl⟩⟩))
 go_quiet (fail)
 go_wp2
 go_region_with (go_at_call 38; refine (impl_advance.calls k A 5 x nx sent code _ HA.out).mono ?_; rintro e w1 ⟨rfl, hbel⟩; have HW1 : Below W.heap.size W w1 := (by refine below_then ?_ ?_ hbel; (repeat (first | exact Below.refl _ _ | apply below_alloc | apply pw_below_drewN | apply below_drew1)); (simp <;> omega)); have HA1 : Aside0 (w1.heap[W.heap.size]? = some (.cells #[.int .i64 0, .int .i64 5] 34 (0, 0))) := Aside0.mk (by refine blk_below ?_ hbel; repeat (first | exact blk_new _ _ | apply blk_alloc | apply blk_drewN)); have q5 := (blk_cell HA1.out 1).trans (rfl : _ = some (Value.int .i64 5)); have HS1 := Aside0.mk (HS.out.below HW1); clear hbel HS HW1)
 all_goals
  have hb1 := HS1.out.hb
  unfold PairB at hb1
  have q_0 : w1.cell? ⟨b, 0, none⟩ = some (.int .i64 A) := (blk_cell hb1 0).trans rfl
  have q_1 : w1.cell? ⟨b, 1, none⟩ = some (.int .i64 B) := (blk_cell hb1 1).trans rfl
  have q_2 : w1.cell? ⟨b, 2, none⟩ = some (.slice (some ⟨g, o, none⟩) (la.length + 1) ci) := (blk_cell hb1 2).trans rfl
  have q_3 : w1.cell? ⟨b, 3, none⟩ = some (.slice Ao lb.length co) := (blk_cell hb1 3).trans rfl
  have q_4 : w1.cell? ⟨b, 4, none⟩ = some (.int .i64 R) := (blk_cell hb1 4).trans rfl
  have g_0 := blk_frozen hb1 0
  have g_1 := blk_frozen hb1 1
  have g_2 := blk_frozen hb1 2
  have g_3 := blk_frozen hb1 3
  have g_4 := blk_frozen hb1 4
  have HLT := Aside0.mk (blk_lt hb1)
  clear hb1 k0 k1 k2 k3 k4 hlt hx
  go_wp2
 all_goals go_ret
 all_goals
  exact ActPost.of HS1.out
set_option maxHeartbeats 4000000 in
set_option maxRecDepth 100000 in
theorem act_s0z1 (vx : Value) (lx : List Int) (k b g o : Nat) (A B R x nx sent code : Int) (la lb : List Int) (Ao : Option Addr) (ci co : Nat) (w W : World)
  (hS : PairS vx lx w W b A B (x :: la) lb R (.slice (some ⟨g, o, none⟩) (la.length + 1) ci) (.slice Ao lb.length co)) (hR0 : 0 ≤ R) (hR1 : R ≤ 1000) (hadv : impl_advance.f k A 5 x = some (nx, sent, code)) (hc1 : ci = 1) (hc : (code != 0) = false) (hs : (sent != 0) = false) :
  Calls Try.prog 40 #[.pointer (some ⟨b, 0, none⟩), .agg #[.int .i64 0, .int .i64 5]] W (ActPost vx lx w b nx B (la) (lb) R 0) := by
 subst hc1
 have HS := Aside0.mk hS
 have hb := hS.hb
 have hx : W.cell? ⟨g, o, none⟩ = some (.int .i64 x) := (Kd.Q_cell (0 : Int) hS.hA 0 (by omega) (by omega)).1
 have hgl : g < W.heap.size := World.block_lt_of_cell? _ _ hx
 unfold PairB at hb
 have hlt := blk_lt hb
 have k0 : W.cell? ⟨b, 0, none⟩ = some (.int .i64 A) := (blk_cell hb 0).trans rfl
 have k1 : W.cell? ⟨b, 1, none⟩ = some (.int .i64 B) := (blk_cell hb 1).trans rfl
 have k2 : W.cell? ⟨b, 2, none⟩ = some (.slice (some ⟨g, o, none⟩) (la.length + 1) 1) := (blk_cell hb 2).trans rfl
 have k3 : W.cell? ⟨b, 3, none⟩ = some (.slice Ao lb.length co) := (blk_cell hb 3).trans rfl
 have k4 : W.cell? ⟨b, 4, none⟩ = some (.int .i64 R) := (blk_cell hb 4).trans rfl
 have HA := Aside0.mk hadv
 clear hadv hS hb
 go_enter Try.func40, Try.ntmps40
 go_wp2_with (first | (go_at_call 37; refine (impl_inRange.calls 5 1 5 true _ rfl).mono ?_; rintro e w' ⟨rfl, ⟨nd, rfl⟩⟩))
 go_quiet (fail)
 go_wp2
 go_region_with (go_at_call 38; refine (impl_advance.calls k A 5 x nx sent code _ HA.out).mono ?_; rintro e w1 ⟨rfl, hbel⟩; have HW1 : Below W.heap.size W w1 := (by refine below_then ?_ ?_ hbel; (repeat (first | exact Below.refl _ _ | apply below_alloc | apply pw_below_drewN | apply below_drew1)); (simp <;> omega)); have HA1 : Aside0 (w1.heap[W.heap.size]? = some (.cells #[.int .i64 0, .int .i64 5] 34 (0, 0))) := Aside0.mk (by refine blk_below ?_ hbel; repeat (first | exact blk_new _ _ | apply blk_alloc | apply blk_drewN)); have q5 := (blk_cell HA1.out 1).trans (rfl : _ = some (Value.int .i64 5)); have HS1 := Aside0.mk (HS.out.below HW1); clear hbel HS HW1)
 all_goals
  have hb1 := HS1.out.hb
  unfold PairB at hb1
  have q_0 : w1.cell? ⟨b, 0, none⟩ = some (.int .i64 A) := (blk_cell hb1 0).trans rfl
  have q_1 : w1.cell? ⟨b, 1, none⟩ = some (.int .i64 B) := (blk_cell hb1 1).trans rfl
  have q_2 : w1.cell? ⟨b, 2, none⟩ = some (.slice (some ⟨g, o, none⟩) (la.length + 1) 1) := (blk_cell hb1 2).trans rfl
  have q_3 : w1.cell? ⟨b, 3, none⟩ = some (.slice Ao lb.length co) := (blk_cell hb1 3).trans rfl
  have q_4 : w1.cell? ⟨b, 4, none⟩ = some (.int .i64 R) := (blk_cell hb1 4).trans rfl
  have g_0 := blk_frozen hb1 0
  have g_1 := blk_frozen hb1 1
  have g_2 := blk_frozen hb1 2
  have g_3 := blk_frozen hb1 3
  have g_4 := blk_frozen hb1 4
  have HLT := Aside0.mk (blk_lt hb1)
  clear hb1 k0 k1 k2 k3 k4 hlt hx
  go_wp2
 all_goals go_ret
 all_goals
  have HD := HS1.out.drop2
  simp only [if_pos, Nat.sub_self] at HD
  exact ActPost.of (HD.set0 nx)
set_option maxHeartbeats 4000000 in
set_option maxRecDepth 100000 in
theorem act_s0z2 (vx : Value) (lx : List Int) (k b g o : Nat) (A B R x nx sent code : Int) (la lb : List Int) (Ao : Option Addr) (ci co : Nat) (w W : World)
  (hS : PairS vx lx w W b A B (x :: la) lb R (.slice (some ⟨g, o, none⟩) (la.length + 1) ci) (.slice Ao lb.length co)) (hR0 : 0 ≤ R) (hR1 : R ≤ 1000) (hadv : impl_advance.f k A 5 x = some (nx, sent, code)) (hc1 : ¬ ci = 1) (hc : (code != 0) = false) (hs : (sent != 0) = false) :
  Calls Try.prog 40 #[.pointer (some ⟨b, 0, none⟩), .agg #[.int .i64 0, .int .i64 5]] W (ActPost vx lx w b nx B (la) (lb) R 0) := by
 have HS := Aside0.mk hS
 have hb := hS.hb
 have hx : W.cell? ⟨g, o, none⟩ = some (.int .i64 x) := (Kd.Q_cell (0 : Int) hS.hA 0 (by omega) (by omega)).1
 have hgl : g < W.heap.size := World.block_lt_of_cell? _ _ hx
 unfold PairB at hb
 have hlt := blk_lt hb
 have k0 : W.cell? ⟨b, 0, none⟩ = some (.int .i64 A) := (blk_cell hb 0).trans rfl
 have k1 : W.cell? ⟨b, 1, none⟩ = some (.int .i64 B) := (blk_cell hb 1).trans rfl
 have k2 : W.cell? ⟨b, 2, none⟩ = some (.slice (some ⟨g, o, none⟩) (la.length + 1) ci) := (blk_cell hb 2).trans rfl
 have k3 : W.cell? ⟨b, 3, none⟩ = some (.slice Ao lb.length co) := (blk_cell hb 3).trans rfl
 have k4 : W.cell? ⟨b, 4, none⟩ = some (.int .i64 R) := (blk_cell hb 4).trans rfl
 have HA := Aside0.mk hadv
 clear hadv hS hb
 go_enter Try.func40, Try.ntmps40
 go_wp2_with (first | (go_at_call 37; refine (impl_inRange.calls 5 1 5 true _ rfl).mono ?_; rintro e w' ⟨rfl, ⟨nd, rfl⟩⟩))
 go_quiet (fail)
 go_wp2
 go_region_with (go_at_call 38; refine (impl_advance.calls k A 5 x nx sent code _ HA.out).mono ?_; rintro e w1 ⟨rfl, hbel⟩; have HW1 : Below W.heap.size W w1 := (by refine below_then ?_ ?_ hbel; (repeat (first | exact Below.refl _ _ | apply below_alloc | apply pw_below_drewN | apply below_drew1)); (simp <;> omega)); have HA1 : Aside0 (w1.heap[W.heap.size]? = some (.cells #[.int .i64 0, .int .i64 5] 34 (0, 0))) := Aside0.mk (by refine blk_below ?_ hbel; repeat (first | exact blk_new _ _ | apply blk_alloc | apply blk_drewN)); have q5 := (blk_cell HA1.out 1).trans (rfl : _ = some (Value.int .i64 5)); have HS1 := Aside0.mk (HS.out.below HW1); clear hbel HS HW1)
 all_goals
  have hb1 := HS1.out.hb
  unfold PairB at hb1
  have q_0 : w1.cell? ⟨b, 0, none⟩ = some (.int .i64 A) := (blk_cell hb1 0).trans rfl
  have q_1 : w1.cell? ⟨b, 1, none⟩ = some (.int .i64 B) := (blk_cell hb1 1).trans rfl
  have q_2 : w1.cell? ⟨b, 2, none⟩ = some (.slice (some ⟨g, o, none⟩) (la.length + 1) ci) := (blk_cell hb1 2).trans rfl
  have q_3 : w1.cell? ⟨b, 3, none⟩ = some (.slice Ao lb.length co) := (blk_cell hb1 3).trans rfl
  have q_4 : w1.cell? ⟨b, 4, none⟩ = some (.int .i64 R) := (blk_cell hb1 4).trans rfl
  have g_0 := blk_frozen hb1 0
  have g_1 := blk_frozen hb1 1
  have g_2 := blk_frozen hb1 2
  have g_3 := blk_frozen hb1 3
  have g_4 := blk_frozen hb1 4
  have HLT := Aside0.mk (blk_lt hb1)
  clear hb1 k0 k1 k2 k3 k4 hlt hx
  go_wp2
 all_goals go_ret
 all_goals
  have HD := HS1.out.drop2
  rw [if_neg hc1] at HD
  exact ActPost.of (HD.set0 nx)
set_option maxHeartbeats 4000000 in
set_option maxRecDepth 100000 in
theorem act_s0a1 (vx : Value) (lx : List Int) (k b g o : Nat) (A B R x nx sent code : Int) (la lb : List Int) (Ao : Option Addr) (ci co : Nat) (w W : World)
  (hS : PairS vx lx w W b A B (x :: la) lb R (.slice (some ⟨g, o, none⟩) (la.length + 1) ci) (.slice Ao lb.length co)) (hR0 : 0 ≤ R) (hR1 : R ≤ 1000) (hadv : impl_advance.f k A 5 x = some (nx, sent, code)) (hc1 : ci = 1) (hc : (code != 0) = false) (hs : (sent != 0) = true) (hl : lb.length < 200) (hs8 : (sent == 8) = false) :
  Calls Try.prog 40 #[.pointer (some ⟨b, 0, none⟩), .agg #[.int .i64 0, .int .i64 5]] W (ActPost vx lx w b nx B (la) (lb ++ [sent]) R 0) := by
 subst hc1
 have HS := Aside0.mk hS
 have hb := hS.hb
 have hx : W.cell? ⟨g, o, none⟩ = some (.int .i64 x) := (Kd.Q_cell (0 : Int) hS.hA 0 (by omega) (by omega)).1
 have hgl : g < W.heap.size := World.block_lt_of_cell? _ _ hx
 unfold PairB at hb
 have hlt := blk_lt hb
 have k0 : W.cell? ⟨b, 0, none⟩ = some (.int .i64 A) := (blk_cell hb 0).trans rfl
 have k1 : W.cell? ⟨b, 1, none⟩ = some (.int .i64 B) := (blk_cell hb 1).trans rfl
 have k2 : W.cell? ⟨b, 2, none⟩ = some (.slice (some ⟨g, o, none⟩) (la.length + 1) 1) := (blk_cell hb 2).trans rfl
 have k3 : W.cell? ⟨b, 3, none⟩ = some (.slice Ao lb.length co) := (blk_cell hb 3).trans rfl
 have k4 : W.cell? ⟨b, 4, none⟩ = some (.int .i64 R) := (blk_cell hb 4).trans rfl
 have HA := Aside0.mk hadv
 have hl2 : ((lb.length : Int) == 200) = false := by simp; omega
 have HLB := Aside0.mk hl
 clear hl
 clear hadv hS hb
 go_enter Try.func40, Try.ntmps40
 go_wp2_with (first | (go_at_call 37; refine (impl_inRange.calls 5 1 5 true _ rfl).mono ?_; rintro e w' ⟨rfl, ⟨nd, rfl⟩⟩))
 go_quiet (fail)
 go_wp2
 go_region_with (go_at_call 38; refine (impl_advance.calls k A 5 x nx sent code _ HA.out).mono ?_; rintro e w1 ⟨rfl, hbel⟩; have HW1 : Below W.heap.size W w1 := (by refine below_then ?_ ?_ hbel; (repeat (first | exact Below.refl _ _ | apply below_alloc | apply pw_below_drewN | apply below_drew1)); (simp <;> omega)); have HA1 : Aside0 (w1.heap[W.heap.size]? = some (.cells #[.int .i64 0, .int .i64 5] 34 (0, 0))) := Aside0.mk (by refine blk_below ?_ hbel; repeat (first | exact blk_new _ _ | apply blk_alloc | apply blk_drewN)); have q5 := (blk_cell HA1.out 1).trans (rfl : _ = some (Value.int .i64 5)); have HS1 := Aside0.mk (HS.out.below HW1); clear hbel HS HW1)
 all_goals
  have hb1 := HS1.out.hb
  unfold PairB at hb1
  have q_0 : w1.cell? ⟨b, 0, none⟩ = some (.int .i64 A) := (blk_cell hb1 0).trans rfl
  have q_1 : w1.cell? ⟨b, 1, none⟩ = some (.int .i64 B) := (blk_cell hb1 1).trans rfl
  have q_2 : w1.cell? ⟨b, 2, none⟩ = some (.slice (some ⟨g, o, none⟩) (la.length + 1) 1) := (blk_cell hb1 2).trans rfl
  have q_3 : w1.cell? ⟨b, 3, none⟩ = some (.slice Ao lb.length co) := (blk_cell hb1 3).trans rfl
  have q_4 : w1.cell? ⟨b, 4, none⟩ = some (.int .i64 R) := (blk_cell hb1 4).trans rfl
  have g_0 := blk_frozen hb1 0
  have g_1 := blk_frozen hb1 1
  have g_2 := blk_frozen hb1 2
  have g_3 := blk_frozen hb1 3
  have g_4 := blk_frozen hb1 4
  have HLT := Aside0.mk (blk_lt hb1)
  clear hb1 k0 k1 k2 k3 k4 hlt hx
  go_wp2_with (first | (at_builtin; refine Kd.Q_append (Kd.int .i64) (w0 := w) w.heap.size rfl (.tmp 86) (.tmp 88) 26 3 (.int .i64 0) 8 rfl Try.underlying26 info3_ rfl (by decide) (by decide) (.slice Ao lb.length co) lb sent [.int .i64 sent] (fun k_ => some k_ ≠ ((.slice (some ⟨g, o, none⟩) (la.length + 1) 1) : Value).ownBlock) (fun _ => False) rfl rfl rfl (fun _ h => h.elim) (fun k hk he => by have := Kd.Q_lt HS1.out.hA k he.symm; omega) HS1.out.hB HS1.out.bel HS1.out.bel.size (by have := HLB.out; omega) ?_; intro v1 w2 hQ hbel2 hgrow hat; obtain ⟨A1, c1, hv, hle⟩ := Kd.Q_slice hQ; subst hv; have ha2 := blk_grown HA1.out hgrow (Kd.Q_ne HS1.out.hB HA1.out (by decide)); have hb2 := blk_grown HS1.out.hb hgrow (Kd.Q_ne HS1.out.hB HS1.out.hb (by decide)); have r0 := (blk_cell hb2 0).trans (rfl : _ = some ((.int .i64 A) : Value)); have t0 := blk_frozen hb2 0; have r1 := (blk_cell hb2 1).trans (rfl : _ = some ((.int .i64 B) : Value)); have t1 := blk_frozen hb2 1; have r2 := (blk_cell hb2 2).trans (rfl : _ = some ((.slice (some ⟨g, o, none⟩) (la.length + 1) 1) : Value)); have t2 := blk_frozen hb2 2; have r3 := (blk_cell hb2 3).trans (rfl : _ = some ((.slice Ao lb.length co) : Value)); have t3 := blk_frozen hb2 3; have r4 := (blk_cell hb2 4).trans (rfl : _ = some ((.int .i64 R) : Value)); have t4 := blk_frozen hb2 4; have r5 := (blk_cell ha2 1).trans (rfl : _ = some (Value.int .i64 5)); have HS2 := HS1.out.app3 hQ hbel2 hgrow hat; rw [List.length_append, List.length_singleton] at HS2; replace HS2 := Aside0.mk HS2; clear q_0 q_1 q_2 q_3 q_4 g_0 g_1 g_2 g_3 g_4 q5 hQ hbel2 hgrow hat hle ha2 hb2))
 all_goals go_ret
 all_goals
  have HD := HS2.out.drop2
  simp only [if_pos, Nat.sub_self] at HD
  exact ActPost.of (HD.set0 nx)
set_option maxHeartbeats 4000000 in
set_option maxRecDepth 100000 in
theorem act_s0a2 (vx : Value) (lx : List Int) (k b g o : Nat) (A B R x nx sent code : Int) (la lb : List Int) (Ao : Option Addr) (ci co : Nat) (w W : World)
  (hS : PairS vx lx w W b A B (x :: la) lb R (.slice (some ⟨g, o, none⟩) (la.length + 1) ci) (.slice Ao lb.length co)) (hR0 : 0 ≤ R) (hR1 : R ≤ 1000) (hadv : impl_advance.f k A 5 x = some (nx, sent, code)) (hc1 : ¬ ci = 1) (hc : (code != 0) = false) (hs : (sent != 0) = true) (hl : lb.length < 200) (hs8 : (sent == 8) = false) :
  Calls Try.prog 40 #[.pointer (some ⟨b, 0, none⟩), .agg #[.int .i64 0, .int .i64 5]] W (ActPost vx lx w b nx B (la) (lb ++ [sent]) R 0) := by
 have HS := Aside0.mk hS
 have hb := hS.hb
 have hx : W.cell? ⟨g, o, none⟩ = some (.int .i64 x) := (Kd.Q_cell (0 : Int) hS.hA 0 (by omega) (by omega)).1
 have hgl : g < W.heap.size := World.block_lt_of_cell? _ _ hx
 unfold PairB at hb
 have hlt := blk_lt hb
 have k0 : W.cell? ⟨b, 0, none⟩ = some (.int .i64 A) := (blk_cell hb 0).trans rfl
 have k1 : W.cell? ⟨b, 1, none⟩ = some (.int .i64 B) := (blk_cell hb 1).trans rfl
 have k2 : W.cell? ⟨b, 2, none⟩ = some (.slice (some ⟨g, o, none⟩) (la.length + 1) ci) := (blk_cell hb 2).trans rfl
 have k3 : W.cell? ⟨b, 3, none⟩ = some (.slice Ao lb.length co) := (blk_cell hb 3).trans rfl
 have k4 : W.cell? ⟨b, 4, none⟩ = some (.int .i64 R) := (blk_cell hb 4).trans rfl
 have HA := Aside0.mk hadv
 have hl2 : ((lb.length : Int) == 200) = false := by simp; omega
 have HLB := Aside0.mk hl
 clear hl
 clear hadv hS hb
 go_enter Try.func40, Try.ntmps40
 go_wp2_with (first | (go_at_call 37; refine (impl_inRange.calls 5 1 5 true _ rfl).mono ?_; rintro e w' ⟨rfl, ⟨nd, rfl⟩⟩))
 go_quiet (fail)
 go_wp2
 go_region_with (go_at_call 38; refine (impl_advance.calls k A 5 x nx sent code _ HA.out).mono ?_; rintro e w1 ⟨rfl, hbel⟩; have HW1 : Below W.heap.size W w1 := (by refine below_then ?_ ?_ hbel; (repeat (first | exact Below.refl _ _ | apply below_alloc | apply pw_below_drewN | apply below_drew1)); (simp <;> omega)); have HA1 : Aside0 (w1.heap[W.heap.size]? = some (.cells #[.int .i64 0, .int .i64 5] 34 (0, 0))) := Aside0.mk (by refine blk_below ?_ hbel; repeat (first | exact blk_new _ _ | apply blk_alloc | apply blk_drewN)); have q5 := (blk_cell HA1.out 1).trans (rfl : _ = some (Value.int .i64 5)); have HS1 := Aside0.mk (HS.out.below HW1); clear hbel HS HW1)
 all_goals
  have hb1 := HS1.out.hb
  unfold PairB at hb1
  have q_0 : w1.cell? ⟨b, 0, none⟩ = some (.int .i64 A) := (blk_cell hb1 0).trans rfl
  have q_1 : w1.cell? ⟨b, 1, none⟩ = some (.int .i64 B) := (blk_cell hb1 1).trans rfl
  have q_2 : w1.cell? ⟨b, 2, none⟩ = some (.slice (some ⟨g, o, none⟩) (la.length + 1) ci) := (blk_cell hb1 2).trans rfl
  have q_3 : w1.cell? ⟨b, 3, none⟩ = some (.slice Ao lb.length co) := (blk_cell hb1 3).trans rfl
  have q_4 : w1.cell? ⟨b, 4, none⟩ = some (.int .i64 R) := (blk_cell hb1 4).trans rfl
  have g_0 := blk_frozen hb1 0
  have g_1 := blk_frozen hb1 1
  have g_2 := blk_frozen hb1 2
  have g_3 := blk_frozen hb1 3
  have g_4 := blk_frozen hb1 4
  have HLT := Aside0.mk (blk_lt hb1)
  clear hb1 k0 k1 k2 k3 k4 hlt hx
  go_wp2_with (first | (at_builtin; refine Kd.Q_append (Kd.int .i64) (w0 := w) w.heap.size rfl (.tmp 86) (.tmp 88) 26 3 (.int .i64 0) 8 rfl Try.underlying26 info3_ rfl (by decide) (by decide) (.slice Ao lb.length co) lb sent [.int .i64 sent] (fun k_ => some k_ ≠ ((.slice (some ⟨g, o, none⟩) (la.length + 1) ci) : Value).ownBlock) (fun _ => False) rfl rfl rfl (fun _ h => h.elim) (fun k hk he => by have := Kd.Q_lt HS1.out.hA k he.symm; omega) HS1.out.hB HS1.out.bel HS1.out.bel.size (by have := HLB.out; omega) ?_; intro v1 w2 hQ hbel2 hgrow hat; obtain ⟨A1, c1, hv, hle⟩ := Kd.Q_slice hQ; subst hv; have ha2 := blk_grown HA1.out hgrow (Kd.Q_ne HS1.out.hB HA1.out (by decide)); have hb2 := blk_grown HS1.out.hb hgrow (Kd.Q_ne HS1.out.hB HS1.out.hb (by decide)); have r0 := (blk_cell hb2 0).trans (rfl : _ = some ((.int .i64 A) : Value)); have t0 := blk_frozen hb2 0; have r1 := (blk_cell hb2 1).trans (rfl : _ = some ((.int .i64 B) : Value)); have t1 := blk_frozen hb2 1; have r2 := (blk_cell hb2 2).trans (rfl : _ = some ((.slice (some ⟨g, o, none⟩) (la.length + 1) ci) : Value)); have t2 := blk_frozen hb2 2; have r3 := (blk_cell hb2 3).trans (rfl : _ = some ((.slice Ao lb.length co) : Value)); have t3 := blk_frozen hb2 3; have r4 := (blk_cell hb2 4).trans (rfl : _ = some ((.int .i64 R) : Value)); have t4 := blk_frozen hb2 4; have r5 := (blk_cell ha2 1).trans (rfl : _ = some (Value.int .i64 5)); have HS2 := HS1.out.app3 hQ hbel2 hgrow hat; rw [List.length_append, List.length_singleton] at HS2; replace HS2 := Aside0.mk HS2; clear q_0 q_1 q_2 q_3 q_4 g_0 g_1 g_2 g_3 g_4 q5 hQ hbel2 hgrow hat hle ha2 hb2))
 all_goals go_ret
 all_goals
  have HD := HS2.out.drop2
  rw [if_neg hc1] at HD
  exact ActPost.of (HD.set0 nx)
set_option maxHeartbeats 4000000 in
set_option maxRecDepth 100000 in
theorem act_s0r1 (vx : Value) (lx : List Int) (k b g o : Nat) (A B R x nx sent code : Int) (la lb : List Int) (Ao : Option Addr) (ci co : Nat) (w W : World)
  (hS : PairS vx lx w W b A B (x :: la) lb R (.slice (some ⟨g, o, none⟩) (la.length + 1) ci) (.slice Ao lb.length co)) (hR0 : 0 ≤ R) (hR1 : R ≤ 1000) (hadv : impl_advance.f k A 5 x = some (nx, sent, code)) (hc1 : ci = 1) (hc : (code != 0) = false) (hs : (sent != 0) = true) (hl : lb.length < 200) (hs8 : (sent == 8) = true) :
  Calls Try.prog 40 #[.pointer (some ⟨b, 0, none⟩), .agg #[.int .i64 0, .int .i64 5]] W (ActPost vx lx w b nx B (la) (lb ++ [sent]) (mn (R + 1) 1000) 0) := by
 subst hc1
 have HS := Aside0.mk hS
 have hb := hS.hb
 have hx : W.cell? ⟨g, o, none⟩ = some (.int .i64 x) := (Kd.Q_cell (0 : Int) hS.hA 0 (by omega) (by omega)).1
 have hgl : g < W.heap.size := World.block_lt_of_cell? _ _ hx
 unfold PairB at hb
 have hlt := blk_lt hb
 have k0 : W.cell? ⟨b, 0, none⟩ = some (.int .i64 A) := (blk_cell hb 0).trans rfl
 have k1 : W.cell? ⟨b, 1, none⟩ = some (.int .i64 B) := (blk_cell hb 1).trans rfl
 have k2 : W.cell? ⟨b, 2, none⟩ = some (.slice (some ⟨g, o, none⟩) (la.length + 1) 1) := (blk_cell hb 2).trans rfl
 have k3 : W.cell? ⟨b, 3, none⟩ = some (.slice Ao lb.length co) := (blk_cell hb 3).trans rfl
 have k4 : W.cell? ⟨b, 4, none⟩ = some (.int .i64 R) := (blk_cell hb 4).trans rfl
 have HA := Aside0.mk hadv
 have hl2 : ((lb.length : Int) == 200) = false := by simp; omega
 have HLB := Aside0.mk hl
 clear hl
 clear hadv hS hb
 go_enter Try.func40, Try.ntmps40
 go_wp2_with (first | (go_at_call 37; refine (impl_inRange.calls 5 1 5 true _ rfl).mono ?_; rintro e w' ⟨rfl, ⟨nd, rfl⟩⟩))
 go_quiet (fail)
 go_wp2
 go_region_with (go_at_call 38; refine (impl_advance.calls k A 5 x nx sent code _ HA.out).mono ?_; rintro e w1 ⟨rfl, hbel⟩; have HW1 : Below W.heap.size W w1 := (by refine below_then ?_ ?_ hbel; (repeat (first | exact Below.refl _ _ | apply below_alloc | apply pw_below_drewN | apply below_drew1)); (simp <;> omega)); have HA1 : Aside0 (w1.heap[W.heap.size]? = some (.cells #[.int .i64 0, .int .i64 5] 34 (0, 0))) := Aside0.mk (by refine blk_below ?_ hbel; repeat (first | exact blk_new _ _ | apply blk_alloc | apply blk_drewN)); have q5 := (blk_cell HA1.out 1).trans (rfl : _ = some (Value.int .i64 5)); have HS1 := Aside0.mk (HS.out.below HW1); clear hbel HS HW1)
 all_goals
  have hb1 := HS1.out.hb
  unfold PairB at hb1
  have q_0 : w1.cell? ⟨b, 0, none⟩ = some (.int .i64 A) := (blk_cell hb1 0).trans rfl
  have q_1 : w1.cell? ⟨b, 1, none⟩ = some (.int .i64 B) := (blk_cell hb1 1).trans rfl
  have q_2 : w1.cell? ⟨b, 2, none⟩ = some (.slice (some ⟨g, o, none⟩) (la.length + 1) 1) := (blk_cell hb1 2).trans rfl
  have q_3 : w1.cell? ⟨b, 3, none⟩ = some (.slice Ao lb.length co) := (blk_cell hb1 3).trans rfl
  have q_4 : w1.cell? ⟨b, 4, none⟩ = some (.int .i64 R) := (blk_cell hb1 4).trans rfl
  have g_0 := blk_frozen hb1 0
  have g_1 := blk_frozen hb1 1
  have g_2 := blk_frozen hb1 2
  have g_3 := blk_frozen hb1 3
  have g_4 := blk_frozen hb1 4
  have HLT := Aside0.mk (blk_lt hb1)
  clear hb1 k0 k1 k2 k3 k4 hlt hx
  go_wp2_with (first | (at_builtin; refine Kd.Q_append (Kd.int .i64) (w0 := w) w.heap.size rfl (.tmp 86) (.tmp 88) 26 3 (.int .i64 0) 8 rfl Try.underlying26 info3_ rfl (by decide) (by decide) (.slice Ao lb.length co) lb sent [.int .i64 sent] (fun k_ => some k_ ≠ ((.slice (some ⟨g, o, none⟩) (la.length + 1) 1) : Value).ownBlock) (fun _ => False) rfl rfl rfl (fun _ h => h.elim) (fun k hk he => by have := Kd.Q_lt HS1.out.hA k he.symm; omega) HS1.out.hB HS1.out.bel HS1.out.bel.size (by have := HLB.out; omega) ?_; intro v1 w2 hQ hbel2 hgrow hat; obtain ⟨A1, c1, hv, hle⟩ := Kd.Q_slice hQ; subst hv; have ha2 := blk_grown HA1.out hgrow (Kd.Q_ne HS1.out.hB HA1.out (by decide)); have hb2 := blk_grown HS1.out.hb hgrow (Kd.Q_ne HS1.out.hB HS1.out.hb (by decide)); have r0 := (blk_cell hb2 0).trans (rfl : _ = some ((.int .i64 A) : Value)); have t0 := blk_frozen hb2 0; have r1 := (blk_cell hb2 1).trans (rfl : _ = some ((.int .i64 B) : Value)); have t1 := blk_frozen hb2 1; have r2 := (blk_cell hb2 2).trans (rfl : _ = some ((.slice (some ⟨g, o, none⟩) (la.length + 1) 1) : Value)); have t2 := blk_frozen hb2 2; have r3 := (blk_cell hb2 3).trans (rfl : _ = some ((.slice Ao lb.length co) : Value)); have t3 := blk_frozen hb2 3; have r4 := (blk_cell hb2 4).trans (rfl : _ = some ((.int .i64 R) : Value)); have t4 := blk_frozen hb2 4; have r5 := (blk_cell ha2 1).trans (rfl : _ = some (Value.int .i64 5)); have HS2 := HS1.out.app3 hQ hbel2 hgrow hat; rw [List.length_append, List.length_singleton] at HS2; replace HS2 := Aside0.mk HS2; clear q_0 q_1 q_2 q_3 q_4 g_0 g_1 g_2 g_3 g_4 q5 hQ hbel2 hgrow hat hle ha2 hb2))
 all_goals go_ret
 all_goals
  first
   | (have e_ : mn (R + 1) 1000 = 1000 := (by unfold mn; (repeat' split) <;> omega); rw [e_]; have HD := (HS2.out.set4 1000).drop2; simp only [if_pos, Nat.sub_self] at HD; exact ActPost.of (HD.set0 nx))
   | (have e_ : mn (R + 1) 1000 = (R + 1) := (by unfold mn; (repeat' split) <;> omega); rw [e_]; have HD := (HS2.out.set4 (R + 1)).drop2; simp only [if_pos, Nat.sub_self] at HD; exact ActPost.of (HD.set0 nx))
set_option maxHeartbeats 4000000 in
set_option maxRecDepth 100000 in
theorem act_s0r2 (vx : Value) (lx : List Int) (k b g o : Nat) (A B R x nx sent code : Int) (la lb : List Int) (Ao : Option Addr) (ci co : Nat) (w W : World)
  (hS : PairS vx lx w W b A B (x :: la) lb R (.slice (some ⟨g, o, none⟩) (la.length + 1) ci) (.slice Ao lb.length co)) (hR0 : 0 ≤ R) (hR1 : R ≤ 1000) (hadv : impl_advance.f k A 5 x = some (nx, sent, code)) (hc1 : ¬ ci = 1) (hc : (code != 0) = false) (hs : (sent != 0) = true) (hl : lb.length < 200) (hs8 : (sent == 8) = true) :
  Calls Try.prog 40 #[.pointer (some ⟨b, 0, none⟩), .agg #[.int .i64 0, .int .i64 5]] W (ActPost vx lx w b nx B (la) (lb ++ [sent]) (mn (R + 1) 1000) 0) := by
 have HS := Aside0.mk hS
 have hb := hS.hb
 have hx : W.cell? ⟨g, o, none⟩ = some (.int .i64 x) := (Kd.Q_cell (0 : Int) hS.hA 0 (by omega) (by omega)).1
 have hgl : g < W.heap.size := World.block_lt_of_cell? _ _ hx
 unfold PairB at hb
 have hlt := blk_lt hb
 have k0 : W.cell? ⟨b, 0, none⟩ = some (.int .i64 A) := (blk_cell hb 0).trans rfl
 have k1 : W.cell? ⟨b, 1, none⟩ = some (.int .i64 B) := (blk_cell hb 1).trans rfl
 have k2 : W.cell? ⟨b, 2, none⟩ = some (.slice (some ⟨g, o, none⟩) (la.length + 1) ci) := (blk_cell hb 2).trans rfl
 have k3 : W.cell? ⟨b, 3, none⟩ = some (.slice Ao lb.length co) := (blk_cell hb 3).trans rfl
 have k4 : W.cell? ⟨b, 4, none⟩ = some (.int .i64 R) := (blk_cell hb 4).trans rfl
 have HA := Aside0.mk hadv
 have hl2 : ((lb.length : Int) == 200) = false := by simp; omega
 have HLB := Aside0.mk hl
 clear hl
 clear hadv hS hb
 go_enter Try.func40, Try.ntmps40
 go_wp2_with (first | (go_at_call 37; refine (impl_inRange.calls 5 1 5 true _ rfl).mono ?_; rintro e w' ⟨rfl, ⟨nd, rfl⟩⟩))
 go_quiet (fail)
 go_wp2
 go_region_with (go_at_call 38; refine (impl_advance.calls k A 5 x nx sent code _ HA.out).mono ?_; rintro e w1 ⟨rfl, hbel⟩; have HW1 : Below W.heap.size W w1 := (by refine below_then ?_ ?_ hbel; (repeat (first | exact Below.refl _ _ | apply below_alloc | apply pw_below_drewN | apply below_drew1)); (simp <;> omega)); have HA1 : Aside0 (w1.heap[W.heap.size]? = some (.cells #[.int .i64 0, .int .i64 5] 34 (0, 0))) := Aside0.mk (by refine blk_below ?_ hbel; repeat (first | exact blk_new _ _ | apply blk_alloc | apply blk_drewN)); have q5 := (blk_cell HA1.out 1).trans (rfl : _ = some (Value.int .i64 5)); have HS1 := Aside0.mk (HS.out.below HW1); clear hbel HS HW1)
 all_goals
  have hb1 := HS1.out.hb
  unfold PairB at hb1
  have q_0 : w1.cell? ⟨b, 0, none⟩ = some (.int .i64 A) := (blk_cell hb1 0).trans rfl
  have q_1 : w1.cell? ⟨b, 1, none⟩ = some (.int .i64 B) := (blk_cell hb1 1).trans rfl
  have q_2 : w1.cell? ⟨b, 2, none⟩ = some (.slice (some ⟨g, o, none⟩) (la.length + 1) ci) := (blk_cell hb1 2).trans rfl
  have q_3 : w1.cell? ⟨b, 3, none⟩ = some (.slice Ao lb.length co) := (blk_cell hb1 3).trans rfl
  have q_4 : w1.cell? ⟨b, 4, none⟩ = some (.int .i64 R) := (blk_cell hb1 4).trans rfl
  have g_0 := blk_frozen hb1 0
  have g_1 := blk_frozen hb1 1
  have g_2 := blk_frozen hb1 2
  have g_3 := blk_frozen hb1 3
  have g_4 := blk_frozen hb1 4
  have HLT := Aside0.mk (blk_lt hb1)
  clear hb1 k0 k1 k2 k3 k4 hlt hx
  go_wp2_with (first | (at_builtin; refine Kd.Q_append (Kd.int .i64) (w0 := w) w.heap.size rfl (.tmp 86) (.tmp 88) 26 3 (.int .i64 0) 8 rfl Try.underlying26 info3_ rfl (by decide) (by decide) (.slice Ao lb.length co) lb sent [.int .i64 sent] (fun k_ => some k_ ≠ ((.slice (some ⟨g, o, none⟩) (la.length + 1) ci) : Value).ownBlock) (fun _ => False) rfl rfl rfl (fun _ h => h.elim) (fun k hk he => by have := Kd.Q_lt HS1.out.hA k he.symm; omega) HS1.out.hB HS1.out.bel HS1.out.bel.size (by have := HLB.out; omega) ?_; intro v1 w2 hQ hbel2 hgrow hat; obtain ⟨A1, c1, hv, hle⟩ := Kd.Q_slice hQ; subst hv; have ha2 := blk_grown HA1.out hgrow (Kd.Q_ne HS1.out.hB HA1.out (by decide)); have hb2 := blk_grown HS1.out.hb hgrow (Kd.Q_ne HS1.out.hB HS1.out.hb (by decide)); have r0 := (blk_cell hb2 0).trans (rfl : _ = some ((.int .i64 A) : Value)); have t0 := blk_frozen hb2 0; have r1 := (blk_cell hb2 1).trans (rfl : _ = some ((.int .i64 B) : Value)); have t1 := blk_frozen hb2 1; have r2 := (blk_cell hb2 2).trans (rfl : _ = some ((.slice (some ⟨g, o, none⟩) (la.length + 1) ci) : Value)); have t2 := blk_frozen hb2 2; have r3 := (blk_cell hb2 3).trans (rfl : _ = some ((.slice Ao lb.length co) : Value)); have t3 := blk_frozen hb2 3; have r4 := (blk_cell hb2 4).trans (rfl : _ = some ((.int .i64 R) : Value)); have t4 := blk_frozen hb2 4; have r5 := (blk_cell ha2 1).trans (rfl : _ = some (Value.int .i64 5)); have HS2 := HS1.out.app3 hQ hbel2 hgrow hat; rw [List.length_append, List.length_singleton] at HS2; replace HS2 := Aside0.mk HS2; clear q_0 q_1 q_2 q_3 q_4 g_0 g_1 g_2 g_3 g_4 q5 hQ hbel2 hgrow hat hle ha2 hb2))
 all_goals go_ret
 all_goals
  first
   | (have e_ : mn (R + 1) 1000 = 1000 := (by unfold mn; (repeat' split) <;> omega); rw [e_]; have HD := (HS2.out.set4 1000).drop2; rw [if_neg hc1] at HD; exact ActPost.of (HD.set0 nx))
   | (have e_ : mn (R + 1) 1000 = (R + 1) := (by unfold mn; (repeat' split) <;> omega); rw [e_]; have HD := (HS2.out.set4 (R + 1)).drop2; rw [if_neg hc1] at HD; exact ActPost.of (HD.set0 nx))
set_option maxHeartbeats 4000000 in
set_option maxRecDepth 100000 in
theorem act_s1c (vx : Value) (lx : List Int) (k b g o : Nat) (A B R x nx sent code : Int) (la lb : List Int) (Ao : Option Addr) (ci co : Nat) (w W : World)
  (hS : PairS vx lx w W b A B la (x :: lb) R (.slice Ao la.length co) (.slice (some ⟨g, o, none⟩) (lb.length + 1) ci)) (hR0 : 0 ≤ R) (hR1 : R ≤ 1000) (hadv : impl_advance.f k B 5 x = some (nx, sent, code)) (hc : (code != 0) = true) :
  Calls Try.prog 40 #[.pointer (some ⟨b, 0, none⟩), .agg #[.int .i64 1, .int .i64 5]] W (ActPost vx lx w b A B (la) ((x :: lb)) R code) := by
 have HS := Aside0.mk hS
 have hb := hS.hb
 have hx : W.cell? ⟨g, o, none⟩ = some (.int .i64 x) := (Kd.Q_cell (0 : Int) hS.hB 0 (by omega) (by omega)).1
 have hgl : g < W.heap.size := World.block_lt_of_cell? _ _ hx
 unfold PairB at hb
 have hlt := blk_lt hb
 have k0 : W.cell? ⟨b, 0, none⟩ = some (.int .i64 A) := (blk_cell hb 0).trans rfl
 have k1 : W.cell? ⟨b, 1, none⟩ = some (.int .i64 B) := (blk_cell hb 1).trans rfl
 have k2 : W.cell? ⟨b, 2, none⟩ = some (.slice Ao la.length co) := (blk_cell hb 2).trans rfl
 have k3 : W.cell? ⟨b, 3, none⟩ = some (.slice (some ⟨g, o, none⟩) (lb.length + 1) ci) := (blk_cell hb 3).trans rfl
 have k4 : W.cell? ⟨b, 4, none⟩ = some (.int .i64 R) := (blk_cell hb 4).trans rfl
 have HA := Aside0.mk hadv
 clear hadv hS hb
 go_enter Try.func40, Try.ntmps40
 go_wp2_with (first | (go_at_call 37; refine (impl_inRange.calls 5 1 5 true _ rfl).mono ?_; rintro e w' ⟨rfl, ⟨nd, rfl⟩⟩))
 go_quiet (fail)
 go_wp2
 go_quiet (fail)
 go_wp2
 go_region_with (go_at_call 38; refine (impl_advance.calls k B 5 x nx sent code _ HA.out).mono ?_; rintro e w1 ⟨rfl, hbel⟩; have HW1 : Below W.heap.size W w1 := (by refine below_then ?_ ?_ hbel; (repeat (first | exact Below.refl _ _ | apply below_alloc | apply pw_below_drewN | apply below_drew1)); (simp <;> omega)); have HA1 : Aside0 (w1.heap[W.heap.size]? = some (.cells #[.int .i64 1, .int .i64 5] 34 (0, 0))) := Aside0.mk (by refine blk_below ?_ hbel; repeat (first | exact blk_new _ _ | apply blk_alloc | apply blk_drewN)); have q5 := (blk_cell HA1.out 1).trans (rfl : _ = some (Value.int .i64 5)); have HS1 := Aside0.mk (HS.out.below HW1); clear hbel HS HW1)
 all_goals
  have hb1 := HS1.out.hb
  unfold PairB at hb1
  have q_0 : w1.cell? ⟨b, 0, none⟩ = some (.int .i64 A) := (blk_cell hb1 0).trans rfl
  have q_1 : w1.cell? ⟨b, 1, none⟩ = some (.int .i64 B) := (blk_cell hb1 1).trans rfl
  have q_2 : w1.cell? ⟨b, 2, none⟩ = some (.slice Ao la.length co) := (blk_cell hb1 2).trans rfl
  have q_3 : w1.cell? ⟨b, 3, none⟩ = some (.slice (some ⟨g, o, none⟩) (lb.length + 1) ci) := (blk_cell hb1 3).trans rfl
  have q_4 : w1.cell? ⟨b, 4, none⟩ = some (.int .i64 R) := (blk_cell hb1 4).trans rfl
  have g_0 := blk_frozen hb1 0
  have g_1 := blk_frozen hb1 1
  have g_2 := blk_frozen hb1 2
  have g_3 := blk_frozen hb1 3
  have g_4 := blk_frozen hb1 4
  have HLT := Aside0.mk (blk_lt hb1)
  clear hb1 k0 k1 k2 k3 k4 hlt hx
  go_wp2
 all_goals go_ret
 all_goals
  exact ActPost.of HS1.out
set_option maxHeartbeats 4000000 in
set_option maxRecDepth 100000 in
theorem act_s1f (vx : Value) (lx : List Int) (k b g o : Nat) (A B R x nx sent code : Int) (la lb : List Int) (Ao : Option Addr) (ci co : Nat) (w W : World)
  (hS : PairS vx lx w W b A B la (x :: lb) R (.slice Ao la.length co) (.slice (some ⟨g, o, none⟩) (lb.length + 1) ci)) (hR0 : 0 ≤ R) (hR1 : R ≤ 1000) (hadv : impl_advance.f k B 5 x = some (nx, sent, code)) (hc : (code != 0) = false) (hs : (sent != 0) = true) (hl : la.length = 200) :
  Calls Try.prog 40 #[.pointer (some ⟨b, 0, none⟩), .agg #[.int .i64 1, .int .i64 5]] W (ActPost vx lx w b A B (la) ((x :: lb)) R 7) := by
 have HS := Aside0.mk hS
 have hb := hS.hb
 have hx : W.cell? ⟨g, o, none⟩ = some (.int .i64 x) := (Kd.Q_cell (0 : Int) hS.hB 0 (by omega) (by omega)).1
 have hgl : g < W.heap.size := World.block_lt_of_cell? _ _ hx
 unfold PairB at hb
 have hlt := blk_lt hb
 have k0 : W.cell? ⟨b, 0, none⟩ = some (.int .i64 A) := (blk_cell hb 0).trans rfl
 have k1 : W.cell? ⟨b, 1, none⟩ = some (.int .i64 B) := (blk_cell hb 1).trans rfl
 have k2 : W.cell? ⟨b, 2, none⟩ = some (.slice Ao la.length co) := (blk_cell hb 2).trans rfl
 have k3 : W.cell? ⟨b, 3, none⟩ = some (.slice (some ⟨g, o, none⟩) (lb.length + 1) ci) := (blk_cell hb 3).trans rfl
 have k4 : W.cell? ⟨b, 4, none⟩ = some (.int .i64 R) := (blk_cell hb 4).trans rfl
 have HA := Aside0.mk hadv
 have hl2 : ((la.length : Int) == 200) = true := by simp; omega
 clear hl
 clear hadv hS hb
 go_enter Try.func40, Try.ntmps40
 go_wp2_with (first | (go_at_call 37; refine (impl_inRange.calls 5 1 5 true _ rfl).mono ?_; rintro e w' ⟨rfl, ⟨nd, rfl⟩⟩))
 go_quiet (fail)
 go_wp2
 go_quiet (fail)
 go_wp2
 go_region_with (go_at_call 38; refine (impl_advance.calls k B 5 x nx sent code _ HA.out).mono ?_; rintro e w1 ⟨rfl, hbel⟩; have HW1 : Below W.heap.size W w1 := (by refine below_then ?_ ?_ hbel; (repeat (first | exact Below.refl _ _ | apply below_alloc | apply pw_below_drewN | apply below_drew1)); (simp <;> omega)); have HA1 : Aside0 (w1.heap[W.heap.size]? = some (.cells #[.int .i64 1, .int .i64 5] 34 (0, 0))) := Aside0.mk (by refine blk_below ?_ hbel; repeat (first | exact blk_new _ _ | apply blk_alloc | apply blk_drewN)); have q5 := (blk_cell HA1.out 1).trans (rfl : _ = some (Value.int .i64 5)); have HS1 := Aside0.mk (HS.out.below HW1); clear hbel HS HW1)
 all_goals
  have hb1 := HS1.out.hb
  unfold PairB at hb1
  have q_0 : w1.cell? ⟨b, 0, none⟩ = some (.int .i64 A) := (blk_cell hb1 0).trans rfl
  have q_1 : w1.cell? ⟨b, 1, none⟩ = some (.int .i64 B) := (blk_cell hb1 1).trans rfl
  have q_2 : w1.cell? ⟨b, 2, none⟩ = some (.slice Ao la.length co) := (blk_cell hb1 2).trans rfl
  have q_3 : w1.cell? ⟨b, 3, none⟩ = some (.slice (some ⟨g, o, none⟩) (lb.length + 1) ci) := (blk_cell hb1 3).trans rfl
  have q_4 : w1.cell? ⟨b, 4, none⟩ = some (.int .i64 R) := (blk_cell hb1 4).trans rfl
  have g_0 := blk_frozen hb1 0
  have g_1 := blk_frozen hb1 1
  have g_2 := blk_frozen hb1 2
  have g_3 := blk_frozen hb1 3
  have g_4 := blk_frozen hb1 4
  have HLT := Aside0.mk (blk_lt hb1)
  clear hb1 k0 k1 k2 k3 k4 hlt hx
  go_wp2
 all_goals go_ret
 all_goals
  exact ActPost.of HS1.out
set_option maxHeartbeats 4000000 in
set_option maxRecDepth 100000 in
theorem act_s1z1 (vx : Value) (lx : List Int) (k b g o : Nat) (A B R x nx sent code : Int) (la lb : List Int) (Ao : Option Addr) (ci co : Nat) (w W : World)
  (hS : PairS vx lx w W b A B la (x :: lb) R (.slice Ao la.length co) (.slice (some ⟨g, o, none⟩) (lb.length + 1) ci)) (hR0 : 0 ≤ R) (hR1 : R ≤ 1000) (hadv : impl_advance.f k B 5 x = some (nx, sent, code)) (hc1 : ci = 1) (hc : (code != 0) = false) (hs : (sent != 0) = false) :
  Calls Try.prog 40 #[.pointer (some ⟨b, 0, none⟩), .agg #[.int .i64 1, .int .i64 5]] W (ActPost vx lx w b A nx (la) (lb) R 0) := by
 subst hc1
 have HS := Aside0.mk hS
 have hb := hS.hb
 have hx : W.cell? ⟨g, o, none⟩ = some (.int .i64 x) := (Kd.Q_cell (0 : Int) hS.hB 0 (by omega) (by omega)).1
 have hgl : g < W.heap.size := World.block_lt_of_cell? _ _ hx
 unfold PairB at hb
 have hlt := blk_lt hb
 have k0 : W.cell? ⟨b, 0, none⟩ = some (.int .i64 A) := (blk_cell hb 0).trans rfl
 have k1 : W.cell? ⟨b, 1, none⟩ = some (.int .i64 B) := (blk_cell hb 1).trans rfl
 have k2 : W.cell? ⟨b, 2, none⟩ = some (.slice Ao la.length co) := (blk_cell hb 2).trans rfl
 have k3 : W.cell? ⟨b, 3, none⟩ = some (.slice (some ⟨g, o, none⟩) (lb.length + 1) 1) := (blk_cell hb 3).trans rfl
 have k4 : W.cell? ⟨b, 4, none⟩ = some (.int .i64 R) := (blk_cell hb 4).trans rfl
 have HA := Aside0.mk hadv
 clear hadv hS hb
 go_enter Try.func40, Try.ntmps40
 go_wp2_with (first | (go_at_call 37; refine (impl_inRange.calls 5 1 5 true _ rfl).mono ?_; rintro e w' ⟨rfl, ⟨nd, rfl⟩⟩))
 go_quiet (fail)
 go_wp2
 go_quiet (fail)
 go_wp2
 go_region_with (go_at_call 38; refine (impl_advance.calls k B 5 x nx sent code _ HA.out).mono ?_; rintro e w1 ⟨rfl, hbel⟩; have HW1 : Below W.heap.size W w1 := (by refine below_then ?_ ?_ hbel; (repeat (first | exact Below.refl _ _ | apply below_alloc | apply pw_below_drewN | apply below_drew1)); (simp <;> omega)); have HA1 : Aside0 (w1.heap[W.heap.size]? = some (.cells #[.int .i64 1, .int .i64 5] 34 (0, 0))) := Aside0.mk (by refine blk_below ?_ hbel; repeat (first | exact blk_new _ _ | apply blk_alloc | apply blk_drewN)); have q5 := (blk_cell HA1.out 1).trans (rfl : _ = some (Value.int .i64 5)); have HS1 := Aside0.mk (HS.out.below HW1); clear hbel HS HW1)
 all_goals
  have hb1 := HS1.out.hb
  unfold PairB at hb1
  have q_0 : w1.cell? ⟨b, 0, none⟩ = some (.int .i64 A) := (blk_cell hb1 0).trans rfl
  have q_1 : w1.cell? ⟨b, 1, none⟩ = some (.int .i64 B) := (blk_cell hb1 1).trans rfl
  have q_2 : w1.cell? ⟨b, 2, none⟩ = some (.slice Ao la.length co) := (blk_cell hb1 2).trans rfl
  have q_3 : w1.cell? ⟨b, 3, none⟩ = some (.slice (some ⟨g, o, none⟩) (lb.length + 1) 1) := (blk_cell hb1 3).trans rfl
  have q_4 : w1.cell? ⟨b, 4, none⟩ = some (.int .i64 R) := (blk_cell hb1 4).trans rfl
  have g_0 := blk_frozen hb1 0
  have g_1 := blk_frozen hb1 1
  have g_2 := blk_frozen hb1 2
  have g_3 := blk_frozen hb1 3
  have g_4 := blk_frozen hb1 4
  have HLT := Aside0.mk (blk_lt hb1)
  clear hb1 k0 k1 k2 k3 k4 hlt hx
  go_wp2
 all_goals go_ret
 all_goals
  have HD := HS1.out.drop3
  simp only [if_pos, Nat.sub_self] at HD
  exact ActPost.of (HD.set1 nx)
set_option maxHeartbeats 4000000 in
set_option maxRecDepth 100000 in
theorem act_s1z2 (vx : Value) (lx : List Int) (k b g o : Nat) (A B R x nx sent code : Int) (la lb : List Int) (Ao : Option Addr) (ci co : Nat) (w W : World)
  (hS : PairS vx lx w W b A B la (x :: lb) R (.slice Ao la.length co) (.slice (some ⟨g, o, none⟩) (lb.length + 1) ci)) (hR0 : 0 ≤ R) (hR1 : R ≤ 1000) (hadv : impl_advance.f k B 5 x = some (nx, sent, code)) (hc1 : ¬ ci = 1) (hc : (code != 0) = false) (hs : (sent != 0) = false) :
  Calls Try.prog 40 #[.pointer (some ⟨b, 0, none⟩), .agg #[.int .i64 1, .int .i64 5]] W (ActPost vx lx w b A nx (la) (lb) R 0) := by
 have HS := Aside0.mk hS
 have hb := hS.hb
 have hx : W.cell? ⟨g, o, none⟩ = some (.int .i64 x) := (Kd.Q_cell (0 : Int) hS.hB 0 (by omega) (by omega)).1
 have hgl : g < W.heap.size := World.block_lt_of_cell? _ _ hx
 unfold PairB at hb
 have hlt := blk_lt hb
 have k0 : W.cell? ⟨b, 0, none⟩ = some (.int .i64 A) := (blk_cell hb 0).trans rfl
 have k1 : W.cell? ⟨b, 1, none⟩ = some (.int .i64 B) := (blk_cell hb 1).trans rfl
 have k2 : W.cell? ⟨b, 2, none⟩ = some (.slice Ao la.length co) := (blk_cell hb 2).trans rfl
 have k3 : W.cell? ⟨b, 3, none⟩ = some (.slice (some ⟨g, o, none⟩) (lb.length + 1) ci) := (blk_cell hb 3).trans rfl
 have k4 : W.cell? ⟨b, 4, none⟩ = some (.int .i64 R) := (blk_cell hb 4).trans rfl
 have HA := Aside0.mk hadv
 clear hadv hS hb
 go_enter Try.func40, Try.ntmps40
 go_wp2_with (first | (go_at_call 37; refine (impl_inRange.calls 5 1 5 true _ rfl).mono ?_; rintro e w' ⟨rfl, ⟨nd, rfl⟩⟩))
 go_quiet (fail)
 go_wp2
 go_quiet (fail)
 go_wp2
 go_region_with (go_at_call 38; refine (impl_advance.calls k B 5 x nx sent code _ HA.out).mono ?_; rintro e w1 ⟨rfl, hbel⟩; have HW1 : Below W.heap.size W w1 := (by refine below_then ?_ ?_ hbel; (repeat (first | exact Below.refl _ _ | apply below_alloc | apply pw_below_drewN | apply below_drew1)); (simp <;> omega)); have HA1 : Aside0 (w1.heap[W.heap.size]? = some (.cells #[.int .i64 1, .int .i64 5] 34 (0, 0))) := Aside0.mk (by refine blk_below ?_ hbel; repeat (first | exact blk_new _ _ | apply blk_alloc | apply blk_drewN)); have q5 := (blk_cell HA1.out 1).trans (rfl : _ = some (Value.int .i64 5)); have HS1 := Aside0.mk (HS.out.below HW1); clear hbel HS HW1)
 all_goals
  have hb1 := HS1.out.hb
  unfold PairB at hb1
  have q_0 : w1.cell? ⟨b, 0, none⟩ = some (.int .i64 A) := (blk_cell hb1 0).trans rfl
  have q_1 : w1.cell? ⟨b, 1, none⟩ = some (.int .i64 B) := (blk_cell hb1 1).trans rfl
  have q_2 : w1.cell? ⟨b, 2, none⟩ = some (.slice Ao la.length co) := (blk_cell hb1 2).trans rfl
  have q_3 : w1.cell? ⟨b, 3, none⟩ = some (.slice (some ⟨g, o, none⟩) (lb.length + 1) ci) := (blk_cell hb1 3).trans rfl
  have q_4 : w1.cell? ⟨b, 4, none⟩ = some (.int .i64 R) := (blk_cell hb1 4).trans rfl
  have g_0 := blk_frozen hb1 0
  have g_1 := blk_frozen hb1 1
  have g_2 := blk_frozen hb1 2
  have g_3 := blk_frozen hb1 3
  have g_4 := blk_frozen hb1 4
  have HLT := Aside0.mk (blk_lt hb1)
  clear hb1 k0 k1 k2 k3 k4 hlt hx
  go_wp2
 all_goals go_ret
 all_goals
  have HD := HS1.out.drop3
  rw [if_neg hc1] at HD
  exact ActPost.of (HD.set1 nx)
set_option maxHeartbeats 4000000 in
set_option maxRecDepth 100000 in
theorem act_s1a1 (vx : Value) (lx : List Int) (k b g o : Nat) (A B R x nx sent code : Int) (la lb : List Int) (Ao : Option Addr) (ci co : Nat) (w W : World)
  (hS : PairS vx lx w W b A B la (x :: lb) R (.slice Ao la.length co) (.slice (some ⟨g, o, none⟩) (lb.length + 1) ci)) (hR0 : 0 ≤ R) (hR1 : R ≤ 1000) (hadv : impl_advance.f k B 5 x = some (nx, sent, code)) (hc1 : ci = 1) (hc : (code != 0) = false) (hs : (sent != 0) = true) (hl : la.length < 200) (hs8 : (sent == 8) = false) :
  Calls Try.prog 40 #[.pointer (some ⟨b, 0, none⟩), .agg #[.int .i64 1, .int .i64 5]] W (ActPost vx lx w b A nx (la ++ [sent]) (lb) R 0) := by
 subst hc1
 have HS := Aside0.mk hS
 have hb := hS.hb
 have hx : W.cell? ⟨g, o, none⟩ = some (.int .i64 x) := (Kd.Q_cell (0 : Int) hS.hB 0 (by omega) (by omega)).1
 have hgl : g < W.heap.size := World.block_lt_of_cell? _ _ hx
 unfold PairB at hb
 have hlt := blk_lt hb
 have k0 : W.cell? ⟨b, 0, none⟩ = some (.int .i64 A) := (blk_cell hb 0).trans rfl
 have k1 : W.cell? ⟨b, 1, none⟩ = some (.int .i64 B) := (blk_cell hb 1).trans rfl
 have k2 : W.cell? ⟨b, 2, none⟩ = some (.slice Ao la.length co) := (blk_cell hb 2).trans rfl
 have k3 : W.cell? ⟨b, 3, none⟩ = some (.slice (some ⟨g, o, none⟩) (lb.length + 1) 1) := (blk_cell hb 3).trans rfl
 have k4 : W.cell? ⟨b, 4, none⟩ = some (.int .i64 R) := (blk_cell hb 4).trans rfl
 have HA := Aside0.mk hadv
 have hl2 : ((la.length : Int) == 200) = false := by simp; omega
 have HLB := Aside0.mk hl
 clear hl
 clear hadv hS hb
 go_enter Try.func40, Try.ntmps40
 go_wp2_with (first | (go_at_call 37; refine (impl_inRange.calls 5 1 5 true _ rfl).mono ?_; rintro e w' ⟨rfl, ⟨nd, rfl⟩⟩))
 go_quiet (fail)
 go_wp2
 go_quiet (fail)
 go_wp2
 go_region_with (go_at_call 38; refine (impl_advance.calls k B 5 x nx sent code _ HA.out).mono ?_; rintro e w1 ⟨rfl, hbel⟩; have HW1 : Below W.heap.size W w1 := (by refine below_then ?_ ?_ hbel; (repeat (first | exact Below.refl _ _ | apply below_alloc | apply pw_below_drewN | apply below_drew1)); (simp <;> omega)); have HA1 : Aside0 (w1.heap[W.heap.size]? = some (.cells #[.int .i64 1, .int .i64 5] 34 (0, 0))) := Aside0.mk (by refine blk_below ?_ hbel; repeat (first | exact blk_new _ _ | apply blk_alloc | apply blk_drewN)); have q5 := (blk_cell HA1.out 1).trans (rfl : _ = some (Value.int .i64 5)); have HS1 := Aside0.mk (HS.out.below HW1); clear hbel HS HW1)
 all_goals
  have hb1 := HS1.out.hb
  unfold PairB at hb1
  have q_0 : w1.cell? ⟨b, 0, none⟩ = some (.int .i64 A) := (blk_cell hb1 0).trans rfl
  have q_1 : w1.cell? ⟨b, 1, none⟩ = some (.int .i64 B) := (blk_cell hb1 1).trans rfl
  have q_2 : w1.cell? ⟨b, 2, none⟩ = some (.slice Ao la.length co) := (blk_cell hb1 2).trans rfl
  have q_3 : w1.cell? ⟨b, 3, none⟩ = some (.slice (some ⟨g, o, none⟩) (lb.length + 1) 1) := (blk_cell hb1 3).trans rfl
  have q_4 : w1.cell? ⟨b, 4, none⟩ = some (.int .i64 R) := (blk_cell hb1 4).trans rfl
  have g_0 := blk_frozen hb1 0
  have g_1 := blk_frozen hb1 1
  have g_2 := blk_frozen hb1 2
  have g_3 := blk_frozen hb1 3
  have g_4 := blk_frozen hb1 4
  have HLT := Aside0.mk (blk_lt hb1)
  clear hb1 k0 k1 k2 k3 k4 hlt hx
  go_wp2_with (first | (at_builtin; refine Kd.Q_append (Kd.int .i64) (w0 := w) w.heap.size rfl (.tmp 86) (.tmp 88) 26 3 (.int .i64 0) 8 rfl Try.underlying26 info3_ rfl (by decide) (by decide) (.slice Ao la.length co) la sent [.int .i64 sent] (fun k_ => some k_ ≠ ((.slice (some ⟨g, o, none⟩) (lb.length + 1) 1) : Value).ownBlock) (fun _ => False) rfl rfl rfl (fun _ h => h.elim) (fun k hk he => by have := Kd.Q_lt HS1.out.hB k he.symm; omega) HS1.out.hA HS1.out.bel HS1.out.bel.size (by have := HLB.out; omega) ?_; intro v1 w2 hQ hbel2 hgrow hat; obtain ⟨A1, c1, hv, hle⟩ := Kd.Q_slice hQ; subst hv; have ha2 := blk_grown HA1.out hgrow (Kd.Q_ne HS1.out.hA HA1.out (by decide)); have hb2 := blk_grown HS1.out.hb hgrow (Kd.Q_ne HS1.out.hA HS1.out.hb (by decide)); have r0 := (blk_cell hb2 0).trans (rfl : _ = some ((.int .i64 A) : Value)); have t0 := blk_frozen hb2 0; have r1 := (blk_cell hb2 1).trans (rfl : _ = some ((.int .i64 B) : Value)); have t1 := blk_frozen hb2 1; have r2 := (blk_cell hb2 2).trans (rfl : _ = some ((.slice Ao la.length co) : Value)); have t2 := blk_frozen hb2 2; have r3 := (blk_cell hb2 3).trans (rfl : _ = some ((.slice (some ⟨g, o, none⟩) (lb.length + 1) 1) : Value)); have t3 := blk_frozen hb2 3; have r4 := (blk_cell hb2 4).trans (rfl : _ = some ((.int .i64 R) : Value)); have t4 := blk_frozen hb2 4; have r5 := (blk_cell ha2 1).trans (rfl : _ = some (Value.int .i64 5)); have HS2 := HS1.out.app2 hQ hbel2 hgrow hat; rw [List.length_append, List.length_singleton] at HS2; replace HS2 := Aside0.mk HS2; clear q_0 q_1 q_2 q_3 q_4 g_0 g_1 g_2 g_3 g_4 q5 hQ hbel2 hgrow hat hle ha2 hb2))
 all_goals go_ret
 all_goals
  have HD := HS2.out.drop3
  simp only [if_pos, Nat.sub_self] at HD
  exact ActPost.of (HD.set1 nx)
set_option maxHeartbeats 4000000 in
set_option maxRecDepth 100000 in
theorem act_s1a2 (vx : Value) (lx : List Int) (k b g o : Nat) (A B R x nx sent code : Int) (la lb : List Int) (Ao : Option Addr) (ci co : Nat) (w W : World)
  (hS : PairS vx lx w W b A B la (x :: lb) R (.slice Ao la.length co) (.slice (some ⟨g, o, none⟩) (lb.length + 1) ci)) (hR0 : 0 ≤ R) (hR1 : R ≤ 1000) (hadv : impl_advance.f k B 5 x = some (nx, sent, code)) (hc1 : ¬ ci = 1) (hc : (code != 0) = false) (hs : (sent != 0) = true) (hl : la.length < 200) (hs8 : (sent == 8) = false) :
  Calls Try.prog 40 #[.pointer (some ⟨b, 0, none⟩), .agg #[.int .i64 1, .int .i64 5]] W (ActPost vx lx w b A nx (la ++ [sent]) (lb) R 0) := by
 have HS := Aside0.mk hS
 have hb := hS.hb
 have hx : W.cell? ⟨g, o, none⟩ = some (.int .i64 x) := (Kd.Q_cell (0 : Int) hS.hB 0 (by omega) (by omega)).1
 have hgl : g < W.heap.size := World.block_lt_of_cell? _ _ hx
 unfold PairB at hb
 have hlt := blk_lt hb
 have k0 : W.cell? ⟨b, 0, none⟩ = some (.int .i64 A) := (blk_cell hb 0).trans rfl
 have k1 : W.cell? ⟨b, 1, none⟩ = some (.int .i64 B) := (blk_cell hb 1).trans rfl
 have k2 : W.cell? ⟨b, 2, none⟩ = some (.slice Ao la.length co) := (blk_cell hb 2).trans rfl
 have k3 : W.cell? ⟨b, 3, none⟩ = some (.slice (some ⟨g, o, none⟩) (lb.length + 1) ci) := (blk_cell hb 3).trans rfl
 have k4 : W.cell? ⟨b, 4, none⟩ = some (.int .i64 R) := (blk_cell hb 4).trans rfl
 have HA := Aside0.mk hadv
 have hl2 : ((la.length : Int) == 200) = false := by simp; omega
 have HLB := Aside0.mk hl
 clear hl
 clear hadv hS hb
 go_enter Try.func40, Try.ntmps40
 go_wp2_with (first | (go_at_call 37; refine (impl_inRange.calls 5 1 5 true _ rfl).mono ?_; rintro e w' ⟨rfl, ⟨nd, rfl⟩⟩))
 go_quiet (fail)
 go_wp2
 go_quiet (fail)
 go_wp2
 go_region_with (go_at_call 38; refine (impl_advance.calls k B 5 x nx sent code _ HA.out).mono ?_; rintro e w1 ⟨rfl, hbel⟩; have HW1 : Below W.heap.size W w1 := (by refine below_then ?_ ?_ hbel; (repeat (first | exact Below.refl _ _ | apply below_alloc | apply pw_below_drewN | apply below_drew1)); (simp <;> omega)); have HA1 : Aside0 (w1.heap[W.heap.size]? = some (.cells #[.int .i64 1, .int .i64 5] 34 (0, 0))) := Aside0.mk (by refine blk_below ?_ hbel; repeat (first | exact blk_new _ _ | apply blk_alloc | apply blk_drewN)); have q5 := (blk_cell HA1.out 1).trans (rfl : _ = some (Value.int .i64 5)); have HS1 := Aside0.mk (HS.out.below HW1); clear hbel HS HW1)
 all_goals
  have hb1 := HS1.out.hb
  unfold PairB at hb1
  have q_0 : w1.cell? ⟨b, 0, none⟩ = some (.int .i64 A) := (blk_cell hb1 0).trans rfl
  have q_1 : w1.cell? ⟨b, 1, none⟩ = some (.int .i64 B) := (blk_cell hb1 1).trans rfl
  have q_2 : w1.cell? ⟨b, 2, none⟩ = some (.slice Ao la.length co) := (blk_cell hb1 2).trans rfl
  have q_3 : w1.cell? ⟨b, 3, none⟩ = some (.slice (some ⟨g, o, none⟩) (lb.length + 1) ci) := (blk_cell hb1 3).trans rfl
  have q_4 : w1.cell? ⟨b, 4, none⟩ = some (.int .i64 R) := (blk_cell hb1 4).trans rfl
  have g_0 := blk_frozen hb1 0
  have g_1 := blk_frozen hb1 1
  have g_2 := blk_frozen hb1 2
  have g_3 := blk_frozen hb1 3
  have g_4 := blk_frozen hb1 4
  have HLT := Aside0.mk (blk_lt hb1)
  clear hb1 k0 k1 k2 k3 k4 hlt hx
  go_wp2_with (first | (at_builtin; refine Kd.Q_append (Kd.int .i64) (w0 := w) w.heap.size rfl (.tmp 86) (.tmp 88) 26 3 (.int .i64 0) 8 rfl Try.underlying26 info3_ rfl (by decide) (by decide) (.slice Ao la.length co) la sent [.int .i64 sent] (fun k_ => some k_ ≠ ((.slice (some ⟨g, o, none⟩) (lb.length + 1) ci) : Value).ownBlock) (fun _ => False) rfl rfl rfl (fun _ h => h.elim) (fun k hk he => by have := Kd.Q_lt HS1.out.hB k he.symm; omega) HS1.out.hA HS1.out.bel HS1.out.bel.size (by have := HLB.out; omega) ?_; intro v1 w2 hQ hbel2 hgrow hat; obtain ⟨A1, c1, hv, hle⟩ := Kd.Q_slice hQ; subst hv; have ha2 := blk_grown HA1.out hgrow (Kd.Q_ne HS1.out.hA HA1.out (by decide)); have hb2 := blk_grown HS1.out.hb hgrow (Kd.Q_ne HS1.out.hA HS1.out.hb (by decide)); have r0 := (blk_cell hb2 0).trans (rfl : _ = some ((.int .i64 A) : Value)); have t0 := blk_frozen hb2 0; have r1 := (blk_cell hb2 1).trans (rfl : _ = some ((.int .i64 B) : Value)); have t1 := blk_frozen hb2 1; have r2 := (blk_cell hb2 2).trans (rfl : _ = some ((.slice Ao la.length co) : Value)); have t2 := blk_frozen hb2 2; have r3 := (blk_cell hb2 3).trans (rfl : _ = some ((.slice (some ⟨g, o, none⟩) (lb.length + 1) ci) : Value)); have t3 := blk_frozen hb2 3; have r4 := (blk_cell hb2 4).trans (rfl : _ = some ((.int .i64 R) : Value)); have t4 := blk_frozen hb2 4; have r5 := (blk_cell ha2 1).trans (rfl : _ = some (Value.int .i64 5)); have HS2 := HS1.out.app2 hQ hbel2 hgrow hat; rw [List.length_append, List.length_singleton] at HS2; replace HS2 := Aside0.mk HS2; clear q_0 q_1 q_2 q_3 q_4 g_0 g_1 g_2 g_3 g_4 q5 hQ hbel2 hgrow hat hle ha2 hb2))
 all_goals go_ret
 all_goals
  have HD := HS2.out.drop3
  rw [if_neg hc1] at HD
  exact ActPost.of (HD.set1 nx)
set_option maxHeartbeats 4000000 in
set_option maxRecDepth 100000 in
theorem act_s1r1 (vx : Value) (lx : List Int) (k b g o : Nat) (A B R x nx sent code : Int) (la lb : List Int) (Ao : Option Addr) (ci co : Nat) (w W : World)
  (hS : PairS vx lx w W b A B la (x :: lb) R (.slice Ao la.length co) (.slice (some ⟨g, o, none⟩) (lb.length + 1) ci)) (hR0 : 0 ≤ R) (hR1 : R ≤ 1000) (hadv : impl_advance.f k B 5 x = some (nx, sent, code)) (hc1 : ci = 1) (hc : (code != 0) = false) (hs : (sent != 0) = true) (hl : la.length < 200) (hs8 : (sent == 8) = true) :
  Calls Try.prog 40 #[.pointer (some ⟨b, 0, none⟩), .agg #[.int .i64 1, .int .i64 5]] W (ActPost vx lx w b A nx (la ++ [sent]) (lb) (mn (R + 1) 1000) 0) := by
 subst hc1
 have HS := Aside0.mk hS
 have hb := hS.hb
 have hx : W.cell? ⟨g, o, none⟩ = some (.int .i64 x) := (Kd.Q_cell (0 : Int) hS.hB 0 (by omega) (by omega)).1
 have hgl : g < W.heap.size := World.block_lt_of_cell? _ _ hx
 unfold PairB at hb
 have hlt := blk_lt hb
 have k0 : W.cell? ⟨b, 0, none⟩ = some (.int .i64 A) := (blk_cell hb 0).trans rfl
 have k1 : W.cell? ⟨b, 1, none⟩ = some (.int .i64 B) := (blk_cell hb 1).trans rfl
 have k2 : W.cell? ⟨b, 2, none⟩ = some (.slice Ao la.length co) := (blk_cell hb 2).trans rfl
 have k3 : W.cell? ⟨b, 3, none⟩ = some (.slice (some ⟨g, o, none⟩) (lb.length + 1) 1) := (blk_cell hb 3).trans rfl
 have k4 : W.cell? ⟨b, 4, none⟩ = some (.int .i64 R) := (blk_cell hb 4).trans rfl
 have HA := Aside0.mk hadv
 have hl2 : ((la.length : Int) == 200) = false := by simp; omega
 have HLB := Aside0.mk hl
 clear hl
 clear hadv hS hb
 go_enter Try.func40, Try.ntmps40
 go_wp2_with (first | (go_at_call 37; refine (impl_inRange.calls 5 1 5 true _ rfl).mono ?_; rintro e w' ⟨rfl, ⟨nd, rfl⟩⟩))
 go_quiet (fail)
 go_wp2
 go_quiet (fail)
 go_wp2
 go_region_with (go_at_call 38; refine (impl_advance.calls k B 5 x nx sent code _ HA.out).mono ?_; rintro e w1 ⟨rfl, hbel⟩; have HW1 : Below W.heap.size W w1 := (by refine below_then ?_ ?_ hbel; (repeat (first | exact Below.refl _ _ | apply below_alloc | apply pw_below_drewN | apply below_drew1)); (simp <;> omega)); have HA1 : Aside0 (w1.heap[W.heap.size]? = some (.cells #[.int .i64 1, .int .i64 5] 34 (0, 0))) := Aside0.mk (by refine blk_below ?_ hbel; repeat (first | exact blk_new _ _ | apply blk_alloc | apply blk_drewN)); have q5 := (blk_cell HA1.out 1).trans (rfl : _ = some (Value.int .i64 5)); have HS1 := Aside0.mk (HS.out.below HW1); clear hbel HS HW1)
 all_goals
  have hb1 := HS1.out.hb
  unfold PairB at hb1
  have q_0 : w1.cell? ⟨b, 0, none⟩ = some (.int .i64 A) := (blk_cell hb1 0).trans rfl
  have q_1 : w1.cell? ⟨b, 1, none⟩ = some (.int .i64 B) := (blk_cell hb1 1).trans rfl
  have q_2 : w1.cell? ⟨b, 2, none⟩ = some (.slice Ao la.length co) := (blk_cell hb1 2).trans rfl
  have q_3 : w1.cell? ⟨b, 3, none⟩ = some (.slice (some ⟨g, o, none⟩) (lb.length + 1) 1) := (blk_cell hb1 3).trans rfl
  have q_4 : w1.cell? ⟨b, 4, none⟩ = some (.int .i64 R) := (blk_cell hb1 4).trans rfl
  have g_0 := blk_frozen hb1 0
  have g_1 := blk_frozen hb1 1
  have g_2 := blk_frozen hb1 2
  have g_3 := blk_frozen hb1 3
  have g_4 := blk_frozen hb1 4
  have HLT := Aside0.mk (blk_lt hb1)
  clear hb1 k0 k1 k2 k3 k4 hlt hx
  go_wp2_with (first | (at_builtin; refine Kd.Q_append (Kd.int .i64) (w0 := w) w.heap.size rfl (.tmp 86) (.tmp 88) 26 3 (.int .i64 0) 8 rfl Try.underlying26 info3_ rfl (by decide) (by decide) (.slice Ao la.length co) la sent [.int .i64 sent] (fun k_ => some k_ ≠ ((.slice (some ⟨g, o, none⟩) (lb.length + 1) 1) : Value).ownBlock) (fun _ => False) rfl rfl rfl (fun _ h => h.elim) (fun k hk he => by have := Kd.Q_lt HS1.out.hB k he.symm; omega) HS1.out.hA HS1.out.bel HS1.out.bel.size (by have := HLB.out; omega) ?_; intro v1 w2 hQ hbel2 hgrow hat; obtain ⟨A1, c1, hv, hle⟩ := Kd.Q_slice hQ; subst hv; have ha2 := blk_grown HA1.out hgrow (Kd.Q_ne HS1.out.hA HA1.out (by decide)); have hb2 := blk_grown HS1.out.hb hgrow (Kd.Q_ne HS1.out.hA HS1.out.hb (by decide)); have r0 := (blk_cell hb2 0).trans (rfl : _ = some ((.int .i64 A) : Value)); have t0 := blk_frozen hb2 0; have r1 := (blk_cell hb2 1).trans (rfl : _ = some ((.int .i64 B) : Value)); have t1 := blk_frozen hb2 1; have r2 := (blk_cell hb2 2).trans (rfl : _ = some ((.slice Ao la.length co) : Value)); have t2 := blk_frozen hb2 2; have r3 := (blk_cell hb2 3).trans (rfl : _ = some ((.slice (some ⟨g, o, none⟩) (lb.length + 1) 1) : Value)); have t3 := blk_frozen hb2 3; have r4 := (blk_cell hb2 4).trans (rfl : _ = some ((.int .i64 R) : Value)); have t4 := blk_frozen hb2 4; have r5 := (blk_cell ha2 1).trans (rfl : _ = some (Value.int .i64 5)); have HS2 := HS1.out.app2 hQ hbel2 hgrow hat; rw [List.length_append, List.length_singleton] at HS2; replace HS2 := Aside0.mk HS2; clear q_0 q_1 q_2 q_3 q_4 g_0 g_1 g_2 g_3 g_4 q5 hQ hbel2 hgrow hat hle ha2 hb2))
 all_goals go_ret
 all_goals
  first
   | (have e_ : mn (R + 1) 1000 = 1000 := (by unfold mn; (repeat' split) <;> omega); rw [e_]; have HD := (HS2.out.set4 1000).drop3; simp only [if_pos, Nat.sub_self] at HD; exact ActPost.of (HD.set1 nx))
   | (have e_ : mn (R + 1) 1000 = (R + 1) := (by unfold mn; (repeat' split) <;> omega); rw [e_]; have HD := (HS2.out.set4 (R + 1)).drop3; simp only [if_pos, Nat.sub_self] at HD; exact ActPost.of (HD.set1 nx))
set_option maxHeartbeats 4000000 in
set_option maxRecDepth 100000 in
theorem act_s1r2 (vx : Value) (lx : List Int) (k b g o : Nat) (A B R x nx sent code : Int) (la lb : List Int) (Ao : Option Addr) (ci co : Nat) (w W : World)
  (hS : PairS vx lx w W b A B la (x :: lb) R (.slice Ao la.length co) (.slice (some ⟨g, o, none⟩) (lb.length + 1) ci)) (hR0 : 0 ≤ R) (hR1 : R ≤ 1000) (hadv : impl_advance.f k B 5 x = some (nx, sent, code)) (hc1 : ¬ ci = 1) (hc : (code != 0) = false) (hs : (sent != 0) = true) (hl : la.length < 200) (hs8 : (sent == 8) = true) :
  Calls Try.prog 40 #[.pointer (some ⟨b, 0, none⟩), .agg #[.int .i64 1, .int .i64 5]] W (ActPost vx lx w b A nx (la ++ [sent]) (lb) (mn (R + 1) 1000) 0) := by
 have HS := Aside0.mk hS
 have hb := hS.hb
 have hx : W.cell? ⟨g, o, none⟩ = some (.int .i64 x) := (Kd.Q_cell (0 : Int) hS.hB 0 (by omega) (by omega)).1
 have hgl : g < W.heap.size := World.block_lt_of_cell? _ _ hx
 unfold PairB at hb
 have hlt := blk_lt hb
 have k0 : W.cell? ⟨b, 0, none⟩ = some (.int .i64 A) := (blk_cell hb 0).trans rfl
 have k1 : W.cell? ⟨b, 1, none⟩ = some (.int .i64 B) := (blk_cell hb 1).trans rfl
 have k2 : W.cell? ⟨b, 2, none⟩ = some (.slice Ao la.length co) := (blk_cell hb 2).trans rfl
 have k3 : W.cell? ⟨b, 3, none⟩ = some (.slice (some ⟨g, o, none⟩) (lb.length + 1) ci) := (blk_cell hb 3).trans rfl
 have k4 : W.cell? ⟨b, 4, none⟩ = some (.int .i64 R) := (blk_cell hb 4).trans rfl
 have HA := Aside0.mk hadv
 have hl2 : ((la.length : Int) == 200) = false := by simp; omega
 have HLB := Aside0.mk hl
 clear hl
 clear hadv hS hb
 go_enter Try.func40, Try.ntmps40
 go_wp2_with (first | (go_at_call 37; refine (impl_inRange.calls 5 1 5 true _ rfl).mono ?_; rintro e w' ⟨rfl, ⟨nd, rfl⟩⟩))
 go_quiet (fail)
 go_wp2
 go_quiet (fail)
 go_wp2
 go_region_with (go_at_call 38; refine (impl_advance.calls k B 5 x nx sent code _ HA.out).mono ?_; rintro e w1 ⟨rfl, hbel⟩; have HW1 : Below W.heap.size W w1 := (by refine below_then ?_ ?_ hbel; (repeat (first | exact Below.refl _ _ | apply below_alloc | apply pw_below_drewN | apply below_drew1)); (simp <;> omega)); have HA1 : Aside0 (w1.heap[W.heap.size]? = some (.cells #[.int .i64 1, .int .i64 5] 34 (0, 0))) := Aside0.mk (by refine blk_below ?_ hbel; repeat (first | exact blk_new _ _ | apply blk_alloc | apply blk_drewN)); have q5 := (blk_cell HA1.out 1).trans (rfl : _ = some (Value.int .i64 5)); have HS1 := Aside0.mk (HS.out.below HW1); clear hbel HS HW1)
 all_goals
  have hb1 := HS1.out.hb
  unfold PairB at hb1
  have q_0 : w1.cell? ⟨b, 0, none⟩ = some (.int .i64 A) := (blk_cell hb1 0).trans rfl
  have q_1 : w1.cell? ⟨b, 1, none⟩ = some (.int .i64 B) := (blk_cell hb1 1).trans rfl
  have q_2 : w1.cell? ⟨b, 2, none⟩ = some (.slice Ao la.length co) := (blk_cell hb1 2).trans rfl
  have q_3 : w1.cell? ⟨b, 3, none⟩ = some (.slice (some ⟨g, o, none⟩) (lb.length + 1) ci) := (blk_cell hb1 3).trans rfl
  have q_4 : w1.cell? ⟨b, 4, none⟩ = some (.int .i64 R) := (blk_cell hb1 4).trans rfl
  have g_0 := blk_frozen hb1 0
  have g_1 := blk_frozen hb1 1
  have g_2 := blk_frozen hb1 2
  have g_3 := blk_frozen hb1 3
  have g_4 := blk_frozen hb1 4
  have HLT := Aside0.mk (blk_lt hb1)
  clear hb1 k0 k1 k2 k3 k4 hlt hx
  go_wp2_with (first | (at_builtin; refine Kd.Q_append (Kd.int .i64) (w0 := w) w.heap.size rfl (.tmp 86) (.tmp 88) 26 3 (.int .i64 0) 8 rfl Try.underlying26 info3_ rfl (by decide) (by decide) (.slice Ao la.length co) la sent [.int .i64 sent] (fun k_ => some k_ ≠ ((.slice (some ⟨g, o, none⟩) (lb.length + 1) ci) : Value).ownBlock) (fun _ => False) rfl rfl rfl (fun _ h => h.elim) (fun k hk he => by have := Kd.Q_lt HS1.out.hB k he.symm; omega) HS1.out.hA HS1.out.bel HS1.out.bel.size (by have := HLB.out; omega) ?_; intro v1 w2 hQ hbel2 hgrow hat; obtain ⟨A1, c1, hv, hle⟩ := Kd.Q_slice hQ; subst hv; have ha2 := blk_grown HA1.out hgrow (Kd.Q_ne HS1.out.hA HA1.out (by decide)); have hb2 := blk_grown HS1.out.hb hgrow (Kd.Q_ne HS1.out.hA HS1.out.hb (by decide)); have r0 := (blk_cell hb2 0).trans (rfl : _ = some ((.int .i64 A) : Value)); have t0 := blk_frozen hb2 0; have r1 := (blk_cell hb2 1).trans (rfl : _ = some ((.int .i64 B) : Value)); have t1 := blk_frozen hb2 1; have r2 := (blk_cell hb2 2).trans (rfl : _ = some ((.slice Ao la.length co) : Value)); have t2 := blk_frozen hb2 2; have r3 := (blk_cell hb2 3).trans (rfl : _ = some ((.slice (some ⟨g, o, none⟩) (lb.length + 1) ci) : Value)); have t3 := blk_frozen hb2 3; have r4 := (blk_cell hb2 4).trans (rfl : _ = some ((.int .i64 R) : Value)); have t4 := blk_frozen hb2 4; have r5 := (blk_cell ha2 1).trans (rfl : _ = some (Value.int .i64 5)); have HS2 := HS1.out.app2 hQ hbel2 hgrow hat; rw [List.length_append, List.length_singleton] at HS2; replace HS2 := Aside0.mk HS2; clear q_0 q_1 q_2 q_3 q_4 g_0 g_1 g_2 g_3 g_4 q5 hQ hbel2 hgrow hat hle ha2 hb2))
 all_goals go_ret
 all_goals
  first
   | (have e_ : mn (R + 1) 1000 = 1000 := (by unfold mn; (repeat' split) <;> omega); rw [e_]; have HD := (HS2.out.set4 1000).drop3; rw [if_neg hc1] at HD; exact ActPost.of (HD.set1 nx))
   | (have e_ : mn (R + 1) 1000 = (R + 1) := (by unfold mn; (repeat' split) <;> omega); rw [e_]; have HD := (HS2.out.set4 (R + 1)).drop3; rw [if_neg hc1] at HD; exact ActPost.of (HD.set1 nx))

/-- What an act does to one end: its state, what comes in, what goes out, the resets; the code. -/
def pCore (k : Nat) (st : Int) (inn out : List Int) (R kind : Int) : Option (Int × List Int × List Int × Int × Int) :=
 match (if kind = 5 then inn.head? else some 0) with
 | none => some (st, inn, out, R, 5)
 | some fl => (impl_advance.f k st kind fl).bind fun r =>
  if r.2.2 = 0 then
   (if r.2.1 = 0 then some (r.1, if kind = 5 then inn.tail else inn, out, R, 0)
    else if out.length = 200 then some (st, inn, out, R, 7)
    else some (r.1, if kind = 5 then inn.tail else inn, out ++ [r.2.1], if r.2.1 = 8 then mn (R + 1) 1000 else R, 0))
  else some (st, inn, out, R, r.2.2)
/-- The whole act: A, B, to A, to B, resets, code. -/
def pAct (k : Nat) (A B : Int) (la lb : List Int) (R side kind : Int) : Option (Int × Int × List Int × List Int × Int × Int) :=
 if ¬ (0 ≤ R ∧ R ≤ 1000 ∧ la.length ≤ 200 ∧ lb.length ≤ 200) then none
 else if (side = 0 ∨ side = 1) ∧ 1 ≤ kind ∧ kind ≤ 5 then
  (if side = 0 then (pCore k A la lb R kind).bind fun r => some (r.1, B, r.2.1, r.2.2.1, r.2.2.2.1, r.2.2.2.2)
   else (pCore k B lb la R kind).bind fun r => some (A, r.1, r.2.2.1, r.2.1, r.2.2.2.1, r.2.2.2.2))
 else some (A, B, la, lb, R, 3)
theorem pCore_mono (st : Int) (inn out : List Int) (R kind : Int) (k : Nat) : LeO (pCore k st inn out R kind) (pCore (k + 1) st inn out R kind) := by
 unfold pCore
 split
 ·exact LeO.refl _
 ·exact LeO.bind (impl_advance.mono _ _ _ _) (fun _ => LeO.refl _)
theorem pAct_mono (A B : Int) (la lb : List Int) (R side kind : Int) (k : Nat) : LeO (pAct k A B la lb R side kind) (pAct (k + 1) A B la lb R side kind) := by
 unfold pAct
 exact LeO.ite (LeO.none _) (LeO.ite (LeO.ite (LeO.bind (pCore_mono _ _ _ _ _ _) (fun _ => LeO.refl _)) (LeO.bind (pCore_mono _ _ _ _ _ _) (fun _ => LeO.refl _))) (LeO.refl _))
set_option maxHeartbeats 2000000 in
set_option maxRecDepth 100000 in
theorem act_bad (vx : Value) (lx : List Int) (b : Nat) (A B R side kind : Int) (la lb : List Int) (vA vB : Value) (w W : World) (hS : PairS vx lx w W b A B la lb R vA vB) (h : ¬ ((side = 0 ∨ side = 1) ∧ 1 ≤ kind ∧ kind ≤ 5)) :
  Calls Try.prog 40 #[.pointer (some ⟨b, 0, none⟩), .agg #[.int .i64 side, .int .i64 kind]] W (ActPost vx lx w b A B la lb R 3) := by
 have HS := Aside0.mk hS
 clear hS
 have main : ∀ (hr : impl_inRange.f kind 1 5 = some false ∨ (side ≠ 0 ∧ side ≠ 1)), Calls Try.prog 40 #[.pointer (some ⟨b, 0, none⟩), .agg #[.int .i64 side, .int .i64 kind]] W (ActPost vx lx w b A B la lb R 3) := by
  intro hr
  by_cases s0 : side = 0
  ·have HR := Aside0.mk (hr.resolve_right (fun h => h.1 s0))
   clear hr h
   subst s0
   go_enter Try.func40, Try.ntmps40
   go_wp2_with (first | (go_at_call 37; refine (impl_inRange.calls kind 1 5 false _ HR.out).mono ?_; rintro e w' ⟨rfl, ⟨nd, rfl⟩⟩))
   go_ret
   exact ActPost.of (HS.out.below (by repeat (first | exact Below.refl _ _ | apply below_alloc | apply pw_below_drewN | apply below_drew1)))
  ·by_cases s1 : side = 1
   ·have HR := Aside0.mk (hr.resolve_right (fun h => h.2 s1))
    clear hr h s0
    subst s1
    go_enter Try.func40, Try.ntmps40
    go_wp2_with (first | (go_at_call 37; refine (impl_inRange.calls kind 1 5 false _ HR.out).mono ?_; rintro e w' ⟨rfl, ⟨nd, rfl⟩⟩))
    go_ret
    exact ActPost.of (HS.out.below (by repeat (first | exact Below.refl _ _ | apply below_alloc | apply pw_below_drewN | apply below_drew1)))
   ·clear hr h
    have t0 : (side != 0) = true := by simpa using s0
    have t1 : (side != 1) = true := by simpa using s1
    clear s0 s1
    go_enter Try.func40, Try.ntmps40
    go_wp2
    go_ret
    exact ActPost.of (HS.out.below (by repeat (first | exact Below.refl _ _ | apply below_alloc | apply pw_below_drewN | apply below_drew1)))
 refine main ?_
 unfold impl_inRange.f
 by_cases hk : kind ≥ 1
 ·rw [if_pos hk]
  by_cases hk2 : kind ≤ 5
  ·right; constructor <;> (intro hh; exact h ⟨by omega, by omega, by omega⟩)
  ·left; simp; omega
 ·left; rw [if_neg hk]
set_option maxHeartbeats 2000000 in
set_option maxRecDepth 100000 in
theorem act_e0 (vx : Value) (lx : List Int) (b : Nat) (A B R : Int) (lb : List Int) (Ai : Option Addr) (ci : Nat) (vo : Value) (w W : World) (hS : PairS vx lx w W b A B [] lb R (.slice Ai 0 ci) vo) :
  Calls Try.prog 40 #[.pointer (some ⟨b, 0, none⟩), .agg #[.int .i64 0, .int .i64 5]] W (ActPost vx lx w b A B [] lb R 5) := by
 have HS := Aside0.mk hS
 have hb := hS.hb
 unfold PairB at hb
 have hlt := blk_lt hb
 have k2 : W.cell? ⟨b, 2, none⟩ = some (.slice Ai 0 ci) := (blk_cell hb 2).trans rfl
 clear hS hb
 go_enter Try.func40, Try.ntmps40
 go_wp2_with (first | (go_at_call 37; refine (impl_inRange.calls 5 1 5 true _ rfl).mono ?_; rintro e w' ⟨rfl, ⟨nd, rfl⟩⟩))
 go_quiet (fail)
 go_wp2
 go_ret
 exact ActPost.of (HS.out.below (by repeat (first | exact Below.refl _ _ | apply below_alloc | apply pw_below_drewN | apply below_drew1)))
set_option maxHeartbeats 2000000 in
set_option maxRecDepth 100000 in
theorem act_e1 (vx : Value) (lx : List Int) (b : Nat) (A B R : Int) (la : List Int) (Ai : Option Addr) (ci : Nat) (vo : Value) (w W : World) (hS : PairS vx lx w W b A B la [] R vo (.slice Ai 0 ci)) :
  Calls Try.prog 40 #[.pointer (some ⟨b, 0, none⟩), .agg #[.int .i64 1, .int .i64 5]] W (ActPost vx lx w b A B la [] R 5) := by
 have HS := Aside0.mk hS
 have hb := hS.hb
 unfold PairB at hb
 have hlt := blk_lt hb
 have k3 : W.cell? ⟨b, 3, none⟩ = some (.slice Ai 0 ci) := (blk_cell hb 3).trans rfl
 clear hS hb
 go_enter Try.func40, Try.ntmps40
 go_wp2_with (first | (go_at_call 37; refine (impl_inRange.calls 5 1 5 true _ rfl).mono ?_; rintro e w' ⟨rfl, ⟨nd, rfl⟩⟩))
 go_quiet (fail)
 go_wp2
 go_quiet (fail)
 go_wp2
 go_ret
 exact ActPost.of (HS.out.below (by repeat (first | exact Below.refl _ _ | apply below_alloc | apply pw_below_drewN | apply below_drew1)))
/-- WHAT AN ACT OF A PAIR DOES. -/
theorem act_calls (vx : Value) (lx : List Int) (k b : Nat) (A B R side kind A' B' R' code' : Int) (la lb la' lb' : List Int) (vA vB : Value) (w W : World) (hS : PairS vx lx w W b A B la lb R vA vB)
  (h : pAct k A B la lb R side kind = some (A', B', la', lb', R', code')) :
  Calls Try.prog 40 #[.pointer (some ⟨b, 0, none⟩), .agg #[.int .i64 side, .int .i64 kind]] W (ActPost vx lx w b A' B' la' lb' R' code') := by
 unfold pAct at h
 by_cases hbd : 0 ≤ R ∧ R ≤ 1000 ∧ la.length ≤ 200 ∧ lb.length ≤ 200
 case neg => rw [if_pos hbd] at h; cases h
 rw [if_neg (fun hn => hn hbd)] at h
 obtain ⟨hR0, hR1, hlA, hlB⟩ := hbd
 by_cases hv : (side = 0 ∨ side = 1) ∧ 1 ≤ kind ∧ kind ≤ 5
 case neg =>
  rw [if_neg hv] at h
  injection h with h
  simp only [Prod.mk.injEq] at h
  obtain ⟨rfl, rfl, rfl, rfl, rfl, rfl⟩ := h
  exact act_bad vx lx b A B R side kind la lb vA vB w W hS hv
 rw [if_pos hv] at h
 obtain ⟨hsd, hk1, hk5⟩ := hv
 obtain ⟨Aa, ca, rfl, hca⟩ := Kd.Q_slice hS.hA
 obtain ⟨Ab, cb, rfl, hcb⟩ := Kd.Q_slice hS.hB
 by_cases s0 : side = 0
 ·subst s0
  rw [if_pos rfl] at h
  obtain ⟨⟨st, i2, o2, R2, c2⟩, hc, he⟩ := Option.bind_eq_some_iff.1 h
  injection he with he
  simp only [Prod.mk.injEq] at he
  obtain ⟨rfl, rfl, rfl, rfl, rfl, rfl⟩ := he
  clear h
  unfold pCore at hc
  by_cases k5 : kind = 5
  ·subst k5
   rw [if_pos rfl] at hc
   cases la with
   | nil =>
    simp only [List.head?_nil, Option.some.injEq, Prod.mk.injEq] at hc
    obtain ⟨rfl, rfl, rfl, rfl, rfl⟩ := hc
    exact act_e0 vx lx b A B R lb Aa ca _ w W hS
   | cons x la =>
    obtain ⟨g, o, cap, hv, _⟩ := Kd.Q_form hS.hA (by simp)
    injection hv with hv1 hv2 hv3
    subst hv1 hv3
    rw [List.length_cons] at hS
    simp only [List.head?_cons] at hc
    obtain ⟨⟨nx, sent, code⟩, ha, hc⟩ := Option.bind_eq_some_iff.1 hc
    dsimp only at hc
    simp only [if_true, List.tail_cons] at hc
    by_cases c0 : code = 0
    ·subst c0
     rw [if_pos rfl] at hc
     by_cases sn : sent = 0
     ·subst sn
      rw [if_pos rfl] at hc
      injection hc with hc
      simp only [Prod.mk.injEq] at hc
      obtain ⟨rfl, rfl, rfl, rfl, rfl⟩ := hc
      by_cases hc1 : ca = 1
      ·exact act_s0z1 vx lx k b g o A B R x nx 0 0 la lb Ab ca cb w W hS hR0 hR1 ha hc1 rfl rfl
      ·exact act_s0z2 vx lx k b g o A B R x nx 0 0 la lb Ab ca cb w W hS hR0 hR1 ha hc1 rfl rfl
     ·rw [if_neg sn] at hc
      have sb : (sent != 0) = true := by simpa using sn
      by_cases hl : lb.length = 200
      ·rw [if_pos hl] at hc
       injection hc with hc
       simp only [Prod.mk.injEq] at hc
       obtain ⟨rfl, rfl, rfl, rfl, rfl⟩ := hc
       exact act_s0f vx lx k b g o A B R x nx sent 0 la lb Ab ca cb w W hS hR0 hR1 ha rfl sb hl
      ·rw [if_neg hl] at hc
       injection hc with hc
       simp only [Prod.mk.injEq] at hc
       obtain ⟨rfl, rfl, rfl, hR2, rfl⟩ := hc
       by_cases s8 : sent = 8
       ·rw [if_pos s8] at hR2
        subst hR2
        have s8b : (sent == 8) = true := by simpa using s8
        by_cases hc1 : ca = 1
        ·exact act_s0r1 vx lx k b g o A B R x nx sent 0 la lb Ab ca cb w W hS hR0 hR1 ha hc1 rfl sb (by omega) s8b
        ·exact act_s0r2 vx lx k b g o A B R x nx sent 0 la lb Ab ca cb w W hS hR0 hR1 ha hc1 rfl sb (by omega) s8b
       ·rw [if_neg s8] at hR2
        subst hR2
        have s8b : (sent == 8) = false := by simpa using s8
        by_cases hc1 : ca = 1
        ·exact act_s0a1 vx lx k b g o A B R x nx sent 0 la lb Ab ca cb w W hS hR0 hR1 ha hc1 rfl sb (by omega) s8b
        ·exact act_s0a2 vx lx k b g o A B R x nx sent 0 la lb Ab ca cb w W hS hR0 hR1 ha hc1 rfl sb (by omega) s8b
    ·rw [if_neg c0] at hc
     injection hc with hc
     simp only [Prod.mk.injEq] at hc
     obtain ⟨rfl, rfl, rfl, rfl, rfl⟩ := hc
     exact act_s0c vx lx k b g o A B R x nx sent code la lb Ab ca cb w W hS hR0 hR1 ha (by simpa using c0)
  ·rw [if_neg k5] at hc
   obtain ⟨⟨nx, sent, code⟩, ha, hc⟩ := Option.bind_eq_some_iff.1 hc
   dsimp only at hc
   by_cases c0 : code = 0
   ·subst c0
    rw [if_pos rfl] at hc
    by_cases sn : sent = 0
    ·subst sn
     rw [if_pos rfl, if_neg k5] at hc
     injection hc with hc
     simp only [Prod.mk.injEq] at hc
     obtain ⟨rfl, rfl, rfl, rfl, rfl⟩ := hc
     exact act_u0z vx lx k b A B R kind nx 0 0 la lb Aa Ab ca cb w W hS hk1 (by omega) hR0 hR1 ha rfl rfl
    ·rw [if_neg sn] at hc
     have sb : (sent != 0) = true := by simpa using sn
     by_cases hl : lb.length = 200
     ·rw [if_pos hl] at hc
      injection hc with hc
      simp only [Prod.mk.injEq] at hc
      obtain ⟨rfl, rfl, rfl, rfl, rfl⟩ := hc
      exact act_u0f vx lx k b A B R kind nx sent 0 la lb Aa Ab ca cb w W hS hk1 (by omega) hR0 hR1 ha rfl sb hl
     ·rw [if_neg hl, if_neg k5] at hc
      injection hc with hc
      simp only [Prod.mk.injEq] at hc
      obtain ⟨rfl, rfl, rfl, hR2, rfl⟩ := hc
      by_cases s8 : sent = 8
      ·rw [if_pos s8] at hR2
       subst hR2
       exact act_u0r vx lx k b A B R kind nx sent 0 la lb Aa Ab ca cb w W hS hk1 (by omega) hR0 hR1 ha rfl sb (by omega) (by simpa using s8)
      ·rw [if_neg s8] at hR2
       subst hR2
       exact act_u0a vx lx k b A B R kind nx sent 0 la lb Aa Ab ca cb w W hS hk1 (by omega) hR0 hR1 ha rfl sb (by omega) (by simpa using s8)
   ·rw [if_neg c0] at hc
    injection hc with hc
    simp only [Prod.mk.injEq] at hc
    obtain ⟨rfl, rfl, rfl, rfl, rfl⟩ := hc
    exact act_u0c vx lx k b A B R kind nx sent code la lb Aa Ab ca cb w W hS hk1 (by omega) hR0 hR1 ha (by simpa using c0)
 ·have s1 : side = 1 := by omega
  subst s1
  rw [if_neg s0] at h
  obtain ⟨⟨st, i2, o2, R2, c2⟩, hc, he⟩ := Option.bind_eq_some_iff.1 h
  injection he with he
  simp only [Prod.mk.injEq] at he
  obtain ⟨rfl, rfl, rfl, rfl, rfl, rfl⟩ := he
  clear h
  unfold pCore at hc
  by_cases k5 : kind = 5
  ·subst k5
   rw [if_pos rfl] at hc
   cases lb with
   | nil =>
    simp only [List.head?_nil, Option.some.injEq, Prod.mk.injEq] at hc
    obtain ⟨rfl, rfl, rfl, rfl, rfl⟩ := hc
    exact act_e1 vx lx b A B R la Ab cb _ w W hS
   | cons x lb =>
    obtain ⟨g, o, cap, hv, _⟩ := Kd.Q_form hS.hB (by simp)
    injection hv with hv1 hv2 hv3
    subst hv1 hv3
    rw [List.length_cons] at hS
    simp only [List.head?_cons] at hc
    obtain ⟨⟨nx, sent, code⟩, ha, hc⟩ := Option.bind_eq_some_iff.1 hc
    dsimp only at hc
    simp only [if_true, List.tail_cons] at hc
    by_cases c0 : code = 0
    ·subst c0
     rw [if_pos rfl] at hc
     by_cases sn : sent = 0
     ·subst sn
      rw [if_pos rfl] at hc
      injection hc with hc
      simp only [Prod.mk.injEq] at hc
      obtain ⟨rfl, rfl, rfl, rfl, rfl⟩ := hc
      by_cases hc1 : cb = 1
      ·exact act_s1z1 vx lx k b g o A B R x nx 0 0 la lb Aa cb ca w W hS hR0 hR1 ha hc1 rfl rfl
      ·exact act_s1z2 vx lx k b g o A B R x nx 0 0 la lb Aa cb ca w W hS hR0 hR1 ha hc1 rfl rfl
     ·rw [if_neg sn] at hc
      have sb : (sent != 0) = true := by simpa using sn
      by_cases hl : la.length = 200
      ·rw [if_pos hl] at hc
       injection hc with hc
       simp only [Prod.mk.injEq] at hc
       obtain ⟨rfl, rfl, rfl, rfl, rfl⟩ := hc
       exact act_s1f vx lx k b g o A B R x nx sent 0 la lb Aa cb ca w W hS hR0 hR1 ha rfl sb hl
      ·rw [if_neg hl] at hc
       injection hc with hc
       simp only [Prod.mk.injEq] at hc
       obtain ⟨rfl, rfl, rfl, hR2, rfl⟩ := hc
       by_cases s8 : sent = 8
       ·rw [if_pos s8] at hR2
        subst hR2
        have s8b : (sent == 8) = true := by simpa using s8
        by_cases hc1 : cb = 1
        ·exact act_s1r1 vx lx k b g o A B R x nx sent 0 la lb Aa cb ca w W hS hR0 hR1 ha hc1 rfl sb (by omega) s8b
        ·exact act_s1r2 vx lx k b g o A B R x nx sent 0 la lb Aa cb ca w W hS hR0 hR1 ha hc1 rfl sb (by omega) s8b
       ·rw [if_neg s8] at hR2
        subst hR2
        have s8b : (sent == 8) = false := by simpa using s8
        by_cases hc1 : cb = 1
        ·exact act_s1a1 vx lx k b g o A B R x nx sent 0 la lb Aa cb ca w W hS hR0 hR1 ha hc1 rfl sb (by omega) s8b
        ·exact act_s1a2 vx lx k b g o A B R x nx sent 0 la lb Aa cb ca w W hS hR0 hR1 ha hc1 rfl sb (by omega) s8b
    ·rw [if_neg c0] at hc
     injection hc with hc
     simp only [Prod.mk.injEq] at hc
     obtain ⟨rfl, rfl, rfl, rfl, rfl⟩ := hc
     exact act_s1c vx lx k b g o A B R x nx sent code la lb Aa cb ca w W hS hR0 hR1 ha (by simpa using c0)
  ·rw [if_neg k5] at hc
   obtain ⟨⟨nx, sent, code⟩, ha, hc⟩ := Option.bind_eq_some_iff.1 hc
   dsimp only at hc
   by_cases c0 : code = 0
   ·subst c0
    rw [if_pos rfl] at hc
    by_cases sn : sent = 0
    ·subst sn
     rw [if_pos rfl, if_neg k5] at hc
     injection hc with hc
     simp only [Prod.mk.injEq] at hc
     obtain ⟨rfl, rfl, rfl, rfl, rfl⟩ := hc
     exact act_u1z vx lx k b A B R kind nx 0 0 la lb Ab Aa cb ca w W hS hk1 (by omega) hR0 hR1 ha rfl rfl
    ·rw [if_neg sn] at hc
     have sb : (sent != 0) = true := by simpa using sn
     by_cases hl : la.length = 200
     ·rw [if_pos hl] at hc
      injection hc with hc
      simp only [Prod.mk.injEq] at hc
      obtain ⟨rfl, rfl, rfl, rfl, rfl⟩ := hc
      exact act_u1f vx lx k b A B R kind nx sent 0 la lb Ab Aa cb ca w W hS hk1 (by omega) hR0 hR1 ha rfl sb hl
     ·rw [if_neg hl, if_neg k5] at hc
      injection hc with hc
      simp only [Prod.mk.injEq] at hc
      obtain ⟨rfl, rfl, rfl, hR2, rfl⟩ := hc
      by_cases s8 : sent = 8
      ·rw [if_pos s8] at hR2
       subst hR2
       exact act_u1r vx lx k b A B R kind nx sent 0 la lb Ab Aa cb ca w W hS hk1 (by omega) hR0 hR1 ha rfl sb (by omega) (by simpa using s8)
      ·rw [if_neg s8] at hR2
       subst hR2
       exact act_u1a vx lx k b A B R kind nx sent 0 la lb Ab Aa cb ca w W hS hk1 (by omega) hR0 hR1 ha rfl sb (by omega) (by simpa using s8)
   ·rw [if_neg c0] at hc
    injection hc with hc
    simp only [Prod.mk.injEq] at hc
    obtain ⟨rfl, rfl, rfl, rfl, rfl⟩ := hc
    exact act_u1c vx lx k b A B R kind nx sent code la lb Ab Aa cb ca w W hS hk1 (by omega) hR0 hR1 ha (by simpa using c0)
end Go.Proofs.Ytnceiegngfpmkaa.PSta
