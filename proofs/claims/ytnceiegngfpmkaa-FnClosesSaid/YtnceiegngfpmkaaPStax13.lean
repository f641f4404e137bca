-- Written by plug.py, a program of this work, over the kit's printing program: the functions that it prints, and this work's own proofs of those that it does not.
import Derived.Test.YtnceiegngfpmkaaPStax0
import Derived.Test.YtnceiegngfpmkaaPStax7
import Derived.Test.YtnceiegngfpmkaaPStax11
import Derived.Test.YtnceiegngfpmkaaPStax12
namespace Go.Proofs.Ytnceiegngfpmkaa.PSta
open Go.RowKit Go.Proofs.YtnceiegngfpmkaaW.PrintWords Go.Proofs.YtnceiegngfpmkaaW.PrintLast Go.Proofs.YtnceiegngfpmkaaW.PrintMore
attribute [local go_sem] max2_int min2_int max_two min_two max_three min_three max_four min_four   -- for this text's walks alone
set_option linter.unusedVariables false
set_option linter.unusedSimpArgs false

/-! ### spec_l18Act: function 41 -/
def spec_l18Act.resets : List Int → Int → Int
 | [], r => r
 | x :: l, r => spec_l18Act.resets l (if x = 8 then (if r + 1 < 1000 then r + 1 else 1000) else r)
def spec_l18Act.core (k : Nat) (st : Int) (inn out : List Int) (R kind : Int) : Option (Int × List Int × List Int × Int × Int) :=
 if kind = 5 ∧ inn = [] then some (st, inn, out, R, 5)
 else (spec_l18Step.f k st kind (if kind = 5 then inn.headD 0 else 0)).bind fun r =>
  if r.2.1.length ≤ 100000 then
   (if 200 < (if kind = 5 then inn.drop 1 else inn).length ∨ 200 < (out ++ r.2.1).length then some (st, inn, out, R, 7)
    else some (r.1, (if kind = 5 then inn.drop 1 else inn), out ++ r.2.1, spec_l18Act.resets r.2.1 R, r.2.2))
  else none
def spec_l18Act.f (k : Nat) (a0_0 : Int) (a0_1 : Int) (l0_2 : List Int) (l0_3 : List Int) (a0_4 : Int) (a1_0 : Int) (a1_1 : Int) : Option (Int × Int × List Int × List Int × Int × Int) :=
 if 0 ≤ a0_4 ∧ a0_4 ≤ 1000 ∧ l0_2.length ≤ 1000 ∧ l0_3.length ≤ 1000 then
  (if 0 ≤ a1_0 ∧ a1_0 ≤ 1 ∧ 1 ≤ a1_1 ∧ a1_1 ≤ 5 then
   (if a1_0 = 0 then (spec_l18Act.core k a0_0 l0_2 l0_3 a0_4 a1_1).bind fun r => some (r.1, a0_1, r.2.1, r.2.2.1, r.2.2.2.1, r.2.2.2.2)
    else (spec_l18Act.core k a0_1 l0_3 l0_2 a0_4 a1_1).bind fun r => some (a0_0, r.1, r.2.2.1, r.2.1, r.2.2.2.1, r.2.2.2.2))
   else some (a0_0, a0_1, l0_2, l0_3, a0_4, 3))
 else none
theorem spec_l18Act.core_mono (k : Nat) (st : Int) (inn out : List Int) (R kind : Int) : LeO (spec_l18Act.core k st inn out R kind) (spec_l18Act.core (k + 1) st inn out R kind) := by
 unfold spec_l18Act.core
 exact LeO.ite (LeO.refl _) (LeO.bind (spec_l18Step.mono _ _ _ _) (fun _ => LeO.refl _))
theorem spec_l18Act.mono : ∀ a0 a1 a2 a3 a4 a5 a6 k, LeO (spec_l18Act.f k a0 a1 a2 a3 a4 a5 a6) (spec_l18Act.f (k + 1) a0 a1 a2 a3 a4 a5 a6) := by
 intro a0 a1 a2 a3 a4 a5 a6 k
 unfold spec_l18Act.f
 exact LeO.ite (LeO.ite (LeO.ite (LeO.bind (spec_l18Act.core_mono _ _ _ _ _ _) (fun _ => LeO.refl _)) (LeO.bind (spec_l18Act.core_mono _ _ _ _ _ _) (fun _ => LeO.refl _))) (LeO.refl _)) (LeO.refl _)

theorem spec_l18Act.wp_gen8 {P : Program} {c : Code} {Q : Exit → Act → World → Prop} {a : Act} {w1 : World} (F : World → Prop) (hF : F w1) (h : ∀ W, F W → Code.wp P c Q a W) : Code.wp P c Q a w1 := h _ hF
theorem spec_l18Act.blk_new_at8 (w : World) (o : Obj) (n : Nat) (h : n = w.heap.size) : (w.alloc o).heap[n]? = some o := by subst h; exact blk_new w o
theorem spec_l18Act.l01In_q (a b c : Int) (r : Bool) (w : World) (h : spec_l01In.f a b c = some r) : Calls Try.prog 35 #[.int .i64 a, .int .i64 b, .int .i64 c] w fun e w' => e = .returned (.bool r) ∧ w = w' := by
 unfold spec_l01In.f at h
 by_cases h1 : a ≥ b
 ·rw [if_pos h1] at h
  have hb1 : decide (b ≤ a) = true := decide_eq_true h1
  obtain rfl := Option.some.inj h
  clear h h1
  go_enter Try.func35, Try.ntmps35
  go_wp2
  go_ret
  exact ⟨rfl, rfl⟩
 ·rw [if_neg h1] at h
  have hb1 : decide (b ≤ a) = false := decide_eq_false h1
  obtain rfl := Option.some.inj h
  clear h h1
  go_enter Try.func35, Try.ntmps35
  go_wp2
  go_ret
  exact ⟨rfl, rfl⟩
structure spec_l18Act.LA (w W : World) (g : Nat) (A B R side kind : Int) (A2 A3 : Option Addr) (c2 c3 : Nat) (la lb : List Int) (p0 p1 p4 : Int) (v2 v3 : Value) (l2 l3 : List Int) : Prop where
 hw : W.heap[w.heap.size]? = some (.cells #[.int .i64 A, .int .i64 B, .slice A2 la.length c2, .slice A3 lb.length c3, .int .i64 R] 37 (0, 0))
 ha : W.heap[w.heap.size + 1]? = some (.cells #[.int .i64 side, .int .i64 kind] 34 (0, 0))
 hr : W.heap[w.heap.size + 2]? = some (.cells #[.int .i64 0, .int .i64 0, .slice none 0 0, .slice none 0 0, .int .i64 0] 37 (0, 0))
 hp : W.heap[g]? = some (.cells #[.int .i64 p0, .int .i64 p1, v2, v3, .int .i64 p4] 37 (0, 0))
 hg : w.heap.size + 2 < g
 h2 : Kd.R (Kd.int .i64) 3 W w.heap.size (fun k => some k ≠ v3.ownBlock) v2 l2
 h3 : Kd.R (Kd.int .i64) 3 W w.heap.size (fun k => some k ≠ v2.ownBlock) v3 l3
 hb : Below w.heap.size w W
theorem spec_l18Act.LA.below {w W : World} {g : Nat} {A B R side kind p0 p1 p4 : Int} {A2 A3 : Option Addr} {c2 c3 : Nat} {la lb l2 l3 : List Int} {v2 v3 : Value} {W1 : World} (h : spec_l18Act.LA w W g A B R side kind A2 A3 c2 c3 la lb p0 p1 p4 v2 v3 l2 l3) (hb : Below W.heap.size W W1) : spec_l18Act.LA w W1 g A B R side kind A2 A3 c2 c3 la lb p0 p1 p4 v2 v3 l2 l3 :=
 ⟨blk_below h.hw hb, blk_below h.ha hb, blk_below h.hr hb, blk_below h.hp hb, h.hg, Kd.R_below h.h2 hb, Kd.R_below h.h3 hb, below_then h.hb h.hb.size hb⟩
theorem spec_l18Act.LA.set0 {w W : World} {g : Nat} {A B R side kind p0 p1 p4 : Int} {A2 A3 : Option Addr} {c2 c3 : Nat} {la lb l2 l3 : List Int} {v2 v3 : Value} (h : spec_l18Act.LA w W g A B R side kind A2 A3 c2 c3 la lb p0 p1 p4 v2 v3 l2 l3) (x : Int) : spec_l18Act.LA w (W.setCell ⟨g, 0, none⟩ (.int .i64 x)) g A B R side kind A2 A3 c2 c3 la lb x p1 p4 v2 v3 l2 l3 :=
 ⟨blk_far h.hw (by have := h.hg; show w.heap.size ≠ g; omega) _, blk_far h.ha (by have := h.hg; show w.heap.size + 1 ≠ g; omega) _, blk_far h.hr (by have := h.hg; show w.heap.size + 2 ≠ g; omega) _, by simpa using blk_set h.hp 0 (.int .i64 x), h.hg, Kd.R_set h.h2 h.hp (by decide) _ _, Kd.R_set h.h3 h.hp (by decide) _ _, below_set h.hb (by have := h.hg; omega)⟩
theorem spec_l18Act.LA.set1 {w W : World} {g : Nat} {A B R side kind p0 p1 p4 : Int} {A2 A3 : Option Addr} {c2 c3 : Nat} {la lb l2 l3 : List Int} {v2 v3 : Value} (h : spec_l18Act.LA w W g A B R side kind A2 A3 c2 c3 la lb p0 p1 p4 v2 v3 l2 l3) (x : Int) : spec_l18Act.LA w (W.setCell ⟨g, 1, none⟩ (.int .i64 x)) g A B R side kind A2 A3 c2 c3 la lb p0 x p4 v2 v3 l2 l3 :=
 ⟨blk_far h.hw (by have := h.hg; show w.heap.size ≠ g; omega) _, blk_far h.ha (by have := h.hg; show w.heap.size + 1 ≠ g; omega) _, blk_far h.hr (by have := h.hg; show w.heap.size + 2 ≠ g; omega) _, by simpa using blk_set h.hp 1 (.int .i64 x), h.hg, Kd.R_set h.h2 h.hp (by decide) _ _, Kd.R_set h.h3 h.hp (by decide) _ _, below_set h.hb (by have := h.hg; omega)⟩
theorem spec_l18Act.LA.set4 {w W : World} {g : Nat} {A B R side kind p0 p1 p4 : Int} {A2 A3 : Option Addr} {c2 c3 : Nat} {la lb l2 l3 : List Int} {v2 v3 : Value} (h : spec_l18Act.LA w W g A B R side kind A2 A3 c2 c3 la lb p0 p1 p4 v2 v3 l2 l3) (x : Int) : spec_l18Act.LA w (W.setCell ⟨g, 4, none⟩ (.int .i64 x)) g A B R side kind A2 A3 c2 c3 la lb p0 p1 x v2 v3 l2 l3 :=
 ⟨blk_far h.hw (by have := h.hg; show w.heap.size ≠ g; omega) _, blk_far h.ha (by have := h.hg; show w.heap.size + 1 ≠ g; omega) _, blk_far h.hr (by have := h.hg; show w.heap.size + 2 ≠ g; omega) _, by simpa using blk_set h.hp 4 (.int .i64 x), h.hg, Kd.R_set h.h2 h.hp (by decide) _ _, Kd.R_set h.h3 h.hp (by decide) _ _, below_set h.hb (by have := h.hg; omega)⟩
theorem spec_l18Act.LA.set2 {w W : World} {g : Nat} {A B R side kind p0 p1 p4 : Int} {A2 A3 : Option Addr} {c2 c3 : Nat} {la lb l2 l3 : List Int} {v2 v3 : Value} {v8 : Value} {l8 : List Int} (h : spec_l18Act.LA w W g A B R side kind A2 A3 c2 c3 la lb p0 p1 p4 v2 v3 l2 l3) (h8 : Kd.R (Kd.int .i64) 3 W w.heap.size (fun k => some k ≠ v3.ownBlock) v8 l8) (h3 : Kd.R (Kd.int .i64) 3 W w.heap.size (fun k => some k ≠ v8.ownBlock) v3 l3) : spec_l18Act.LA w (W.setCell ⟨g, 2, none⟩ v8) g A B R side kind A2 A3 c2 c3 la lb p0 p1 p4 v8 v3 l8 l3 :=
 ⟨blk_far h.hw (by have := h.hg; show w.heap.size ≠ g; omega) _, blk_far h.ha (by have := h.hg; show w.heap.size + 1 ≠ g; omega) _, blk_far h.hr (by have := h.hg; show w.heap.size + 2 ≠ g; omega) _, by simpa using blk_set h.hp 2 v8, h.hg, Kd.R_set h8 h.hp (by decide) _ _, Kd.R_set h3 h.hp (by decide) _ _, below_set h.hb (by have := h.hg; omega)⟩
theorem spec_l18Act.LA.set3 {w W : World} {g : Nat} {A B R side kind p0 p1 p4 : Int} {A2 A3 : Option Addr} {c2 c3 : Nat} {la lb l2 l3 : List Int} {v2 v3 : Value} {v8 : Value} {l8 : List Int} (h : spec_l18Act.LA w W g A B R side kind A2 A3 c2 c3 la lb p0 p1 p4 v2 v3 l2 l3) (h8 : Kd.R (Kd.int .i64) 3 W w.heap.size (fun k => some k ≠ v2.ownBlock) v8 l8) (h2 : Kd.R (Kd.int .i64) 3 W w.heap.size (fun k => some k ≠ v8.ownBlock) v2 l2) : spec_l18Act.LA w (W.setCell ⟨g, 3, none⟩ v8) g A B R side kind A2 A3 c2 c3 la lb p0 p1 p4 v2 v8 l2 l8 :=
 ⟨blk_far h.hw (by have := h.hg; show w.heap.size ≠ g; omega) _, blk_far h.ha (by have := h.hg; show w.heap.size + 1 ≠ g; omega) _, blk_far h.hr (by have := h.hg; show w.heap.size + 2 ≠ g; omega) _, by simpa using blk_set h.hp 3 v8, h.hg, Kd.R_set h2 h.hp (by decide) _ _, Kd.R_set h8 h.hp (by decide) _ _, below_set h.hb (by have := h.hg; omega)⟩
/-- An append to the third's row, stored. -/
theorem spec_l18Act.LA.app3 {w W : World} {g : Nat} {A B R side kind p0 p1 p4 : Int} {A2 A3 : Option Addr} {c2 c3 : Nat} {la lb l2 l3 : List Int} {v2 v3 : Value} {v8 : Value} {l8 : List Int} {W1 : World} (h : spec_l18Act.LA w W g A B R side kind A2 A3 c2 c3 la lb p0 p1 p4 v2 v3 l2 l3) (h8 : Kd.R (Kd.int .i64) 3 W1 w.heap.size (fun k => some k ≠ v2.ownBlock) v8 l8) (hb : Below w.heap.size w W1) (hg : W.grownBy W1 v3.ownBlock) (hat : v8.ownBlock = v3.ownBlock ∨ ∃ b, v8.ownBlock = some b ∧ W.heap.size ≤ b) : spec_l18Act.LA w (W1.setCell ⟨g, 3, none⟩ v8) g A B R side kind A2 A3 c2 c3 la lb p0 p1 p4 v2 v8 l2 l8 := by
 have hp := blk_grown h.hp hg (Kd.R_ne h.h3 h.hp (by decide))
 have k2 : Kd.R (Kd.int .i64) 3 W1 w.heap.size (fun k => some k ≠ v8.ownBlock) v2 l2 := Kd.R_mono (Kd.R_after (ok := fun _ => True) (Kd.R_mono h.h2 (fun k hk => ⟨trivial, hk⟩)) hg hat) (fun _ hk => hk.2)
 exact ⟨blk_far (blk_grown h.hw hg (Kd.R_ne h.h3 h.hw (by decide))) (by have := h.hg; show w.heap.size ≠ g; omega) _, blk_far (blk_grown h.ha hg (Kd.R_ne h.h3 h.ha (by decide))) (by have := h.hg; show w.heap.size + 1 ≠ g; omega) _, blk_far (blk_grown h.hr hg (Kd.R_ne h.h3 h.hr (by decide))) (by have := h.hg; show w.heap.size + 2 ≠ g; omega) _, by simpa using blk_set hp 3 v8, h.hg, Kd.R_set k2 hp (by decide) _ _, Kd.R_set h8 hp (by decide) _ _, below_set hb (by have := h.hg; omega)⟩
theorem spec_l18Act.LA.app2 {w W : World} {g : Nat} {A B R side kind p0 p1 p4 : Int} {A2 A3 : Option Addr} {c2 c3 : Nat} {la lb l2 l3 : List Int} {v2 v3 : Value} {v8 : Value} {l8 : List Int} {W1 : World} (h : spec_l18Act.LA w W g A B R side kind A2 A3 c2 c3 la lb p0 p1 p4 v2 v3 l2 l3) (h8 : Kd.R (Kd.int .i64) 3 W1 w.heap.size (fun k => some k ≠ v3.ownBlock) v8 l8) (hb : Below w.heap.size w W1) (hg : W.grownBy W1 v2.ownBlock) (hat : v8.ownBlock = v2.ownBlock ∨ ∃ b, v8.ownBlock = some b ∧ W.heap.size ≤ b) : spec_l18Act.LA w (W1.setCell ⟨g, 2, none⟩ v8) g A B R side kind A2 A3 c2 c3 la lb p0 p1 p4 v8 v3 l8 l3 := by
 have hp := blk_grown h.hp hg (Kd.R_ne h.h2 h.hp (by decide))
 have k3 : Kd.R (Kd.int .i64) 3 W1 w.heap.size (fun k => some k ≠ v8.ownBlock) v3 l3 := Kd.R_mono (Kd.R_after (ok := fun _ => True) (Kd.R_mono h.h3 (fun k hk => ⟨trivial, hk⟩)) hg hat) (fun _ hk => hk.2)
 exact ⟨blk_far (blk_grown h.hw hg (Kd.R_ne h.h2 h.hw (by decide))) (by have := h.hg; show w.heap.size ≠ g; omega) _, blk_far (blk_grown h.ha hg (Kd.R_ne h.h2 h.ha (by decide))) (by have := h.hg; show w.heap.size + 1 ≠ g; omega) _, blk_far (blk_grown h.hr hg (Kd.R_ne h.h2 h.hr (by decide))) (by have := h.hg; show w.heap.size + 2 ≠ g; omega) _, by simpa using blk_set hp 2 v8, h.hg, Kd.R_set h8 hp (by decide) _ _, Kd.R_set k3 hp (by decide) _ _, below_set hb (by have := h.hg; omega)⟩
theorem spec_l18Act.LA.drewN {w W : World} {g : Nat} {A B R side kind p0 p1 p4 : Int} {A2 A3 : Option Addr} {c2 c3 : Nat} {la lb l2 l3 : List Int} {v2 v3 : Value} (h : spec_l18Act.LA w W g A B R side kind A2 A3 c2 c3 la lb p0 p1 p4 v2 v3 l2 l3) (n : Nat) : spec_l18Act.LA w (W.drewN n) g A B R side kind A2 A3 c2 c3 la lb p0 p1 p4 v2 v3 l2 l3 := h.below (pw_below_drewN (Below.refl _ _) n)
/-- The result's five cells, stored. -/
structure spec_l18Act.L18F (w W : World) (x0 x1 x2 x3 x4 v2 v3 : Value) (l2 l3 : List Int) : Prop where
 hr : W.heap[w.heap.size + 2]? = some (.cells #[x0, x1, x2, x3, x4] 37 (0, 0))
 h2 : Kd.R (Kd.int .i64) 3 W w.heap.size (fun k => some k ≠ v3.ownBlock) v2 l2
 h3 : Kd.R (Kd.int .i64) 3 W w.heap.size (fun k => some k ≠ v2.ownBlock) v3 l3
 hb : Below w.heap.size w W
theorem spec_l18Act.L18F.alloc {w W : World} {x0 x1 x2 x3 x4 v2 v3 : Value} {l2 l3 : List Int} (h : spec_l18Act.L18F w W x0 x1 x2 x3 x4 v2 v3 l2 l3) (o : Obj) : spec_l18Act.L18F w (W.alloc o) x0 x1 x2 x3 x4 v2 v3 l2 l3 := ⟨blk_alloc h.hr _, Kd.R_alloc h.h2 _, Kd.R_alloc h.h3 _, below_alloc h.hb _⟩
theorem spec_l18Act.fin0 {w W : World} {v2 v3 : Value} {l2 l3 : List Int} (hr : W.heap[w.heap.size + 2]? = some (.cells #[.int .i64 0, .int .i64 0, .slice none 0 0, .slice none 0 0, .int .i64 0] 37 (0, 0))) (h2_ : Kd.R (Kd.int .i64) 3 W w.heap.size (fun k => some k ≠ v3.ownBlock) v2 l2) (h3_ : Kd.R (Kd.int .i64) 3 W w.heap.size (fun k => some k ≠ v2.ownBlock) v3 l3) (hb : Below w.heap.size w W) (x0 x1 x2 x3 x4 : Value) : spec_l18Act.L18F w (((((W.setCell ⟨w.heap.size + 2, 0, none⟩ x0).setCell ⟨w.heap.size + 2, 1, none⟩ x1).setCell ⟨w.heap.size + 2, 2, none⟩ x2).setCell ⟨w.heap.size + 2, 3, none⟩ x3).setCell ⟨w.heap.size + 2, 4, none⟩ x4) x0 x1 x2 x3 x4 v2 v3 l2 l3 := by
 have h0 := blk_put (cs' := #[x0, .int .i64 0, .slice none 0 0, .slice none 0 0, .int .i64 0]) hr 0 x0 rfl
 have h1 := blk_put (cs' := #[x0, x1, .slice none 0 0, .slice none 0 0, .int .i64 0]) h0 1 x1 rfl
 have h2 := blk_put (cs' := #[x0, x1, x2, .slice none 0 0, .int .i64 0]) h1 2 x2 rfl
 have h3 := blk_put (cs' := #[x0, x1, x2, x3, .int .i64 0]) h2 3 x3 rfl
 have h4 := blk_put (cs' := #[x0, x1, x2, x3, x4]) h3 4 x4 rfl
 exact ⟨h4, Kd.R_set (Kd.R_set (Kd.R_set (Kd.R_set (Kd.R_set h2_ hr (by decide) _ _) h0 (by decide) _ _) h1 (by decide) _ _) h2 (by decide) _ _) h3 (by decide) _ _,
  Kd.R_set (Kd.R_set (Kd.R_set (Kd.R_set (Kd.R_set h3_ hr (by decide) _ _) h0 (by decide) _ _) h1 (by decide) _ _) h2 (by decide) _ _) h3 (by decide) _ _,
  below_set (below_set (below_set (below_set (below_set hb (by omega)) (by omega)) (by omega)) (by omega)) (by omega)⟩
theorem spec_l18Act.LA.fin {w W : World} {g : Nat} {A B R side kind p0 p1 p4 : Int} {A2 A3 : Option Addr} {c2 c3 : Nat} {la lb l2 l3 : List Int} {v2 v3 : Value} (h : spec_l18Act.LA w W g A B R side kind A2 A3 c2 c3 la lb p0 p1 p4 v2 v3 l2 l3) (x0 x1 x2 x3 x4 : Value) : spec_l18Act.L18F w (((((W.setCell ⟨w.heap.size + 2, 0, none⟩ x0).setCell ⟨w.heap.size + 2, 1, none⟩ x1).setCell ⟨w.heap.size + 2, 2, none⟩ x2).setCell ⟨w.heap.size + 2, 3, none⟩ x3).setCell ⟨w.heap.size + 2, 4, none⟩ x4) x0 x1 x2 x3 x4 v2 v3 l2 l3 := spec_l18Act.fin0 h.hr h.h2 h.h3 h.hb x0 x1 x2 x3 x4
def spec_l18Act.L18Post (w : World) (r1 r2 : Int) (r3 r4 : List Int) (r5 r6 : Int) (e : Ending) (w' : World) : Prop := ∃ v2_ v3_ : Value, e = .returned (.tuple #[.agg #[.int .i64 r1, .int .i64 r2, v2_, v3_, .int .i64 r5], .int .i64 r6]) ∧ Kd.R (Kd.int .i64) 3 w' w.heap.size (fun k_ => some k_ ≠ (v3_ : Value).ownBlock) v2_ r3 ∧ Kd.R (Kd.int .i64) 3 w' w.heap.size (fun k_ => some k_ ≠ (v2_ : Value).ownBlock) v3_ r4 ∧ Below w.heap.size w w'
set_option maxHeartbeats 4000000 in
set_option maxRecDepth 100000 in
theorem spec_l18Act.l18_form1 (A B R side kind : Int) (A2 A3 : Option Addr) (c2 c3 : Nat) (la lb : List Int) (w : World) (hr2 : Kd.C (Kd.int .i64) w A2 la.length la) (hc2 : la.length ≤ c2) (hr3 : Kd.C (Kd.int .i64) w A3 lb.length lb) (hc3 : lb.length ≤ c3) (hf : spec_l18Own.f A B la lb R = some (A, B, la, lb, R)) (hi : spec_l01In.f side 0 1 = some false) : Calls Try.prog 41 #[.agg #[.int .i64 A, .int .i64 B, .slice A2 la.length c2, .slice A3 lb.length c3, .int .i64 R], .agg #[.int .i64 side, .int .i64 kind]] w (spec_l18Act.L18Post w A B la lb R 3) := by
 have HI := Aside0.mk hi
 clear hi
 have hu37 := Try.underlying37
 have hu34 := Try.underlying34
 have hu30 := Try.underlying30
 have HR2 := Aside0.mk hr2
 have HR3 := Aside0.mk hr3
 have HC2 := Aside0.mk hc2
 have HC3 := Aside0.mk hc3
 have HF := Aside0.mk hf
 clear hr2 hr3 hc2 hc3 hf
 go_enter Try.func41, Try.ntmps41
 go_upto_region 2 with (go_at_call 42; (with_reducible refine (spec_l18Own.calls A B A2 c2 la A3 c3 lb R A B la lb R _ (Kd.C_below HR2.out ?hq2) HC2.out (Kd.C_below HR3.out ?hq3) HC3.out ?hf).mono ?_); (case hq2 => repeat (first | exact Below.refl _ _ | apply below_alloc)); (case hq3 => repeat (first | exact Below.refl _ _ | apply below_alloc)); (case hf => exact HF.out); rintro e w1 ⟨v2, v3, rfl, h2, h3, hbel⟩; obtain ⟨Ao2, co2, e2⟩ := Kd.R_slice h2; subst e2; obtain ⟨Ao3, co3, e3⟩ := Kd.R_slice h3; subst e3; have HB1 := Aside0.mk hbel; have H2 := Aside0.mk h2; have H3 := Aside0.mk h3; clear hbel h2 h3)
 refine spec_l18Act.wp_gen8 (fun W => spec_l18Act.LA w W w1.heap.size A B R side kind A2 A3 c2 c3 la lb A B R (.slice Ao2 la.length co2) (.slice Ao3 lb.length co3) la lb) ⟨?_, ?_, ?_, ?_, ?_, ?_, ?_, ?_⟩ ?_
 case refine_1 => exact blk_alloc (blk_below (blk_alloc (blk_alloc (blk_new _ _) _) _) HB1.out) _
 case refine_2 => exact blk_alloc (blk_below (blk_alloc (spec_l18Act.blk_new_at8 _ _ _ (by simp)) _) HB1.out) _
 case refine_3 => exact blk_alloc (blk_below (spec_l18Act.blk_new_at8 _ _ _ (by simp)) HB1.out) _
 case refine_4 => exact blk_new _ _
 case refine_5 => have := HB1.out.size; simp at this; omega
 case refine_6 => exact Kd.R_alloc (Kd.R_lower H2.out (by simp; omega)) _
 case refine_7 => exact Kd.R_alloc (Kd.R_lower H3.out (by simp; omega)) _
 case refine_8 => exact below_alloc (below_then (by repeat (first | exact Below.refl _ _ | apply below_alloc)) (by simp; omega) HB1.out) _
 generalize w1.heap.size = g
 clear H2 H3 HB1
 rintro W hS
 have HS := Aside0.mk hS
 have kw0 := blk_cell hS.hw 0; have kw1 := blk_cell hS.hw 1; have kw2 := blk_cell hS.hw 2; have kw3 := blk_cell hS.hw 3; have kw4 := blk_cell hS.hw 4; have ka0 := blk_cell hS.ha 0; have ka1 := blk_cell hS.ha 1; have kp0 := blk_cell hS.hp 0; have fp0 := blk_frozen hS.hp 0; have kp1 := blk_cell hS.hp 1; have fp1 := blk_frozen hS.hp 1; have kp2 := blk_cell hS.hp 2; have fp2 := blk_frozen hS.hp 2; have kp3 := blk_cell hS.hp 3; have fp3 := blk_frozen hS.hp 3; have kp4 := blk_cell hS.hp 4; have fp4 := blk_frozen hS.hp 4; have kr0 := blk_cell hS.hr 0; have fr0 := blk_frozen hS.hr 0; have kr1 := blk_cell hS.hr 1; have fr1 := blk_frozen hS.hr 1; have kr2 := blk_cell hS.hr 2; have fr2 := blk_frozen hS.hr 2; have kr3 := blk_cell hS.hr 3; have fr3 := blk_frozen hS.hr 3; have kr4 := blk_cell hS.hr 4; have fr4 := blk_frozen hS.hr 4; have hg := hS.hg; have hlt := blk_lt hS.hp; have lt0 := blk_lt hS.hw; have lt1 := blk_lt hS.ha; have lt2 := blk_lt hS.hr
 clear hS
 go_wp2_with (go_at_call 35; ((with_reducible refine (spec_l18Act.l01In_q side 0 1 false _ HI.out).mono ?_); rintro e w' ⟨rfl, rfl⟩))
 exact bodyPost_ret (results_ct rfl _ _ (w.heap.size + 2) 37 #[.int .i64 A, .int .i64 B, .slice Ao2 la.length co2, .slice Ao3 lb.length co3, .int .i64 R] (0, 0) _ rfl (spec_l18Act.LA.fin (HS.out) (.int .i64 A) (.int .i64 B) (.slice Ao2 la.length co2) (.slice Ao3 lb.length co3) (.int .i64 R)).hr Try.underlying37 rfl (by kernel_rfl)) rfl ⟨_, _, rfl, (spec_l18Act.LA.fin (HS.out) (.int .i64 A) (.int .i64 B) (.slice Ao2 la.length co2) (.slice Ao3 lb.length co3) (.int .i64 R)).h2, (spec_l18Act.LA.fin (HS.out) (.int .i64 A) (.int .i64 B) (.slice Ao2 la.length co2) (.slice Ao3 lb.length co3) (.int .i64 R)).h3, (spec_l18Act.LA.fin (HS.out) (.int .i64 A) (.int .i64 B) (.slice Ao2 la.length co2) (.slice Ao3 lb.length co3) (.int .i64 R)).hb⟩
set_option maxHeartbeats 4000000 in
set_option maxRecDepth 100000 in
theorem spec_l18Act.l18_form2 (A B R side kind : Int) (A2 A3 : Option Addr) (c2 c3 : Nat) (la lb : List Int) (w : World) (hr2 : Kd.C (Kd.int .i64) w A2 la.length la) (hc2 : la.length ≤ c2) (hr3 : Kd.C (Kd.int .i64) w A3 lb.length lb) (hc3 : lb.length ≤ c3) (hf : spec_l18Own.f A B la lb R = some (A, B, la, lb, R)) (hi : spec_l01In.f side 0 1 = some true) (hi2 : spec_l01In.f kind 1 5 = some false) : Calls Try.prog 41 #[.agg #[.int .i64 A, .int .i64 B, .slice A2 la.length c2, .slice A3 lb.length c3, .int .i64 R], .agg #[.int .i64 side, .int .i64 kind]] w (spec_l18Act.L18Post w A B la lb R 3) := by
 have HI := Aside0.mk hi
 have HI2 := Aside0.mk hi2
 clear hi hi2
 have hu37 := Try.underlying37
 have hu34 := Try.underlying34
 have hu30 := Try.underlying30
 have HR2 := Aside0.mk hr2
 have HR3 := Aside0.mk hr3
 have HC2 := Aside0.mk hc2
 have HC3 := Aside0.mk hc3
 have HF := Aside0.mk hf
 clear hr2 hr3 hc2 hc3 hf
 go_enter Try.func41, Try.ntmps41
 go_upto_region 2 with (go_at_call 42; (with_reducible refine (spec_l18Own.calls A B A2 c2 la A3 c3 lb R A B la lb R _ (Kd.C_below HR2.out ?hq2) HC2.out (Kd.C_below HR3.out ?hq3) HC3.out ?hf).mono ?_); (case hq2 => repeat (first | exact Below.refl _ _ | apply below_alloc)); (case hq3 => repeat (first | exact Below.refl _ _ | apply below_alloc)); (case hf => exact HF.out); rintro e w1 ⟨v2, v3, rfl, h2, h3, hbel⟩; obtain ⟨Ao2, co2, e2⟩ := Kd.R_slice h2; subst e2; obtain ⟨Ao3, co3, e3⟩ := Kd.R_slice h3; subst e3; have HB1 := Aside0.mk hbel; have H2 := Aside0.mk h2; have H3 := Aside0.mk h3; clear hbel h2 h3)
 refine spec_l18Act.wp_gen8 (fun W => spec_l18Act.LA w W w1.heap.size A B R side kind A2 A3 c2 c3 la lb A B R (.slice Ao2 la.length co2) (.slice Ao3 lb.length co3) la lb) ⟨?_, ?_, ?_, ?_, ?_, ?_, ?_, ?_⟩ ?_
 case refine_1 => exact blk_alloc (blk_below (blk_alloc (blk_alloc (blk_new _ _) _) _) HB1.out) _
 case refine_2 => exact blk_alloc (blk_below (blk_alloc (spec_l18Act.blk_new_at8 _ _ _ (by simp)) _) HB1.out) _
 case refine_3 => exact blk_alloc (blk_below (spec_l18Act.blk_new_at8 _ _ _ (by simp)) HB1.out) _
 case refine_4 => exact blk_new _ _
 case refine_5 => have := HB1.out.size; simp at this; omega
 case refine_6 => exact Kd.R_alloc (Kd.R_lower H2.out (by simp; omega)) _
 case refine_7 => exact Kd.R_alloc (Kd.R_lower H3.out (by simp; omega)) _
 case refine_8 => exact below_alloc (below_then (by repeat (first | exact Below.refl _ _ | apply below_alloc)) (by simp; omega) HB1.out) _
 generalize w1.heap.size = g
 clear H2 H3 HB1
 rintro W hS
 have HS := Aside0.mk hS
 have kw0 := blk_cell hS.hw 0; have kw1 := blk_cell hS.hw 1; have kw2 := blk_cell hS.hw 2; have kw3 := blk_cell hS.hw 3; have kw4 := blk_cell hS.hw 4; have ka0 := blk_cell hS.ha 0; have ka1 := blk_cell hS.ha 1; have kp0 := blk_cell hS.hp 0; have fp0 := blk_frozen hS.hp 0; have kp1 := blk_cell hS.hp 1; have fp1 := blk_frozen hS.hp 1; have kp2 := blk_cell hS.hp 2; have fp2 := blk_frozen hS.hp 2; have kp3 := blk_cell hS.hp 3; have fp3 := blk_frozen hS.hp 3; have kp4 := blk_cell hS.hp 4; have fp4 := blk_frozen hS.hp 4; have kr0 := blk_cell hS.hr 0; have fr0 := blk_frozen hS.hr 0; have kr1 := blk_cell hS.hr 1; have fr1 := blk_frozen hS.hr 1; have kr2 := blk_cell hS.hr 2; have fr2 := blk_frozen hS.hr 2; have kr3 := blk_cell hS.hr 3; have fr3 := blk_frozen hS.hr 3; have kr4 := blk_cell hS.hr 4; have fr4 := blk_frozen hS.hr 4; have hg := hS.hg; have hlt := blk_lt hS.hp; have lt0 := blk_lt hS.hw; have lt1 := blk_lt hS.ha; have lt2 := blk_lt hS.hr
 clear hS
 go_wp2_with (first | (go_at_call 35; ((with_reducible refine (spec_l18Act.l01In_q side 0 1 true _ HI.out).mono ?_); rintro e w' ⟨rfl, rfl⟩)) | (go_at_call 35; ((with_reducible refine (spec_l18Act.l01In_q kind 1 5 false _ HI2.out).mono ?_); rintro e w' ⟨rfl, rfl⟩)))
 exact bodyPost_ret (results_ct rfl _ _ (w.heap.size + 2) 37 #[.int .i64 A, .int .i64 B, .slice Ao2 la.length co2, .slice Ao3 lb.length co3, .int .i64 R] (0, 0) _ rfl (spec_l18Act.LA.fin (HS.out) (.int .i64 A) (.int .i64 B) (.slice Ao2 la.length co2) (.slice Ao3 lb.length co3) (.int .i64 R)).hr Try.underlying37 rfl (by kernel_rfl)) rfl ⟨_, _, rfl, (spec_l18Act.LA.fin (HS.out) (.int .i64 A) (.int .i64 B) (.slice Ao2 la.length co2) (.slice Ao3 lb.length co3) (.int .i64 R)).h2, (spec_l18Act.LA.fin (HS.out) (.int .i64 A) (.int .i64 B) (.slice Ao2 la.length co2) (.slice Ao3 lb.length co3) (.int .i64 R)).h3, (spec_l18Act.LA.fin (HS.out) (.int .i64 A) (.int .i64 B) (.slice Ao2 la.length co2) (.slice Ao3 lb.length co3) (.int .i64 R)).hb⟩
set_option maxHeartbeats 4000000 in
set_option maxRecDepth 100000 in
theorem spec_l18Act.l18_none0 (A B R : Int) (A2 A3 : Option Addr) (c2 c3 : Nat) (la lb : List Int) (w : World) (hr2 : Kd.C (Kd.int .i64) w A2 la.length la) (hc2 : la.length ≤ c2) (hr3 : Kd.C (Kd.int .i64) w A3 lb.length lb) (hc3 : lb.length ≤ c3) (hf : spec_l18Own.f A B la lb R = some (A, B, la, lb, R)) (hi : spec_l01In.f 0 0 1 = some true) (hi2 : spec_l01In.f 5 1 5 = some true) (hl : la = []) : Calls Try.prog 41 #[.agg #[.int .i64 A, .int .i64 B, .slice A2 la.length c2, .slice A3 lb.length c3, .int .i64 R], .agg #[.int .i64 0, .int .i64 5]] w (spec_l18Act.L18Post w A B la lb R 5) := by
 have HI := Aside0.mk hi
 have HI2 := Aside0.mk hi2
 have HL := Aside0.mk hl
 clear hi hi2 hl
 have hu37 := Try.underlying37
 have hu34 := Try.underlying34
 have hu30 := Try.underlying30
 have HR2 := Aside0.mk hr2
 have HR3 := Aside0.mk hr3
 have HC2 := Aside0.mk hc2
 have HC3 := Aside0.mk hc3
 have HF := Aside0.mk hf
 clear hr2 hr3 hc2 hc3 hf
 go_enter Try.func41, Try.ntmps41
 go_upto_region 2 with (go_at_call 42; (with_reducible refine (spec_l18Own.calls A B A2 c2 la A3 c3 lb R A B la lb R _ (Kd.C_below HR2.out ?hq2) HC2.out (Kd.C_below HR3.out ?hq3) HC3.out ?hf).mono ?_); (case hq2 => repeat (first | exact Below.refl _ _ | apply below_alloc)); (case hq3 => repeat (first | exact Below.refl _ _ | apply below_alloc)); (case hf => exact HF.out); rintro e w1 ⟨v2, v3, rfl, h2, h3, hbel⟩; obtain ⟨Ao2, co2, e2⟩ := Kd.R_slice h2; subst e2; obtain ⟨Ao3, co3, e3⟩ := Kd.R_slice h3; subst e3; have HB1 := Aside0.mk hbel; have H2 := Aside0.mk h2; have H3 := Aside0.mk h3; clear hbel h2 h3)
 refine spec_l18Act.wp_gen8 (fun W => spec_l18Act.LA w W w1.heap.size A B R 0 5 A2 A3 c2 c3 la lb A B R (.slice Ao2 la.length co2) (.slice Ao3 lb.length co3) la lb) ⟨?_, ?_, ?_, ?_, ?_, ?_, ?_, ?_⟩ ?_
 case refine_1 => exact blk_alloc (blk_below (blk_alloc (blk_alloc (blk_new _ _) _) _) HB1.out) _
 case refine_2 => exact blk_alloc (blk_below (blk_alloc (spec_l18Act.blk_new_at8 _ _ _ (by simp)) _) HB1.out) _
 case refine_3 => exact blk_alloc (blk_below (spec_l18Act.blk_new_at8 _ _ _ (by simp)) HB1.out) _
 case refine_4 => exact blk_new _ _
 case refine_5 => have := HB1.out.size; simp at this; omega
 case refine_6 => exact Kd.R_alloc (Kd.R_lower H2.out (by simp; omega)) _
 case refine_7 => exact Kd.R_alloc (Kd.R_lower H3.out (by simp; omega)) _
 case refine_8 => exact below_alloc (below_then (by repeat (first | exact Below.refl _ _ | apply below_alloc)) (by simp; omega) HB1.out) _
 generalize w1.heap.size = g
 clear H2 H3 HB1
 rintro W hS
 have HS := Aside0.mk hS
 have kw0 := blk_cell hS.hw 0; have kw1 := blk_cell hS.hw 1; have kw2 := blk_cell hS.hw 2; have kw3 := blk_cell hS.hw 3; have kw4 := blk_cell hS.hw 4; have ka0 := blk_cell hS.ha 0; have ka1 := blk_cell hS.ha 1; have kp0 := blk_cell hS.hp 0; have fp0 := blk_frozen hS.hp 0; have kp1 := blk_cell hS.hp 1; have fp1 := blk_frozen hS.hp 1; have kp2 := blk_cell hS.hp 2; have fp2 := blk_frozen hS.hp 2; have kp3 := blk_cell hS.hp 3; have fp3 := blk_frozen hS.hp 3; have kp4 := blk_cell hS.hp 4; have fp4 := blk_frozen hS.hp 4; have kr0 := blk_cell hS.hr 0; have fr0 := blk_frozen hS.hr 0; have kr1 := blk_cell hS.hr 1; have fr1 := blk_frozen hS.hr 1; have kr2 := blk_cell hS.hr 2; have fr2 := blk_frozen hS.hr 2; have kr3 := blk_cell hS.hr 3; have fr3 := blk_frozen hS.hr 3; have kr4 := blk_cell hS.hr 4; have fr4 := blk_frozen hS.hr 4; have hg := hS.hg; have hlt := blk_lt hS.hp; have lt0 := blk_lt hS.hw; have lt1 := blk_lt hS.ha; have lt2 := blk_lt hS.hr
 clear hS
 have hl0 : ((la.length : Int) == 0) = true := by rw [HL.out]; rfl
 go_wp2_with (first | (go_at_call 35; ((with_reducible refine (spec_l18Act.l01In_q 0 0 1 true _ HI.out).mono ?_); rintro e w' ⟨rfl, rfl⟩)) | (go_at_call 35; ((with_reducible refine (spec_l18Act.l01In_q 5 1 5 true _ HI2.out).mono ?_); rintro e w' ⟨rfl, rfl⟩)))
 exact bodyPost_ret (results_ct rfl _ _ (w.heap.size + 2) 37 #[.int .i64 A, .int .i64 B, .slice Ao2 la.length co2, .slice Ao3 lb.length co3, .int .i64 R] (0, 0) _ rfl (spec_l18Act.L18F.alloc (spec_l18Act.LA.fin (HS.out) (.int .i64 A) (.int .i64 B) (.slice Ao2 la.length co2) (.slice Ao3 lb.length co3) (.int .i64 R)) _).hr Try.underlying37 rfl (by kernel_rfl)) rfl ⟨_, _, rfl, (spec_l18Act.L18F.alloc (spec_l18Act.LA.fin (HS.out) (.int .i64 A) (.int .i64 B) (.slice Ao2 la.length co2) (.slice Ao3 lb.length co3) (.int .i64 R)) _).h2, (spec_l18Act.L18F.alloc (spec_l18Act.LA.fin (HS.out) (.int .i64 A) (.int .i64 B) (.slice Ao2 la.length co2) (.slice Ao3 lb.length co3) (.int .i64 R)) _).h3, (spec_l18Act.L18F.alloc (spec_l18Act.LA.fin (HS.out) (.int .i64 A) (.int .i64 B) (.slice Ao2 la.length co2) (.slice Ao3 lb.length co3) (.int .i64 R)) _).hb⟩
set_option maxHeartbeats 4000000 in
set_option maxRecDepth 100000 in
theorem spec_l18Act.l18_none1 (A B R : Int) (A2 A3 : Option Addr) (c2 c3 : Nat) (la lb : List Int) (w : World) (hr2 : Kd.C (Kd.int .i64) w A2 la.length la) (hc2 : la.length ≤ c2) (hr3 : Kd.C (Kd.int .i64) w A3 lb.length lb) (hc3 : lb.length ≤ c3) (hf : spec_l18Own.f A B la lb R = some (A, B, la, lb, R)) (hi : spec_l01In.f 1 0 1 = some true) (hi2 : spec_l01In.f 5 1 5 = some true) (hl : lb = []) : Calls Try.prog 41 #[.agg #[.int .i64 A, .int .i64 B, .slice A2 la.length c2, .slice A3 lb.length c3, .int .i64 R], .agg #[.int .i64 1, .int .i64 5]] w (spec_l18Act.L18Post w A B la lb R 5) := by
 have HI := Aside0.mk hi
 have HI2 := Aside0.mk hi2
 have HL := Aside0.mk hl
 clear hi hi2 hl
 have hu37 := Try.underlying37
 have hu34 := Try.underlying34
 have hu30 := Try.underlying30
 have HR2 := Aside0.mk hr2
 have HR3 := Aside0.mk hr3
 have HC2 := Aside0.mk hc2
 have HC3 := Aside0.mk hc3
 have HF := Aside0.mk hf
 clear hr2 hr3 hc2 hc3 hf
 go_enter Try.func41, Try.ntmps41
 go_upto_region 2 with (go_at_call 42; (with_reducible refine (spec_l18Own.calls A B A2 c2 la A3 c3 lb R A B la lb R _ (Kd.C_below HR2.out ?hq2) HC2.out (Kd.C_below HR3.out ?hq3) HC3.out ?hf).mono ?_); (case hq2 => repeat (first | exact Below.refl _ _ | apply below_alloc)); (case hq3 => repeat (first | exact Below.refl _ _ | apply below_alloc)); (case hf => exact HF.out); rintro e w1 ⟨v2, v3, rfl, h2, h3, hbel⟩; obtain ⟨Ao2, co2, e2⟩ := Kd.R_slice h2; subst e2; obtain ⟨Ao3, co3, e3⟩ := Kd.R_slice h3; subst e3; have HB1 := Aside0.mk hbel; have H2 := Aside0.mk h2; have H3 := Aside0.mk h3; clear hbel h2 h3)
 refine spec_l18Act.wp_gen8 (fun W => spec_l18Act.LA w W w1.heap.size A B R 1 5 A2 A3 c2 c3 la lb A B R (.slice Ao2 la.length co2) (.slice Ao3 lb.length co3) la lb) ⟨?_, ?_, ?_, ?_, ?_, ?_, ?_, ?_⟩ ?_
 case refine_1 => exact blk_alloc (blk_below (blk_alloc (blk_alloc (blk_new _ _) _) _) HB1.out) _
 case refine_2 => exact blk_alloc (blk_below (blk_alloc (spec_l18Act.blk_new_at8 _ _ _ (by simp)) _) HB1.out) _
 case refine_3 => exact blk_alloc (blk_below (spec_l18Act.blk_new_at8 _ _ _ (by simp)) HB1.out) _
 case refine_4 => exact blk_new _ _
 case refine_5 => have := HB1.out.size; simp at this; omega
 case refine_6 => exact Kd.R_alloc (Kd.R_lower H2.out (by simp; omega)) _
 case refine_7 => exact Kd.R_alloc (Kd.R_lower H3.out (by simp; omega)) _
 case refine_8 => exact below_alloc (below_then (by repeat (first | exact Below.refl _ _ | apply below_alloc)) (by simp; omega) HB1.out) _
 generalize w1.heap.size = g
 clear H2 H3 HB1
 rintro W hS
 have HS := Aside0.mk hS
 have kw0 := blk_cell hS.hw 0; have kw1 := blk_cell hS.hw 1; have kw2 := blk_cell hS.hw 2; have kw3 := blk_cell hS.hw 3; have kw4 := blk_cell hS.hw 4; have ka0 := blk_cell hS.ha 0; have ka1 := blk_cell hS.ha 1; have kp0 := blk_cell hS.hp 0; have fp0 := blk_frozen hS.hp 0; have kp1 := blk_cell hS.hp 1; have fp1 := blk_frozen hS.hp 1; have kp2 := blk_cell hS.hp 2; have fp2 := blk_frozen hS.hp 2; have kp3 := blk_cell hS.hp 3; have fp3 := blk_frozen hS.hp 3; have kp4 := blk_cell hS.hp 4; have fp4 := blk_frozen hS.hp 4; have kr0 := blk_cell hS.hr 0; have fr0 := blk_frozen hS.hr 0; have kr1 := blk_cell hS.hr 1; have fr1 := blk_frozen hS.hr 1; have kr2 := blk_cell hS.hr 2; have fr2 := blk_frozen hS.hr 2; have kr3 := blk_cell hS.hr 3; have fr3 := blk_frozen hS.hr 3; have kr4 := blk_cell hS.hr 4; have fr4 := blk_frozen hS.hr 4; have hg := hS.hg; have hlt := blk_lt hS.hp; have lt0 := blk_lt hS.hw; have lt1 := blk_lt hS.ha; have lt2 := blk_lt hS.hr
 clear hS
 have hl0 : ((lb.length : Int) == 0) = true := by rw [HL.out]; rfl
 go_wp2_with (first | (go_at_call 35; ((with_reducible refine (spec_l18Act.l01In_q 1 0 1 true _ HI.out).mono ?_); rintro e w' ⟨rfl, rfl⟩)) | (go_at_call 35; ((with_reducible refine (spec_l18Act.l01In_q 5 1 5 true _ HI2.out).mono ?_); rintro e w' ⟨rfl, rfl⟩)))
 exact bodyPost_ret (results_ct rfl _ _ (w.heap.size + 2) 37 #[.int .i64 A, .int .i64 B, .slice Ao2 la.length co2, .slice Ao3 lb.length co3, .int .i64 R] (0, 0) _ rfl (spec_l18Act.L18F.alloc (spec_l18Act.LA.fin (HS.out) (.int .i64 A) (.int .i64 B) (.slice Ao2 la.length co2) (.slice Ao3 lb.length co3) (.int .i64 R)) _).hr Try.underlying37 rfl (by kernel_rfl)) rfl ⟨_, _, rfl, (spec_l18Act.L18F.alloc (spec_l18Act.LA.fin (HS.out) (.int .i64 A) (.int .i64 B) (.slice Ao2 la.length co2) (.slice Ao3 lb.length co3) (.int .i64 R)) _).h2, (spec_l18Act.L18F.alloc (spec_l18Act.LA.fin (HS.out) (.int .i64 A) (.int .i64 B) (.slice Ao2 la.length co2) (.slice Ao3 lb.length co3) (.int .i64 R)) _).h3, (spec_l18Act.L18F.alloc (spec_l18Act.LA.fin (HS.out) (.int .i64 A) (.int .i64 B) (.slice Ao2 la.length co2) (.slice Ao3 lb.length co3) (.int .i64 R)) _).hb⟩
set_option maxHeartbeats 4000000 in
set_option maxRecDepth 100000 in
theorem spec_l18Act.l18_u0n (A B R kind nx code R' : Int) (A2 A3 : Option Addr) (c2 c3 : Nat) (la lb : List Int) (w : World) (hr2 : Kd.C (Kd.int .i64) w A2 la.length la) (hc2 : la.length ≤ c2) (hr3 : Kd.C (Kd.int .i64) w A3 lb.length lb) (hc3 : lb.length ≤ c3) (hf : spec_l18Own.f A B la lb R = some (A, B, la, lb, R)) (k : Nat) (sent : List Int) (hi : spec_l01In.f 0 0 1 = some true) (hi2 : spec_l01In.f kind 1 5 = some true) (hk5 : (kind == 5) = false) (hst : spec_l18Step.f k A kind 0 = some (nx, sent, code)) (hrs : spec_l18Act.resets sent R = R') (hR0 : 0 ≤ R) (hR1 : R ≤ 1000) (hln : lb.length + sent.length ≤ 1000000) (ho1 : (la.length) ≤ 200) (ho2 : ((lb ++ sent).length) ≤ 200) : Calls Try.prog 41 #[.agg #[.int .i64 A, .int .i64 B, .slice A2 la.length c2, .slice A3 lb.length c3, .int .i64 R], .agg #[.int .i64 0, .int .i64 kind]] w (spec_l18Act.L18Post w nx B la (lb ++ sent) R' code) := by
 have HI := Aside0.mk hi
 have HI2 := Aside0.mk hi2
 have HST := Aside0.mk hst
 have HRS := Aside0.mk hrs
 have HLN := Aside0.mk hln
 have HO1 := Aside0.mk ho1
 have HO2 := Aside0.mk ho2
 clear hi hi2 hst hrs hln ho1 ho2
 have hu37 := Try.underlying37
 have hu34 := Try.underlying34
 have hu30 := Try.underlying30
 have HR2 := Aside0.mk hr2
 have HR3 := Aside0.mk hr3
 have HC2 := Aside0.mk hc2
 have HC3 := Aside0.mk hc3
 have HF := Aside0.mk hf
 clear hr2 hr3 hc2 hc3 hf
 go_enter Try.func41, Try.ntmps41
 go_upto_region 2 with (go_at_call 42; (with_reducible refine (spec_l18Own.calls A B A2 c2 la A3 c3 lb R A B la lb R _ (Kd.C_below HR2.out ?hq2) HC2.out (Kd.C_below HR3.out ?hq3) HC3.out ?hf).mono ?_); (case hq2 => repeat (first | exact Below.refl _ _ | apply below_alloc)); (case hq3 => repeat (first | exact Below.refl _ _ | apply below_alloc)); (case hf => exact HF.out); rintro e w1 ⟨v2, v3, rfl, h2, h3, hbel⟩; obtain ⟨Ao2, co2, e2⟩ := Kd.R_slice h2; subst e2; obtain ⟨Ao3, co3, e3⟩ := Kd.R_slice h3; subst e3; have HB1 := Aside0.mk hbel; have H2 := Aside0.mk h2; have H3 := Aside0.mk h3; clear hbel h2 h3)
 refine spec_l18Act.wp_gen8 (fun W => spec_l18Act.LA w W w1.heap.size A B R 0 kind A2 A3 c2 c3 la lb A B R (.slice Ao2 la.length co2) (.slice Ao3 lb.length co3) la lb) ⟨?_, ?_, ?_, ?_, ?_, ?_, ?_, ?_⟩ ?_
 case refine_1 => exact blk_alloc (blk_below (blk_alloc (blk_alloc (blk_new _ _) _) _) HB1.out) _
 case refine_2 => exact blk_alloc (blk_below (blk_alloc (spec_l18Act.blk_new_at8 _ _ _ (by simp)) _) HB1.out) _
 case refine_3 => exact blk_alloc (blk_below (spec_l18Act.blk_new_at8 _ _ _ (by simp)) HB1.out) _
 case refine_4 => exact blk_new _ _
 case refine_5 => have := HB1.out.size; simp at this; omega
 case refine_6 => exact Kd.R_alloc (Kd.R_lower H2.out (by simp; omega)) _
 case refine_7 => exact Kd.R_alloc (Kd.R_lower H3.out (by simp; omega)) _
 case refine_8 => exact below_alloc (below_then (by repeat (first | exact Below.refl _ _ | apply below_alloc)) (by simp; omega) HB1.out) _
 generalize w1.heap.size = g
 clear H2 H3 HB1
 rintro W hS
 have HS := Aside0.mk hS
 have kw0 := blk_cell hS.hw 0; have kw1 := blk_cell hS.hw 1; have kw2 := blk_cell hS.hw 2; have kw3 := blk_cell hS.hw 3; have kw4 := blk_cell hS.hw 4; have ka0 := blk_cell hS.ha 0; have ka1 := blk_cell hS.ha 1; have kp0 := blk_cell hS.hp 0; have fp0 := blk_frozen hS.hp 0; have kp1 := blk_cell hS.hp 1; have fp1 := blk_frozen hS.hp 1; have kp2 := blk_cell hS.hp 2; have fp2 := blk_frozen hS.hp 2; have kp3 := blk_cell hS.hp 3; have fp3 := blk_frozen hS.hp 3; have kp4 := blk_cell hS.hp 4; have fp4 := blk_frozen hS.hp 4; have kr0 := blk_cell hS.hr 0; have fr0 := blk_frozen hS.hr 0; have kr1 := blk_cell hS.hr 1; have fr1 := blk_frozen hS.hr 1; have kr2 := blk_cell hS.hr 2; have fr2 := blk_frozen hS.hr 2; have kr3 := blk_cell hS.hr 3; have fr3 := blk_frozen hS.hr 3; have kr4 := blk_cell hS.hr 4; have fr4 := blk_frozen hS.hr 4; have hg := hS.hg; have hlt := blk_lt hS.hp; have lt0 := blk_lt hS.hw; have lt1 := blk_lt hS.ha; have lt2 := blk_lt hS.hr
 clear hS
 go_wp2_with (first | (go_at_call 35; ((with_reducible refine (spec_l18Act.l01In_q 0 0 1 true _ HI.out).mono ?_); rintro e w' ⟨rfl, rfl⟩)) | (go_at_call 35; ((with_reducible refine (spec_l18Act.l01In_q kind 1 5 true _ HI2.out).mono ?_); rintro e w' ⟨rfl, rfl⟩)) | (go_at_call 39; ((with_reducible refine (spec_l18Step.calls k _ _ _ nx sent code _ HST.out).mono ?_); rintro e w2 ⟨v5, rfl, h5, hbel⟩; obtain ⟨Ao5, co5, e5⟩ := Kd.R_slice h5; subst e5; have hB2 : Below W.heap.size W w2 := below_then (by with_reducible (repeat (first | exact Below.refl _ _ | apply below_alloc | apply pw_below_drewN | apply below_drew1 | refine below_set ?_ (Nat.le_refl _)))) (by simp <;> omega) hbel; have HS2 := Aside0.mk (HS.out.below hB2); have H5 := Aside0.mk (Kd.R_lower h5 (by have := HS.out.hb.size; simp <;> omega) : Kd.R (Kd.int .i64) 3 w2 w.heap.size _ _ sent); clear h5 hbel hB2; clear kw0 kw1 kw2 kw3 kw4 ka0 ka1 kp0 fp0 kr0 fr0 kp1 fp1 kr1 fr1 kp2 fp2 kr2 fr2 kp3 fp3 kr3 fr3 kp4 fp4 kr4 fr4 hlt lt0 lt1 lt2; have kw0 := blk_cell HS2.out.hw 0; have kw1 := blk_cell HS2.out.hw 1; have kw2 := blk_cell HS2.out.hw 2; have kw3 := blk_cell HS2.out.hw 3; have kw4 := blk_cell HS2.out.hw 4; have ka0 := blk_cell HS2.out.ha 0; have ka1 := blk_cell HS2.out.ha 1; have kp0 := blk_cell HS2.out.hp 0; have fp0 := blk_frozen HS2.out.hp 0; have kp1 := blk_cell HS2.out.hp 1; have fp1 := blk_frozen HS2.out.hp 1; have kp2 := blk_cell HS2.out.hp 2; have fp2 := blk_frozen HS2.out.hp 2; have kp3 := blk_cell HS2.out.hp 3; have fp3 := blk_frozen HS2.out.hp 3; have kp4 := blk_cell HS2.out.hp 4; have fp4 := blk_frozen HS2.out.hp 4; have kr0 := blk_cell HS2.out.hr 0; have fr0 := blk_frozen HS2.out.hr 0; have kr1 := blk_cell HS2.out.hr 1; have fr1 := blk_frozen HS2.out.hr 1; have kr2 := blk_cell HS2.out.hr 2; have fr2 := blk_frozen HS2.out.hr 2; have kr3 := blk_cell HS2.out.hr 3; have fr3 := blk_frozen HS2.out.hr 3; have kr4 := blk_cell HS2.out.hr 4; have fr4 := blk_frozen HS2.out.hr 4; have hlt := blk_lt HS2.out.hp; have lt0 := blk_lt HS2.out.hw; have lt1 := blk_lt HS2.out.ha; have lt2 := blk_lt HS2.out.hr)))
 go_loopg [13] sent.length (fun gk v13 w' => ∃ (j : Nat) (p4 : Int), j ≤ sent.length ∧ gk = sent.length - j ∧ v13 = .int .i64 j ∧ 0 ≤ p4 ∧ p4 ≤ 1000 ∧ Aside0 (spec_l18Act.resets (sent.drop j) p4 = R') ∧ Aside0 (spec_l18Act.LA w w' g A B R 0 kind A2 A3 c2 c3 la lb A B p4 (.slice Ao2 la.length co2) (.slice Ao3 lb.length co3) la lb) ∧ Aside0 (Kd.R (Kd.int .i64) 3 w' w.heap.size (fun _ => True) (.slice Ao5 sent.length co5) sent))
 case atStart => exact ⟨0, R, by omega, by omega, rfl, hR0, hR1, ⟨by rw [List.drop_zero]; exact HRS.out⟩, HS2, H5⟩
 case round =>
  clear HS HS2 H5 
  obtain ⟨j, p4, hj, hgk, rfl, hp0, hp1, HRj, HS2, H5⟩ := hrel
  have HGK := Aside0.mk hgk
  clear hgk
  have kw0 := blk_cell HS2.out.hw 0; have kw1 := blk_cell HS2.out.hw 1; have kw2 := blk_cell HS2.out.hw 2; have kw3 := blk_cell HS2.out.hw 3; have kw4 := blk_cell HS2.out.hw 4; have ka0 := blk_cell HS2.out.ha 0; have ka1 := blk_cell HS2.out.ha 1; have kp0 := blk_cell HS2.out.hp 0; have fp0 := blk_frozen HS2.out.hp 0; have kp1 := blk_cell HS2.out.hp 1; have fp1 := blk_frozen HS2.out.hp 1; have kp2 := blk_cell HS2.out.hp 2; have fp2 := blk_frozen HS2.out.hp 2; have kp3 := blk_cell HS2.out.hp 3; have fp3 := blk_frozen HS2.out.hp 3; have kp4 := blk_cell HS2.out.hp 4; have fp4 := blk_frozen HS2.out.hp 4; have kr0 := blk_cell HS2.out.hr 0; have fr0 := blk_frozen HS2.out.hr 0; have kr1 := blk_cell HS2.out.hr 1; have fr1 := blk_frozen HS2.out.hr 1; have kr2 := blk_cell HS2.out.hr 2; have fr2 := blk_frozen HS2.out.hr 2; have kr3 := blk_cell HS2.out.hr 3; have fr3 := blk_frozen HS2.out.hr 3; have kr4 := blk_cell HS2.out.hr 4; have fr4 := blk_frozen HS2.out.hr 4; have hlt := blk_lt HS2.out.hp; have lt0 := blk_lt HS2.out.hw; have lt1 := blk_lt HS2.out.ha; have lt2 := blk_lt HS2.out.hr; have lt5 : ∀ k, (Value.slice Ao5 sent.length co5).ownBlock = some k → k < wr.heap.size := Kd.R_lt H5.out; have HLT5 := Aside0.mk lt5; clear lt5
  by_cases hlt_ : j < sent.length
  ·have hlt2 : (j : Int) < (sent.length : Int) := by omega
   have HLJ := Aside0.mk hlt_
   have hsl : sent.length ≤ 1000000 := by have := HLN.out; omega
   obtain ⟨ad, e5, hx⟩ := Kd.at_int (Kd.R_reads' H5.out).2.2 (j : Int) (by omega) hlt2
   cases e5
   have hrd : rd sent (j : Int) = sent[j] := by simp [rd, List.getD_eq_getElem?_getD, List.getElem?_eq_getElem hlt_]
   rw [hrd, Int.toNat_natCast] at hx
   have hR' := HRj.out
   rw [List.drop_eq_getElem_cons hlt_, spec_l18Act.resets] at hR'
   clear HRj hrd
   by_cases h8 : sent[j] = 8
   ·have h8b : (sent[j] == 8) = true := by simpa using h8
    rw [if_pos h8] at hR'
    have HRj := Aside0.mk hR'
    generalize sent[j] = sj at *
    clear h8 hR'
    obtain ⟨p5, hp5⟩ : ∃ p5 : Int, (if p4 + 1 < 1000 then p4 + 1 else 1000) = p5 := ⟨_, rfl⟩
    rw [hp5] at HRj
    have b5 : 0 ≤ p5 ∧ p5 ≤ 1000 := by rw [← hp5]; split <;> omega
    go_wp2
    go_roundg (sent.length - (j + 1))
    case rel => exact ⟨j + 1, p5, by have := HLJ.out; omega, rfl, by go_num, b5.1, b5.2, HRj, ⟨HS2.out.set4 p5⟩, ⟨Kd.R_set H5.out HS2.out.hp (by decide) _ _⟩⟩
    case measure => have := HGK.out; have := HLJ.out; omega
   ·have h8b : (sent[j] == 8) = false := by simpa using h8
    rw [if_neg h8] at hR'
    have HRj := Aside0.mk hR'
    generalize sent[j] = sj at *
    clear h8 hR'
    go_wp2
    go_roundg (sent.length - (j + 1))
    case rel => exact ⟨j + 1, p4, by have := HLJ.out; omega, rfl, by go_num, hp0, hp1, HRj, HS2, H5⟩
    case measure => have := HGK.out; have := HLJ.out; omega
  ·obtain rfl : j = sent.length := by omega
   have hR' := HRj.out
   rw [List.drop_length, spec_l18Act.resets] at hR'
   subst hR'
   clear HRj HGK hj hlt_
   go_upto_region 24 with (fail)
   refine spec_l18Act.wp_gen8 (fun W' => (spec_l18Act.LA w W' g A B R 0 kind A2 A3 c2 c3 la lb nx B p4 (.slice Ao2 la.length co2) (.slice Ao3 lb.length co3) la lb) ∧ Kd.R (Kd.int .i64) 3 W' w.heap.size (fun _ => True) (.slice Ao5 sent.length co5) sent) ⟨?_, ?_⟩ ?_
   case refine_1 => exact (HS2.out.set0 nx).set2 (Kd.R_set HS2.out.h2 HS2.out.hp (by decide) _ _) (Kd.R_set HS2.out.h3 HS2.out.hp (by decide) _ _)
   case refine_2 => exact Kd.R_set (Kd.R_set H5.out HS2.out.hp (by decide) _ _) (HS2.out.set0 nx).hp (by decide) _ _
   rintro Wa ⟨hSa, h5a⟩
   clear kw0 kw1 kw2 kw3 kw4 ka0 ka1 kp0 fp0 kr0 fr0 kp1 fp1 kr1 fr1 kp2 fp2 kr2 fr2 kp3 fp3 kr3 fr3 kp4 fp4 kr4 fr4 hlt lt0 lt1 lt2
   clear HS2 H5 HLT5
   have HS2 := Aside0.mk hSa
   have H5 := Aside0.mk h5a
   clear hSa h5a
   have kw0 := blk_cell HS2.out.hw 0; have kw1 := blk_cell HS2.out.hw 1; have kw2 := blk_cell HS2.out.hw 2; have kw3 := blk_cell HS2.out.hw 3; have kw4 := blk_cell HS2.out.hw 4; have ka0 := blk_cell HS2.out.ha 0; have ka1 := blk_cell HS2.out.ha 1; have kp0 := blk_cell HS2.out.hp 0; have fp0 := blk_frozen HS2.out.hp 0; have kp1 := blk_cell HS2.out.hp 1; have fp1 := blk_frozen HS2.out.hp 1; have kp2 := blk_cell HS2.out.hp 2; have fp2 := blk_frozen HS2.out.hp 2; have kp3 := blk_cell HS2.out.hp 3; have fp3 := blk_frozen HS2.out.hp 3; have kp4 := blk_cell HS2.out.hp 4; have fp4 := blk_frozen HS2.out.hp 4; have kr0 := blk_cell HS2.out.hr 0; have fr0 := blk_frozen HS2.out.hr 0; have kr1 := blk_cell HS2.out.hr 1; have fr1 := blk_frozen HS2.out.hr 1; have kr2 := blk_cell HS2.out.hr 2; have fr2 := blk_frozen HS2.out.hr 2; have kr3 := blk_cell HS2.out.hr 3; have fr3 := blk_frozen HS2.out.hr 3; have kr4 := blk_cell HS2.out.hr 4; have fr4 := blk_frozen HS2.out.hr 4; have hlt := blk_lt HS2.out.hp; have lt0 := blk_lt HS2.out.hw; have lt1 := blk_lt HS2.out.ha; have lt2 := blk_lt HS2.out.hr
   go_upto_region 28 with (at_builtin; refine Kd.R_append_rows (Kd.int .i64) (w0 := w) w.heap.size rfl (.tmp 87) (.tmp 88) 26 3 (.int .i64 0) 8 rfl Try.underlying26 info3 rfl (by decide) (by decide) (.slice Ao3 lb.length co3) lb sent _ _ _ (fun k_ => some k_ ≠ ((.slice Ao2 la.length co2) : Value).ownBlock) (fun _ => False) rfl rfl HS2.out.h3 (Kd.R_reads' H5.out).2.2 (fun _ _ h => h) (fun _ h => h.elim) (fun k hk he => by have := Kd.R_lt HS2.out.h2 k he.symm; omega) HS2.out.hb HS2.out.hb.size (by have := HLN.out; omega) ?_; intro v9 w9 ho9 hb9 hg9 hat9; obtain ⟨Ao9, co9, e9⟩ := Kd.R_slice ho9; rw [List.length_append] at e9; subst e9; have HA := Aside0.mk (HS2.out.app3 ho9 hb9 hg9 hat9); have g2 := blk_grown HS2.out.hp hg9 (Kd.R_ne HS2.out.h3 HS2.out.hp (by decide)); have kg := blk_cell g2 3; have fg := blk_frozen g2 3; clear g2 ho9 hb9 hg9 hat9)
   refine spec_l18Act.wp_gen8 (fun W' => spec_l18Act.LA w W' g A B R 0 kind A2 A3 c2 c3 la lb nx B p4 (.slice Ao2 la.length co2) (.slice Ao9 (lb.length + sent.length) co9) la (lb ++ sent)) HA.out ?_
   rintro Wb hSb
   clear kw0 kw1 kw2 kw3 kw4 ka0 ka1 kp0 fp0 kr0 fr0 kp1 fp1 kr1 fr1 kp2 fp2 kr2 fr2 kp3 fp3 kr3 fr3 kp4 fp4 kr4 fr4 hlt lt0 lt1 lt2
   clear HS2 H5 HA kg fg
   have hln2 : (lb ++ sent).length = lb.length + sent.length := List.length_append
   have HLN2 := Aside0.mk hln2
   clear hln2
   generalize hnn : lb.length + sent.length = nn at *
   have HMM := Aside0.mk hnn
   clear hnn
   have HS2 := Aside0.mk hSb
   clear hSb
   have kw0 := blk_cell HS2.out.hw 0; have kw1 := blk_cell HS2.out.hw 1; have kw2 := blk_cell HS2.out.hw 2; have kw3 := blk_cell HS2.out.hw 3; have kw4 := blk_cell HS2.out.hw 4; have ka0 := blk_cell HS2.out.ha 0; have ka1 := blk_cell HS2.out.ha 1; have kp0 := blk_cell HS2.out.hp 0; have fp0 := blk_frozen HS2.out.hp 0; have kp1 := blk_cell HS2.out.hp 1; have fp1 := blk_frozen HS2.out.hp 1; have kp2 := blk_cell HS2.out.hp 2; have fp2 := blk_frozen HS2.out.hp 2; have kp3 := blk_cell HS2.out.hp 3; have fp3 := blk_frozen HS2.out.hp 3; have kp4 := blk_cell HS2.out.hp 4; have fp4 := blk_frozen HS2.out.hp 4; have kr0 := blk_cell HS2.out.hr 0; have fr0 := blk_frozen HS2.out.hr 0; have kr1 := blk_cell HS2.out.hr 1; have fr1 := blk_frozen HS2.out.hr 1; have kr2 := blk_cell HS2.out.hr 2; have fr2 := blk_frozen HS2.out.hr 2; have kr3 := blk_cell HS2.out.hr 3; have fr3 := blk_frozen HS2.out.hr 3; have kr4 := blk_cell HS2.out.hr 4; have fr4 := blk_frozen HS2.out.hr 4; have hlt := blk_lt HS2.out.hp; have lt0 := blk_lt HS2.out.hw; have lt1 := blk_lt HS2.out.ha; have lt2 := blk_lt HS2.out.hr
   have o1 : decide ((200 : Int) < (la.length : Int)) = false := decide_eq_false (by have := HO1.out; have := HLN2.out; omega)
   have o2 : decide ((200 : Int) < (nn : Int)) = false := decide_eq_false (by have := HO2.out; have := HLN2.out; omega)
   have o3 : decide (200 < la.length) = false := decide_eq_false (by have := HO1.out; have := HLN2.out; omega)
   have o4 : decide (200 < nn) = false := decide_eq_false (by have := HO2.out; have := HLN2.out; omega)
   go_wp2
   exact bodyPost_ret (results_ct rfl _ _ (w.heap.size + 2) 37 #[.int .i64 nx, .int .i64 B, .slice Ao2 la.length co2, .slice Ao9 nn co9, .int .i64 p4] (0, 0) _ rfl (spec_l18Act.LA.fin (HS2.out) (.int .i64 nx) (.int .i64 B) (.slice Ao2 la.length co2) (.slice Ao9 nn co9) (.int .i64 p4)).hr Try.underlying37 rfl (by kernel_rfl)) rfl ⟨_, _, rfl, (spec_l18Act.LA.fin (HS2.out) (.int .i64 nx) (.int .i64 B) (.slice Ao2 la.length co2) (.slice Ao9 nn co9) (.int .i64 p4)).h2, (spec_l18Act.LA.fin (HS2.out) (.int .i64 nx) (.int .i64 B) (.slice Ao2 la.length co2) (.slice Ao9 nn co9) (.int .i64 p4)).h3, (spec_l18Act.LA.fin (HS2.out) (.int .i64 nx) (.int .i64 B) (.slice Ao2 la.length co2) (.slice Ao9 nn co9) (.int .i64 p4)).hb⟩
set_option maxHeartbeats 4000000 in
set_option maxRecDepth 100000 in
theorem spec_l18Act.l18_u0a (A B R kind nx code R' : Int) (A2 A3 : Option Addr) (c2 c3 : Nat) (la lb : List Int) (w : World) (hr2 : Kd.C (Kd.int .i64) w A2 la.length la) (hc2 : la.length ≤ c2) (hr3 : Kd.C (Kd.int .i64) w A3 lb.length lb) (hc3 : lb.length ≤ c3) (hf : spec_l18Own.f A B la lb R = some (A, B, la, lb, R)) (k : Nat) (sent : List Int) (hi : spec_l01In.f 0 0 1 = some true) (hi2 : spec_l01In.f kind 1 5 = some true) (hk5 : (kind == 5) = false) (hst : spec_l18Step.f k A kind 0 = some (nx, sent, code)) (hrs : spec_l18Act.resets sent R = R') (hR0 : 0 ≤ R) (hR1 : R ≤ 1000) (hln : lb.length + sent.length ≤ 1000000) (ho1 : 200 < (la.length)) : Calls Try.prog 41 #[.agg #[.int .i64 A, .int .i64 B, .slice A2 la.length c2, .slice A3 lb.length c3, .int .i64 R], .agg #[.int .i64 0, .int .i64 kind]] w (spec_l18Act.L18Post w A B la lb R 7) := by
 have HI := Aside0.mk hi
 have HI2 := Aside0.mk hi2
 have HST := Aside0.mk hst
 have HRS := Aside0.mk hrs
 have HLN := Aside0.mk hln
 have HO1 := Aside0.mk ho1
 clear hi hi2 hst hrs hln ho1
 have hu37 := Try.underlying37
 have hu34 := Try.underlying34
 have hu30 := Try.underlying30
 have HR2 := Aside0.mk hr2
 have HR3 := Aside0.mk hr3
 have HC2 := Aside0.mk hc2
 have HC3 := Aside0.mk hc3
 have HF := Aside0.mk hf
 clear hr2 hr3 hc2 hc3 hf
 go_enter Try.func41, Try.ntmps41
 go_upto_region 2 with (go_at_call 42; (with_reducible refine (spec_l18Own.calls A B A2 c2 la A3 c3 lb R A B la lb R _ (Kd.C_below HR2.out ?hq2) HC2.out (Kd.C_below HR3.out ?hq3) HC3.out ?hf).mono ?_); (case hq2 => repeat (first | exact Below.refl _ _ | apply below_alloc)); (case hq3 => repeat (first | exact Below.refl _ _ | apply below_alloc)); (case hf => exact HF.out); rintro e w1 ⟨v2, v3, rfl, h2, h3, hbel⟩; obtain ⟨Ao2, co2, e2⟩ := Kd.R_slice h2; subst e2; obtain ⟨Ao3, co3, e3⟩ := Kd.R_slice h3; subst e3; have HB1 := Aside0.mk hbel; have H2 := Aside0.mk h2; have H3 := Aside0.mk h3; clear hbel h2 h3)
 refine spec_l18Act.wp_gen8 (fun W => spec_l18Act.LA w W w1.heap.size A B R 0 kind A2 A3 c2 c3 la lb A B R (.slice Ao2 la.length co2) (.slice Ao3 lb.length co3) la lb) ⟨?_, ?_, ?_, ?_, ?_, ?_, ?_, ?_⟩ ?_
 case refine_1 => exact blk_alloc (blk_below (blk_alloc (blk_alloc (blk_new _ _) _) _) HB1.out) _
 case refine_2 => exact blk_alloc (blk_below (blk_alloc (spec_l18Act.blk_new_at8 _ _ _ (by simp)) _) HB1.out) _
 case refine_3 => exact blk_alloc (blk_below (spec_l18Act.blk_new_at8 _ _ _ (by simp)) HB1.out) _
 case refine_4 => exact blk_new _ _
 case refine_5 => have := HB1.out.size; simp at this; omega
 case refine_6 => exact Kd.R_alloc (Kd.R_lower H2.out (by simp; omega)) _
 case refine_7 => exact Kd.R_alloc (Kd.R_lower H3.out (by simp; omega)) _
 case refine_8 => exact below_alloc (below_then (by repeat (first | exact Below.refl _ _ | apply below_alloc)) (by simp; omega) HB1.out) _
 generalize w1.heap.size = g
 clear H2 H3 HB1
 rintro W hS
 have HS := Aside0.mk hS
 have kw0 := blk_cell hS.hw 0; have kw1 := blk_cell hS.hw 1; have kw2 := blk_cell hS.hw 2; have kw3 := blk_cell hS.hw 3; have kw4 := blk_cell hS.hw 4; have ka0 := blk_cell hS.ha 0; have ka1 := blk_cell hS.ha 1; have kp0 := blk_cell hS.hp 0; have fp0 := blk_frozen hS.hp 0; have kp1 := blk_cell hS.hp 1; have fp1 := blk_frozen hS.hp 1; have kp2 := blk_cell hS.hp 2; have fp2 := blk_frozen hS.hp 2; have kp3 := blk_cell hS.hp 3; have fp3 := blk_frozen hS.hp 3; have kp4 := blk_cell hS.hp 4; have fp4 := blk_frozen hS.hp 4; have kr0 := blk_cell hS.hr 0; have fr0 := blk_frozen hS.hr 0; have kr1 := blk_cell hS.hr 1; have fr1 := blk_frozen hS.hr 1; have kr2 := blk_cell hS.hr 2; have fr2 := blk_frozen hS.hr 2; have kr3 := blk_cell hS.hr 3; have fr3 := blk_frozen hS.hr 3; have kr4 := blk_cell hS.hr 4; have fr4 := blk_frozen hS.hr 4; have hg := hS.hg; have hlt := blk_lt hS.hp; have lt0 := blk_lt hS.hw; have lt1 := blk_lt hS.ha; have lt2 := blk_lt hS.hr
 clear hS
 go_wp2_with (first | (go_at_call 35; ((with_reducible refine (spec_l18Act.l01In_q 0 0 1 true _ HI.out).mono ?_); rintro e w' ⟨rfl, rfl⟩)) | (go_at_call 35; ((with_reducible refine (spec_l18Act.l01In_q kind 1 5 true _ HI2.out).mono ?_); rintro e w' ⟨rfl, rfl⟩)) | (go_at_call 39; ((with_reducible refine (spec_l18Step.calls k _ _ _ nx sent code _ HST.out).mono ?_); rintro e w2 ⟨v5, rfl, h5, hbel⟩; obtain ⟨Ao5, co5, e5⟩ := Kd.R_slice h5; subst e5; have hB2 : Below W.heap.size W w2 := below_then (by with_reducible (repeat (first | exact Below.refl _ _ | apply below_alloc | apply pw_below_drewN | apply below_drew1 | refine below_set ?_ (Nat.le_refl _)))) (by simp <;> omega) hbel; have HS2 := Aside0.mk (HS.out.below hB2); have H5 := Aside0.mk (Kd.R_lower h5 (by have := HS.out.hb.size; simp <;> omega) : Kd.R (Kd.int .i64) 3 w2 w.heap.size _ _ sent); clear h5 hbel hB2; clear kw0 kw1 kw2 kw3 kw4 ka0 ka1 kp0 fp0 kr0 fr0 kp1 fp1 kr1 fr1 kp2 fp2 kr2 fr2 kp3 fp3 kr3 fr3 kp4 fp4 kr4 fr4 hlt lt0 lt1 lt2; have kw0 := blk_cell HS2.out.hw 0; have kw1 := blk_cell HS2.out.hw 1; have kw2 := blk_cell HS2.out.hw 2; have kw3 := blk_cell HS2.out.hw 3; have kw4 := blk_cell HS2.out.hw 4; have ka0 := blk_cell HS2.out.ha 0; have ka1 := blk_cell HS2.out.ha 1; have kp0 := blk_cell HS2.out.hp 0; have fp0 := blk_frozen HS2.out.hp 0; have kp1 := blk_cell HS2.out.hp 1; have fp1 := blk_frozen HS2.out.hp 1; have kp2 := blk_cell HS2.out.hp 2; have fp2 := blk_frozen HS2.out.hp 2; have kp3 := blk_cell HS2.out.hp 3; have fp3 := blk_frozen HS2.out.hp 3; have kp4 := blk_cell HS2.out.hp 4; have fp4 := blk_frozen HS2.out.hp 4; have kr0 := blk_cell HS2.out.hr 0; have fr0 := blk_frozen HS2.out.hr 0; have kr1 := blk_cell HS2.out.hr 1; have fr1 := blk_frozen HS2.out.hr 1; have kr2 := blk_cell HS2.out.hr 2; have fr2 := blk_frozen HS2.out.hr 2; have kr3 := blk_cell HS2.out.hr 3; have fr3 := blk_frozen HS2.out.hr 3; have kr4 := blk_cell HS2.out.hr 4; have fr4 := blk_frozen HS2.out.hr 4; have hlt := blk_lt HS2.out.hp; have lt0 := blk_lt HS2.out.hw; have lt1 := blk_lt HS2.out.ha; have lt2 := blk_lt HS2.out.hr)))
 go_loopg [13] sent.length (fun gk v13 w' => ∃ (j : Nat) (p4 : Int), j ≤ sent.length ∧ gk = sent.length - j ∧ v13 = .int .i64 j ∧ 0 ≤ p4 ∧ p4 ≤ 1000 ∧ Aside0 (spec_l18Act.resets (sent.drop j) p4 = R') ∧ Aside0 (spec_l18Act.LA w w' g A B R 0 kind A2 A3 c2 c3 la lb A B p4 (.slice Ao2 la.length co2) (.slice Ao3 lb.length co3) la lb) ∧ Aside0 (Kd.R (Kd.int .i64) 3 w' w.heap.size (fun _ => True) (.slice Ao5 sent.length co5) sent))
 case atStart => exact ⟨0, R, by omega, by omega, rfl, hR0, hR1, ⟨by rw [List.drop_zero]; exact HRS.out⟩, HS2, H5⟩
 case round =>
  clear HS HS2 H5 
  obtain ⟨j, p4, hj, hgk, rfl, hp0, hp1, HRj, HS2, H5⟩ := hrel
  have HGK := Aside0.mk hgk
  clear hgk
  have kw0 := blk_cell HS2.out.hw 0; have kw1 := blk_cell HS2.out.hw 1; have kw2 := blk_cell HS2.out.hw 2; have kw3 := blk_cell HS2.out.hw 3; have kw4 := blk_cell HS2.out.hw 4; have ka0 := blk_cell HS2.out.ha 0; have ka1 := blk_cell HS2.out.ha 1; have kp0 := blk_cell HS2.out.hp 0; have fp0 := blk_frozen HS2.out.hp 0; have kp1 := blk_cell HS2.out.hp 1; have fp1 := blk_frozen HS2.out.hp 1; have kp2 := blk_cell HS2.out.hp 2; have fp2 := blk_frozen HS2.out.hp 2; have kp3 := blk_cell HS2.out.hp 3; have fp3 := blk_frozen HS2.out.hp 3; have kp4 := blk_cell HS2.out.hp 4; have fp4 := blk_frozen HS2.out.hp 4; have kr0 := blk_cell HS2.out.hr 0; have fr0 := blk_frozen HS2.out.hr 0; have kr1 := blk_cell HS2.out.hr 1; have fr1 := blk_frozen HS2.out.hr 1; have kr2 := blk_cell HS2.out.hr 2; have fr2 := blk_frozen HS2.out.hr 2; have kr3 := blk_cell HS2.out.hr 3; have fr3 := blk_frozen HS2.out.hr 3; have kr4 := blk_cell HS2.out.hr 4; have fr4 := blk_frozen HS2.out.hr 4; have hlt := blk_lt HS2.out.hp; have lt0 := blk_lt HS2.out.hw; have lt1 := blk_lt HS2.out.ha; have lt2 := blk_lt HS2.out.hr; have lt5 : ∀ k, (Value.slice Ao5 sent.length co5).ownBlock = some k → k < wr.heap.size := Kd.R_lt H5.out; have HLT5 := Aside0.mk lt5; clear lt5
  by_cases hlt_ : j < sent.length
  ·have hlt2 : (j : Int) < (sent.length : Int) := by omega
   have HLJ := Aside0.mk hlt_
   have hsl : sent.length ≤ 1000000 := by have := HLN.out; omega
   obtain ⟨ad, e5, hx⟩ := Kd.at_int (Kd.R_reads' H5.out).2.2 (j : Int) (by omega) hlt2
   cases e5
   have hrd : rd sent (j : Int) = sent[j] := by simp [rd, List.getD_eq_getElem?_getD, List.getElem?_eq_getElem hlt_]
   rw [hrd, Int.toNat_natCast] at hx
   have hR' := HRj.out
   rw [List.drop_eq_getElem_cons hlt_, spec_l18Act.resets] at hR'
   clear HRj hrd
   by_cases h8 : sent[j] = 8
   ·have h8b : (sent[j] == 8) = true := by simpa using h8
    rw [if_pos h8] at hR'
    have HRj := Aside0.mk hR'
    generalize sent[j] = sj at *
    clear h8 hR'
    obtain ⟨p5, hp5⟩ : ∃ p5 : Int, (if p4 + 1 < 1000 then p4 + 1 else 1000) = p5 := ⟨_, rfl⟩
    rw [hp5] at HRj
    have b5 : 0 ≤ p5 ∧ p5 ≤ 1000 := by rw [← hp5]; split <;> omega
    go_wp2
    go_roundg (sent.length - (j + 1))
    case rel => exact ⟨j + 1, p5, by have := HLJ.out; omega, rfl, by go_num, b5.1, b5.2, HRj, ⟨HS2.out.set4 p5⟩, ⟨Kd.R_set H5.out HS2.out.hp (by decide) _ _⟩⟩
    case measure => have := HGK.out; have := HLJ.out; omega
   ·have h8b : (sent[j] == 8) = false := by simpa using h8
    rw [if_neg h8] at hR'
    have HRj := Aside0.mk hR'
    generalize sent[j] = sj at *
    clear h8 hR'
    go_wp2
    go_roundg (sent.length - (j + 1))
    case rel => exact ⟨j + 1, p4, by have := HLJ.out; omega, rfl, by go_num, hp0, hp1, HRj, HS2, H5⟩
    case measure => have := HGK.out; have := HLJ.out; omega
  ·obtain rfl : j = sent.length := by omega
   have hR' := HRj.out
   rw [List.drop_length, spec_l18Act.resets] at hR'
   subst hR'
   clear HRj HGK hj hlt_
   go_upto_region 24 with (fail)
   refine spec_l18Act.wp_gen8 (fun W' => (spec_l18Act.LA w W' g A B R 0 kind A2 A3 c2 c3 la lb nx B p4 (.slice Ao2 la.length co2) (.slice Ao3 lb.length co3) la lb) ∧ Kd.R (Kd.int .i64) 3 W' w.heap.size (fun _ => True) (.slice Ao5 sent.length co5) sent) ⟨?_, ?_⟩ ?_
   case refine_1 => exact (HS2.out.set0 nx).set2 (Kd.R_set HS2.out.h2 HS2.out.hp (by decide) _ _) (Kd.R_set HS2.out.h3 HS2.out.hp (by decide) _ _)
   case refine_2 => exact Kd.R_set (Kd.R_set H5.out HS2.out.hp (by decide) _ _) (HS2.out.set0 nx).hp (by decide) _ _
   rintro Wa ⟨hSa, h5a⟩
   clear kw0 kw1 kw2 kw3 kw4 ka0 ka1 kp0 fp0 kr0 fr0 kp1 fp1 kr1 fr1 kp2 fp2 kr2 fr2 kp3 fp3 kr3 fr3 kp4 fp4 kr4 fr4 hlt lt0 lt1 lt2
   clear HS2 H5 HLT5
   have HS2 := Aside0.mk hSa
   have H5 := Aside0.mk h5a
   clear hSa h5a
   have kw0 := blk_cell HS2.out.hw 0; have kw1 := blk_cell HS2.out.hw 1; have kw2 := blk_cell HS2.out.hw 2; have kw3 := blk_cell HS2.out.hw 3; have kw4 := blk_cell HS2.out.hw 4; have ka0 := blk_cell HS2.out.ha 0; have ka1 := blk_cell HS2.out.ha 1; have kp0 := blk_cell HS2.out.hp 0; have fp0 := blk_frozen HS2.out.hp 0; have kp1 := blk_cell HS2.out.hp 1; have fp1 := blk_frozen HS2.out.hp 1; have kp2 := blk_cell HS2.out.hp 2; have fp2 := blk_frozen HS2.out.hp 2; have kp3 := blk_cell HS2.out.hp 3; have fp3 := blk_frozen HS2.out.hp 3; have kp4 := blk_cell HS2.out.hp 4; have fp4 := blk_frozen HS2.out.hp 4; have kr0 := blk_cell HS2.out.hr 0; have fr0 := blk_frozen HS2.out.hr 0; have kr1 := blk_cell HS2.out.hr 1; have fr1 := blk_frozen HS2.out.hr 1; have kr2 := blk_cell HS2.out.hr 2; have fr2 := blk_frozen HS2.out.hr 2; have kr3 := blk_cell HS2.out.hr 3; have fr3 := blk_frozen HS2.out.hr 3; have kr4 := blk_cell HS2.out.hr 4; have fr4 := blk_frozen HS2.out.hr 4; have hlt := blk_lt HS2.out.hp; have lt0 := blk_lt HS2.out.hw; have lt1 := blk_lt HS2.out.ha; have lt2 := blk_lt HS2.out.hr
   go_upto_region 28 with (at_builtin; refine Kd.R_append_rows (Kd.int .i64) (w0 := w) w.heap.size rfl (.tmp 87) (.tmp 88) 26 3 (.int .i64 0) 8 rfl Try.underlying26 info3 rfl (by decide) (by decide) (.slice Ao3 lb.length co3) lb sent _ _ _ (fun k_ => some k_ ≠ ((.slice Ao2 la.length co2) : Value).ownBlock) (fun _ => False) rfl rfl HS2.out.h3 (Kd.R_reads' H5.out).2.2 (fun _ _ h => h) (fun _ h => h.elim) (fun k hk he => by have := Kd.R_lt HS2.out.h2 k he.symm; omega) HS2.out.hb HS2.out.hb.size (by have := HLN.out; omega) ?_; intro v9 w9 ho9 hb9 hg9 hat9; obtain ⟨Ao9, co9, e9⟩ := Kd.R_slice ho9; rw [List.length_append] at e9; subst e9; have HA := Aside0.mk (HS2.out.app3 ho9 hb9 hg9 hat9); have g2 := blk_grown HS2.out.hp hg9 (Kd.R_ne HS2.out.h3 HS2.out.hp (by decide)); have kg := blk_cell g2 3; have fg := blk_frozen g2 3; clear g2 ho9 hb9 hg9 hat9)
   refine spec_l18Act.wp_gen8 (fun W' => spec_l18Act.LA w W' g A B R 0 kind A2 A3 c2 c3 la lb nx B p4 (.slice Ao2 la.length co2) (.slice Ao9 (lb.length + sent.length) co9) la (lb ++ sent)) HA.out ?_
   rintro Wb hSb
   clear kw0 kw1 kw2 kw3 kw4 ka0 ka1 kp0 fp0 kr0 fr0 kp1 fp1 kr1 fr1 kp2 fp2 kr2 fr2 kp3 fp3 kr3 fr3 kp4 fp4 kr4 fr4 hlt lt0 lt1 lt2
   clear HS2 H5 HA kg fg
   have hln2 : (lb ++ sent).length = lb.length + sent.length := List.length_append
   have HLN2 := Aside0.mk hln2
   clear hln2
   generalize hnn : lb.length + sent.length = nn at *
   have HMM := Aside0.mk hnn
   clear hnn
   have HS2 := Aside0.mk hSb
   clear hSb
   have kw0 := blk_cell HS2.out.hw 0; have kw1 := blk_cell HS2.out.hw 1; have kw2 := blk_cell HS2.out.hw 2; have kw3 := blk_cell HS2.out.hw 3; have kw4 := blk_cell HS2.out.hw 4; have ka0 := blk_cell HS2.out.ha 0; have ka1 := blk_cell HS2.out.ha 1; have kp0 := blk_cell HS2.out.hp 0; have fp0 := blk_frozen HS2.out.hp 0; have kp1 := blk_cell HS2.out.hp 1; have fp1 := blk_frozen HS2.out.hp 1; have kp2 := blk_cell HS2.out.hp 2; have fp2 := blk_frozen HS2.out.hp 2; have kp3 := blk_cell HS2.out.hp 3; have fp3 := blk_frozen HS2.out.hp 3; have kp4 := blk_cell HS2.out.hp 4; have fp4 := blk_frozen HS2.out.hp 4; have kr0 := blk_cell HS2.out.hr 0; have fr0 := blk_frozen HS2.out.hr 0; have kr1 := blk_cell HS2.out.hr 1; have fr1 := blk_frozen HS2.out.hr 1; have kr2 := blk_cell HS2.out.hr 2; have fr2 := blk_frozen HS2.out.hr 2; have kr3 := blk_cell HS2.out.hr 3; have fr3 := blk_frozen HS2.out.hr 3; have kr4 := blk_cell HS2.out.hr 4; have fr4 := blk_frozen HS2.out.hr 4; have hlt := blk_lt HS2.out.hp; have lt0 := blk_lt HS2.out.hw; have lt1 := blk_lt HS2.out.ha; have lt2 := blk_lt HS2.out.hr
   have o1 : decide ((200 : Int) < (la.length : Int)) = true := decide_eq_true (by have := HO1.out; have := HLN2.out; omega)
   have o3 : decide (200 < la.length) = true := decide_eq_true (by have := HO1.out; have := HLN2.out; omega)
   go_wp2_with (go_at_call 42; (with_reducible refine (spec_l18Own.calls A B A2 c2 la A3 c3 lb R A B la lb R _ (Kd.C_below HR2.out ?hq2) HC2.out (Kd.C_below HR3.out ?hq3) HC3.out ?hf).mono ?_); (case hq2 => exact HS2.out.hb); (case hq3 => exact HS2.out.hb); (case hf => exact HF.out); rintro e w1 ⟨v2, v3, rfl, h2, h3, hbel⟩; obtain ⟨Ap2, cp2, e2⟩ := Kd.R_slice h2; subst e2; obtain ⟨Ap3, cp3, e3⟩ := Kd.R_slice h3; subst e3; have HB1 := Aside0.mk hbel; have H2 := Aside0.mk h2; have H3 := Aside0.mk h3; have hrz := blk_below HS2.out.hr hbel; have kr0_ := blk_cell hrz 0; have fr0_ := blk_frozen hrz 0; have kr1_ := blk_cell hrz 1; have fr1_ := blk_frozen hrz 1; have kr2_ := blk_cell hrz 2; have fr2_ := blk_frozen hrz 2; have kr3_ := blk_cell hrz 3; have fr3_ := blk_frozen hrz 3; have kr4_ := blk_cell hrz 4; have fr4_ := blk_frozen hrz 4; have HZ := Aside0.mk hrz; clear hrz; clear hbel h2 h3)
   exact bodyPost_ret (results_ct rfl _ _ (w.heap.size + 2) 37 #[.int .i64 A, .int .i64 B, .slice Ap2 la.length cp2, .slice Ap3 lb.length cp3, .int .i64 R] (0, 0) _ rfl (spec_l18Act.fin0 HZ.out (Kd.R_lower H2.out HS2.out.hb.size) (Kd.R_lower H3.out HS2.out.hb.size) (below_then HS2.out.hb HS2.out.hb.size HB1.out) (.int .i64 A) (.int .i64 B) (.slice Ap2 la.length cp2) (.slice Ap3 lb.length cp3) (.int .i64 R)).hr Try.underlying37 rfl (by kernel_rfl)) rfl ⟨_, _, rfl, (spec_l18Act.fin0 HZ.out (Kd.R_lower H2.out HS2.out.hb.size) (Kd.R_lower H3.out HS2.out.hb.size) (below_then HS2.out.hb HS2.out.hb.size HB1.out) (.int .i64 A) (.int .i64 B) (.slice Ap2 la.length cp2) (.slice Ap3 lb.length cp3) (.int .i64 R)).h2, (spec_l18Act.fin0 HZ.out (Kd.R_lower H2.out HS2.out.hb.size) (Kd.R_lower H3.out HS2.out.hb.size) (below_then HS2.out.hb HS2.out.hb.size HB1.out) (.int .i64 A) (.int .i64 B) (.slice Ap2 la.length cp2) (.slice Ap3 lb.length cp3) (.int .i64 R)).h3, (spec_l18Act.fin0 HZ.out (Kd.R_lower H2.out HS2.out.hb.size) (Kd.R_lower H3.out HS2.out.hb.size) (below_then HS2.out.hb HS2.out.hb.size HB1.out) (.int .i64 A) (.int .i64 B) (.slice Ap2 la.length cp2) (.slice Ap3 lb.length cp3) (.int .i64 R)).hb⟩
set_option maxHeartbeats 4000000 in
set_option maxRecDepth 100000 in
theorem spec_l18Act.l18_u0b (A B R kind nx code R' : Int) (A2 A3 : Option Addr) (c2 c3 : Nat) (la lb : List Int) (w : World) (hr2 : Kd.C (Kd.int .i64) w A2 la.length la) (hc2 : la.length ≤ c2) (hr3 : Kd.C (Kd.int .i64) w A3 lb.length lb) (hc3 : lb.length ≤ c3) (hf : spec_l18Own.f A B la lb R = some (A, B, la, lb, R)) (k : Nat) (sent : List Int) (hi : spec_l01In.f 0 0 1 = some true) (hi2 : spec_l01In.f kind 1 5 = some true) (hk5 : (kind == 5) = false) (hst : spec_l18Step.f k A kind 0 = some (nx, sent, code)) (hrs : spec_l18Act.resets sent R = R') (hR0 : 0 ≤ R) (hR1 : R ≤ 1000) (hln : lb.length + sent.length ≤ 1000000) (ho1 : (la.length) ≤ 200) (ho2 : 200 < ((lb ++ sent).length)) : Calls Try.prog 41 #[.agg #[.int .i64 A, .int .i64 B, .slice A2 la.length c2, .slice A3 lb.length c3, .int .i64 R], .agg #[.int .i64 0, .int .i64 kind]] w (spec_l18Act.L18Post w A B la lb R 7) := by
 have HI := Aside0.mk hi
 have HI2 := Aside0.mk hi2
 have HST := Aside0.mk hst
 have HRS := Aside0.mk hrs
 have HLN := Aside0.mk hln
 have HO1 := Aside0.mk ho1
 have HO2 := Aside0.mk ho2
 clear hi hi2 hst hrs hln ho1 ho2
 have hu37 := Try.underlying37
 have hu34 := Try.underlying34
 have hu30 := Try.underlying30
 have HR2 := Aside0.mk hr2
 have HR3 := Aside0.mk hr3
 have HC2 := Aside0.mk hc2
 have HC3 := Aside0.mk hc3
 have HF := Aside0.mk hf
 clear hr2 hr3 hc2 hc3 hf
 go_enter Try.func41, Try.ntmps41
 go_upto_region 2 with (go_at_call 42; (with_reducible refine (spec_l18Own.calls A B A2 c2 la A3 c3 lb R A B la lb R _ (Kd.C_below HR2.out ?hq2) HC2.out (Kd.C_below HR3.out ?hq3) HC3.out ?hf).mono ?_); (case hq2 => repeat (first | exact Below.refl _ _ | apply below_alloc)); (case hq3 => repeat (first | exact Below.refl _ _ | apply below_alloc)); (case hf => exact HF.out); rintro e w1 ⟨v2, v3, rfl, h2, h3, hbel⟩; obtain ⟨Ao2, co2, e2⟩ := Kd.R_slice h2; subst e2; obtain ⟨Ao3, co3, e3⟩ := Kd.R_slice h3; subst e3; have HB1 := Aside0.mk hbel; have H2 := Aside0.mk h2; have H3 := Aside0.mk h3; clear hbel h2 h3)
 refine spec_l18Act.wp_gen8 (fun W => spec_l18Act.LA w W w1.heap.size A B R 0 kind A2 A3 c2 c3 la lb A B R (.slice Ao2 la.length co2) (.slice Ao3 lb.length co3) la lb) ⟨?_, ?_, ?_, ?_, ?_, ?_, ?_, ?_⟩ ?_
 case refine_1 => exact blk_alloc (blk_below (blk_alloc (blk_alloc (blk_new _ _) _) _) HB1.out) _
 case refine_2 => exact blk_alloc (blk_below (blk_alloc (spec_l18Act.blk_new_at8 _ _ _ (by simp)) _) HB1.out) _
 case refine_3 => exact blk_alloc (blk_below (spec_l18Act.blk_new_at8 _ _ _ (by simp)) HB1.out) _
 case refine_4 => exact blk_new _ _
 case refine_5 => have := HB1.out.size; simp at this; omega
 case refine_6 => exact Kd.R_alloc (Kd.R_lower H2.out (by simp; omega)) _
 case refine_7 => exact Kd.R_alloc (Kd.R_lower H3.out (by simp; omega)) _
 case refine_8 => exact below_alloc (below_then (by repeat (first | exact Below.refl _ _ | apply below_alloc)) (by simp; omega) HB1.out) _
 generalize w1.heap.size = g
 clear H2 H3 HB1
 rintro W hS
 have HS := Aside0.mk hS
 have kw0 := blk_cell hS.hw 0; have kw1 := blk_cell hS.hw 1; have kw2 := blk_cell hS.hw 2; have kw3 := blk_cell hS.hw 3; have kw4 := blk_cell hS.hw 4; have ka0 := blk_cell hS.ha 0; have ka1 := blk_cell hS.ha 1; have kp0 := blk_cell hS.hp 0; have fp0 := blk_frozen hS.hp 0; have kp1 := blk_cell hS.hp 1; have fp1 := blk_frozen hS.hp 1; have kp2 := blk_cell hS.hp 2; have fp2 := blk_frozen hS.hp 2; have kp3 := blk_cell hS.hp 3; have fp3 := blk_frozen hS.hp 3; have kp4 := blk_cell hS.hp 4; have fp4 := blk_frozen hS.hp 4; have kr0 := blk_cell hS.hr 0; have fr0 := blk_frozen hS.hr 0; have kr1 := blk_cell hS.hr 1; have fr1 := blk_frozen hS.hr 1; have kr2 := blk_cell hS.hr 2; have fr2 := blk_frozen hS.hr 2; have kr3 := blk_cell hS.hr 3; have fr3 := blk_frozen hS.hr 3; have kr4 := blk_cell hS.hr 4; have fr4 := blk_frozen hS.hr 4; have hg := hS.hg; have hlt := blk_lt hS.hp; have lt0 := blk_lt hS.hw; have lt1 := blk_lt hS.ha; have lt2 := blk_lt hS.hr
 clear hS
 go_wp2_with (first | (go_at_call 35; ((with_reducible refine (spec_l18Act.l01In_q 0 0 1 true _ HI.out).mono ?_); rintro e w' ⟨rfl, rfl⟩)) | (go_at_call 35; ((with_reducible refine (spec_l18Act.l01In_q kind 1 5 true _ HI2.out).mono ?_); rintro e w' ⟨rfl, rfl⟩)) | (go_at_call 39; ((with_reducible refine (spec_l18Step.calls k _ _ _ nx sent code _ HST.out).mono ?_); rintro e w2 ⟨v5, rfl, h5, hbel⟩; obtain ⟨Ao5, co5, e5⟩ := Kd.R_slice h5; subst e5; have hB2 : Below W.heap.size W w2 := below_then (by with_reducible (repeat (first | exact Below.refl _ _ | apply below_alloc | apply pw_below_drewN | apply below_drew1 | refine below_set ?_ (Nat.le_refl _)))) (by simp <;> omega) hbel; have HS2 := Aside0.mk (HS.out.below hB2); have H5 := Aside0.mk (Kd.R_lower h5 (by have := HS.out.hb.size; simp <;> omega) : Kd.R (Kd.int .i64) 3 w2 w.heap.size _ _ sent); clear h5 hbel hB2; clear kw0 kw1 kw2 kw3 kw4 ka0 ka1 kp0 fp0 kr0 fr0 kp1 fp1 kr1 fr1 kp2 fp2 kr2 fr2 kp3 fp3 kr3 fr3 kp4 fp4 kr4 fr4 hlt lt0 lt1 lt2; have kw0 := blk_cell HS2.out.hw 0; have kw1 := blk_cell HS2.out.hw 1; have kw2 := blk_cell HS2.out.hw 2; have kw3 := blk_cell HS2.out.hw 3; have kw4 := blk_cell HS2.out.hw 4; have ka0 := blk_cell HS2.out.ha 0; have ka1 := blk_cell HS2.out.ha 1; have kp0 := blk_cell HS2.out.hp 0; have fp0 := blk_frozen HS2.out.hp 0; have kp1 := blk_cell HS2.out.hp 1; have fp1 := blk_frozen HS2.out.hp 1; have kp2 := blk_cell HS2.out.hp 2; have fp2 := blk_frozen HS2.out.hp 2; have kp3 := blk_cell HS2.out.hp 3; have fp3 := blk_frozen HS2.out.hp 3; have kp4 := blk_cell HS2.out.hp 4; have fp4 := blk_frozen HS2.out.hp 4; have kr0 := blk_cell HS2.out.hr 0; have fr0 := blk_frozen HS2.out.hr 0; have kr1 := blk_cell HS2.out.hr 1; have fr1 := blk_frozen HS2.out.hr 1; have kr2 := blk_cell HS2.out.hr 2; have fr2 := blk_frozen HS2.out.hr 2; have kr3 := blk_cell HS2.out.hr 3; have fr3 := blk_frozen HS2.out.hr 3; have kr4 := blk_cell HS2.out.hr 4; have fr4 := blk_frozen HS2.out.hr 4; have hlt := blk_lt HS2.out.hp; have lt0 := blk_lt HS2.out.hw; have lt1 := blk_lt HS2.out.ha; have lt2 := blk_lt HS2.out.hr)))
 go_loopg [13] sent.length (fun gk v13 w' => ∃ (j : Nat) (p4 : Int), j ≤ sent.length ∧ gk = sent.length - j ∧ v13 = .int .i64 j ∧ 0 ≤ p4 ∧ p4 ≤ 1000 ∧ Aside0 (spec_l18Act.resets (sent.drop j) p4 = R') ∧ Aside0 (spec_l18Act.LA w w' g A B R 0 kind A2 A3 c2 c3 la lb A B p4 (.slice Ao2 la.length co2) (.slice Ao3 lb.length co3) la lb) ∧ Aside0 (Kd.R (Kd.int .i64) 3 w' w.heap.size (fun _ => True) (.slice Ao5 sent.length co5) sent))
 case atStart => exact ⟨0, R, by omega, by omega, rfl, hR0, hR1, ⟨by rw [List.drop_zero]; exact HRS.out⟩, HS2, H5⟩
 case round =>
  clear HS HS2 H5 
  obtain ⟨j, p4, hj, hgk, rfl, hp0, hp1, HRj, HS2, H5⟩ := hrel
  have HGK := Aside0.mk hgk
  clear hgk
  have kw0 := blk_cell HS2.out.hw 0; have kw1 := blk_cell HS2.out.hw 1; have kw2 := blk_cell HS2.out.hw 2; have kw3 := blk_cell HS2.out.hw 3; have kw4 := blk_cell HS2.out.hw 4; have ka0 := blk_cell HS2.out.ha 0; have ka1 := blk_cell HS2.out.ha 1; have kp0 := blk_cell HS2.out.hp 0; have fp0 := blk_frozen HS2.out.hp 0; have kp1 := blk_cell HS2.out.hp 1; have fp1 := blk_frozen HS2.out.hp 1; have kp2 := blk_cell HS2.out.hp 2; have fp2 := blk_frozen HS2.out.hp 2; have kp3 := blk_cell HS2.out.hp 3; have fp3 := blk_frozen HS2.out.hp 3; have kp4 := blk_cell HS2.out.hp 4; have fp4 := blk_frozen HS2.out.hp 4; have kr0 := blk_cell HS2.out.hr 0; have fr0 := blk_frozen HS2.out.hr 0; have kr1 := blk_cell HS2.out.hr 1; have fr1 := blk_frozen HS2.out.hr 1; have kr2 := blk_cell HS2.out.hr 2; have fr2 := blk_frozen HS2.out.hr 2; have kr3 := blk_cell HS2.out.hr 3; have fr3 := blk_frozen HS2.out.hr 3; have kr4 := blk_cell HS2.out.hr 4; have fr4 := blk_frozen HS2.out.hr 4; have hlt := blk_lt HS2.out.hp; have lt0 := blk_lt HS2.out.hw; have lt1 := blk_lt HS2.out.ha; have lt2 := blk_lt HS2.out.hr; have lt5 : ∀ k, (Value.slice Ao5 sent.length co5).ownBlock = some k → k < wr.heap.size := Kd.R_lt H5.out; have HLT5 := Aside0.mk lt5; clear lt5
  by_cases hlt_ : j < sent.length
  ·have hlt2 : (j : Int) < (sent.length : Int) := by omega
   have HLJ := Aside0.mk hlt_
   have hsl : sent.length ≤ 1000000 := by have := HLN.out; omega
   obtain ⟨ad, e5, hx⟩ := Kd.at_int (Kd.R_reads' H5.out).2.2 (j : Int) (by omega) hlt2
   cases e5
   have hrd : rd sent (j : Int) = sent[j] := by simp [rd, List.getD_eq_getElem?_getD, List.getElem?_eq_getElem hlt_]
   rw [hrd, Int.toNat_natCast] at hx
   have hR' := HRj.out
   rw [List.drop_eq_getElem_cons hlt_, spec_l18Act.resets] at hR'
   clear HRj hrd
   by_cases h8 : sent[j] = 8
   ·have h8b : (sent[j] == 8) = true := by simpa using h8
    rw [if_pos h8] at hR'
    have HRj := Aside0.mk hR'
    generalize sent[j] = sj at *
    clear h8 hR'
    obtain ⟨p5, hp5⟩ : ∃ p5 : Int, (if p4 + 1 < 1000 then p4 + 1 else 1000) = p5 := ⟨_, rfl⟩
    rw [hp5] at HRj
    have b5 : 0 ≤ p5 ∧ p5 ≤ 1000 := by rw [← hp5]; split <;> omega
    go_wp2
    go_roundg (sent.length - (j + 1))
    case rel => exact ⟨j + 1, p5, by have := HLJ.out; omega, rfl, by go_num, b5.1, b5.2, HRj, ⟨HS2.out.set4 p5⟩, ⟨Kd.R_set H5.out HS2.out.hp (by decide) _ _⟩⟩
    case measure => have := HGK.out; have := HLJ.out; omega
   ·have h8b : (sent[j] == 8) = false := by simpa using h8
    rw [if_neg h8] at hR'
    have HRj := Aside0.mk hR'
    generalize sent[j] = sj at *
    clear h8 hR'
    go_wp2
    go_roundg (sent.length - (j + 1))
    case rel => exact ⟨j + 1, p4, by have := HLJ.out; omega, rfl, by go_num, hp0, hp1, HRj, HS2, H5⟩
    case measure => have := HGK.out; have := HLJ.out; omega
  ·obtain rfl : j = sent.length := by omega
   have hR' := HRj.out
   rw [List.drop_length, spec_l18Act.resets] at hR'
   subst hR'
   clear HRj HGK hj hlt_
   go_upto_region 24 with (fail)
   refine spec_l18Act.wp_gen8 (fun W' => (spec_l18Act.LA w W' g A B R 0 kind A2 A3 c2 c3 la lb nx B p4 (.slice Ao2 la.length co2) (.slice Ao3 lb.length co3) la lb) ∧ Kd.R (Kd.int .i64) 3 W' w.heap.size (fun _ => True) (.slice Ao5 sent.length co5) sent) ⟨?_, ?_⟩ ?_
   case refine_1 => exact (HS2.out.set0 nx).set2 (Kd.R_set HS2.out.h2 HS2.out.hp (by decide) _ _) (Kd.R_set HS2.out.h3 HS2.out.hp (by decide) _ _)
   case refine_2 => exact Kd.R_set (Kd.R_set H5.out HS2.out.hp (by decide) _ _) (HS2.out.set0 nx).hp (by decide) _ _
   rintro Wa ⟨hSa, h5a⟩
   clear kw0 kw1 kw2 kw3 kw4 ka0 ka1 kp0 fp0 kr0 fr0 kp1 fp1 kr1 fr1 kp2 fp2 kr2 fr2 kp3 fp3 kr3 fr3 kp4 fp4 kr4 fr4 hlt lt0 lt1 lt2
   clear HS2 H5 HLT5
   have HS2 := Aside0.mk hSa
   have H5 := Aside0.mk h5a
   clear hSa h5a
   have kw0 := blk_cell HS2.out.hw 0; have kw1 := blk_cell HS2.out.hw 1; have kw2 := blk_cell HS2.out.hw 2; have kw3 := blk_cell HS2.out.hw 3; have kw4 := blk_cell HS2.out.hw 4; have ka0 := blk_cell HS2.out.ha 0; have ka1 := blk_cell HS2.out.ha 1; have kp0 := blk_cell HS2.out.hp 0; have fp0 := blk_frozen HS2.out.hp 0; have kp1 := blk_cell HS2.out.hp 1; have fp1 := blk_frozen HS2.out.hp 1; have kp2 := blk_cell HS2.out.hp 2; have fp2 := blk_frozen HS2.out.hp 2; have kp3 := blk_cell HS2.out.hp 3; have fp3 := blk_frozen HS2.out.hp 3; have kp4 := blk_cell HS2.out.hp 4; have fp4 := blk_frozen HS2.out.hp 4; have kr0 := blk_cell HS2.out.hr 0; have fr0 := blk_frozen HS2.out.hr 0; have kr1 := blk_cell HS2.out.hr 1; have fr1 := blk_frozen HS2.out.hr 1; have kr2 := blk_cell HS2.out.hr 2; have fr2 := blk_frozen HS2.out.hr 2; have kr3 := blk_cell HS2.out.hr 3; have fr3 := blk_frozen HS2.out.hr 3; have kr4 := blk_cell HS2.out.hr 4; have fr4 := blk_frozen HS2.out.hr 4; have hlt := blk_lt HS2.out.hp; have lt0 := blk_lt HS2.out.hw; have lt1 := blk_lt HS2.out.ha; have lt2 := blk_lt HS2.out.hr
   go_upto_region 28 with (at_builtin; refine Kd.R_append_rows (Kd.int .i64) (w0 := w) w.heap.size rfl (.tmp 87) (.tmp 88) 26 3 (.int .i64 0) 8 rfl Try.underlying26 info3 rfl (by decide) (by decide) (.slice Ao3 lb.length co3) lb sent _ _ _ (fun k_ => some k_ ≠ ((.slice Ao2 la.length co2) : Value).ownBlock) (fun _ => False) rfl rfl HS2.out.h3 (Kd.R_reads' H5.out).2.2 (fun _ _ h => h) (fun _ h => h.elim) (fun k hk he => by have := Kd.R_lt HS2.out.h2 k he.symm; omega) HS2.out.hb HS2.out.hb.size (by have := HLN.out; omega) ?_; intro v9 w9 ho9 hb9 hg9 hat9; obtain ⟨Ao9, co9, e9⟩ := Kd.R_slice ho9; rw [List.length_append] at e9; subst e9; have HA := Aside0.mk (HS2.out.app3 ho9 hb9 hg9 hat9); have g2 := blk_grown HS2.out.hp hg9 (Kd.R_ne HS2.out.h3 HS2.out.hp (by decide)); have kg := blk_cell g2 3; have fg := blk_frozen g2 3; clear g2 ho9 hb9 hg9 hat9)
   refine spec_l18Act.wp_gen8 (fun W' => spec_l18Act.LA w W' g A B R 0 kind A2 A3 c2 c3 la lb nx B p4 (.slice Ao2 la.length co2) (.slice Ao9 (lb.length + sent.length) co9) la (lb ++ sent)) HA.out ?_
   rintro Wb hSb
   clear kw0 kw1 kw2 kw3 kw4 ka0 ka1 kp0 fp0 kr0 fr0 kp1 fp1 kr1 fr1 kp2 fp2 kr2 fr2 kp3 fp3 kr3 fr3 kp4 fp4 kr4 fr4 hlt lt0 lt1 lt2
   clear HS2 H5 HA kg fg
   have hln2 : (lb ++ sent).length = lb.length + sent.length := List.length_append
   have HLN2 := Aside0.mk hln2
   clear hln2
   generalize hnn : lb.length + sent.length = nn at *
   have HMM := Aside0.mk hnn
   clear hnn
   have HS2 := Aside0.mk hSb
   clear hSb
   have kw0 := blk_cell HS2.out.hw 0; have kw1 := blk_cell HS2.out.hw 1; have kw2 := blk_cell HS2.out.hw 2; have kw3 := blk_cell HS2.out.hw 3; have kw4 := blk_cell HS2.out.hw 4; have ka0 := blk_cell HS2.out.ha 0; have ka1 := blk_cell HS2.out.ha 1; have kp0 := blk_cell HS2.out.hp 0; have fp0 := blk_frozen HS2.out.hp 0; have kp1 := blk_cell HS2.out.hp 1; have fp1 := blk_frozen HS2.out.hp 1; have kp2 := blk_cell HS2.out.hp 2; have fp2 := blk_frozen HS2.out.hp 2; have kp3 := blk_cell HS2.out.hp 3; have fp3 := blk_frozen HS2.out.hp 3; have kp4 := blk_cell HS2.out.hp 4; have fp4 := blk_frozen HS2.out.hp 4; have kr0 := blk_cell HS2.out.hr 0; have fr0 := blk_frozen HS2.out.hr 0; have kr1 := blk_cell HS2.out.hr 1; have fr1 := blk_frozen HS2.out.hr 1; have kr2 := blk_cell HS2.out.hr 2; have fr2 := blk_frozen HS2.out.hr 2; have kr3 := blk_cell HS2.out.hr 3; have fr3 := blk_frozen HS2.out.hr 3; have kr4 := blk_cell HS2.out.hr 4; have fr4 := blk_frozen HS2.out.hr 4; have hlt := blk_lt HS2.out.hp; have lt0 := blk_lt HS2.out.hw; have lt1 := blk_lt HS2.out.ha; have lt2 := blk_lt HS2.out.hr
   have o1 : decide ((200 : Int) < (la.length : Int)) = false := decide_eq_false (by have := HO1.out; have := HLN2.out; omega)
   have o2 : decide ((200 : Int) < (nn : Int)) = true := decide_eq_true (by have := HO2.out; have := HLN2.out; omega)
   have o3 : decide (200 < la.length) = false := decide_eq_false (by have := HO1.out; have := HLN2.out; omega)
   have o4 : decide (200 < nn) = true := decide_eq_true (by have := HO2.out; have := HLN2.out; omega)
   go_wp2_with (go_at_call 42; (with_reducible refine (spec_l18Own.calls A B A2 c2 la A3 c3 lb R A B la lb R _ (Kd.C_below HR2.out ?hq2) HC2.out (Kd.C_below HR3.out ?hq3) HC3.out ?hf).mono ?_); (case hq2 => exact HS2.out.hb); (case hq3 => exact HS2.out.hb); (case hf => exact HF.out); rintro e w1 ⟨v2, v3, rfl, h2, h3, hbel⟩; obtain ⟨Ap2, cp2, e2⟩ := Kd.R_slice h2; subst e2; obtain ⟨Ap3, cp3, e3⟩ := Kd.R_slice h3; subst e3; have HB1 := Aside0.mk hbel; have H2 := Aside0.mk h2; have H3 := Aside0.mk h3; have hrz := blk_below HS2.out.hr hbel; have kr0_ := blk_cell hrz 0; have fr0_ := blk_frozen hrz 0; have kr1_ := blk_cell hrz 1; have fr1_ := blk_frozen hrz 1; have kr2_ := blk_cell hrz 2; have fr2_ := blk_frozen hrz 2; have kr3_ := blk_cell hrz 3; have fr3_ := blk_frozen hrz 3; have kr4_ := blk_cell hrz 4; have fr4_ := blk_frozen hrz 4; have HZ := Aside0.mk hrz; clear hrz; clear hbel h2 h3)
   exact bodyPost_ret (results_ct rfl _ _ (w.heap.size + 2) 37 #[.int .i64 A, .int .i64 B, .slice Ap2 la.length cp2, .slice Ap3 lb.length cp3, .int .i64 R] (0, 0) _ rfl (spec_l18Act.fin0 HZ.out (Kd.R_lower H2.out HS2.out.hb.size) (Kd.R_lower H3.out HS2.out.hb.size) (below_then HS2.out.hb HS2.out.hb.size HB1.out) (.int .i64 A) (.int .i64 B) (.slice Ap2 la.length cp2) (.slice Ap3 lb.length cp3) (.int .i64 R)).hr Try.underlying37 rfl (by kernel_rfl)) rfl ⟨_, _, rfl, (spec_l18Act.fin0 HZ.out (Kd.R_lower H2.out HS2.out.hb.size) (Kd.R_lower H3.out HS2.out.hb.size) (below_then HS2.out.hb HS2.out.hb.size HB1.out) (.int .i64 A) (.int .i64 B) (.slice Ap2 la.length cp2) (.slice Ap3 lb.length cp3) (.int .i64 R)).h2, (spec_l18Act.fin0 HZ.out (Kd.R_lower H2.out HS2.out.hb.size) (Kd.R_lower H3.out HS2.out.hb.size) (below_then HS2.out.hb HS2.out.hb.size HB1.out) (.int .i64 A) (.int .i64 B) (.slice Ap2 la.length cp2) (.slice Ap3 lb.length cp3) (.int .i64 R)).h3, (spec_l18Act.fin0 HZ.out (Kd.R_lower H2.out HS2.out.hb.size) (Kd.R_lower H3.out HS2.out.hb.size) (below_then HS2.out.hb HS2.out.hb.size HB1.out) (.int .i64 A) (.int .i64 B) (.slice Ap2 la.length cp2) (.slice Ap3 lb.length cp3) (.int .i64 R)).hb⟩
set_option maxHeartbeats 4000000 in
set_option maxRecDepth 100000 in
theorem spec_l18Act.l18_s0n (A B R x nx code R' : Int) (A2 A3 : Option Addr) (c2 c3 : Nat) (la lb : List Int) (w : World) (hr2 : Kd.C (Kd.int .i64) w A2 la.length la) (hc2 : la.length ≤ c2) (hr3 : Kd.C (Kd.int .i64) w A3 lb.length lb) (hc3 : lb.length ≤ c3) (hf : spec_l18Own.f A B la lb R = some (A, B, la, lb, R)) (k : Nat) (sent lq : List Int) (hi : spec_l01In.f 0 0 1 = some true) (hi2 : spec_l01In.f 5 1 5 = some true) (hq : la = x :: lq) (hlq : lq.length ≤ 1000000) (hst : spec_l18Step.f k A 5 x = some (nx, sent, code)) (hrs : spec_l18Act.resets sent R = R') (hR0 : 0 ≤ R) (hR1 : R ≤ 1000) (hln : lb.length + sent.length ≤ 1000000) (ho1 : (lq.length) ≤ 200) (ho2 : ((lb ++ sent).length) ≤ 200) : Calls Try.prog 41 #[.agg #[.int .i64 A, .int .i64 B, .slice A2 la.length c2, .slice A3 lb.length c3, .int .i64 R], .agg #[.int .i64 0, .int .i64 5]] w (spec_l18Act.L18Post w nx B lq (lb ++ sent) R' code) := by
 have HI := Aside0.mk hi
 have HI2 := Aside0.mk hi2
 have HST := Aside0.mk hst
 have HRS := Aside0.mk hrs
 have HLN := Aside0.mk hln
 have HO1 := Aside0.mk ho1
 have HO2 := Aside0.mk ho2
 have HQ0 := Aside0.mk hq
 have HLQ1 := Aside0.mk hlq
 clear hi hi2 hst hrs hln ho1 ho2 hq hlq
 have hu37 := Try.underlying37
 have hu34 := Try.underlying34
 have hu30 := Try.underlying30
 have HR2 := Aside0.mk hr2
 have HR3 := Aside0.mk hr3
 have HC2 := Aside0.mk hc2
 have HC3 := Aside0.mk hc3
 have HF := Aside0.mk hf
 clear hr2 hr3 hc2 hc3 hf
 go_enter Try.func41, Try.ntmps41
 go_upto_region 2 with (go_at_call 42; (with_reducible refine (spec_l18Own.calls A B A2 c2 la A3 c3 lb R A B la lb R _ (Kd.C_below HR2.out ?hq2) HC2.out (Kd.C_below HR3.out ?hq3) HC3.out ?hf).mono ?_); (case hq2 => repeat (first | exact Below.refl _ _ | apply below_alloc)); (case hq3 => repeat (first | exact Below.refl _ _ | apply below_alloc)); (case hf => exact HF.out); rintro e w1 ⟨v2, v3, rfl, h2, h3, hbel⟩; obtain ⟨Ao2, co2, e2⟩ := Kd.R_slice h2; subst e2; obtain ⟨Ao3, co3, e3⟩ := Kd.R_slice h3; subst e3; have HB1 := Aside0.mk hbel; have H2 := Aside0.mk h2; have H3 := Aside0.mk h3; clear hbel h2 h3)
 refine spec_l18Act.wp_gen8 (fun W => spec_l18Act.LA w W w1.heap.size A B R 0 5 A2 A3 c2 c3 la lb A B R (.slice Ao2 la.length co2) (.slice Ao3 lb.length co3) la lb) ⟨?_, ?_, ?_, ?_, ?_, ?_, ?_, ?_⟩ ?_
 case refine_1 => exact blk_alloc (blk_below (blk_alloc (blk_alloc (blk_new _ _) _) _) HB1.out) _
 case refine_2 => exact blk_alloc (blk_below (blk_alloc (spec_l18Act.blk_new_at8 _ _ _ (by simp)) _) HB1.out) _
 case refine_3 => exact blk_alloc (blk_below (spec_l18Act.blk_new_at8 _ _ _ (by simp)) HB1.out) _
 case refine_4 => exact blk_new _ _
 case refine_5 => have := HB1.out.size; simp at this; omega
 case refine_6 => exact Kd.R_alloc (Kd.R_lower H2.out (by simp; omega)) _
 case refine_7 => exact Kd.R_alloc (Kd.R_lower H3.out (by simp; omega)) _
 case refine_8 => exact below_alloc (below_then (by repeat (first | exact Below.refl _ _ | apply below_alloc)) (by simp; omega) HB1.out) _
 generalize w1.heap.size = g
 clear H2 H3 HB1
 rintro W hS
 have HS := Aside0.mk hS
 have kw0 := blk_cell hS.hw 0; have kw1 := blk_cell hS.hw 1; have kw2 := blk_cell hS.hw 2; have kw3 := blk_cell hS.hw 3; have kw4 := blk_cell hS.hw 4; have ka0 := blk_cell hS.ha 0; have ka1 := blk_cell hS.ha 1; have kp0 := blk_cell hS.hp 0; have fp0 := blk_frozen hS.hp 0; have kp1 := blk_cell hS.hp 1; have fp1 := blk_frozen hS.hp 1; have kp2 := blk_cell hS.hp 2; have fp2 := blk_frozen hS.hp 2; have kp3 := blk_cell hS.hp 3; have fp3 := blk_frozen hS.hp 3; have kp4 := blk_cell hS.hp 4; have fp4 := blk_frozen hS.hp 4; have kr0 := blk_cell hS.hr 0; have fr0 := blk_frozen hS.hr 0; have kr1 := blk_cell hS.hr 1; have fr1 := blk_frozen hS.hr 1; have kr2 := blk_cell hS.hr 2; have fr2 := blk_frozen hS.hr 2; have kr3 := blk_cell hS.hr 3; have fr3 := blk_frozen hS.hr 3; have kr4 := blk_cell hS.hr 4; have fr4 := blk_frozen hS.hr 4; have hg := hS.hg; have hlt := blk_lt hS.hp; have lt0 := blk_lt hS.hw; have lt1 := blk_lt hS.ha; have lt2 := blk_lt hS.hr
 clear hS
 have hpos : 0 < la.length := by rw [HQ0.out]; simp
 obtain ⟨gq, cq0, e2, _, hgq, _⟩ := Kd.R_form HS.out.h2 hpos
 simp only [Value.slice.injEq, true_and] at e2
 obtain ⟨rfl, rfl⟩ := e2
 have hT : Kd.C (Kd.int .i64) W (if co2 = 1 then some ⟨gq, 0, none⟩ else some ⟨gq, 1, none⟩) (la.length - 1) lq := by
  have h := (Kd.Q_reads' (Kd.Q_drop (Kd.Q_of_R HS.out.h2) (k := 1) (show 1 ≤ la.length from hpos))).2.2
  rw [HQ0.out] at h ⊢
  simpa [Addr.add, Kd.int, Kd.scalar] using h
 have kq : W.cell? ⟨gq, 0, none⟩ = some (.int .i64 x) := by
  have h := (Kd.R_celln (0 : Int) HS.out.h2 0 (by decide) (by exact_mod_cast hpos)).1
  rw [HQ0.out] at h
  simpa [rdOf] using h
 have HLQ := Aside0.mk (show la.length - 1 ≤ 1000000 from by have h2 := HLQ1.out; rw [HQ0.out]; simpa using h2)
 have hl0 : ((la.length : Int) == 0) = false := by rw [beq_eq_false_iff_ne]; omega
 have hl1 : (1 : Int) ≤ (la.length : Int) := by omega
 by_cases hc1 : co2 = 1
 all_goals
  first | rw [if_pos hc1] at hT | rw [if_neg hc1] at hT
  have HT := Aside0.mk hT
  clear hT
  try subst hc1
  go_wp2_with (first | (go_at_call 35; ((with_reducible refine (spec_l18Act.l01In_q 0 0 1 true _ HI.out).mono ?_); rintro e w' ⟨rfl, rfl⟩)) | (go_at_call 35; ((with_reducible refine (spec_l18Act.l01In_q 5 1 5 true _ HI2.out).mono ?_); rintro e w' ⟨rfl, rfl⟩)) | ((with_reducible refine gate_dst (N := 52) rfl ?_); refine Kd.R_lit (Kd.int .i64) _ 3 ?hg (N := 52) ?hd (xs := ([] : List Int)) (inner := []) (ok := fun _ => True) (okp := fun _ => True) ?hr ?hp (fun _ hk => hk) trivial (Below.refl _ _) (Nat.le_refl _) (by simp) ?_; (case hd => rfl); (case hg => rfl); (case hr => first | (go_simp; done) | (go_simp; rfl)); (case hp => exact (Reps.none _ _)); intro v52 w6 ho7 hb hg_ hnew_; clear hg_ hnew_; have hX : Below W.heap.size W w6 := below_then (by with_reducible (repeat (first | exact Below.refl _ _ | apply below_alloc | apply pw_below_drewN | apply below_drew1 | refine below_set ?_ (Nat.le_refl _)))) (by simp <;> omega) hb; have HX := Aside0.mk hX; have H52 := Aside0.mk (Kd.R_lower ho7 (by simp <;> omega) : Kd.R (Kd.int .i64) 3 w6 W.heap.size _ _ _); have hE : w6.heap[W.heap.size]? = some (.cells #[.int .i64 5, .int .i64 x] 30 (0, 0)) := blk_below (by first | exact blk_new _ _ | (refine blk_put (cs := #[.int .i64 5, .int .i64 0]) ?_ 1 _ rfl; exact blk_new _ _)) hb; have HE := Aside0.mk hE; clear hE hX ho7 hb) | (at_builtin; refine Kd.R_append_rows (Kd.int .i64) (w0 := W) W.heap.size rfl (.tmp 52) (.tmp 54) 26 3 (.int .i64 0) 8 rfl Try.underlying26 info3 rfl (by decide) (by decide) v52 [] lq _ _ _ (fun _ => True) (fun _ => False) rfl rfl H52.out (Kd.C_below HT.out HX.out) (fun _ _ h => h) (fun _ h => h.elim) (fun _ _ => trivial) HX.out HX.out.size (by have := HLQ.out; simp only [List.length_nil]; omega) ?_; intro v8 w8 ho8 hb8 hg8 hat8; rw [List.nil_append] at ho8; obtain ⟨Aq, cq, e8⟩ := Kd.R_slice ho8; subst e8; have HQ8 := Aside0.mk ho8; have HX2 := Aside0.mk hb8; clear HX; have HX := HX2; clear HX2; have hE := blk_grown HE.out hg8 (Kd.R_ne H52.out HE.out (by decide)); have ke0 := blk_cell hE 0; have ke1 := blk_cell hE 1; clear hE HE H52 ho8 hb8 hg8 hat8) | (go_at_call 39; ((with_reducible refine (spec_l18Step.calls k _ _ _ nx sent code _ HST.out).mono ?_); rintro e w2 ⟨v5, rfl, h5, hbel⟩; obtain ⟨Ao5, co5, e5⟩ := Kd.R_slice h5; subst e5; have hB2 : Below W.heap.size W w2 := below_then HX.out (HX.out.size) hbel; have HS2 := Aside0.mk (HS.out.below hB2); have HQ := Aside0.mk (Kd.R_mono (Kd.R_lower (Kd.R_below (Kd.R_new' HQ8.out (Kd.R_lt HS.out.h3)) hbel) HS.out.hb.size) (fun _ hk => hk.2) : Kd.R (Kd.int .i64) 3 w2 w.heap.size (fun k => some k ≠ ((.slice Ao3 lb.length co3) : Value).ownBlock) _ lq); have HO := Aside0.mk (Kd.R_mono (Kd.R_elder' HS.out.h3 (fun k hk => Kd.R_base HQ8.out k hk) hB2) (fun _ hk => hk.2) : Kd.R (Kd.int .i64) 3 w2 w.heap.size (fun k => some k ≠ (Value.slice Aq lq.length cq).ownBlock) _ lb); have H5 := Aside0.mk (Kd.R_lower h5 (by have := HS.out.hb.size; have := HX.out.size; omega) : Kd.R (Kd.int .i64) 3 w2 w.heap.size _ _ sent); clear h5 hbel hB2 kq; clear kw0 kw1 kw2 kw3 kw4 ka0 ka1 kp0 fp0 kr0 fr0 kp1 fp1 kr1 fr1 kp2 fp2 kr2 fr2 kp3 fp3 kr3 fr3 kp4 fp4 kr4 fr4 hlt lt0 lt1 lt2; have kw0 := blk_cell HS2.out.hw 0; have kw1 := blk_cell HS2.out.hw 1; have kw2 := blk_cell HS2.out.hw 2; have kw3 := blk_cell HS2.out.hw 3; have kw4 := blk_cell HS2.out.hw 4; have ka0 := blk_cell HS2.out.ha 0; have ka1 := blk_cell HS2.out.ha 1; have kp0 := blk_cell HS2.out.hp 0; have fp0 := blk_frozen HS2.out.hp 0; have kp1 := blk_cell HS2.out.hp 1; have fp1 := blk_frozen HS2.out.hp 1; have kp2 := blk_cell HS2.out.hp 2; have fp2 := blk_frozen HS2.out.hp 2; have kp3 := blk_cell HS2.out.hp 3; have fp3 := blk_frozen HS2.out.hp 3; have kp4 := blk_cell HS2.out.hp 4; have fp4 := blk_frozen HS2.out.hp 4; have kr0 := blk_cell HS2.out.hr 0; have fr0 := blk_frozen HS2.out.hr 0; have kr1 := blk_cell HS2.out.hr 1; have fr1 := blk_frozen HS2.out.hr 1; have kr2 := blk_cell HS2.out.hr 2; have fr2 := blk_frozen HS2.out.hr 2; have kr3 := blk_cell HS2.out.hr 3; have fr3 := blk_frozen HS2.out.hr 3; have kr4 := blk_cell HS2.out.hr 4; have fr4 := blk_frozen HS2.out.hr 4; have hlt := blk_lt HS2.out.hp; have lt0 := blk_lt HS2.out.hw; have lt1 := blk_lt HS2.out.ha; have lt2 := blk_lt HS2.out.hr)))
  go_loopg [13] sent.length (fun gk v13 w' => ∃ (j : Nat) (p4 : Int) (vo : Value), j ≤ sent.length ∧ gk = sent.length - j ∧ v13 = .int .i64 j ∧ 0 ≤ p4 ∧ p4 ≤ 1000 ∧ Aside0 (spec_l18Act.resets (sent.drop j) p4 = R') ∧ Aside0 (spec_l18Act.LA w w' g A B R 0 5 A2 A3 c2 c3 la lb A B p4 vo (.slice Ao3 lb.length co3) la lb) ∧ Aside0 (Kd.R (Kd.int .i64) 3 w' w.heap.size (fun _ => True) (.slice Ao5 sent.length co5) sent) ∧ Aside0 (Kd.R (Kd.int .i64) 3 w' w.heap.size (fun k => some k ≠ ((.slice Ao3 lb.length co3) : Value).ownBlock) (.slice Aq lq.length cq) lq) ∧ Aside0 (Kd.R (Kd.int .i64) 3 w' w.heap.size (fun k => some k ≠ (Value.slice Aq lq.length cq).ownBlock) (.slice Ao3 lb.length co3) lb))
  case atStart => exact ⟨0, R, _, by omega, by omega, rfl, hR0, hR1, ⟨by rw [List.drop_zero]; exact HRS.out⟩, HS2, H5, HQ, HO⟩
  case round =>
   clear HS HS2 H5 HQ HO
   obtain ⟨j, p4, vo, hj, hgk, rfl, hp0, hp1, HRj, HS2, H5, HQ, HO⟩ := hrel
   have HGK := Aside0.mk hgk
   clear hgk
   have kw0 := blk_cell HS2.out.hw 0; have kw1 := blk_cell HS2.out.hw 1; have kw2 := blk_cell HS2.out.hw 2; have kw3 := blk_cell HS2.out.hw 3; have kw4 := blk_cell HS2.out.hw 4; have ka0 := blk_cell HS2.out.ha 0; have ka1 := blk_cell HS2.out.ha 1; have kp0 := blk_cell HS2.out.hp 0; have fp0 := blk_frozen HS2.out.hp 0; have kp1 := blk_cell HS2.out.hp 1; have fp1 := blk_frozen HS2.out.hp 1; have kp2 := blk_cell HS2.out.hp 2; have fp2 := blk_frozen HS2.out.hp 2; have kp3 := blk_cell HS2.out.hp 3; have fp3 := blk_frozen HS2.out.hp 3; have kp4 := blk_cell HS2.out.hp 4; have fp4 := blk_frozen HS2.out.hp 4; have kr0 := blk_cell HS2.out.hr 0; have fr0 := blk_frozen HS2.out.hr 0; have kr1 := blk_cell HS2.out.hr 1; have fr1 := blk_frozen HS2.out.hr 1; have kr2 := blk_cell HS2.out.hr 2; have fr2 := blk_frozen HS2.out.hr 2; have kr3 := blk_cell HS2.out.hr 3; have fr3 := blk_frozen HS2.out.hr 3; have kr4 := blk_cell HS2.out.hr 4; have fr4 := blk_frozen HS2.out.hr 4; have hlt := blk_lt HS2.out.hp; have lt0 := blk_lt HS2.out.hw; have lt1 := blk_lt HS2.out.ha; have lt2 := blk_lt HS2.out.hr; have lt5 : ∀ k, (Value.slice Ao5 sent.length co5).ownBlock = some k → k < wr.heap.size := Kd.R_lt H5.out; have HLT5 := Aside0.mk lt5; clear lt5
   by_cases hlt_ : j < sent.length
   ·have hlt2 : (j : Int) < (sent.length : Int) := by omega
    have HLJ := Aside0.mk hlt_
    have hsl : sent.length ≤ 1000000 := by have := HLN.out; omega
    obtain ⟨ad, e5, hx⟩ := Kd.at_int (Kd.R_reads' H5.out).2.2 (j : Int) (by omega) hlt2
    cases e5
    have hrd : rd sent (j : Int) = sent[j] := by simp [rd, List.getD_eq_getElem?_getD, List.getElem?_eq_getElem hlt_]
    rw [hrd, Int.toNat_natCast] at hx
    have hR' := HRj.out
    rw [List.drop_eq_getElem_cons hlt_, spec_l18Act.resets] at hR'
    clear HRj hrd
    by_cases h8 : sent[j] = 8
    ·have h8b : (sent[j] == 8) = true := by simpa using h8
     rw [if_pos h8] at hR'
     have HRj := Aside0.mk hR'
     generalize sent[j] = sj at *
     clear h8 hR'
     obtain ⟨p5, hp5⟩ : ∃ p5 : Int, (if p4 + 1 < 1000 then p4 + 1 else 1000) = p5 := ⟨_, rfl⟩
     rw [hp5] at HRj
     have b5 : 0 ≤ p5 ∧ p5 ≤ 1000 := by rw [← hp5]; split <;> omega
     go_wp2
     go_roundg (sent.length - (j + 1))
     case rel => exact ⟨j + 1, p5, _, by have := HLJ.out; omega, rfl, by go_num, b5.1, b5.2, HRj, ⟨HS2.out.set4 p5⟩, ⟨Kd.R_set H5.out HS2.out.hp (by decide) _ _⟩, ⟨Kd.R_set HQ.out HS2.out.hp (by decide) _ _⟩, ⟨Kd.R_set HO.out HS2.out.hp (by decide) _ _⟩⟩
     case measure => have := HGK.out; have := HLJ.out; omega
    ·have h8b : (sent[j] == 8) = false := by simpa using h8
     rw [if_neg h8] at hR'
     have HRj := Aside0.mk hR'
     generalize sent[j] = sj at *
     clear h8 hR'
     go_wp2
     go_roundg (sent.length - (j + 1))
     case rel => exact ⟨j + 1, p4, _, by have := HLJ.out; omega, rfl, by go_num, hp0, hp1, HRj, HS2, H5, HQ, HO⟩
     case measure => have := HGK.out; have := HLJ.out; omega
   ·obtain rfl : j = sent.length := by omega
    have hR' := HRj.out
    rw [List.drop_length, spec_l18Act.resets] at hR'
    subst hR'
    clear HRj HGK hj hlt_
    go_upto_region 24 with (fail)
    refine spec_l18Act.wp_gen8 (fun W' => (spec_l18Act.LA w W' g A B R 0 5 A2 A3 c2 c3 la lb nx B p4 (.slice Aq lq.length cq) (.slice Ao3 lb.length co3) lq lb) ∧ Kd.R (Kd.int .i64) 3 W' w.heap.size (fun _ => True) (.slice Ao5 sent.length co5) sent) ⟨?_, ?_⟩ ?_
    case refine_1 => exact (HS2.out.set0 nx).set2 (Kd.R_set HQ.out HS2.out.hp (by decide) _ _) (Kd.R_set HO.out HS2.out.hp (by decide) _ _)
    case refine_2 => exact Kd.R_set (Kd.R_set H5.out HS2.out.hp (by decide) _ _) (HS2.out.set0 nx).hp (by decide) _ _
    rintro Wa ⟨hSa, h5a⟩
    clear kw0 kw1 kw2 kw3 kw4 ka0 ka1 kp0 fp0 kr0 fr0 kp1 fp1 kr1 fr1 kp2 fp2 kr2 fr2 kp3 fp3 kr3 fr3 kp4 fp4 kr4 fr4 hlt lt0 lt1 lt2
    clear HS2 H5 HQ HO HLT5
    have HS2 := Aside0.mk hSa
    have H5 := Aside0.mk h5a
    clear hSa h5a
    have kw0 := blk_cell HS2.out.hw 0; have kw1 := blk_cell HS2.out.hw 1; have kw2 := blk_cell HS2.out.hw 2; have kw3 := blk_cell HS2.out.hw 3; have kw4 := blk_cell HS2.out.hw 4; have ka0 := blk_cell HS2.out.ha 0; have ka1 := blk_cell HS2.out.ha 1; have kp0 := blk_cell HS2.out.hp 0; have fp0 := blk_frozen HS2.out.hp 0; have kp1 := blk_cell HS2.out.hp 1; have fp1 := blk_frozen HS2.out.hp 1; have kp2 := blk_cell HS2.out.hp 2; have fp2 := blk_frozen HS2.out.hp 2; have kp3 := blk_cell HS2.out.hp 3; have fp3 := blk_frozen HS2.out.hp 3; have kp4 := blk_cell HS2.out.hp 4; have fp4 := blk_frozen HS2.out.hp 4; have kr0 := blk_cell HS2.out.hr 0; have fr0 := blk_frozen HS2.out.hr 0; have kr1 := blk_cell HS2.out.hr 1; have fr1 := blk_frozen HS2.out.hr 1; have kr2 := blk_cell HS2.out.hr 2; have fr2 := blk_frozen HS2.out.hr 2; have kr3 := blk_cell HS2.out.hr 3; have fr3 := blk_frozen HS2.out.hr 3; have kr4 := blk_cell HS2.out.hr 4; have fr4 := blk_frozen HS2.out.hr 4; have hlt := blk_lt HS2.out.hp; have lt0 := blk_lt HS2.out.hw; have lt1 := blk_lt HS2.out.ha; have lt2 := blk_lt HS2.out.hr
    go_upto_region 28 with (at_builtin; refine Kd.R_append_rows (Kd.int .i64) (w0 := w) w.heap.size rfl (.tmp 87) (.tmp 88) 26 3 (.int .i64 0) 8 rfl Try.underlying26 info3 rfl (by decide) (by decide) (.slice Ao3 lb.length co3) lb sent _ _ _ (fun k_ => some k_ ≠ ((.slice Aq lq.length cq) : Value).ownBlock) (fun _ => False) rfl rfl HS2.out.h3 (Kd.R_reads' H5.out).2.2 (fun _ _ h => h) (fun _ h => h.elim) (fun k hk he => by have := Kd.R_lt HS2.out.h2 k he.symm; omega) HS2.out.hb HS2.out.hb.size (by have := HLN.out; omega) ?_; intro v9 w9 ho9 hb9 hg9 hat9; obtain ⟨Ao9, co9, e9⟩ := Kd.R_slice ho9; rw [List.length_append] at e9; subst e9; have HA := Aside0.mk (HS2.out.app3 ho9 hb9 hg9 hat9); have g2 := blk_grown HS2.out.hp hg9 (Kd.R_ne HS2.out.h3 HS2.out.hp (by decide)); have kg := blk_cell g2 3; have fg := blk_frozen g2 3; clear g2 ho9 hb9 hg9 hat9)
    refine spec_l18Act.wp_gen8 (fun W' => spec_l18Act.LA w W' g A B R 0 5 A2 A3 c2 c3 la lb nx B p4 (.slice Aq lq.length cq) (.slice Ao9 (lb.length + sent.length) co9) lq (lb ++ sent)) HA.out ?_
    rintro Wb hSb
    clear kw0 kw1 kw2 kw3 kw4 ka0 ka1 kp0 fp0 kr0 fr0 kp1 fp1 kr1 fr1 kp2 fp2 kr2 fr2 kp3 fp3 kr3 fr3 kp4 fp4 kr4 fr4 hlt lt0 lt1 lt2
    clear HS2 H5 HA kg fg
    have hln2 : (lb ++ sent).length = lb.length + sent.length := List.length_append
    have HLN2 := Aside0.mk hln2
    clear hln2
    generalize hnn : lb.length + sent.length = nn at *
    have HMM := Aside0.mk hnn
    clear hnn
    have HS2 := Aside0.mk hSb
    clear hSb
    have kw0 := blk_cell HS2.out.hw 0; have kw1 := blk_cell HS2.out.hw 1; have kw2 := blk_cell HS2.out.hw 2; have kw3 := blk_cell HS2.out.hw 3; have kw4 := blk_cell HS2.out.hw 4; have ka0 := blk_cell HS2.out.ha 0; have ka1 := blk_cell HS2.out.ha 1; have kp0 := blk_cell HS2.out.hp 0; have fp0 := blk_frozen HS2.out.hp 0; have kp1 := blk_cell HS2.out.hp 1; have fp1 := blk_frozen HS2.out.hp 1; have kp2 := blk_cell HS2.out.hp 2; have fp2 := blk_frozen HS2.out.hp 2; have kp3 := blk_cell HS2.out.hp 3; have fp3 := blk_frozen HS2.out.hp 3; have kp4 := blk_cell HS2.out.hp 4; have fp4 := blk_frozen HS2.out.hp 4; have kr0 := blk_cell HS2.out.hr 0; have fr0 := blk_frozen HS2.out.hr 0; have kr1 := blk_cell HS2.out.hr 1; have fr1 := blk_frozen HS2.out.hr 1; have kr2 := blk_cell HS2.out.hr 2; have fr2 := blk_frozen HS2.out.hr 2; have kr3 := blk_cell HS2.out.hr 3; have fr3 := blk_frozen HS2.out.hr 3; have kr4 := blk_cell HS2.out.hr 4; have fr4 := blk_frozen HS2.out.hr 4; have hlt := blk_lt HS2.out.hp; have lt0 := blk_lt HS2.out.hw; have lt1 := blk_lt HS2.out.ha; have lt2 := blk_lt HS2.out.hr
    have o1 : decide ((200 : Int) < (lq.length : Int)) = false := decide_eq_false (by have := HO1.out; have := HLN2.out; omega)
    have o2 : decide ((200 : Int) < (nn : Int)) = false := decide_eq_false (by have := HO2.out; have := HLN2.out; omega)
    have o3 : decide (200 < lq.length) = false := decide_eq_false (by have := HO1.out; have := HLN2.out; omega)
    have o4 : decide (200 < nn) = false := decide_eq_false (by have := HO2.out; have := HLN2.out; omega)
    go_wp2
    exact bodyPost_ret (results_ct rfl _ _ (w.heap.size + 2) 37 #[.int .i64 nx, .int .i64 B, .slice Aq lq.length cq, .slice Ao9 nn co9, .int .i64 p4] (0, 0) _ rfl (spec_l18Act.LA.fin (HS2.out) (.int .i64 nx) (.int .i64 B) (.slice Aq lq.length cq) (.slice Ao9 nn co9) (.int .i64 p4)).hr Try.underlying37 rfl (by kernel_rfl)) rfl ⟨_, _, rfl, (spec_l18Act.LA.fin (HS2.out) (.int .i64 nx) (.int .i64 B) (.slice Aq lq.length cq) (.slice Ao9 nn co9) (.int .i64 p4)).h2, (spec_l18Act.LA.fin (HS2.out) (.int .i64 nx) (.int .i64 B) (.slice Aq lq.length cq) (.slice Ao9 nn co9) (.int .i64 p4)).h3, (spec_l18Act.LA.fin (HS2.out) (.int .i64 nx) (.int .i64 B) (.slice Aq lq.length cq) (.slice Ao9 nn co9) (.int .i64 p4)).hb⟩
set_option maxHeartbeats 4000000 in
set_option maxRecDepth 100000 in
theorem spec_l18Act.l18_s0a (A B R x nx code R' : Int) (A2 A3 : Option Addr) (c2 c3 : Nat) (la lb : List Int) (w : World) (hr2 : Kd.C (Kd.int .i64) w A2 la.length la) (hc2 : la.length ≤ c2) (hr3 : Kd.C (Kd.int .i64) w A3 lb.length lb) (hc3 : lb.length ≤ c3) (hf : spec_l18Own.f A B la lb R = some (A, B, la, lb, R)) (k : Nat) (sent lq : List Int) (hi : spec_l01In.f 0 0 1 = some true) (hi2 : spec_l01In.f 5 1 5 = some true) (hq : la = x :: lq) (hlq : lq.length ≤ 1000000) (hst : spec_l18Step.f k A 5 x = some (nx, sent, code)) (hrs : spec_l18Act.resets sent R = R') (hR0 : 0 ≤ R) (hR1 : R ≤ 1000) (hln : lb.length + sent.length ≤ 1000000) (ho1 : 200 < (lq.length)) : Calls Try.prog 41 #[.agg #[.int .i64 A, .int .i64 B, .slice A2 la.length c2, .slice A3 lb.length c3, .int .i64 R], .agg #[.int .i64 0, .int .i64 5]] w (spec_l18Act.L18Post w A B la lb R 7) := by
 have HI := Aside0.mk hi
 have HI2 := Aside0.mk hi2
 have HST := Aside0.mk hst
 have HRS := Aside0.mk hrs
 have HLN := Aside0.mk hln
 have HO1 := Aside0.mk ho1
 have HQ0 := Aside0.mk hq
 have HLQ1 := Aside0.mk hlq
 clear hi hi2 hst hrs hln ho1 hq hlq
 have hu37 := Try.underlying37
 have hu34 := Try.underlying34
 have hu30 := Try.underlying30
 have HR2 := Aside0.mk hr2
 have HR3 := Aside0.mk hr3
 have HC2 := Aside0.mk hc2
 have HC3 := Aside0.mk hc3
 have HF := Aside0.mk hf
 clear hr2 hr3 hc2 hc3 hf
 go_enter Try.func41, Try.ntmps41
 go_upto_region 2 with (go_at_call 42; (with_reducible refine (spec_l18Own.calls A B A2 c2 la A3 c3 lb R A B la lb R _ (Kd.C_below HR2.out ?hq2) HC2.out (Kd.C_below HR3.out ?hq3) HC3.out ?hf).mono ?_); (case hq2 => repeat (first | exact Below.refl _ _ | apply below_alloc)); (case hq3 => repeat (first | exact Below.refl _ _ | apply below_alloc)); (case hf => exact HF.out); rintro e w1 ⟨v2, v3, rfl, h2, h3, hbel⟩; obtain ⟨Ao2, co2, e2⟩ := Kd.R_slice h2; subst e2; obtain ⟨Ao3, co3, e3⟩ := Kd.R_slice h3; subst e3; have HB1 := Aside0.mk hbel; have H2 := Aside0.mk h2; have H3 := Aside0.mk h3; clear hbel h2 h3)
 refine spec_l18Act.wp_gen8 (fun W => spec_l18Act.LA w W w1.heap.size A B R 0 5 A2 A3 c2 c3 la lb A B R (.slice Ao2 la.length co2) (.slice Ao3 lb.length co3) la lb) ⟨?_, ?_, ?_, ?_, ?_, ?_, ?_, ?_⟩ ?_
 case refine_1 => exact blk_alloc (blk_below (blk_alloc (blk_alloc (blk_new _ _) _) _) HB1.out) _
 case refine_2 => exact blk_alloc (blk_below (blk_alloc (spec_l18Act.blk_new_at8 _ _ _ (by simp)) _) HB1.out) _
 case refine_3 => exact blk_alloc (blk_below (spec_l18Act.blk_new_at8 _ _ _ (by simp)) HB1.out) _
 case refine_4 => exact blk_new _ _
 case refine_5 => have := HB1.out.size; simp at this; omega
 case refine_6 => exact Kd.R_alloc (Kd.R_lower H2.out (by simp; omega)) _
 case refine_7 => exact Kd.R_alloc (Kd.R_lower H3.out (by simp; omega)) _
 case refine_8 => exact below_alloc (below_then (by repeat (first | exact Below.refl _ _ | apply below_alloc)) (by simp; omega) HB1.out) _
 generalize w1.heap.size = g
 clear H2 H3 HB1
 rintro W hS
 have HS := Aside0.mk hS
 have kw0 := blk_cell hS.hw 0; have kw1 := blk_cell hS.hw 1; have kw2 := blk_cell hS.hw 2; have kw3 := blk_cell hS.hw 3; have kw4 := blk_cell hS.hw 4; have ka0 := blk_cell hS.ha 0; have ka1 := blk_cell hS.ha 1; have kp0 := blk_cell hS.hp 0; have fp0 := blk_frozen hS.hp 0; have kp1 := blk_cell hS.hp 1; have fp1 := blk_frozen hS.hp 1; have kp2 := blk_cell hS.hp 2; have fp2 := blk_frozen hS.hp 2; have kp3 := blk_cell hS.hp 3; have fp3 := blk_frozen hS.hp 3; have kp4 := blk_cell hS.hp 4; have fp4 := blk_frozen hS.hp 4; have kr0 := blk_cell hS.hr 0; have fr0 := blk_frozen hS.hr 0; have kr1 := blk_cell hS.hr 1; have fr1 := blk_frozen hS.hr 1; have kr2 := blk_cell hS.hr 2; have fr2 := blk_frozen hS.hr 2; have kr3 := blk_cell hS.hr 3; have fr3 := blk_frozen hS.hr 3; have kr4 := blk_cell hS.hr 4; have fr4 := blk_frozen hS.hr 4; have hg := hS.hg; have hlt := blk_lt hS.hp; have lt0 := blk_lt hS.hw; have lt1 := blk_lt hS.ha; have lt2 := blk_lt hS.hr
 clear hS
 have hpos : 0 < la.length := by rw [HQ0.out]; simp
 obtain ⟨gq, cq0, e2, _, hgq, _⟩ := Kd.R_form HS.out.h2 hpos
 simp only [Value.slice.injEq, true_and] at e2
 obtain ⟨rfl, rfl⟩ := e2
 have hT : Kd.C (Kd.int .i64) W (if co2 = 1 then some ⟨gq, 0, none⟩ else some ⟨gq, 1, none⟩) (la.length - 1) lq := by
  have h := (Kd.Q_reads' (Kd.Q_drop (Kd.Q_of_R HS.out.h2) (k := 1) (show 1 ≤ la.length from hpos))).2.2
  rw [HQ0.out] at h ⊢
  simpa [Addr.add, Kd.int, Kd.scalar] using h
 have kq : W.cell? ⟨gq, 0, none⟩ = some (.int .i64 x) := by
  have h := (Kd.R_celln (0 : Int) HS.out.h2 0 (by decide) (by exact_mod_cast hpos)).1
  rw [HQ0.out] at h
  simpa [rdOf] using h
 have HLQ := Aside0.mk (show la.length - 1 ≤ 1000000 from by have h2 := HLQ1.out; rw [HQ0.out]; simpa using h2)
 have hl0 : ((la.length : Int) == 0) = false := by rw [beq_eq_false_iff_ne]; omega
 have hl1 : (1 : Int) ≤ (la.length : Int) := by omega
 by_cases hc1 : co2 = 1
 all_goals
  first | rw [if_pos hc1] at hT | rw [if_neg hc1] at hT
  have HT := Aside0.mk hT
  clear hT
  try subst hc1
  go_wp2_with (first | (go_at_call 35; ((with_reducible refine (spec_l18Act.l01In_q 0 0 1 true _ HI.out).mono ?_); rintro e w' ⟨rfl, rfl⟩)) | (go_at_call 35; ((with_reducible refine (spec_l18Act.l01In_q 5 1 5 true _ HI2.out).mono ?_); rintro e w' ⟨rfl, rfl⟩)) | ((with_reducible refine gate_dst (N := 52) rfl ?_); refine Kd.R_lit (Kd.int .i64) _ 3 ?hg (N := 52) ?hd (xs := ([] : List Int)) (inner := []) (ok := fun _ => True) (okp := fun _ => True) ?hr ?hp (fun _ hk => hk) trivial (Below.refl _ _) (Nat.le_refl _) (by simp) ?_; (case hd => rfl); (case hg => rfl); (case hr => first | (go_simp; done) | (go_simp; rfl)); (case hp => exact (Reps.none _ _)); intro v52 w6 ho7 hb hg_ hnew_; clear hg_ hnew_; have hX : Below W.heap.size W w6 := below_then (by with_reducible (repeat (first | exact Below.refl _ _ | apply below_alloc | apply pw_below_drewN | apply below_drew1 | refine below_set ?_ (Nat.le_refl _)))) (by simp <;> omega) hb; have HX := Aside0.mk hX; have H52 := Aside0.mk (Kd.R_lower ho7 (by simp <;> omega) : Kd.R (Kd.int .i64) 3 w6 W.heap.size _ _ _); have hE : w6.heap[W.heap.size]? = some (.cells #[.int .i64 5, .int .i64 x] 30 (0, 0)) := blk_below (by first | exact blk_new _ _ | (refine blk_put (cs := #[.int .i64 5, .int .i64 0]) ?_ 1 _ rfl; exact blk_new _ _)) hb; have HE := Aside0.mk hE; clear hE hX ho7 hb) | (at_builtin; refine Kd.R_append_rows (Kd.int .i64) (w0 := W) W.heap.size rfl (.tmp 52) (.tmp 54) 26 3 (.int .i64 0) 8 rfl Try.underlying26 info3 rfl (by decide) (by decide) v52 [] lq _ _ _ (fun _ => True) (fun _ => False) rfl rfl H52.out (Kd.C_below HT.out HX.out) (fun _ _ h => h) (fun _ h => h.elim) (fun _ _ => trivial) HX.out HX.out.size (by have := HLQ.out; simp only [List.length_nil]; omega) ?_; intro v8 w8 ho8 hb8 hg8 hat8; rw [List.nil_append] at ho8; obtain ⟨Aq, cq, e8⟩ := Kd.R_slice ho8; subst e8; have HQ8 := Aside0.mk ho8; have HX2 := Aside0.mk hb8; clear HX; have HX := HX2; clear HX2; have hE := blk_grown HE.out hg8 (Kd.R_ne H52.out HE.out (by decide)); have ke0 := blk_cell hE 0; have ke1 := blk_cell hE 1; clear hE HE H52 ho8 hb8 hg8 hat8) | (go_at_call 39; ((with_reducible refine (spec_l18Step.calls k _ _ _ nx sent code _ HST.out).mono ?_); rintro e w2 ⟨v5, rfl, h5, hbel⟩; obtain ⟨Ao5, co5, e5⟩ := Kd.R_slice h5; subst e5; have hB2 : Below W.heap.size W w2 := below_then HX.out (HX.out.size) hbel; have HS2 := Aside0.mk (HS.out.below hB2); have HQ := Aside0.mk (Kd.R_mono (Kd.R_lower (Kd.R_below (Kd.R_new' HQ8.out (Kd.R_lt HS.out.h3)) hbel) HS.out.hb.size) (fun _ hk => hk.2) : Kd.R (Kd.int .i64) 3 w2 w.heap.size (fun k => some k ≠ ((.slice Ao3 lb.length co3) : Value).ownBlock) _ lq); have HO := Aside0.mk (Kd.R_mono (Kd.R_elder' HS.out.h3 (fun k hk => Kd.R_base HQ8.out k hk) hB2) (fun _ hk => hk.2) : Kd.R (Kd.int .i64) 3 w2 w.heap.size (fun k => some k ≠ (Value.slice Aq lq.length cq).ownBlock) _ lb); have H5 := Aside0.mk (Kd.R_lower h5 (by have := HS.out.hb.size; have := HX.out.size; omega) : Kd.R (Kd.int .i64) 3 w2 w.heap.size _ _ sent); clear h5 hbel hB2 kq; clear kw0 kw1 kw2 kw3 kw4 ka0 ka1 kp0 fp0 kr0 fr0 kp1 fp1 kr1 fr1 kp2 fp2 kr2 fr2 kp3 fp3 kr3 fr3 kp4 fp4 kr4 fr4 hlt lt0 lt1 lt2; have kw0 := blk_cell HS2.out.hw 0; have kw1 := blk_cell HS2.out.hw 1; have kw2 := blk_cell HS2.out.hw 2; have kw3 := blk_cell HS2.out.hw 3; have kw4 := blk_cell HS2.out.hw 4; have ka0 := blk_cell HS2.out.ha 0; have ka1 := blk_cell HS2.out.ha 1; have kp0 := blk_cell HS2.out.hp 0; have fp0 := blk_frozen HS2.out.hp 0; have kp1 := blk_cell HS2.out.hp 1; have fp1 := blk_frozen HS2.out.hp 1; have kp2 := blk_cell HS2.out.hp 2; have fp2 := blk_frozen HS2.out.hp 2; have kp3 := blk_cell HS2.out.hp 3; have fp3 := blk_frozen HS2.out.hp 3; have kp4 := blk_cell HS2.out.hp 4; have fp4 := blk_frozen HS2.out.hp 4; have kr0 := blk_cell HS2.out.hr 0; have fr0 := blk_frozen HS2.out.hr 0; have kr1 := blk_cell HS2.out.hr 1; have fr1 := blk_frozen HS2.out.hr 1; have kr2 := blk_cell HS2.out.hr 2; have fr2 := blk_frozen HS2.out.hr 2; have kr3 := blk_cell HS2.out.hr 3; have fr3 := blk_frozen HS2.out.hr 3; have kr4 := blk_cell HS2.out.hr 4; have fr4 := blk_frozen HS2.out.hr 4; have hlt := blk_lt HS2.out.hp; have lt0 := blk_lt HS2.out.hw; have lt1 := blk_lt HS2.out.ha; have lt2 := blk_lt HS2.out.hr)))
  go_loopg [13] sent.length (fun gk v13 w' => ∃ (j : Nat) (p4 : Int) (vo : Value), j ≤ sent.length ∧ gk = sent.length - j ∧ v13 = .int .i64 j ∧ 0 ≤ p4 ∧ p4 ≤ 1000 ∧ Aside0 (spec_l18Act.resets (sent.drop j) p4 = R') ∧ Aside0 (spec_l18Act.LA w w' g A B R 0 5 A2 A3 c2 c3 la lb A B p4 vo (.slice Ao3 lb.length co3) la lb) ∧ Aside0 (Kd.R (Kd.int .i64) 3 w' w.heap.size (fun _ => True) (.slice Ao5 sent.length co5) sent) ∧ Aside0 (Kd.R (Kd.int .i64) 3 w' w.heap.size (fun k => some k ≠ ((.slice Ao3 lb.length co3) : Value).ownBlock) (.slice Aq lq.length cq) lq) ∧ Aside0 (Kd.R (Kd.int .i64) 3 w' w.heap.size (fun k => some k ≠ (Value.slice Aq lq.length cq).ownBlock) (.slice Ao3 lb.length co3) lb))
  case atStart => exact ⟨0, R, _, by omega, by omega, rfl, hR0, hR1, ⟨by rw [List.drop_zero]; exact HRS.out⟩, HS2, H5, HQ, HO⟩
  case round =>
   clear HS HS2 H5 HQ HO
   obtain ⟨j, p4, vo, hj, hgk, rfl, hp0, hp1, HRj, HS2, H5, HQ, HO⟩ := hrel
   have HGK := Aside0.mk hgk
   clear hgk
   have kw0 := blk_cell HS2.out.hw 0; have kw1 := blk_cell HS2.out.hw 1; have kw2 := blk_cell HS2.out.hw 2; have kw3 := blk_cell HS2.out.hw 3; have kw4 := blk_cell HS2.out.hw 4; have ka0 := blk_cell HS2.out.ha 0; have ka1 := blk_cell HS2.out.ha 1; have kp0 := blk_cell HS2.out.hp 0; have fp0 := blk_frozen HS2.out.hp 0; have kp1 := blk_cell HS2.out.hp 1; have fp1 := blk_frozen HS2.out.hp 1; have kp2 := blk_cell HS2.out.hp 2; have fp2 := blk_frozen HS2.out.hp 2; have kp3 := blk_cell HS2.out.hp 3; have fp3 := blk_frozen HS2.out.hp 3; have kp4 := blk_cell HS2.out.hp 4; have fp4 := blk_frozen HS2.out.hp 4; have kr0 := blk_cell HS2.out.hr 0; have fr0 := blk_frozen HS2.out.hr 0; have kr1 := blk_cell HS2.out.hr 1; have fr1 := blk_frozen HS2.out.hr 1; have kr2 := blk_cell HS2.out.hr 2; have fr2 := blk_frozen HS2.out.hr 2; have kr3 := blk_cell HS2.out.hr 3; have fr3 := blk_frozen HS2.out.hr 3; have kr4 := blk_cell HS2.out.hr 4; have fr4 := blk_frozen HS2.out.hr 4; have hlt := blk_lt HS2.out.hp; have lt0 := blk_lt HS2.out.hw; have lt1 := blk_lt HS2.out.ha; have lt2 := blk_lt HS2.out.hr; have lt5 : ∀ k, (Value.slice Ao5 sent.length co5).ownBlock = some k → k < wr.heap.size := Kd.R_lt H5.out; have HLT5 := Aside0.mk lt5; clear lt5
   by_cases hlt_ : j < sent.length
   ·have hlt2 : (j : Int) < (sent.length : Int) := by omega
    have HLJ := Aside0.mk hlt_
    have hsl : sent.length ≤ 1000000 := by have := HLN.out; omega
    obtain ⟨ad, e5, hx⟩ := Kd.at_int (Kd.R_reads' H5.out).2.2 (j : Int) (by omega) hlt2
    cases e5
    have hrd : rd sent (j : Int) = sent[j] := by simp [rd, List.getD_eq_getElem?_getD, List.getElem?_eq_getElem hlt_]
    rw [hrd, Int.toNat_natCast] at hx
    have hR' := HRj.out
    rw [List.drop_eq_getElem_cons hlt_, spec_l18Act.resets] at hR'
    clear HRj hrd
    by_cases h8 : sent[j] = 8
    ·have h8b : (sent[j] == 8) = true := by simpa using h8
     rw [if_pos h8] at hR'
     have HRj := Aside0.mk hR'
     generalize sent[j] = sj at *
     clear h8 hR'
     obtain ⟨p5, hp5⟩ : ∃ p5 : Int, (if p4 + 1 < 1000 then p4 + 1 else 1000) = p5 := ⟨_, rfl⟩
     rw [hp5] at HRj
     have b5 : 0 ≤ p5 ∧ p5 ≤ 1000 := by rw [← hp5]; split <;> omega
     go_wp2
     go_roundg (sent.length - (j + 1))
     case rel => exact ⟨j + 1, p5, _, by have := HLJ.out; omega, rfl, by go_num, b5.1, b5.2, HRj, ⟨HS2.out.set4 p5⟩, ⟨Kd.R_set H5.out HS2.out.hp (by decide) _ _⟩, ⟨Kd.R_set HQ.out HS2.out.hp (by decide) _ _⟩, ⟨Kd.R_set HO.out HS2.out.hp (by decide) _ _⟩⟩
     case measure => have := HGK.out; have := HLJ.out; omega
    ·have h8b : (sent[j] == 8) = false := by simpa using h8
     rw [if_neg h8] at hR'
     have HRj := Aside0.mk hR'
     generalize sent[j] = sj at *
     clear h8 hR'
     go_wp2
     go_roundg (sent.length - (j + 1))
     case rel => exact ⟨j + 1, p4, _, by have := HLJ.out; omega, rfl, by go_num, hp0, hp1, HRj, HS2, H5, HQ, HO⟩
     case measure => have := HGK.out; have := HLJ.out; omega
   ·obtain rfl : j = sent.length := by omega
    have hR' := HRj.out
    rw [List.drop_length, spec_l18Act.resets] at hR'
    subst hR'
    clear HRj HGK hj hlt_
    go_upto_region 24 with (fail)
    refine spec_l18Act.wp_gen8 (fun W' => (spec_l18Act.LA w W' g A B R 0 5 A2 A3 c2 c3 la lb nx B p4 (.slice Aq lq.length cq) (.slice Ao3 lb.length co3) lq lb) ∧ Kd.R (Kd.int .i64) 3 W' w.heap.size (fun _ => True) (.slice Ao5 sent.length co5) sent) ⟨?_, ?_⟩ ?_
    case refine_1 => exact (HS2.out.set0 nx).set2 (Kd.R_set HQ.out HS2.out.hp (by decide) _ _) (Kd.R_set HO.out HS2.out.hp (by decide) _ _)
    case refine_2 => exact Kd.R_set (Kd.R_set H5.out HS2.out.hp (by decide) _ _) (HS2.out.set0 nx).hp (by decide) _ _
    rintro Wa ⟨hSa, h5a⟩
    clear kw0 kw1 kw2 kw3 kw4 ka0 ka1 kp0 fp0 kr0 fr0 kp1 fp1 kr1 fr1 kp2 fp2 kr2 fr2 kp3 fp3 kr3 fr3 kp4 fp4 kr4 fr4 hlt lt0 lt1 lt2
    clear HS2 H5 HQ HO HLT5
    have HS2 := Aside0.mk hSa
    have H5 := Aside0.mk h5a
    clear hSa h5a
    have kw0 := blk_cell HS2.out.hw 0; have kw1 := blk_cell HS2.out.hw 1; have kw2 := blk_cell HS2.out.hw 2; have kw3 := blk_cell HS2.out.hw 3; have kw4 := blk_cell HS2.out.hw 4; have ka0 := blk_cell HS2.out.ha 0; have ka1 := blk_cell HS2.out.ha 1; have kp0 := blk_cell HS2.out.hp 0; have fp0 := blk_frozen HS2.out.hp 0; have kp1 := blk_cell HS2.out.hp 1; have fp1 := blk_frozen HS2.out.hp 1; have kp2 := blk_cell HS2.out.hp 2; have fp2 := blk_frozen HS2.out.hp 2; have kp3 := blk_cell HS2.out.hp 3; have fp3 := blk_frozen HS2.out.hp 3; have kp4 := blk_cell HS2.out.hp 4; have fp4 := blk_frozen HS2.out.hp 4; have kr0 := blk_cell HS2.out.hr 0; have fr0 := blk_frozen HS2.out.hr 0; have kr1 := blk_cell HS2.out.hr 1; have fr1 := blk_frozen HS2.out.hr 1; have kr2 := blk_cell HS2.out.hr 2; have fr2 := blk_frozen HS2.out.hr 2; have kr3 := blk_cell HS2.out.hr 3; have fr3 := blk_frozen HS2.out.hr 3; have kr4 := blk_cell HS2.out.hr 4; have fr4 := blk_frozen HS2.out.hr 4; have hlt := blk_lt HS2.out.hp; have lt0 := blk_lt HS2.out.hw; have lt1 := blk_lt HS2.out.ha; have lt2 := blk_lt HS2.out.hr
    go_upto_region 28 with (at_builtin; refine Kd.R_append_rows (Kd.int .i64) (w0 := w) w.heap.size rfl (.tmp 87) (.tmp 88) 26 3 (.int .i64 0) 8 rfl Try.underlying26 info3 rfl (by decide) (by decide) (.slice Ao3 lb.length co3) lb sent _ _ _ (fun k_ => some k_ ≠ ((.slice Aq lq.length cq) : Value).ownBlock) (fun _ => False) rfl rfl HS2.out.h3 (Kd.R_reads' H5.out).2.2 (fun _ _ h => h) (fun _ h => h.elim) (fun k hk he => by have := Kd.R_lt HS2.out.h2 k he.symm; omega) HS2.out.hb HS2.out.hb.size (by have := HLN.out; omega) ?_; intro v9 w9 ho9 hb9 hg9 hat9; obtain ⟨Ao9, co9, e9⟩ := Kd.R_slice ho9; rw [List.length_append] at e9; subst e9; have HA := Aside0.mk (HS2.out.app3 ho9 hb9 hg9 hat9); have g2 := blk_grown HS2.out.hp hg9 (Kd.R_ne HS2.out.h3 HS2.out.hp (by decide)); have kg := blk_cell g2 3; have fg := blk_frozen g2 3; clear g2 ho9 hb9 hg9 hat9)
    refine spec_l18Act.wp_gen8 (fun W' => spec_l18Act.LA w W' g A B R 0 5 A2 A3 c2 c3 la lb nx B p4 (.slice Aq lq.length cq) (.slice Ao9 (lb.length + sent.length) co9) lq (lb ++ sent)) HA.out ?_
    rintro Wb hSb
    clear kw0 kw1 kw2 kw3 kw4 ka0 ka1 kp0 fp0 kr0 fr0 kp1 fp1 kr1 fr1 kp2 fp2 kr2 fr2 kp3 fp3 kr3 fr3 kp4 fp4 kr4 fr4 hlt lt0 lt1 lt2
    clear HS2 H5 HA kg fg
    have hln2 : (lb ++ sent).length = lb.length + sent.length := List.length_append
    have HLN2 := Aside0.mk hln2
    clear hln2
    generalize hnn : lb.length + sent.length = nn at *
    have HMM := Aside0.mk hnn
    clear hnn
    have HS2 := Aside0.mk hSb
    clear hSb
    have kw0 := blk_cell HS2.out.hw 0; have kw1 := blk_cell HS2.out.hw 1; have kw2 := blk_cell HS2.out.hw 2; have kw3 := blk_cell HS2.out.hw 3; have kw4 := blk_cell HS2.out.hw 4; have ka0 := blk_cell HS2.out.ha 0; have ka1 := blk_cell HS2.out.ha 1; have kp0 := blk_cell HS2.out.hp 0; have fp0 := blk_frozen HS2.out.hp 0; have kp1 := blk_cell HS2.out.hp 1; have fp1 := blk_frozen HS2.out.hp 1; have kp2 := blk_cell HS2.out.hp 2; have fp2 := blk_frozen HS2.out.hp 2; have kp3 := blk_cell HS2.out.hp 3; have fp3 := blk_frozen HS2.out.hp 3; have kp4 := blk_cell HS2.out.hp 4; have fp4 := blk_frozen HS2.out.hp 4; have kr0 := blk_cell HS2.out.hr 0; have fr0 := blk_frozen HS2.out.hr 0; have kr1 := blk_cell HS2.out.hr 1; have fr1 := blk_frozen HS2.out.hr 1; have kr2 := blk_cell HS2.out.hr 2; have fr2 := blk_frozen HS2.out.hr 2; have kr3 := blk_cell HS2.out.hr 3; have fr3 := blk_frozen HS2.out.hr 3; have kr4 := blk_cell HS2.out.hr 4; have fr4 := blk_frozen HS2.out.hr 4; have hlt := blk_lt HS2.out.hp; have lt0 := blk_lt HS2.out.hw; have lt1 := blk_lt HS2.out.ha; have lt2 := blk_lt HS2.out.hr
    have o1 : decide ((200 : Int) < (lq.length : Int)) = true := decide_eq_true (by have := HO1.out; have := HLN2.out; omega)
    have o3 : decide (200 < lq.length) = true := decide_eq_true (by have := HO1.out; have := HLN2.out; omega)
    go_wp2_with (go_at_call 42; (with_reducible refine (spec_l18Own.calls A B A2 c2 la A3 c3 lb R A B la lb R _ (Kd.C_below HR2.out ?hq2) HC2.out (Kd.C_below HR3.out ?hq3) HC3.out ?hf).mono ?_); (case hq2 => exact HS2.out.hb); (case hq3 => exact HS2.out.hb); (case hf => exact HF.out); rintro e w1 ⟨v2, v3, rfl, h2, h3, hbel⟩; obtain ⟨Ap2, cp2, e2⟩ := Kd.R_slice h2; subst e2; obtain ⟨Ap3, cp3, e3⟩ := Kd.R_slice h3; subst e3; have HB1 := Aside0.mk hbel; have H2 := Aside0.mk h2; have H3 := Aside0.mk h3; have hrz := blk_below HS2.out.hr hbel; have kr0_ := blk_cell hrz 0; have fr0_ := blk_frozen hrz 0; have kr1_ := blk_cell hrz 1; have fr1_ := blk_frozen hrz 1; have kr2_ := blk_cell hrz 2; have fr2_ := blk_frozen hrz 2; have kr3_ := blk_cell hrz 3; have fr3_ := blk_frozen hrz 3; have kr4_ := blk_cell hrz 4; have fr4_ := blk_frozen hrz 4; have HZ := Aside0.mk hrz; clear hrz; clear hbel h2 h3)
    exact bodyPost_ret (results_ct rfl _ _ (w.heap.size + 2) 37 #[.int .i64 A, .int .i64 B, .slice Ap2 la.length cp2, .slice Ap3 lb.length cp3, .int .i64 R] (0, 0) _ rfl (spec_l18Act.fin0 HZ.out (Kd.R_lower H2.out HS2.out.hb.size) (Kd.R_lower H3.out HS2.out.hb.size) (below_then HS2.out.hb HS2.out.hb.size HB1.out) (.int .i64 A) (.int .i64 B) (.slice Ap2 la.length cp2) (.slice Ap3 lb.length cp3) (.int .i64 R)).hr Try.underlying37 rfl (by kernel_rfl)) rfl ⟨_, _, rfl, (spec_l18Act.fin0 HZ.out (Kd.R_lower H2.out HS2.out.hb.size) (Kd.R_lower H3.out HS2.out.hb.size) (below_then HS2.out.hb HS2.out.hb.size HB1.out) (.int .i64 A) (.int .i64 B) (.slice Ap2 la.length cp2) (.slice Ap3 lb.length cp3) (.int .i64 R)).h2, (spec_l18Act.fin0 HZ.out (Kd.R_lower H2.out HS2.out.hb.size) (Kd.R_lower H3.out HS2.out.hb.size) (below_then HS2.out.hb HS2.out.hb.size HB1.out) (.int .i64 A) (.int .i64 B) (.slice Ap2 la.length cp2) (.slice Ap3 lb.length cp3) (.int .i64 R)).h3, (spec_l18Act.fin0 HZ.out (Kd.R_lower H2.out HS2.out.hb.size) (Kd.R_lower H3.out HS2.out.hb.size) (below_then HS2.out.hb HS2.out.hb.size HB1.out) (.int .i64 A) (.int .i64 B) (.slice Ap2 la.length cp2) (.slice Ap3 lb.length cp3) (.int .i64 R)).hb⟩
set_option maxHeartbeats 4000000 in
set_option maxRecDepth 100000 in
theorem spec_l18Act.l18_s0b (A B R x nx code R' : Int) (A2 A3 : Option Addr) (c2 c3 : Nat) (la lb : List Int) (w : World) (hr2 : Kd.C (Kd.int .i64) w A2 la.length la) (hc2 : la.length ≤ c2) (hr3 : Kd.C (Kd.int .i64) w A3 lb.length lb) (hc3 : lb.length ≤ c3) (hf : spec_l18Own.f A B la lb R = some (A, B, la, lb, R)) (k : Nat) (sent lq : List Int) (hi : spec_l01In.f 0 0 1 = some true) (hi2 : spec_l01In.f 5 1 5 = some true) (hq : la = x :: lq) (hlq : lq.length ≤ 1000000) (hst : spec_l18Step.f k A 5 x = some (nx, sent, code)) (hrs : spec_l18Act.resets sent R = R') (hR0 : 0 ≤ R) (hR1 : R ≤ 1000) (hln : lb.length + sent.length ≤ 1000000) (ho1 : (lq.length) ≤ 200) (ho2 : 200 < ((lb ++ sent).length)) : Calls Try.prog 41 #[.agg #[.int .i64 A, .int .i64 B, .slice A2 la.length c2, .slice A3 lb.length c3, .int .i64 R], .agg #[.int .i64 0, .int .i64 5]] w (spec_l18Act.L18Post w A B la lb R 7) := by
 have HI := Aside0.mk hi
 have HI2 := Aside0.mk hi2
 have HST := Aside0.mk hst
 have HRS := Aside0.mk hrs
 have HLN := Aside0.mk hln
 have HO1 := Aside0.mk ho1
 have HO2 := Aside0.mk ho2
 have HQ0 := Aside0.mk hq
 have HLQ1 := Aside0.mk hlq
 clear hi hi2 hst hrs hln ho1 ho2 hq hlq
 have hu37 := Try.underlying37
 have hu34 := Try.underlying34
 have hu30 := Try.underlying30
 have HR2 := Aside0.mk hr2
 have HR3 := Aside0.mk hr3
 have HC2 := Aside0.mk hc2
 have HC3 := Aside0.mk hc3
 have HF := Aside0.mk hf
 clear hr2 hr3 hc2 hc3 hf
 go_enter Try.func41, Try.ntmps41
 go_upto_region 2 with (go_at_call 42; (with_reducible refine (spec_l18Own.calls A B A2 c2 la A3 c3 lb R A B la lb R _ (Kd.C_below HR2.out ?hq2) HC2.out (Kd.C_below HR3.out ?hq3) HC3.out ?hf).mono ?_); (case hq2 => repeat (first | exact Below.refl _ _ | apply below_alloc)); (case hq3 => repeat (first | exact Below.refl _ _ | apply below_alloc)); (case hf => exact HF.out); rintro e w1 ⟨v2, v3, rfl, h2, h3, hbel⟩; obtain ⟨Ao2, co2, e2⟩ := Kd.R_slice h2; subst e2; obtain ⟨Ao3, co3, e3⟩ := Kd.R_slice h3; subst e3; have HB1 := Aside0.mk hbel; have H2 := Aside0.mk h2; have H3 := Aside0.mk h3; clear hbel h2 h3)
 refine spec_l18Act.wp_gen8 (fun W => spec_l18Act.LA w W w1.heap.size A B R 0 5 A2 A3 c2 c3 la lb A B R (.slice Ao2 la.length co2) (.slice Ao3 lb.length co3) la lb) ⟨?_, ?_, ?_, ?_, ?_, ?_, ?_, ?_⟩ ?_
 case refine_1 => exact blk_alloc (blk_below (blk_alloc (blk_alloc (blk_new _ _) _) _) HB1.out) _
 case refine_2 => exact blk_alloc (blk_below (blk_alloc (spec_l18Act.blk_new_at8 _ _ _ (by simp)) _) HB1.out) _
 case refine_3 => exact blk_alloc (blk_below (spec_l18Act.blk_new_at8 _ _ _ (by simp)) HB1.out) _
 case refine_4 => exact blk_new _ _
 case refine_5 => have := HB1.out.size; simp at this; omega
 case refine_6 => exact Kd.R_alloc (Kd.R_lower H2.out (by simp; omega)) _
 case refine_7 => exact Kd.R_alloc (Kd.R_lower H3.out (by simp; omega)) _
 case refine_8 => exact below_alloc (below_then (by repeat (first | exact Below.refl _ _ | apply below_alloc)) (by simp; omega) HB1.out) _
 generalize w1.heap.size = g
 clear H2 H3 HB1
 rintro W hS
 have HS := Aside0.mk hS
 have kw0 := blk_cell hS.hw 0; have kw1 := blk_cell hS.hw 1; have kw2 := blk_cell hS.hw 2; have kw3 := blk_cell hS.hw 3; have kw4 := blk_cell hS.hw 4; have ka0 := blk_cell hS.ha 0; have ka1 := blk_cell hS.ha 1; have kp0 := blk_cell hS.hp 0; have fp0 := blk_frozen hS.hp 0; have kp1 := blk_cell hS.hp 1; have fp1 := blk_frozen hS.hp 1; have kp2 := blk_cell hS.hp 2; have fp2 := blk_frozen hS.hp 2; have kp3 := blk_cell hS.hp 3; have fp3 := blk_frozen hS.hp 3; have kp4 := blk_cell hS.hp 4; have fp4 := blk_frozen hS.hp 4; have kr0 := blk_cell hS.hr 0; have fr0 := blk_frozen hS.hr 0; have kr1 := blk_cell hS.hr 1; have fr1 := blk_frozen hS.hr 1; have kr2 := blk_cell hS.hr 2; have fr2 := blk_frozen hS.hr 2; have kr3 := blk_cell hS.hr 3; have fr3 := blk_frozen hS.hr 3; have kr4 := blk_cell hS.hr 4; have fr4 := blk_frozen hS.hr 4; have hg := hS.hg; have hlt := blk_lt hS.hp; have lt0 := blk_lt hS.hw; have lt1 := blk_lt hS.ha; have lt2 := blk_lt hS.hr
 clear hS
 have hpos : 0 < la.length := by rw [HQ0.out]; simp
 obtain ⟨gq, cq0, e2, _, hgq, _⟩ := Kd.R_form HS.out.h2 hpos
 simp only [Value.slice.injEq, true_and] at e2
 obtain ⟨rfl, rfl⟩ := e2
 have hT : Kd.C (Kd.int .i64) W (if co2 = 1 then some ⟨gq, 0, none⟩ else some ⟨gq, 1, none⟩) (la.length - 1) lq := by
  have h := (Kd.Q_reads' (Kd.Q_drop (Kd.Q_of_R HS.out.h2) (k := 1) (show 1 ≤ la.length from hpos))).2.2
  rw [HQ0.out] at h ⊢
  simpa [Addr.add, Kd.int, Kd.scalar] using h
 have kq : W.cell? ⟨gq, 0, none⟩ = some (.int .i64 x) := by
  have h := (Kd.R_celln (0 : Int) HS.out.h2 0 (by decide) (by exact_mod_cast hpos)).1
  rw [HQ0.out] at h
  simpa [rdOf] using h
 have HLQ := Aside0.mk (show la.length - 1 ≤ 1000000 from by have h2 := HLQ1.out; rw [HQ0.out]; simpa using h2)
 have hl0 : ((la.length : Int) == 0) = false := by rw [beq_eq_false_iff_ne]; omega
 have hl1 : (1 : Int) ≤ (la.length : Int) := by omega
 by_cases hc1 : co2 = 1
 all_goals
  first | rw [if_pos hc1] at hT | rw [if_neg hc1] at hT
  have HT := Aside0.mk hT
  clear hT
  try subst hc1
  go_wp2_with (first | (go_at_call 35; ((with_reducible refine (spec_l18Act.l01In_q 0 0 1 true _ HI.out).mono ?_); rintro e w' ⟨rfl, rfl⟩)) | (go_at_call 35; ((with_reducible refine (spec_l18Act.l01In_q 5 1 5 true _ HI2.out).mono ?_); rintro e w' ⟨rfl, rfl⟩)) | ((with_reducible refine gate_dst (N := 52) rfl ?_); refine Kd.R_lit (Kd.int .i64) _ 3 ?hg (N := 52) ?hd (xs := ([] : List Int)) (inner := []) (ok := fun _ => True) (okp := fun _ => True) ?hr ?hp (fun _ hk => hk) trivial (Below.refl _ _) (Nat.le_refl _) (by simp) ?_; (case hd => rfl); (case hg => rfl); (case hr => first | (go_simp; done) | (go_simp; rfl)); (case hp => exact (Reps.none _ _)); intro v52 w6 ho7 hb hg_ hnew_; clear hg_ hnew_; have hX : Below W.heap.size W w6 := below_then (by with_reducible (repeat (first | exact Below.refl _ _ | apply below_alloc | apply pw_below_drewN | apply below_drew1 | refine below_set ?_ (Nat.le_refl _)))) (by simp <;> omega) hb; have HX := Aside0.mk hX; have H52 := Aside0.mk (Kd.R_lower ho7 (by simp <;> omega) : Kd.R (Kd.int .i64) 3 w6 W.heap.size _ _ _); have hE : w6.heap[W.heap.size]? = some (.cells #[.int .i64 5, .int .i64 x] 30 (0, 0)) := blk_below (by first | exact blk_new _ _ | (refine blk_put (cs := #[.int .i64 5, .int .i64 0]) ?_ 1 _ rfl; exact blk_new _ _)) hb; have HE := Aside0.mk hE; clear hE hX ho7 hb) | (at_builtin; refine Kd.R_append_rows (Kd.int .i64) (w0 := W) W.heap.size rfl (.tmp 52) (.tmp 54) 26 3 (.int .i64 0) 8 rfl Try.underlying26 info3 rfl (by decide) (by decide) v52 [] lq _ _ _ (fun _ => True) (fun _ => False) rfl rfl H52.out (Kd.C_below HT.out HX.out) (fun _ _ h => h) (fun _ h => h.elim) (fun _ _ => trivial) HX.out HX.out.size (by have := HLQ.out; simp only [List.length_nil]; omega) ?_; intro v8 w8 ho8 hb8 hg8 hat8; rw [List.nil_append] at ho8; obtain ⟨Aq, cq, e8⟩ := Kd.R_slice ho8; subst e8; have HQ8 := Aside0.mk ho8; have HX2 := Aside0.mk hb8; clear HX; have HX := HX2; clear HX2; have hE := blk_grown HE.out hg8 (Kd.R_ne H52.out HE.out (by decide)); have ke0 := blk_cell hE 0; have ke1 := blk_cell hE 1; clear hE HE H52 ho8 hb8 hg8 hat8) | (go_at_call 39; ((with_reducible refine (spec_l18Step.calls k _ _ _ nx sent code _ HST.out).mono ?_); rintro e w2 ⟨v5, rfl, h5, hbel⟩; obtain ⟨Ao5, co5, e5⟩ := Kd.R_slice h5; subst e5; have hB2 : Below W.heap.size W w2 := below_then HX.out (HX.out.size) hbel; have HS2 := Aside0.mk (HS.out.below hB2); have HQ := Aside0.mk (Kd.R_mono (Kd.R_lower (Kd.R_below (Kd.R_new' HQ8.out (Kd.R_lt HS.out.h3)) hbel) HS.out.hb.size) (fun _ hk => hk.2) : Kd.R (Kd.int .i64) 3 w2 w.heap.size (fun k => some k ≠ ((.slice Ao3 lb.length co3) : Value).ownBlock) _ lq); have HO := Aside0.mk (Kd.R_mono (Kd.R_elder' HS.out.h3 (fun k hk => Kd.R_base HQ8.out k hk) hB2) (fun _ hk => hk.2) : Kd.R (Kd.int .i64) 3 w2 w.heap.size (fun k => some k ≠ (Value.slice Aq lq.length cq).ownBlock) _ lb); have H5 := Aside0.mk (Kd.R_lower h5 (by have := HS.out.hb.size; have := HX.out.size; omega) : Kd.R (Kd.int .i64) 3 w2 w.heap.size _ _ sent); clear h5 hbel hB2 kq; clear kw0 kw1 kw2 kw3 kw4 ka0 ka1 kp0 fp0 kr0 fr0 kp1 fp1 kr1 fr1 kp2 fp2 kr2 fr2 kp3 fp3 kr3 fr3 kp4 fp4 kr4 fr4 hlt lt0 lt1 lt2; have kw0 := blk_cell HS2.out.hw 0; have kw1 := blk_cell HS2.out.hw 1; have kw2 := blk_cell HS2.out.hw 2; have kw3 := blk_cell HS2.out.hw 3; have kw4 := blk_cell HS2.out.hw 4; have ka0 := blk_cell HS2.out.ha 0; have ka1 := blk_cell HS2.out.ha 1; have kp0 := blk_cell HS2.out.hp 0; have fp0 := blk_frozen HS2.out.hp 0; have kp1 := blk_cell HS2.out.hp 1; have fp1 := blk_frozen HS2.out.hp 1; have kp2 := blk_cell HS2.out.hp 2; have fp2 := blk_frozen HS2.out.hp 2; have kp3 := blk_cell HS2.out.hp 3; have fp3 := blk_frozen HS2.out.hp 3; have kp4 := blk_cell HS2.out.hp 4; have fp4 := blk_frozen HS2.out.hp 4; have kr0 := blk_cell HS2.out.hr 0; have fr0 := blk_frozen HS2.out.hr 0; have kr1 := blk_cell HS2.out.hr 1; have fr1 := blk_frozen HS2.out.hr 1; have kr2 := blk_cell HS2.out.hr 2; have fr2 := blk_frozen HS2.out.hr 2; have kr3 := blk_cell HS2.out.hr 3; have fr3 := blk_frozen HS2.out.hr 3; have kr4 := blk_cell HS2.out.hr 4; have fr4 := blk_frozen HS2.out.hr 4; have hlt := blk_lt HS2.out.hp; have lt0 := blk_lt HS2.out.hw; have lt1 := blk_lt HS2.out.ha; have lt2 := blk_lt HS2.out.hr)))
  go_loopg [13] sent.length (fun gk v13 w' => ∃ (j : Nat) (p4 : Int) (vo : Value), j ≤ sent.length ∧ gk = sent.length - j ∧ v13 = .int .i64 j ∧ 0 ≤ p4 ∧ p4 ≤ 1000 ∧ Aside0 (spec_l18Act.resets (sent.drop j) p4 = R') ∧ Aside0 (spec_l18Act.LA w w' g A B R 0 5 A2 A3 c2 c3 la lb A B p4 vo (.slice Ao3 lb.length co3) la lb) ∧ Aside0 (Kd.R (Kd.int .i64) 3 w' w.heap.size (fun _ => True) (.slice Ao5 sent.length co5) sent) ∧ Aside0 (Kd.R (Kd.int .i64) 3 w' w.heap.size (fun k => some k ≠ ((.slice Ao3 lb.length co3) : Value).ownBlock) (.slice Aq lq.length cq) lq) ∧ Aside0 (Kd.R (Kd.int .i64) 3 w' w.heap.size (fun k => some k ≠ (Value.slice Aq lq.length cq).ownBlock) (.slice Ao3 lb.length co3) lb))
  case atStart => exact ⟨0, R, _, by omega, by omega, rfl, hR0, hR1, ⟨by rw [List.drop_zero]; exact HRS.out⟩, HS2, H5, HQ, HO⟩
  case round =>
   clear HS HS2 H5 HQ HO
   obtain ⟨j, p4, vo, hj, hgk, rfl, hp0, hp1, HRj, HS2, H5, HQ, HO⟩ := hrel
   have HGK := Aside0.mk hgk
   clear hgk
   have kw0 := blk_cell HS2.out.hw 0; have kw1 := blk_cell HS2.out.hw 1; have kw2 := blk_cell HS2.out.hw 2; have kw3 := blk_cell HS2.out.hw 3; have kw4 := blk_cell HS2.out.hw 4; have ka0 := blk_cell HS2.out.ha 0; have ka1 := blk_cell HS2.out.ha 1; have kp0 := blk_cell HS2.out.hp 0; have fp0 := blk_frozen HS2.out.hp 0; have kp1 := blk_cell HS2.out.hp 1; have fp1 := blk_frozen HS2.out.hp 1; have kp2 := blk_cell HS2.out.hp 2; have fp2 := blk_frozen HS2.out.hp 2; have kp3 := blk_cell HS2.out.hp 3; have fp3 := blk_frozen HS2.out.hp 3; have kp4 := blk_cell HS2.out.hp 4; have fp4 := blk_frozen HS2.out.hp 4; have kr0 := blk_cell HS2.out.hr 0; have fr0 := blk_frozen HS2.out.hr 0; have kr1 := blk_cell HS2.out.hr 1; have fr1 := blk_frozen HS2.out.hr 1; have kr2 := blk_cell HS2.out.hr 2; have fr2 := blk_frozen HS2.out.hr 2; have kr3 := blk_cell HS2.out.hr 3; have fr3 := blk_frozen HS2.out.hr 3; have kr4 := blk_cell HS2.out.hr 4; have fr4 := blk_frozen HS2.out.hr 4; have hlt := blk_lt HS2.out.hp; have lt0 := blk_lt HS2.out.hw; have lt1 := blk_lt HS2.out.ha; have lt2 := blk_lt HS2.out.hr; have lt5 : ∀ k, (Value.slice Ao5 sent.length co5).ownBlock = some k → k < wr.heap.size := Kd.R_lt H5.out; have HLT5 := Aside0.mk lt5; clear lt5
   by_cases hlt_ : j < sent.length
   ·have hlt2 : (j : Int) < (sent.length : Int) := by omega
    have HLJ := Aside0.mk hlt_
    have hsl : sent.length ≤ 1000000 := by have := HLN.out; omega
    obtain ⟨ad, e5, hx⟩ := Kd.at_int (Kd.R_reads' H5.out).2.2 (j : Int) (by omega) hlt2
    cases e5
    have hrd : rd sent (j : Int) = sent[j] := by simp [rd, List.getD_eq_getElem?_getD, List.getElem?_eq_getElem hlt_]
    rw [hrd, Int.toNat_natCast] at hx
    have hR' := HRj.out
    rw [List.drop_eq_getElem_cons hlt_, spec_l18Act.resets] at hR'
    clear HRj hrd
    by_cases h8 : sent[j] = 8
    ·have h8b : (sent[j] == 8) = true := by simpa using h8
     rw [if_pos h8] at hR'
     have HRj := Aside0.mk hR'
     generalize sent[j] = sj at *
     clear h8 hR'
     obtain ⟨p5, hp5⟩ : ∃ p5 : Int, (if p4 + 1 < 1000 then p4 + 1 else 1000) = p5 := ⟨_, rfl⟩
     rw [hp5] at HRj
     have b5 : 0 ≤ p5 ∧ p5 ≤ 1000 := by rw [← hp5]; split <;> omega
     go_wp2
     go_roundg (sent.length - (j + 1))
     case rel => exact ⟨j + 1, p5, _, by have := HLJ.out; omega, rfl, by go_num, b5.1, b5.2, HRj, ⟨HS2.out.set4 p5⟩, ⟨Kd.R_set H5.out HS2.out.hp (by decide) _ _⟩, ⟨Kd.R_set HQ.out HS2.out.hp (by decide) _ _⟩, ⟨Kd.R_set HO.out HS2.out.hp (by decide) _ _⟩⟩
     case measure => have := HGK.out; have := HLJ.out; omega
    ·have h8b : (sent[j] == 8) = false := by simpa using h8
     rw [if_neg h8] at hR'
     have HRj := Aside0.mk hR'
     generalize sent[j] = sj at *
     clear h8 hR'
     go_wp2
     go_roundg (sent.length - (j + 1))
     case rel => exact ⟨j + 1, p4, _, by have := HLJ.out; omega, rfl, by go_num, hp0, hp1, HRj, HS2, H5, HQ, HO⟩
     case measure => have := HGK.out; have := HLJ.out; omega
   ·obtain rfl : j = sent.length := by omega
    have hR' := HRj.out
    rw [List.drop_length, spec_l18Act.resets] at hR'
    subst hR'
    clear HRj HGK hj hlt_
    go_upto_region 24 with (fail)
    refine spec_l18Act.wp_gen8 (fun W' => (spec_l18Act.LA w W' g A B R 0 5 A2 A3 c2 c3 la lb nx B p4 (.slice Aq lq.length cq) (.slice Ao3 lb.length co3) lq lb) ∧ Kd.R (Kd.int .i64) 3 W' w.heap.size (fun _ => True) (.slice Ao5 sent.length co5) sent) ⟨?_, ?_⟩ ?_
    case refine_1 => exact (HS2.out.set0 nx).set2 (Kd.R_set HQ.out HS2.out.hp (by decide) _ _) (Kd.R_set HO.out HS2.out.hp (by decide) _ _)
    case refine_2 => exact Kd.R_set (Kd.R_set H5.out HS2.out.hp (by decide) _ _) (HS2.out.set0 nx).hp (by decide) _ _
    rintro Wa ⟨hSa, h5a⟩
    clear kw0 kw1 kw2 kw3 kw4 ka0 ka1 kp0 fp0 kr0 fr0 kp1 fp1 kr1 fr1 kp2 fp2 kr2 fr2 kp3 fp3 kr3 fr3 kp4 fp4 kr4 fr4 hlt lt0 lt1 lt2
    clear HS2 H5 HQ HO HLT5
    have HS2 := Aside0.mk hSa
    have H5 := Aside0.mk h5a
    clear hSa h5a
    have kw0 := blk_cell HS2.out.hw 0; have kw1 := blk_cell HS2.out.hw 1; have kw2 := blk_cell HS2.out.hw 2; have kw3 := blk_cell HS2.out.hw 3; have kw4 := blk_cell HS2.out.hw 4; have ka0 := blk_cell HS2.out.ha 0; have ka1 := blk_cell HS2.out.ha 1; have kp0 := blk_cell HS2.out.hp 0; have fp0 := blk_frozen HS2.out.hp 0; have kp1 := blk_cell HS2.out.hp 1; have fp1 := blk_frozen HS2.out.hp 1; have kp2 := blk_cell HS2.out.hp 2; have fp2 := blk_frozen HS2.out.hp 2; have kp3 := blk_cell HS2.out.hp 3; have fp3 := blk_frozen HS2.out.hp 3; have kp4 := blk_cell HS2.out.hp 4; have fp4 := blk_frozen HS2.out.hp 4; have kr0 := blk_cell HS2.out.hr 0; have fr0 := blk_frozen HS2.out.hr 0; have kr1 := blk_cell HS2.out.hr 1; have fr1 := blk_frozen HS2.out.hr 1; have kr2 := blk_cell HS2.out.hr 2; have fr2 := blk_frozen HS2.out.hr 2; have kr3 := blk_cell HS2.out.hr 3; have fr3 := blk_frozen HS2.out.hr 3; have kr4 := blk_cell HS2.out.hr 4; have fr4 := blk_frozen HS2.out.hr 4; have hlt := blk_lt HS2.out.hp; have lt0 := blk_lt HS2.out.hw; have lt1 := blk_lt HS2.out.ha; have lt2 := blk_lt HS2.out.hr
    go_upto_region 28 with (at_builtin; refine Kd.R_append_rows (Kd.int .i64) (w0 := w) w.heap.size rfl (.tmp 87) (.tmp 88) 26 3 (.int .i64 0) 8 rfl Try.underlying26 info3 rfl (by decide) (by decide) (.slice Ao3 lb.length co3) lb sent _ _ _ (fun k_ => some k_ ≠ ((.slice Aq lq.length cq) : Value).ownBlock) (fun _ => False) rfl rfl HS2.out.h3 (Kd.R_reads' H5.out).2.2 (fun _ _ h => h) (fun _ h => h.elim) (fun k hk he => by have := Kd.R_lt HS2.out.h2 k he.symm; omega) HS2.out.hb HS2.out.hb.size (by have := HLN.out; omega) ?_; intro v9 w9 ho9 hb9 hg9 hat9; obtain ⟨Ao9, co9, e9⟩ := Kd.R_slice ho9; rw [List.length_append] at e9; subst e9; have HA := Aside0.mk (HS2.out.app3 ho9 hb9 hg9 hat9); have g2 := blk_grown HS2.out.hp hg9 (Kd.R_ne HS2.out.h3 HS2.out.hp (by decide)); have kg := blk_cell g2 3; have fg := blk_frozen g2 3; clear g2 ho9 hb9 hg9 hat9)
    refine spec_l18Act.wp_gen8 (fun W' => spec_l18Act.LA w W' g A B R 0 5 A2 A3 c2 c3 la lb nx B p4 (.slice Aq lq.length cq) (.slice Ao9 (lb.length + sent.length) co9) lq (lb ++ sent)) HA.out ?_
    rintro Wb hSb
    clear kw0 kw1 kw2 kw3 kw4 ka0 ka1 kp0 fp0 kr0 fr0 kp1 fp1 kr1 fr1 kp2 fp2 kr2 fr2 kp3 fp3 kr3 fr3 kp4 fp4 kr4 fr4 hlt lt0 lt1 lt2
    clear HS2 H5 HA kg fg
    have hln2 : (lb ++ sent).length = lb.length + sent.length := List.length_append
    have HLN2 := Aside0.mk hln2
    clear hln2
    generalize hnn : lb.length + sent.length = nn at *
    have HMM := Aside0.mk hnn
    clear hnn
    have HS2 := Aside0.mk hSb
    clear hSb
    have kw0 := blk_cell HS2.out.hw 0; have kw1 := blk_cell HS2.out.hw 1; have kw2 := blk_cell HS2.out.hw 2; have kw3 := blk_cell HS2.out.hw 3; have kw4 := blk_cell HS2.out.hw 4; have ka0 := blk_cell HS2.out.ha 0; have ka1 := blk_cell HS2.out.ha 1; have kp0 := blk_cell HS2.out.hp 0; have fp0 := blk_frozen HS2.out.hp 0; have kp1 := blk_cell HS2.out.hp 1; have fp1 := blk_frozen HS2.out.hp 1; have kp2 := blk_cell HS2.out.hp 2; have fp2 := blk_frozen HS2.out.hp 2; have kp3 := blk_cell HS2.out.hp 3; have fp3 := blk_frozen HS2.out.hp 3; have kp4 := blk_cell HS2.out.hp 4; have fp4 := blk_frozen HS2.out.hp 4; have kr0 := blk_cell HS2.out.hr 0; have fr0 := blk_frozen HS2.out.hr 0; have kr1 := blk_cell HS2.out.hr 1; have fr1 := blk_frozen HS2.out.hr 1; have kr2 := blk_cell HS2.out.hr 2; have fr2 := blk_frozen HS2.out.hr 2; have kr3 := blk_cell HS2.out.hr 3; have fr3 := blk_frozen HS2.out.hr 3; have kr4 := blk_cell HS2.out.hr 4; have fr4 := blk_frozen HS2.out.hr 4; have hlt := blk_lt HS2.out.hp; have lt0 := blk_lt HS2.out.hw; have lt1 := blk_lt HS2.out.ha; have lt2 := blk_lt HS2.out.hr
    have o1 : decide ((200 : Int) < (lq.length : Int)) = false := decide_eq_false (by have := HO1.out; have := HLN2.out; omega)
    have o2 : decide ((200 : Int) < (nn : Int)) = true := decide_eq_true (by have := HO2.out; have := HLN2.out; omega)
    have o3 : decide (200 < lq.length) = false := decide_eq_false (by have := HO1.out; have := HLN2.out; omega)
    have o4 : decide (200 < nn) = true := decide_eq_true (by have := HO2.out; have := HLN2.out; omega)
    go_wp2_with (go_at_call 42; (with_reducible refine (spec_l18Own.calls A B A2 c2 la A3 c3 lb R A B la lb R _ (Kd.C_below HR2.out ?hq2) HC2.out (Kd.C_below HR3.out ?hq3) HC3.out ?hf).mono ?_); (case hq2 => exact HS2.out.hb); (case hq3 => exact HS2.out.hb); (case hf => exact HF.out); rintro e w1 ⟨v2, v3, rfl, h2, h3, hbel⟩; obtain ⟨Ap2, cp2, e2⟩ := Kd.R_slice h2; subst e2; obtain ⟨Ap3, cp3, e3⟩ := Kd.R_slice h3; subst e3; have HB1 := Aside0.mk hbel; have H2 := Aside0.mk h2; have H3 := Aside0.mk h3; have hrz := blk_below HS2.out.hr hbel; have kr0_ := blk_cell hrz 0; have fr0_ := blk_frozen hrz 0; have kr1_ := blk_cell hrz 1; have fr1_ := blk_frozen hrz 1; have kr2_ := blk_cell hrz 2; have fr2_ := blk_frozen hrz 2; have kr3_ := blk_cell hrz 3; have fr3_ := blk_frozen hrz 3; have kr4_ := blk_cell hrz 4; have fr4_ := blk_frozen hrz 4; have HZ := Aside0.mk hrz; clear hrz; clear hbel h2 h3)
    exact bodyPost_ret (results_ct rfl _ _ (w.heap.size + 2) 37 #[.int .i64 A, .int .i64 B, .slice Ap2 la.length cp2, .slice Ap3 lb.length cp3, .int .i64 R] (0, 0) _ rfl (spec_l18Act.fin0 HZ.out (Kd.R_lower H2.out HS2.out.hb.size) (Kd.R_lower H3.out HS2.out.hb.size) (below_then HS2.out.hb HS2.out.hb.size HB1.out) (.int .i64 A) (.int .i64 B) (.slice Ap2 la.length cp2) (.slice Ap3 lb.length cp3) (.int .i64 R)).hr Try.underlying37 rfl (by kernel_rfl)) rfl ⟨_, _, rfl, (spec_l18Act.fin0 HZ.out (Kd.R_lower H2.out HS2.out.hb.size) (Kd.R_lower H3.out HS2.out.hb.size) (below_then HS2.out.hb HS2.out.hb.size HB1.out) (.int .i64 A) (.int .i64 B) (.slice Ap2 la.length cp2) (.slice Ap3 lb.length cp3) (.int .i64 R)).h2, (spec_l18Act.fin0 HZ.out (Kd.R_lower H2.out HS2.out.hb.size) (Kd.R_lower H3.out HS2.out.hb.size) (below_then HS2.out.hb HS2.out.hb.size HB1.out) (.int .i64 A) (.int .i64 B) (.slice Ap2 la.length cp2) (.slice Ap3 lb.length cp3) (.int .i64 R)).h3, (spec_l18Act.fin0 HZ.out (Kd.R_lower H2.out HS2.out.hb.size) (Kd.R_lower H3.out HS2.out.hb.size) (below_then HS2.out.hb HS2.out.hb.size HB1.out) (.int .i64 A) (.int .i64 B) (.slice Ap2 la.length cp2) (.slice Ap3 lb.length cp3) (.int .i64 R)).hb⟩
set_option maxHeartbeats 4000000 in
set_option maxRecDepth 100000 in
theorem spec_l18Act.l18_u1n (A B R kind nx code R' : Int) (A2 A3 : Option Addr) (c2 c3 : Nat) (la lb : List Int) (w : World) (hr2 : Kd.C (Kd.int .i64) w A2 la.length la) (hc2 : la.length ≤ c2) (hr3 : Kd.C (Kd.int .i64) w A3 lb.length lb) (hc3 : lb.length ≤ c3) (hf : spec_l18Own.f A B la lb R = some (A, B, la, lb, R)) (k : Nat) (sent : List Int) (hi : spec_l01In.f 1 0 1 = some true) (hi2 : spec_l01In.f kind 1 5 = some true) (hk5 : (kind == 5) = false) (hst : spec_l18Step.f k B kind 0 = some (nx, sent, code)) (hrs : spec_l18Act.resets sent R = R') (hR0 : 0 ≤ R) (hR1 : R ≤ 1000) (hln : la.length + sent.length ≤ 1000000) (ho1 : ((la ++ sent).length) ≤ 200) (ho2 : (lb.length) ≤ 200) : Calls Try.prog 41 #[.agg #[.int .i64 A, .int .i64 B, .slice A2 la.length c2, .slice A3 lb.length c3, .int .i64 R], .agg #[.int .i64 1, .int .i64 kind]] w (spec_l18Act.L18Post w A nx (la ++ sent) lb R' code) := by
 have HI := Aside0.mk hi
 have HI2 := Aside0.mk hi2
 have HST := Aside0.mk hst
 have HRS := Aside0.mk hrs
 have HLN := Aside0.mk hln
 have HO1 := Aside0.mk ho1
 have HO2 := Aside0.mk ho2
 clear hi hi2 hst hrs hln ho1 ho2
 have hu37 := Try.underlying37
 have hu34 := Try.underlying34
 have hu30 := Try.underlying30
 have HR2 := Aside0.mk hr2
 have HR3 := Aside0.mk hr3
 have HC2 := Aside0.mk hc2
 have HC3 := Aside0.mk hc3
 have HF := Aside0.mk hf
 clear hr2 hr3 hc2 hc3 hf
 go_enter Try.func41, Try.ntmps41
 go_upto_region 2 with (go_at_call 42; (with_reducible refine (spec_l18Own.calls A B A2 c2 la A3 c3 lb R A B la lb R _ (Kd.C_below HR2.out ?hq2) HC2.out (Kd.C_below HR3.out ?hq3) HC3.out ?hf).mono ?_); (case hq2 => repeat (first | exact Below.refl _ _ | apply below_alloc)); (case hq3 => repeat (first | exact Below.refl _ _ | apply below_alloc)); (case hf => exact HF.out); rintro e w1 ⟨v2, v3, rfl, h2, h3, hbel⟩; obtain ⟨Ao2, co2, e2⟩ := Kd.R_slice h2; subst e2; obtain ⟨Ao3, co3, e3⟩ := Kd.R_slice h3; subst e3; have HB1 := Aside0.mk hbel; have H2 := Aside0.mk h2; have H3 := Aside0.mk h3; clear hbel h2 h3)
 refine spec_l18Act.wp_gen8 (fun W => spec_l18Act.LA w W w1.heap.size A B R 1 kind A2 A3 c2 c3 la lb A B R (.slice Ao2 la.length co2) (.slice Ao3 lb.length co3) la lb) ⟨?_, ?_, ?_, ?_, ?_, ?_, ?_, ?_⟩ ?_
 case refine_1 => exact blk_alloc (blk_below (blk_alloc (blk_alloc (blk_new _ _) _) _) HB1.out) _
 case refine_2 => exact blk_alloc (blk_below (blk_alloc (spec_l18Act.blk_new_at8 _ _ _ (by simp)) _) HB1.out) _
 case refine_3 => exact blk_alloc (blk_below (spec_l18Act.blk_new_at8 _ _ _ (by simp)) HB1.out) _
 case refine_4 => exact blk_new _ _
 case refine_5 => have := HB1.out.size; simp at this; omega
 case refine_6 => exact Kd.R_alloc (Kd.R_lower H2.out (by simp; omega)) _
 case refine_7 => exact Kd.R_alloc (Kd.R_lower H3.out (by simp; omega)) _
 case refine_8 => exact below_alloc (below_then (by repeat (first | exact Below.refl _ _ | apply below_alloc)) (by simp; omega) HB1.out) _
 generalize w1.heap.size = g
 clear H2 H3 HB1
 rintro W hS
 have HS := Aside0.mk hS
 have kw0 := blk_cell hS.hw 0; have kw1 := blk_cell hS.hw 1; have kw2 := blk_cell hS.hw 2; have kw3 := blk_cell hS.hw 3; have kw4 := blk_cell hS.hw 4; have ka0 := blk_cell hS.ha 0; have ka1 := blk_cell hS.ha 1; have kp0 := blk_cell hS.hp 0; have fp0 := blk_frozen hS.hp 0; have kp1 := blk_cell hS.hp 1; have fp1 := blk_frozen hS.hp 1; have kp2 := blk_cell hS.hp 2; have fp2 := blk_frozen hS.hp 2; have kp3 := blk_cell hS.hp 3; have fp3 := blk_frozen hS.hp 3; have kp4 := blk_cell hS.hp 4; have fp4 := blk_frozen hS.hp 4; have kr0 := blk_cell hS.hr 0; have fr0 := blk_frozen hS.hr 0; have kr1 := blk_cell hS.hr 1; have fr1 := blk_frozen hS.hr 1; have kr2 := blk_cell hS.hr 2; have fr2 := blk_frozen hS.hr 2; have kr3 := blk_cell hS.hr 3; have fr3 := blk_frozen hS.hr 3; have kr4 := blk_cell hS.hr 4; have fr4 := blk_frozen hS.hr 4; have hg := hS.hg; have hlt := blk_lt hS.hp; have lt0 := blk_lt hS.hw; have lt1 := blk_lt hS.ha; have lt2 := blk_lt hS.hr
 clear hS
 go_wp2_with (first | (go_at_call 35; ((with_reducible refine (spec_l18Act.l01In_q 1 0 1 true _ HI.out).mono ?_); rintro e w' ⟨rfl, rfl⟩)) | (go_at_call 35; ((with_reducible refine (spec_l18Act.l01In_q kind 1 5 true _ HI2.out).mono ?_); rintro e w' ⟨rfl, rfl⟩)) | (go_at_call 39; ((with_reducible refine (spec_l18Step.calls k _ _ _ nx sent code _ HST.out).mono ?_); rintro e w2 ⟨v5, rfl, h5, hbel⟩; obtain ⟨Ao5, co5, e5⟩ := Kd.R_slice h5; subst e5; have hB2 : Below W.heap.size W w2 := below_then (by with_reducible (repeat (first | exact Below.refl _ _ | apply below_alloc | apply pw_below_drewN | apply below_drew1 | refine below_set ?_ (Nat.le_refl _)))) (by simp <;> omega) hbel; have HS2 := Aside0.mk (HS.out.below hB2); have H5 := Aside0.mk (Kd.R_lower h5 (by have := HS.out.hb.size; simp <;> omega) : Kd.R (Kd.int .i64) 3 w2 w.heap.size _ _ sent); clear h5 hbel hB2; clear kw0 kw1 kw2 kw3 kw4 ka0 ka1 kp0 fp0 kr0 fr0 kp1 fp1 kr1 fr1 kp2 fp2 kr2 fr2 kp3 fp3 kr3 fr3 kp4 fp4 kr4 fr4 hlt lt0 lt1 lt2; have kw0 := blk_cell HS2.out.hw 0; have kw1 := blk_cell HS2.out.hw 1; have kw2 := blk_cell HS2.out.hw 2; have kw3 := blk_cell HS2.out.hw 3; have kw4 := blk_cell HS2.out.hw 4; have ka0 := blk_cell HS2.out.ha 0; have ka1 := blk_cell HS2.out.ha 1; have kp0 := blk_cell HS2.out.hp 0; have fp0 := blk_frozen HS2.out.hp 0; have kp1 := blk_cell HS2.out.hp 1; have fp1 := blk_frozen HS2.out.hp 1; have kp2 := blk_cell HS2.out.hp 2; have fp2 := blk_frozen HS2.out.hp 2; have kp3 := blk_cell HS2.out.hp 3; have fp3 := blk_frozen HS2.out.hp 3; have kp4 := blk_cell HS2.out.hp 4; have fp4 := blk_frozen HS2.out.hp 4; have kr0 := blk_cell HS2.out.hr 0; have fr0 := blk_frozen HS2.out.hr 0; have kr1 := blk_cell HS2.out.hr 1; have fr1 := blk_frozen HS2.out.hr 1; have kr2 := blk_cell HS2.out.hr 2; have fr2 := blk_frozen HS2.out.hr 2; have kr3 := blk_cell HS2.out.hr 3; have fr3 := blk_frozen HS2.out.hr 3; have kr4 := blk_cell HS2.out.hr 4; have fr4 := blk_frozen HS2.out.hr 4; have hlt := blk_lt HS2.out.hp; have lt0 := blk_lt HS2.out.hw; have lt1 := blk_lt HS2.out.ha; have lt2 := blk_lt HS2.out.hr)))
 go_loopg [13] sent.length (fun gk v13 w' => ∃ (j : Nat) (p4 : Int), j ≤ sent.length ∧ gk = sent.length - j ∧ v13 = .int .i64 j ∧ 0 ≤ p4 ∧ p4 ≤ 1000 ∧ Aside0 (spec_l18Act.resets (sent.drop j) p4 = R') ∧ Aside0 (spec_l18Act.LA w w' g A B R 1 kind A2 A3 c2 c3 la lb A B p4 (.slice Ao2 la.length co2) (.slice Ao3 lb.length co3) la lb) ∧ Aside0 (Kd.R (Kd.int .i64) 3 w' w.heap.size (fun _ => True) (.slice Ao5 sent.length co5) sent))
 case atStart => exact ⟨0, R, by omega, by omega, rfl, hR0, hR1, ⟨by rw [List.drop_zero]; exact HRS.out⟩, HS2, H5⟩
 case round =>
  clear HS HS2 H5 
  obtain ⟨j, p4, hj, hgk, rfl, hp0, hp1, HRj, HS2, H5⟩ := hrel
  have HGK := Aside0.mk hgk
  clear hgk
  have kw0 := blk_cell HS2.out.hw 0; have kw1 := blk_cell HS2.out.hw 1; have kw2 := blk_cell HS2.out.hw 2; have kw3 := blk_cell HS2.out.hw 3; have kw4 := blk_cell HS2.out.hw 4; have ka0 := blk_cell HS2.out.ha 0; have ka1 := blk_cell HS2.out.ha 1; have kp0 := blk_cell HS2.out.hp 0; have fp0 := blk_frozen HS2.out.hp 0; have kp1 := blk_cell HS2.out.hp 1; have fp1 := blk_frozen HS2.out.hp 1; have kp2 := blk_cell HS2.out.hp 2; have fp2 := blk_frozen HS2.out.hp 2; have kp3 := blk_cell HS2.out.hp 3; have fp3 := blk_frozen HS2.out.hp 3; have kp4 := blk_cell HS2.out.hp 4; have fp4 := blk_frozen HS2.out.hp 4; have kr0 := blk_cell HS2.out.hr 0; have fr0 := blk_frozen HS2.out.hr 0; have kr1 := blk_cell HS2.out.hr 1; have fr1 := blk_frozen HS2.out.hr 1; have kr2 := blk_cell HS2.out.hr 2; have fr2 := blk_frozen HS2.out.hr 2; have kr3 := blk_cell HS2.out.hr 3; have fr3 := blk_frozen HS2.out.hr 3; have kr4 := blk_cell HS2.out.hr 4; have fr4 := blk_frozen HS2.out.hr 4; have hlt := blk_lt HS2.out.hp; have lt0 := blk_lt HS2.out.hw; have lt1 := blk_lt HS2.out.ha; have lt2 := blk_lt HS2.out.hr; have lt5 : ∀ k, (Value.slice Ao5 sent.length co5).ownBlock = some k → k < wr.heap.size := Kd.R_lt H5.out; have HLT5 := Aside0.mk lt5; clear lt5
  by_cases hlt_ : j < sent.length
  ·have hlt2 : (j : Int) < (sent.length : Int) := by omega
   have HLJ := Aside0.mk hlt_
   have hsl : sent.length ≤ 1000000 := by have := HLN.out; omega
   obtain ⟨ad, e5, hx⟩ := Kd.at_int (Kd.R_reads' H5.out).2.2 (j : Int) (by omega) hlt2
   cases e5
   have hrd : rd sent (j : Int) = sent[j] := by simp [rd, List.getD_eq_getElem?_getD, List.getElem?_eq_getElem hlt_]
   rw [hrd, Int.toNat_natCast] at hx
   have hR' := HRj.out
   rw [List.drop_eq_getElem_cons hlt_, spec_l18Act.resets] at hR'
   clear HRj hrd
   by_cases h8 : sent[j] = 8
   ·have h8b : (sent[j] == 8) = true := by simpa using h8
    rw [if_pos h8] at hR'
    have HRj := Aside0.mk hR'
    generalize sent[j] = sj at *
    clear h8 hR'
    obtain ⟨p5, hp5⟩ : ∃ p5 : Int, (if p4 + 1 < 1000 then p4 + 1 else 1000) = p5 := ⟨_, rfl⟩
    rw [hp5] at HRj
    have b5 : 0 ≤ p5 ∧ p5 ≤ 1000 := by rw [← hp5]; split <;> omega
    go_wp2
    go_roundg (sent.length - (j + 1))
    case rel => exact ⟨j + 1, p5, by have := HLJ.out; omega, rfl, by go_num, b5.1, b5.2, HRj, ⟨HS2.out.set4 p5⟩, ⟨Kd.R_set H5.out HS2.out.hp (by decide) _ _⟩⟩
    case measure => have := HGK.out; have := HLJ.out; omega
   ·have h8b : (sent[j] == 8) = false := by simpa using h8
    rw [if_neg h8] at hR'
    have HRj := Aside0.mk hR'
    generalize sent[j] = sj at *
    clear h8 hR'
    go_wp2
    go_roundg (sent.length - (j + 1))
    case rel => exact ⟨j + 1, p4, by have := HLJ.out; omega, rfl, by go_num, hp0, hp1, HRj, HS2, H5⟩
    case measure => have := HGK.out; have := HLJ.out; omega
  ·obtain rfl : j = sent.length := by omega
   have hR' := HRj.out
   rw [List.drop_length, spec_l18Act.resets] at hR'
   subst hR'
   clear HRj HGK hj hlt_
   go_upto_region 27 with (fail)
   refine spec_l18Act.wp_gen8 (fun W' => (spec_l18Act.LA w W' g A B R 1 kind A2 A3 c2 c3 la lb A nx p4 (.slice Ao2 la.length co2) (.slice Ao3 lb.length co3) la lb) ∧ Kd.R (Kd.int .i64) 3 W' w.heap.size (fun _ => True) (.slice Ao5 sent.length co5) sent) ⟨?_, ?_⟩ ?_
   case refine_1 => exact (HS2.out.set1 nx).set3 (Kd.R_set HS2.out.h3 HS2.out.hp (by decide) _ _) (Kd.R_set HS2.out.h2 HS2.out.hp (by decide) _ _)
   case refine_2 => exact Kd.R_set (Kd.R_set H5.out HS2.out.hp (by decide) _ _) (HS2.out.set1 nx).hp (by decide) _ _
   rintro Wa ⟨hSa, h5a⟩
   clear kw0 kw1 kw2 kw3 kw4 ka0 ka1 kp0 fp0 kr0 fr0 kp1 fp1 kr1 fr1 kp2 fp2 kr2 fr2 kp3 fp3 kr3 fr3 kp4 fp4 kr4 fr4 hlt lt0 lt1 lt2
   clear HS2 H5 HLT5
   have HS2 := Aside0.mk hSa
   have H5 := Aside0.mk h5a
   clear hSa h5a
   have kw0 := blk_cell HS2.out.hw 0; have kw1 := blk_cell HS2.out.hw 1; have kw2 := blk_cell HS2.out.hw 2; have kw3 := blk_cell HS2.out.hw 3; have kw4 := blk_cell HS2.out.hw 4; have ka0 := blk_cell HS2.out.ha 0; have ka1 := blk_cell HS2.out.ha 1; have kp0 := blk_cell HS2.out.hp 0; have fp0 := blk_frozen HS2.out.hp 0; have kp1 := blk_cell HS2.out.hp 1; have fp1 := blk_frozen HS2.out.hp 1; have kp2 := blk_cell HS2.out.hp 2; have fp2 := blk_frozen HS2.out.hp 2; have kp3 := blk_cell HS2.out.hp 3; have fp3 := blk_frozen HS2.out.hp 3; have kp4 := blk_cell HS2.out.hp 4; have fp4 := blk_frozen HS2.out.hp 4; have kr0 := blk_cell HS2.out.hr 0; have fr0 := blk_frozen HS2.out.hr 0; have kr1 := blk_cell HS2.out.hr 1; have fr1 := blk_frozen HS2.out.hr 1; have kr2 := blk_cell HS2.out.hr 2; have fr2 := blk_frozen HS2.out.hr 2; have kr3 := blk_cell HS2.out.hr 3; have fr3 := blk_frozen HS2.out.hr 3; have kr4 := blk_cell HS2.out.hr 4; have fr4 := blk_frozen HS2.out.hr 4; have hlt := blk_lt HS2.out.hp; have lt0 := blk_lt HS2.out.hw; have lt1 := blk_lt HS2.out.ha; have lt2 := blk_lt HS2.out.hr
   go_upto_region 28 with (at_builtin; refine Kd.R_append_rows (Kd.int .i64) (w0 := w) w.heap.size rfl (.tmp 96) (.tmp 97) 26 3 (.int .i64 0) 8 rfl Try.underlying26 info3 rfl (by decide) (by decide) (.slice Ao2 la.length co2) la sent _ _ _ (fun k_ => some k_ ≠ ((.slice Ao3 lb.length co3) : Value).ownBlock) (fun _ => False) rfl rfl HS2.out.h2 (Kd.R_reads' H5.out).2.2 (fun _ _ h => h) (fun _ h => h.elim) (fun k hk he => by have := Kd.R_lt HS2.out.h3 k he.symm; omega) HS2.out.hb HS2.out.hb.size (by have := HLN.out; omega) ?_; intro v9 w9 ho9 hb9 hg9 hat9; obtain ⟨Ao9, co9, e9⟩ := Kd.R_slice ho9; rw [List.length_append] at e9; subst e9; have HA := Aside0.mk (HS2.out.app2 ho9 hb9 hg9 hat9); have g2 := blk_grown HS2.out.hp hg9 (Kd.R_ne HS2.out.h2 HS2.out.hp (by decide)); have kg := blk_cell g2 2; have fg := blk_frozen g2 2; clear g2 ho9 hb9 hg9 hat9)
   refine spec_l18Act.wp_gen8 (fun W' => spec_l18Act.LA w W' g A B R 1 kind A2 A3 c2 c3 la lb A nx p4 (.slice Ao9 (la.length + sent.length) co9) (.slice Ao3 lb.length co3) (la ++ sent) lb) HA.out ?_
   rintro Wb hSb
   clear kw0 kw1 kw2 kw3 kw4 ka0 ka1 kp0 fp0 kr0 fr0 kp1 fp1 kr1 fr1 kp2 fp2 kr2 fr2 kp3 fp3 kr3 fr3 kp4 fp4 kr4 fr4 hlt lt0 lt1 lt2
   clear HS2 H5 HA kg fg
   have hln2 : (la ++ sent).length = la.length + sent.length := List.length_append
   have HLN2 := Aside0.mk hln2
   clear hln2
   generalize hnn : la.length + sent.length = nn at *
   have HMM := Aside0.mk hnn
   clear hnn
   have HS2 := Aside0.mk hSb
   clear hSb
   have kw0 := blk_cell HS2.out.hw 0; have kw1 := blk_cell HS2.out.hw 1; have kw2 := blk_cell HS2.out.hw 2; have kw3 := blk_cell HS2.out.hw 3; have kw4 := blk_cell HS2.out.hw 4; have ka0 := blk_cell HS2.out.ha 0; have ka1 := blk_cell HS2.out.ha 1; have kp0 := blk_cell HS2.out.hp 0; have fp0 := blk_frozen HS2.out.hp 0; have kp1 := blk_cell HS2.out.hp 1; have fp1 := blk_frozen HS2.out.hp 1; have kp2 := blk_cell HS2.out.hp 2; have fp2 := blk_frozen HS2.out.hp 2; have kp3 := blk_cell HS2.out.hp 3; have fp3 := blk_frozen HS2.out.hp 3; have kp4 := blk_cell HS2.out.hp 4; have fp4 := blk_frozen HS2.out.hp 4; have kr0 := blk_cell HS2.out.hr 0; have fr0 := blk_frozen HS2.out.hr 0; have kr1 := blk_cell HS2.out.hr 1; have fr1 := blk_frozen HS2.out.hr 1; have kr2 := blk_cell HS2.out.hr 2; have fr2 := blk_frozen HS2.out.hr 2; have kr3 := blk_cell HS2.out.hr 3; have fr3 := blk_frozen HS2.out.hr 3; have kr4 := blk_cell HS2.out.hr 4; have fr4 := blk_frozen HS2.out.hr 4; have hlt := blk_lt HS2.out.hp; have lt0 := blk_lt HS2.out.hw; have lt1 := blk_lt HS2.out.ha; have lt2 := blk_lt HS2.out.hr
   have o1 : decide ((200 : Int) < (nn : Int)) = false := decide_eq_false (by have := HO1.out; have := HLN2.out; omega)
   have o2 : decide ((200 : Int) < (lb.length : Int)) = false := decide_eq_false (by have := HO2.out; have := HLN2.out; omega)
   have o3 : decide (200 < nn) = false := decide_eq_false (by have := HO1.out; have := HLN2.out; omega)
   have o4 : decide (200 < lb.length) = false := decide_eq_false (by have := HO2.out; have := HLN2.out; omega)
   go_wp2
   exact bodyPost_ret (results_ct rfl _ _ (w.heap.size + 2) 37 #[.int .i64 A, .int .i64 nx, .slice Ao9 nn co9, .slice Ao3 lb.length co3, .int .i64 p4] (0, 0) _ rfl (spec_l18Act.LA.fin (HS2.out) (.int .i64 A) (.int .i64 nx) (.slice Ao9 nn co9) (.slice Ao3 lb.length co3) (.int .i64 p4)).hr Try.underlying37 rfl (by kernel_rfl)) rfl ⟨_, _, rfl, (spec_l18Act.LA.fin (HS2.out) (.int .i64 A) (.int .i64 nx) (.slice Ao9 nn co9) (.slice Ao3 lb.length co3) (.int .i64 p4)).h2, (spec_l18Act.LA.fin (HS2.out) (.int .i64 A) (.int .i64 nx) (.slice Ao9 nn co9) (.slice Ao3 lb.length co3) (.int .i64 p4)).h3, (spec_l18Act.LA.fin (HS2.out) (.int .i64 A) (.int .i64 nx) (.slice Ao9 nn co9) (.slice Ao3 lb.length co3) (.int .i64 p4)).hb⟩
set_option maxHeartbeats 4000000 in
set_option maxRecDepth 100000 in
theorem spec_l18Act.l18_u1a (A B R kind nx code R' : Int) (A2 A3 : Option Addr) (c2 c3 : Nat) (la lb : List Int) (w : World) (hr2 : Kd.C (Kd.int .i64) w A2 la.length la) (hc2 : la.length ≤ c2) (hr3 : Kd.C (Kd.int .i64) w A3 lb.length lb) (hc3 : lb.length ≤ c3) (hf : spec_l18Own.f A B la lb R = some (A, B, la, lb, R)) (k : Nat) (sent : List Int) (hi : spec_l01In.f 1 0 1 = some true) (hi2 : spec_l01In.f kind 1 5 = some true) (hk5 : (kind == 5) = false) (hst : spec_l18Step.f k B kind 0 = some (nx, sent, code)) (hrs : spec_l18Act.resets sent R = R') (hR0 : 0 ≤ R) (hR1 : R ≤ 1000) (hln : la.length + sent.length ≤ 1000000) (ho1 : 200 < ((la ++ sent).length)) : Calls Try.prog 41 #[.agg #[.int .i64 A, .int .i64 B, .slice A2 la.length c2, .slice A3 lb.length c3, .int .i64 R], .agg #[.int .i64 1, .int .i64 kind]] w (spec_l18Act.L18Post w A B la lb R 7) := by
 have HI := Aside0.mk hi
 have HI2 := Aside0.mk hi2
 have HST := Aside0.mk hst
 have HRS := Aside0.mk hrs
 have HLN := Aside0.mk hln
 have HO1 := Aside0.mk ho1
 clear hi hi2 hst hrs hln ho1
 have hu37 := Try.underlying37
 have hu34 := Try.underlying34
 have hu30 := Try.underlying30
 have HR2 := Aside0.mk hr2
 have HR3 := Aside0.mk hr3
 have HC2 := Aside0.mk hc2
 have HC3 := Aside0.mk hc3
 have HF := Aside0.mk hf
 clear hr2 hr3 hc2 hc3 hf
 go_enter Try.func41, Try.ntmps41
 go_upto_region 2 with (go_at_call 42; (with_reducible refine (spec_l18Own.calls A B A2 c2 la A3 c3 lb R A B la lb R _ (Kd.C_below HR2.out ?hq2) HC2.out (Kd.C_below HR3.out ?hq3) HC3.out ?hf).mono ?_); (case hq2 => repeat (first | exact Below.refl _ _ | apply below_alloc)); (case hq3 => repeat (first | exact Below.refl _ _ | apply below_alloc)); (case hf => exact HF.out); rintro e w1 ⟨v2, v3, rfl, h2, h3, hbel⟩; obtain ⟨Ao2, co2, e2⟩ := Kd.R_slice h2; subst e2; obtain ⟨Ao3, co3, e3⟩ := Kd.R_slice h3; subst e3; have HB1 := Aside0.mk hbel; have H2 := Aside0.mk h2; have H3 := Aside0.mk h3; clear hbel h2 h3)
 refine spec_l18Act.wp_gen8 (fun W => spec_l18Act.LA w W w1.heap.size A B R 1 kind A2 A3 c2 c3 la lb A B R (.slice Ao2 la.length co2) (.slice Ao3 lb.length co3) la lb) ⟨?_, ?_, ?_, ?_, ?_, ?_, ?_, ?_⟩ ?_
 case refine_1 => exact blk_alloc (blk_below (blk_alloc (blk_alloc (blk_new _ _) _) _) HB1.out) _
 case refine_2 => exact blk_alloc (blk_below (blk_alloc (spec_l18Act.blk_new_at8 _ _ _ (by simp)) _) HB1.out) _
 case refine_3 => exact blk_alloc (blk_below (spec_l18Act.blk_new_at8 _ _ _ (by simp)) HB1.out) _
 case refine_4 => exact blk_new _ _
 case refine_5 => have := HB1.out.size; simp at this; omega
 case refine_6 => exact Kd.R_alloc (Kd.R_lower H2.out (by simp; omega)) _
 case refine_7 => exact Kd.R_alloc (Kd.R_lower H3.out (by simp; omega)) _
 case refine_8 => exact below_alloc (below_then (by repeat (first | exact Below.refl _ _ | apply below_alloc)) (by simp; omega) HB1.out) _
 generalize w1.heap.size = g
 clear H2 H3 HB1
 rintro W hS
 have HS := Aside0.mk hS
 have kw0 := blk_cell hS.hw 0; have kw1 := blk_cell hS.hw 1; have kw2 := blk_cell hS.hw 2; have kw3 := blk_cell hS.hw 3; have kw4 := blk_cell hS.hw 4; have ka0 := blk_cell hS.ha 0; have ka1 := blk_cell hS.ha 1; have kp0 := blk_cell hS.hp 0; have fp0 := blk_frozen hS.hp 0; have kp1 := blk_cell hS.hp 1; have fp1 := blk_frozen hS.hp 1; have kp2 := blk_cell hS.hp 2; have fp2 := blk_frozen hS.hp 2; have kp3 := blk_cell hS.hp 3; have fp3 := blk_frozen hS.hp 3; have kp4 := blk_cell hS.hp 4; have fp4 := blk_frozen hS.hp 4; have kr0 := blk_cell hS.hr 0; have fr0 := blk_frozen hS.hr 0; have kr1 := blk_cell hS.hr 1; have fr1 := blk_frozen hS.hr 1; have kr2 := blk_cell hS.hr 2; have fr2 := blk_frozen hS.hr 2; have kr3 := blk_cell hS.hr 3; have fr3 := blk_frozen hS.hr 3; have kr4 := blk_cell hS.hr 4; have fr4 := blk_frozen hS.hr 4; have hg := hS.hg; have hlt := blk_lt hS.hp; have lt0 := blk_lt hS.hw; have lt1 := blk_lt hS.ha; have lt2 := blk_lt hS.hr
 clear hS
 go_wp2_with (first | (go_at_call 35; ((with_reducible refine (spec_l18Act.l01In_q 1 0 1 true _ HI.out).mono ?_); rintro e w' ⟨rfl, rfl⟩)) | (go_at_call 35; ((with_reducible refine (spec_l18Act.l01In_q kind 1 5 true _ HI2.out).mono ?_); rintro e w' ⟨rfl, rfl⟩)) | (go_at_call 39; ((with_reducible refine (spec_l18Step.calls k _ _ _ nx sent code _ HST.out).mono ?_); rintro e w2 ⟨v5, rfl, h5, hbel⟩; obtain ⟨Ao5, co5, e5⟩ := Kd.R_slice h5; subst e5; have hB2 : Below W.heap.size W w2 := below_then (by with_reducible (repeat (first | exact Below.refl _ _ | apply below_alloc | apply pw_below_drewN | apply below_drew1 | refine below_set ?_ (Nat.le_refl _)))) (by simp <;> omega) hbel; have HS2 := Aside0.mk (HS.out.below hB2); have H5 := Aside0.mk (Kd.R_lower h5 (by have := HS.out.hb.size; simp <;> omega) : Kd.R (Kd.int .i64) 3 w2 w.heap.size _ _ sent); clear h5 hbel hB2; clear kw0 kw1 kw2 kw3 kw4 ka0 ka1 kp0 fp0 kr0 fr0 kp1 fp1 kr1 fr1 kp2 fp2 kr2 fr2 kp3 fp3 kr3 fr3 kp4 fp4 kr4 fr4 hlt lt0 lt1 lt2; have kw0 := blk_cell HS2.out.hw 0; have kw1 := blk_cell HS2.out.hw 1; have kw2 := blk_cell HS2.out.hw 2; have kw3 := blk_cell HS2.out.hw 3; have kw4 := blk_cell HS2.out.hw 4; have ka0 := blk_cell HS2.out.ha 0; have ka1 := blk_cell HS2.out.ha 1; have kp0 := blk_cell HS2.out.hp 0; have fp0 := blk_frozen HS2.out.hp 0; have kp1 := blk_cell HS2.out.hp 1; have fp1 := blk_frozen HS2.out.hp 1; have kp2 := blk_cell HS2.out.hp 2; have fp2 := blk_frozen HS2.out.hp 2; have kp3 := blk_cell HS2.out.hp 3; have fp3 := blk_frozen HS2.out.hp 3; have kp4 := blk_cell HS2.out.hp 4; have fp4 := blk_frozen HS2.out.hp 4; have kr0 := blk_cell HS2.out.hr 0; have fr0 := blk_frozen HS2.out.hr 0; have kr1 := blk_cell HS2.out.hr 1; have fr1 := blk_frozen HS2.out.hr 1; have kr2 := blk_cell HS2.out.hr 2; have fr2 := blk_frozen HS2.out.hr 2; have kr3 := blk_cell HS2.out.hr 3; have fr3 := blk_frozen HS2.out.hr 3; have kr4 := blk_cell HS2.out.hr 4; have fr4 := blk_frozen HS2.out.hr 4; have hlt := blk_lt HS2.out.hp; have lt0 := blk_lt HS2.out.hw; have lt1 := blk_lt HS2.out.ha; have lt2 := blk_lt HS2.out.hr)))
 go_loopg [13] sent.length (fun gk v13 w' => ∃ (j : Nat) (p4 : Int), j ≤ sent.length ∧ gk = sent.length - j ∧ v13 = .int .i64 j ∧ 0 ≤ p4 ∧ p4 ≤ 1000 ∧ Aside0 (spec_l18Act.resets (sent.drop j) p4 = R') ∧ Aside0 (spec_l18Act.LA w w' g A B R 1 kind A2 A3 c2 c3 la lb A B p4 (.slice Ao2 la.length co2) (.slice Ao3 lb.length co3) la lb) ∧ Aside0 (Kd.R (Kd.int .i64) 3 w' w.heap.size (fun _ => True) (.slice Ao5 sent.length co5) sent))
 case atStart => exact ⟨0, R, by omega, by omega, rfl, hR0, hR1, ⟨by rw [List.drop_zero]; exact HRS.out⟩, HS2, H5⟩
 case round =>
  clear HS HS2 H5 
  obtain ⟨j, p4, hj, hgk, rfl, hp0, hp1, HRj, HS2, H5⟩ := hrel
  have HGK := Aside0.mk hgk
  clear hgk
  have kw0 := blk_cell HS2.out.hw 0; have kw1 := blk_cell HS2.out.hw 1; have kw2 := blk_cell HS2.out.hw 2; have kw3 := blk_cell HS2.out.hw 3; have kw4 := blk_cell HS2.out.hw 4; have ka0 := blk_cell HS2.out.ha 0; have ka1 := blk_cell HS2.out.ha 1; have kp0 := blk_cell HS2.out.hp 0; have fp0 := blk_frozen HS2.out.hp 0; have kp1 := blk_cell HS2.out.hp 1; have fp1 := blk_frozen HS2.out.hp 1; have kp2 := blk_cell HS2.out.hp 2; have fp2 := blk_frozen HS2.out.hp 2; have kp3 := blk_cell HS2.out.hp 3; have fp3 := blk_frozen HS2.out.hp 3; have kp4 := blk_cell HS2.out.hp 4; have fp4 := blk_frozen HS2.out.hp 4; have kr0 := blk_cell HS2.out.hr 0; have fr0 := blk_frozen HS2.out.hr 0; have kr1 := blk_cell HS2.out.hr 1; have fr1 := blk_frozen HS2.out.hr 1; have kr2 := blk_cell HS2.out.hr 2; have fr2 := blk_frozen HS2.out.hr 2; have kr3 := blk_cell HS2.out.hr 3; have fr3 := blk_frozen HS2.out.hr 3; have kr4 := blk_cell HS2.out.hr 4; have fr4 := blk_frozen HS2.out.hr 4; have hlt := blk_lt HS2.out.hp; have lt0 := blk_lt HS2.out.hw; have lt1 := blk_lt HS2.out.ha; have lt2 := blk_lt HS2.out.hr; have lt5 : ∀ k, (Value.slice Ao5 sent.length co5).ownBlock = some k → k < wr.heap.size := Kd.R_lt H5.out; have HLT5 := Aside0.mk lt5; clear lt5
  by_cases hlt_ : j < sent.length
  ·have hlt2 : (j : Int) < (sent.length : Int) := by omega
   have HLJ := Aside0.mk hlt_
   have hsl : sent.length ≤ 1000000 := by have := HLN.out; omega
   obtain ⟨ad, e5, hx⟩ := Kd.at_int (Kd.R_reads' H5.out).2.2 (j : Int) (by omega) hlt2
   cases e5
   have hrd : rd sent (j : Int) = sent[j] := by simp [rd, List.getD_eq_getElem?_getD, List.getElem?_eq_getElem hlt_]
   rw [hrd, Int.toNat_natCast] at hx
   have hR' := HRj.out
   rw [List.drop_eq_getElem_cons hlt_, spec_l18Act.resets] at hR'
   clear HRj hrd
   by_cases h8 : sent[j] = 8
   ·have h8b : (sent[j] == 8) = true := by simpa using h8
    rw [if_pos h8] at hR'
    have HRj := Aside0.mk hR'
    generalize sent[j] = sj at *
    clear h8 hR'
    obtain ⟨p5, hp5⟩ : ∃ p5 : Int, (if p4 + 1 < 1000 then p4 + 1 else 1000) = p5 := ⟨_, rfl⟩
    rw [hp5] at HRj
    have b5 : 0 ≤ p5 ∧ p5 ≤ 1000 := by rw [← hp5]; split <;> omega
    go_wp2
    go_roundg (sent.length - (j + 1))
    case rel => exact ⟨j + 1, p5, by have := HLJ.out; omega, rfl, by go_num, b5.1, b5.2, HRj, ⟨HS2.out.set4 p5⟩, ⟨Kd.R_set H5.out HS2.out.hp (by decide) _ _⟩⟩
    case measure => have := HGK.out; have := HLJ.out; omega
   ·have h8b : (sent[j] == 8) = false := by simpa using h8
    rw [if_neg h8] at hR'
    have HRj := Aside0.mk hR'
    generalize sent[j] = sj at *
    clear h8 hR'
    go_wp2
    go_roundg (sent.length - (j + 1))
    case rel => exact ⟨j + 1, p4, by have := HLJ.out; omega, rfl, by go_num, hp0, hp1, HRj, HS2, H5⟩
    case measure => have := HGK.out; have := HLJ.out; omega
  ·obtain rfl : j = sent.length := by omega
   have hR' := HRj.out
   rw [List.drop_length, spec_l18Act.resets] at hR'
   subst hR'
   clear HRj HGK hj hlt_
   go_upto_region 27 with (fail)
   refine spec_l18Act.wp_gen8 (fun W' => (spec_l18Act.LA w W' g A B R 1 kind A2 A3 c2 c3 la lb A nx p4 (.slice Ao2 la.length co2) (.slice Ao3 lb.length co3) la lb) ∧ Kd.R (Kd.int .i64) 3 W' w.heap.size (fun _ => True) (.slice Ao5 sent.length co5) sent) ⟨?_, ?_⟩ ?_
   case refine_1 => exact (HS2.out.set1 nx).set3 (Kd.R_set HS2.out.h3 HS2.out.hp (by decide) _ _) (Kd.R_set HS2.out.h2 HS2.out.hp (by decide) _ _)
   case refine_2 => exact Kd.R_set (Kd.R_set H5.out HS2.out.hp (by decide) _ _) (HS2.out.set1 nx).hp (by decide) _ _
   rintro Wa ⟨hSa, h5a⟩
   clear kw0 kw1 kw2 kw3 kw4 ka0 ka1 kp0 fp0 kr0 fr0 kp1 fp1 kr1 fr1 kp2 fp2 kr2 fr2 kp3 fp3 kr3 fr3 kp4 fp4 kr4 fr4 hlt lt0 lt1 lt2
   clear HS2 H5 HLT5
   have HS2 := Aside0.mk hSa
   have H5 := Aside0.mk h5a
   clear hSa h5a
   have kw0 := blk_cell HS2.out.hw 0; have kw1 := blk_cell HS2.out.hw 1; have kw2 := blk_cell HS2.out.hw 2; have kw3 := blk_cell HS2.out.hw 3; have kw4 := blk_cell HS2.out.hw 4; have ka0 := blk_cell HS2.out.ha 0; have ka1 := blk_cell HS2.out.ha 1; have kp0 := blk_cell HS2.out.hp 0; have fp0 := blk_frozen HS2.out.hp 0; have kp1 := blk_cell HS2.out.hp 1; have fp1 := blk_frozen HS2.out.hp 1; have kp2 := blk_cell HS2.out.hp 2; have fp2 := blk_frozen HS2.out.hp 2; have kp3 := blk_cell HS2.out.hp 3; have fp3 := blk_frozen HS2.out.hp 3; have kp4 := blk_cell HS2.out.hp 4; have fp4 := blk_frozen HS2.out.hp 4; have kr0 := blk_cell HS2.out.hr 0; have fr0 := blk_frozen HS2.out.hr 0; have kr1 := blk_cell HS2.out.hr 1; have fr1 := blk_frozen HS2.out.hr 1; have kr2 := blk_cell HS2.out.hr 2; have fr2 := blk_frozen HS2.out.hr 2; have kr3 := blk_cell HS2.out.hr 3; have fr3 := blk_frozen HS2.out.hr 3; have kr4 := blk_cell HS2.out.hr 4; have fr4 := blk_frozen HS2.out.hr 4; have hlt := blk_lt HS2.out.hp; have lt0 := blk_lt HS2.out.hw; have lt1 := blk_lt HS2.out.ha; have lt2 := blk_lt HS2.out.hr
   go_upto_region 28 with (at_builtin; refine Kd.R_append_rows (Kd.int .i64) (w0 := w) w.heap.size rfl (.tmp 96) (.tmp 97) 26 3 (.int .i64 0) 8 rfl Try.underlying26 info3 rfl (by decide) (by decide) (.slice Ao2 la.length co2) la sent _ _ _ (fun k_ => some k_ ≠ ((.slice Ao3 lb.length co3) : Value).ownBlock) (fun _ => False) rfl rfl HS2.out.h2 (Kd.R_reads' H5.out).2.2 (fun _ _ h => h) (fun _ h => h.elim) (fun k hk he => by have := Kd.R_lt HS2.out.h3 k he.symm; omega) HS2.out.hb HS2.out.hb.size (by have := HLN.out; omega) ?_; intro v9 w9 ho9 hb9 hg9 hat9; obtain ⟨Ao9, co9, e9⟩ := Kd.R_slice ho9; rw [List.length_append] at e9; subst e9; have HA := Aside0.mk (HS2.out.app2 ho9 hb9 hg9 hat9); have g2 := blk_grown HS2.out.hp hg9 (Kd.R_ne HS2.out.h2 HS2.out.hp (by decide)); have kg := blk_cell g2 2; have fg := blk_frozen g2 2; clear g2 ho9 hb9 hg9 hat9)
   refine spec_l18Act.wp_gen8 (fun W' => spec_l18Act.LA w W' g A B R 1 kind A2 A3 c2 c3 la lb A nx p4 (.slice Ao9 (la.length + sent.length) co9) (.slice Ao3 lb.length co3) (la ++ sent) lb) HA.out ?_
   rintro Wb hSb
   clear kw0 kw1 kw2 kw3 kw4 ka0 ka1 kp0 fp0 kr0 fr0 kp1 fp1 kr1 fr1 kp2 fp2 kr2 fr2 kp3 fp3 kr3 fr3 kp4 fp4 kr4 fr4 hlt lt0 lt1 lt2
   clear HS2 H5 HA kg fg
   have hln2 : (la ++ sent).length = la.length + sent.length := List.length_append
   have HLN2 := Aside0.mk hln2
   clear hln2
   generalize hnn : la.length + sent.length = nn at *
   have HMM := Aside0.mk hnn
   clear hnn
   have HS2 := Aside0.mk hSb
   clear hSb
   have kw0 := blk_cell HS2.out.hw 0; have kw1 := blk_cell HS2.out.hw 1; have kw2 := blk_cell HS2.out.hw 2; have kw3 := blk_cell HS2.out.hw 3; have kw4 := blk_cell HS2.out.hw 4; have ka0 := blk_cell HS2.out.ha 0; have ka1 := blk_cell HS2.out.ha 1; have kp0 := blk_cell HS2.out.hp 0; have fp0 := blk_frozen HS2.out.hp 0; have kp1 := blk_cell HS2.out.hp 1; have fp1 := blk_frozen HS2.out.hp 1; have kp2 := blk_cell HS2.out.hp 2; have fp2 := blk_frozen HS2.out.hp 2; have kp3 := blk_cell HS2.out.hp 3; have fp3 := blk_frozen HS2.out.hp 3; have kp4 := blk_cell HS2.out.hp 4; have fp4 := blk_frozen HS2.out.hp 4; have kr0 := blk_cell HS2.out.hr 0; have fr0 := blk_frozen HS2.out.hr 0; have kr1 := blk_cell HS2.out.hr 1; have fr1 := blk_frozen HS2.out.hr 1; have kr2 := blk_cell HS2.out.hr 2; have fr2 := blk_frozen HS2.out.hr 2; have kr3 := blk_cell HS2.out.hr 3; have fr3 := blk_frozen HS2.out.hr 3; have kr4 := blk_cell HS2.out.hr 4; have fr4 := blk_frozen HS2.out.hr 4; have hlt := blk_lt HS2.out.hp; have lt0 := blk_lt HS2.out.hw; have lt1 := blk_lt HS2.out.ha; have lt2 := blk_lt HS2.out.hr
   have o1 : decide ((200 : Int) < (nn : Int)) = true := decide_eq_true (by have := HO1.out; have := HLN2.out; omega)
   have o3 : decide (200 < nn) = true := decide_eq_true (by have := HO1.out; have := HLN2.out; omega)
   go_wp2_with (go_at_call 42; (with_reducible refine (spec_l18Own.calls A B A2 c2 la A3 c3 lb R A B la lb R _ (Kd.C_below HR2.out ?hq2) HC2.out (Kd.C_below HR3.out ?hq3) HC3.out ?hf).mono ?_); (case hq2 => exact HS2.out.hb); (case hq3 => exact HS2.out.hb); (case hf => exact HF.out); rintro e w1 ⟨v2, v3, rfl, h2, h3, hbel⟩; obtain ⟨Ap2, cp2, e2⟩ := Kd.R_slice h2; subst e2; obtain ⟨Ap3, cp3, e3⟩ := Kd.R_slice h3; subst e3; have HB1 := Aside0.mk hbel; have H2 := Aside0.mk h2; have H3 := Aside0.mk h3; have hrz := blk_below HS2.out.hr hbel; have kr0_ := blk_cell hrz 0; have fr0_ := blk_frozen hrz 0; have kr1_ := blk_cell hrz 1; have fr1_ := blk_frozen hrz 1; have kr2_ := blk_cell hrz 2; have fr2_ := blk_frozen hrz 2; have kr3_ := blk_cell hrz 3; have fr3_ := blk_frozen hrz 3; have kr4_ := blk_cell hrz 4; have fr4_ := blk_frozen hrz 4; have HZ := Aside0.mk hrz; clear hrz; clear hbel h2 h3)
   exact bodyPost_ret (results_ct rfl _ _ (w.heap.size + 2) 37 #[.int .i64 A, .int .i64 B, .slice Ap2 la.length cp2, .slice Ap3 lb.length cp3, .int .i64 R] (0, 0) _ rfl (spec_l18Act.fin0 HZ.out (Kd.R_lower H2.out HS2.out.hb.size) (Kd.R_lower H3.out HS2.out.hb.size) (below_then HS2.out.hb HS2.out.hb.size HB1.out) (.int .i64 A) (.int .i64 B) (.slice Ap2 la.length cp2) (.slice Ap3 lb.length cp3) (.int .i64 R)).hr Try.underlying37 rfl (by kernel_rfl)) rfl ⟨_, _, rfl, (spec_l18Act.fin0 HZ.out (Kd.R_lower H2.out HS2.out.hb.size) (Kd.R_lower H3.out HS2.out.hb.size) (below_then HS2.out.hb HS2.out.hb.size HB1.out) (.int .i64 A) (.int .i64 B) (.slice Ap2 la.length cp2) (.slice Ap3 lb.length cp3) (.int .i64 R)).h2, (spec_l18Act.fin0 HZ.out (Kd.R_lower H2.out HS2.out.hb.size) (Kd.R_lower H3.out HS2.out.hb.size) (below_then HS2.out.hb HS2.out.hb.size HB1.out) (.int .i64 A) (.int .i64 B) (.slice Ap2 la.length cp2) (.slice Ap3 lb.length cp3) (.int .i64 R)).h3, (spec_l18Act.fin0 HZ.out (Kd.R_lower H2.out HS2.out.hb.size) (Kd.R_lower H3.out HS2.out.hb.size) (below_then HS2.out.hb HS2.out.hb.size HB1.out) (.int .i64 A) (.int .i64 B) (.slice Ap2 la.length cp2) (.slice Ap3 lb.length cp3) (.int .i64 R)).hb⟩
set_option maxHeartbeats 4000000 in
set_option maxRecDepth 100000 in
theorem spec_l18Act.l18_u1b (A B R kind nx code R' : Int) (A2 A3 : Option Addr) (c2 c3 : Nat) (la lb : List Int) (w : World) (hr2 : Kd.C (Kd.int .i64) w A2 la.length la) (hc2 : la.length ≤ c2) (hr3 : Kd.C (Kd.int .i64) w A3 lb.length lb) (hc3 : lb.length ≤ c3) (hf : spec_l18Own.f A B la lb R = some (A, B, la, lb, R)) (k : Nat) (sent : List Int) (hi : spec_l01In.f 1 0 1 = some true) (hi2 : spec_l01In.f kind 1 5 = some true) (hk5 : (kind == 5) = false) (hst : spec_l18Step.f k B kind 0 = some (nx, sent, code)) (hrs : spec_l18Act.resets sent R = R') (hR0 : 0 ≤ R) (hR1 : R ≤ 1000) (hln : la.length + sent.length ≤ 1000000) (ho1 : ((la ++ sent).length) ≤ 200) (ho2 : 200 < (lb.length)) : Calls Try.prog 41 #[.agg #[.int .i64 A, .int .i64 B, .slice A2 la.length c2, .slice A3 lb.length c3, .int .i64 R], .agg #[.int .i64 1, .int .i64 kind]] w (spec_l18Act.L18Post w A B la lb R 7) := by
 have HI := Aside0.mk hi
 have HI2 := Aside0.mk hi2
 have HST := Aside0.mk hst
 have HRS := Aside0.mk hrs
 have HLN := Aside0.mk hln
 have HO1 := Aside0.mk ho1
 have HO2 := Aside0.mk ho2
 clear hi hi2 hst hrs hln ho1 ho2
 have hu37 := Try.underlying37
 have hu34 := Try.underlying34
 have hu30 := Try.underlying30
 have HR2 := Aside0.mk hr2
 have HR3 := Aside0.mk hr3
 have HC2 := Aside0.mk hc2
 have HC3 := Aside0.mk hc3
 have HF := Aside0.mk hf
 clear hr2 hr3 hc2 hc3 hf
 go_enter Try.func41, Try.ntmps41
 go_upto_region 2 with (go_at_call 42; (with_reducible refine (spec_l18Own.calls A B A2 c2 la A3 c3 lb R A B la lb R _ (Kd.C_below HR2.out ?hq2) HC2.out (Kd.C_below HR3.out ?hq3) HC3.out ?hf).mono ?_); (case hq2 => repeat (first | exact Below.refl _ _ | apply below_alloc)); (case hq3 => repeat (first | exact Below.refl _ _ | apply below_alloc)); (case hf => exact HF.out); rintro e w1 ⟨v2, v3, rfl, h2, h3, hbel⟩; obtain ⟨Ao2, co2, e2⟩ := Kd.R_slice h2; subst e2; obtain ⟨Ao3, co3, e3⟩ := Kd.R_slice h3; subst e3; have HB1 := Aside0.mk hbel; have H2 := Aside0.mk h2; have H3 := Aside0.mk h3; clear hbel h2 h3)
 refine spec_l18Act.wp_gen8 (fun W => spec_l18Act.LA w W w1.heap.size A B R 1 kind A2 A3 c2 c3 la lb A B R (.slice Ao2 la.length co2) (.slice Ao3 lb.length co3) la lb) ⟨?_, ?_, ?_, ?_, ?_, ?_, ?_, ?_⟩ ?_
 case refine_1 => exact blk_alloc (blk_below (blk_alloc (blk_alloc (blk_new _ _) _) _) HB1.out) _
 case refine_2 => exact blk_alloc (blk_below (blk_alloc (spec_l18Act.blk_new_at8 _ _ _ (by simp)) _) HB1.out) _
 case refine_3 => exact blk_alloc (blk_below (spec_l18Act.blk_new_at8 _ _ _ (by simp)) HB1.out) _
 case refine_4 => exact blk_new _ _
 case refine_5 => have := HB1.out.size; simp at this; omega
 case refine_6 => exact Kd.R_alloc (Kd.R_lower H2.out (by simp; omega)) _
 case refine_7 => exact Kd.R_alloc (Kd.R_lower H3.out (by simp; omega)) _
 case refine_8 => exact below_alloc (below_then (by repeat (first | exact Below.refl _ _ | apply below_alloc)) (by simp; omega) HB1.out) _
 generalize w1.heap.size = g
 clear H2 H3 HB1
 rintro W hS
 have HS := Aside0.mk hS
 have kw0 := blk_cell hS.hw 0; have kw1 := blk_cell hS.hw 1; have kw2 := blk_cell hS.hw 2; have kw3 := blk_cell hS.hw 3; have kw4 := blk_cell hS.hw 4; have ka0 := blk_cell hS.ha 0; have ka1 := blk_cell hS.ha 1; have kp0 := blk_cell hS.hp 0; have fp0 := blk_frozen hS.hp 0; have kp1 := blk_cell hS.hp 1; have fp1 := blk_frozen hS.hp 1; have kp2 := blk_cell hS.hp 2; have fp2 := blk_frozen hS.hp 2; have kp3 := blk_cell hS.hp 3; have fp3 := blk_frozen hS.hp 3; have kp4 := blk_cell hS.hp 4; have fp4 := blk_frozen hS.hp 4; have kr0 := blk_cell hS.hr 0; have fr0 := blk_frozen hS.hr 0; have kr1 := blk_cell hS.hr 1; have fr1 := blk_frozen hS.hr 1; have kr2 := blk_cell hS.hr 2; have fr2 := blk_frozen hS.hr 2; have kr3 := blk_cell hS.hr 3; have fr3 := blk_frozen hS.hr 3; have kr4 := blk_cell hS.hr 4; have fr4 := blk_frozen hS.hr 4; have hg := hS.hg; have hlt := blk_lt hS.hp; have lt0 := blk_lt hS.hw; have lt1 := blk_lt hS.ha; have lt2 := blk_lt hS.hr
 clear hS
 go_wp2_with (first | (go_at_call 35; ((with_reducible refine (spec_l18Act.l01In_q 1 0 1 true _ HI.out).mono ?_); rintro e w' ⟨rfl, rfl⟩)) | (go_at_call 35; ((with_reducible refine (spec_l18Act.l01In_q kind 1 5 true _ HI2.out).mono ?_); rintro e w' ⟨rfl, rfl⟩)) | (go_at_call 39; ((with_reducible refine (spec_l18Step.calls k _ _ _ nx sent code _ HST.out).mono ?_); rintro e w2 ⟨v5, rfl, h5, hbel⟩; obtain ⟨Ao5, co5, e5⟩ := Kd.R_slice h5; subst e5; have hB2 : Below W.heap.size W w2 := below_then (by with_reducible (repeat (first | exact Below.refl _ _ | apply below_alloc | apply pw_below_drewN | apply below_drew1 | refine below_set ?_ (Nat.le_refl _)))) (by simp <;> omega) hbel; have HS2 := Aside0.mk (HS.out.below hB2); have H5 := Aside0.mk (Kd.R_lower h5 (by have := HS.out.hb.size; simp <;> omega) : Kd.R (Kd.int .i64) 3 w2 w.heap.size _ _ sent); clear h5 hbel hB2; clear kw0 kw1 kw2 kw3 kw4 ka0 ka1 kp0 fp0 kr0 fr0 kp1 fp1 kr1 fr1 kp2 fp2 kr2 fr2 kp3 fp3 kr3 fr3 kp4 fp4 kr4 fr4 hlt lt0 lt1 lt2; have kw0 := blk_cell HS2.out.hw 0; have kw1 := blk_cell HS2.out.hw 1; have kw2 := blk_cell HS2.out.hw 2; have kw3 := blk_cell HS2.out.hw 3; have kw4 := blk_cell HS2.out.hw 4; have ka0 := blk_cell HS2.out.ha 0; have ka1 := blk_cell HS2.out.ha 1; have kp0 := blk_cell HS2.out.hp 0; have fp0 := blk_frozen HS2.out.hp 0; have kp1 := blk_cell HS2.out.hp 1; have fp1 := blk_frozen HS2.out.hp 1; have kp2 := blk_cell HS2.out.hp 2; have fp2 := blk_frozen HS2.out.hp 2; have kp3 := blk_cell HS2.out.hp 3; have fp3 := blk_frozen HS2.out.hp 3; have kp4 := blk_cell HS2.out.hp 4; have fp4 := blk_frozen HS2.out.hp 4; have kr0 := blk_cell HS2.out.hr 0; have fr0 := blk_frozen HS2.out.hr 0; have kr1 := blk_cell HS2.out.hr 1; have fr1 := blk_frozen HS2.out.hr 1; have kr2 := blk_cell HS2.out.hr 2; have fr2 := blk_frozen HS2.out.hr 2; have kr3 := blk_cell HS2.out.hr 3; have fr3 := blk_frozen HS2.out.hr 3; have kr4 := blk_cell HS2.out.hr 4; have fr4 := blk_frozen HS2.out.hr 4; have hlt := blk_lt HS2.out.hp; have lt0 := blk_lt HS2.out.hw; have lt1 := blk_lt HS2.out.ha; have lt2 := blk_lt HS2.out.hr)))
 go_loopg [13] sent.length (fun gk v13 w' => ∃ (j : Nat) (p4 : Int), j ≤ sent.length ∧ gk = sent.length - j ∧ v13 = .int .i64 j ∧ 0 ≤ p4 ∧ p4 ≤ 1000 ∧ Aside0 (spec_l18Act.resets (sent.drop j) p4 = R') ∧ Aside0 (spec_l18Act.LA w w' g A B R 1 kind A2 A3 c2 c3 la lb A B p4 (.slice Ao2 la.length co2) (.slice Ao3 lb.length co3) la lb) ∧ Aside0 (Kd.R (Kd.int .i64) 3 w' w.heap.size (fun _ => True) (.slice Ao5 sent.length co5) sent))
 case atStart => exact ⟨0, R, by omega, by omega, rfl, hR0, hR1, ⟨by rw [List.drop_zero]; exact HRS.out⟩, HS2, H5⟩
 case round =>
  clear HS HS2 H5 
  obtain ⟨j, p4, hj, hgk, rfl, hp0, hp1, HRj, HS2, H5⟩ := hrel
  have HGK := Aside0.mk hgk
  clear hgk
  have kw0 := blk_cell HS2.out.hw 0; have kw1 := blk_cell HS2.out.hw 1; have kw2 := blk_cell HS2.out.hw 2; have kw3 := blk_cell HS2.out.hw 3; have kw4 := blk_cell HS2.out.hw 4; have ka0 := blk_cell HS2.out.ha 0; have ka1 := blk_cell HS2.out.ha 1; have kp0 := blk_cell HS2.out.hp 0; have fp0 := blk_frozen HS2.out.hp 0; have kp1 := blk_cell HS2.out.hp 1; have fp1 := blk_frozen HS2.out.hp 1; have kp2 := blk_cell HS2.out.hp 2; have fp2 := blk_frozen HS2.out.hp 2; have kp3 := blk_cell HS2.out.hp 3; have fp3 := blk_frozen HS2.out.hp 3; have kp4 := blk_cell HS2.out.hp 4; have fp4 := blk_frozen HS2.out.hp 4; have kr0 := blk_cell HS2.out.hr 0; have fr0 := blk_frozen HS2.out.hr 0; have kr1 := blk_cell HS2.out.hr 1; have fr1 := blk_frozen HS2.out.hr 1; have kr2 := blk_cell HS2.out.hr 2; have fr2 := blk_frozen HS2.out.hr 2; have kr3 := blk_cell HS2.out.hr 3; have fr3 := blk_frozen HS2.out.hr 3; have kr4 := blk_cell HS2.out.hr 4; have fr4 := blk_frozen HS2.out.hr 4; have hlt := blk_lt HS2.out.hp; have lt0 := blk_lt HS2.out.hw; have lt1 := blk_lt HS2.out.ha; have lt2 := blk_lt HS2.out.hr; have lt5 : ∀ k, (Value.slice Ao5 sent.length co5).ownBlock = some k → k < wr.heap.size := Kd.R_lt H5.out; have HLT5 := Aside0.mk lt5; clear lt5
  by_cases hlt_ : j < sent.length
  ·have hlt2 : (j : Int) < (sent.length : Int) := by omega
   have HLJ := Aside0.mk hlt_
   have hsl : sent.length ≤ 1000000 := by have := HLN.out; omega
   obtain ⟨ad, e5, hx⟩ := Kd.at_int (Kd.R_reads' H5.out).2.2 (j : Int) (by omega) hlt2
   cases e5
   have hrd : rd sent (j : Int) = sent[j] := by simp [rd, List.getD_eq_getElem?_getD, List.getElem?_eq_getElem hlt_]
   rw [hrd, Int.toNat_natCast] at hx
   have hR' := HRj.out
   rw [List.drop_eq_getElem_cons hlt_, spec_l18Act.resets] at hR'
   clear HRj hrd
   by_cases h8 : sent[j] = 8
   ·have h8b : (sent[j] == 8) = true := by simpa using h8
    rw [if_pos h8] at hR'
    have HRj := Aside0.mk hR'
    generalize sent[j] = sj at *
    clear h8 hR'
    obtain ⟨p5, hp5⟩ : ∃ p5 : Int, (if p4 + 1 < 1000 then p4 + 1 else 1000) = p5 := ⟨_, rfl⟩
    rw [hp5] at HRj
    have b5 : 0 ≤ p5 ∧ p5 ≤ 1000 := by rw [← hp5]; split <;> omega
    go_wp2
    go_roundg (sent.length - (j + 1))
    case rel => exact ⟨j + 1, p5, by have := HLJ.out; omega, rfl, by go_num, b5.1, b5.2, HRj, ⟨HS2.out.set4 p5⟩, ⟨Kd.R_set H5.out HS2.out.hp (by decide) _ _⟩⟩
    case measure => have := HGK.out; have := HLJ.out; omega
   ·have h8b : (sent[j] == 8) = false := by simpa using h8
    rw [if_neg h8] at hR'
    have HRj := Aside0.mk hR'
    generalize sent[j] = sj at *
    clear h8 hR'
    go_wp2
    go_roundg (sent.length - (j + 1))
    case rel => exact ⟨j + 1, p4, by have := HLJ.out; omega, rfl, by go_num, hp0, hp1, HRj, HS2, H5⟩
    case measure => have := HGK.out; have := HLJ.out; omega
  ·obtain rfl : j = sent.length := by omega
   have hR' := HRj.out
   rw [List.drop_length, spec_l18Act.resets] at hR'
   subst hR'
   clear HRj HGK hj hlt_
   go_upto_region 27 with (fail)
   refine spec_l18Act.wp_gen8 (fun W' => (spec_l18Act.LA w W' g A B R 1 kind A2 A3 c2 c3 la lb A nx p4 (.slice Ao2 la.length co2) (.slice Ao3 lb.length co3) la lb) ∧ Kd.R (Kd.int .i64) 3 W' w.heap.size (fun _ => True) (.slice Ao5 sent.length co5) sent) ⟨?_, ?_⟩ ?_
   case refine_1 => exact (HS2.out.set1 nx).set3 (Kd.R_set HS2.out.h3 HS2.out.hp (by decide) _ _) (Kd.R_set HS2.out.h2 HS2.out.hp (by decide) _ _)
   case refine_2 => exact Kd.R_set (Kd.R_set H5.out HS2.out.hp (by decide) _ _) (HS2.out.set1 nx).hp (by decide) _ _
   rintro Wa ⟨hSa, h5a⟩
   clear kw0 kw1 kw2 kw3 kw4 ka0 ka1 kp0 fp0 kr0 fr0 kp1 fp1 kr1 fr1 kp2 fp2 kr2 fr2 kp3 fp3 kr3 fr3 kp4 fp4 kr4 fr4 hlt lt0 lt1 lt2
   clear HS2 H5 HLT5
   have HS2 := Aside0.mk hSa
   have H5 := Aside0.mk h5a
   clear hSa h5a
   have kw0 := blk_cell HS2.out.hw 0; have kw1 := blk_cell HS2.out.hw 1; have kw2 := blk_cell HS2.out.hw 2; have kw3 := blk_cell HS2.out.hw 3; have kw4 := blk_cell HS2.out.hw 4; have ka0 := blk_cell HS2.out.ha 0; have ka1 := blk_cell HS2.out.ha 1; have kp0 := blk_cell HS2.out.hp 0; have fp0 := blk_frozen HS2.out.hp 0; have kp1 := blk_cell HS2.out.hp 1; have fp1 := blk_frozen HS2.out.hp 1; have kp2 := blk_cell HS2.out.hp 2; have fp2 := blk_frozen HS2.out.hp 2; have kp3 := blk_cell HS2.out.hp 3; have fp3 := blk_frozen HS2.out.hp 3; have kp4 := blk_cell HS2.out.hp 4; have fp4 := blk_frozen HS2.out.hp 4; have kr0 := blk_cell HS2.out.hr 0; have fr0 := blk_frozen HS2.out.hr 0; have kr1 := blk_cell HS2.out.hr 1; have fr1 := blk_frozen HS2.out.hr 1; have kr2 := blk_cell HS2.out.hr 2; have fr2 := blk_frozen HS2.out.hr 2; have kr3 := blk_cell HS2.out.hr 3; have fr3 := blk_frozen HS2.out.hr 3; have kr4 := blk_cell HS2.out.hr 4; have fr4 := blk_frozen HS2.out.hr 4; have hlt := blk_lt HS2.out.hp; have lt0 := blk_lt HS2.out.hw; have lt1 := blk_lt HS2.out.ha; have lt2 := blk_lt HS2.out.hr
   go_upto_region 28 with (at_builtin; refine Kd.R_append_rows (Kd.int .i64) (w0 := w) w.heap.size rfl (.tmp 96) (.tmp 97) 26 3 (.int .i64 0) 8 rfl Try.underlying26 info3 rfl (by decide) (by decide) (.slice Ao2 la.length co2) la sent _ _ _ (fun k_ => some k_ ≠ ((.slice Ao3 lb.length co3) : Value).ownBlock) (fun _ => False) rfl rfl HS2.out.h2 (Kd.R_reads' H5.out).2.2 (fun _ _ h => h) (fun _ h => h.elim) (fun k hk he => by have := Kd.R_lt HS2.out.h3 k he.symm; omega) HS2.out.hb HS2.out.hb.size (by have := HLN.out; omega) ?_; intro v9 w9 ho9 hb9 hg9 hat9; obtain ⟨Ao9, co9, e9⟩ := Kd.R_slice ho9; rw [List.length_append] at e9; subst e9; have HA := Aside0.mk (HS2.out.app2 ho9 hb9 hg9 hat9); have g2 := blk_grown HS2.out.hp hg9 (Kd.R_ne HS2.out.h2 HS2.out.hp (by decide)); have kg := blk_cell g2 2; have fg := blk_frozen g2 2; clear g2 ho9 hb9 hg9 hat9)
   refine spec_l18Act.wp_gen8 (fun W' => spec_l18Act.LA w W' g A B R 1 kind A2 A3 c2 c3 la lb A nx p4 (.slice Ao9 (la.length + sent.length) co9) (.slice Ao3 lb.length co3) (la ++ sent) lb) HA.out ?_
   rintro Wb hSb
   clear kw0 kw1 kw2 kw3 kw4 ka0 ka1 kp0 fp0 kr0 fr0 kp1 fp1 kr1 fr1 kp2 fp2 kr2 fr2 kp3 fp3 kr3 fr3 kp4 fp4 kr4 fr4 hlt lt0 lt1 lt2
   clear HS2 H5 HA kg fg
   have hln2 : (la ++ sent).length = la.length + sent.length := List.length_append
   have HLN2 := Aside0.mk hln2
   clear hln2
   generalize hnn : la.length + sent.length = nn at *
   have HMM := Aside0.mk hnn
   clear hnn
   have HS2 := Aside0.mk hSb
   clear hSb
   have kw0 := blk_cell HS2.out.hw 0; have kw1 := blk_cell HS2.out.hw 1; have kw2 := blk_cell HS2.out.hw 2; have kw3 := blk_cell HS2.out.hw 3; have kw4 := blk_cell HS2.out.hw 4; have ka0 := blk_cell HS2.out.ha 0; have ka1 := blk_cell HS2.out.ha 1; have kp0 := blk_cell HS2.out.hp 0; have fp0 := blk_frozen HS2.out.hp 0; have kp1 := blk_cell HS2.out.hp 1; have fp1 := blk_frozen HS2.out.hp 1; have kp2 := blk_cell HS2.out.hp 2; have fp2 := blk_frozen HS2.out.hp 2; have kp3 := blk_cell HS2.out.hp 3; have fp3 := blk_frozen HS2.out.hp 3; have kp4 := blk_cell HS2.out.hp 4; have fp4 := blk_frozen HS2.out.hp 4; have kr0 := blk_cell HS2.out.hr 0; have fr0 := blk_frozen HS2.out.hr 0; have kr1 := blk_cell HS2.out.hr 1; have fr1 := blk_frozen HS2.out.hr 1; have kr2 := blk_cell HS2.out.hr 2; have fr2 := blk_frozen HS2.out.hr 2; have kr3 := blk_cell HS2.out.hr 3; have fr3 := blk_frozen HS2.out.hr 3; have kr4 := blk_cell HS2.out.hr 4; have fr4 := blk_frozen HS2.out.hr 4; have hlt := blk_lt HS2.out.hp; have lt0 := blk_lt HS2.out.hw; have lt1 := blk_lt HS2.out.ha; have lt2 := blk_lt HS2.out.hr
   have o1 : decide ((200 : Int) < (nn : Int)) = false := decide_eq_false (by have := HO1.out; have := HLN2.out; omega)
   have o2 : decide ((200 : Int) < (lb.length : Int)) = true := decide_eq_true (by have := HO2.out; have := HLN2.out; omega)
   have o3 : decide (200 < nn) = false := decide_eq_false (by have := HO1.out; have := HLN2.out; omega)
   have o4 : decide (200 < lb.length) = true := decide_eq_true (by have := HO2.out; have := HLN2.out; omega)
   go_wp2_with (go_at_call 42; (with_reducible refine (spec_l18Own.calls A B A2 c2 la A3 c3 lb R A B la lb R _ (Kd.C_below HR2.out ?hq2) HC2.out (Kd.C_below HR3.out ?hq3) HC3.out ?hf).mono ?_); (case hq2 => exact HS2.out.hb); (case hq3 => exact HS2.out.hb); (case hf => exact HF.out); rintro e w1 ⟨v2, v3, rfl, h2, h3, hbel⟩; obtain ⟨Ap2, cp2, e2⟩ := Kd.R_slice h2; subst e2; obtain ⟨Ap3, cp3, e3⟩ := Kd.R_slice h3; subst e3; have HB1 := Aside0.mk hbel; have H2 := Aside0.mk h2; have H3 := Aside0.mk h3; have hrz := blk_below HS2.out.hr hbel; have kr0_ := blk_cell hrz 0; have fr0_ := blk_frozen hrz 0; have kr1_ := blk_cell hrz 1; have fr1_ := blk_frozen hrz 1; have kr2_ := blk_cell hrz 2; have fr2_ := blk_frozen hrz 2; have kr3_ := blk_cell hrz 3; have fr3_ := blk_frozen hrz 3; have kr4_ := blk_cell hrz 4; have fr4_ := blk_frozen hrz 4; have HZ := Aside0.mk hrz; clear hrz; clear hbel h2 h3)
   exact bodyPost_ret (results_ct rfl _ _ (w.heap.size + 2) 37 #[.int .i64 A, .int .i64 B, .slice Ap2 la.length cp2, .slice Ap3 lb.length cp3, .int .i64 R] (0, 0) _ rfl (spec_l18Act.fin0 HZ.out (Kd.R_lower H2.out HS2.out.hb.size) (Kd.R_lower H3.out HS2.out.hb.size) (below_then HS2.out.hb HS2.out.hb.size HB1.out) (.int .i64 A) (.int .i64 B) (.slice Ap2 la.length cp2) (.slice Ap3 lb.length cp3) (.int .i64 R)).hr Try.underlying37 rfl (by kernel_rfl)) rfl ⟨_, _, rfl, (spec_l18Act.fin0 HZ.out (Kd.R_lower H2.out HS2.out.hb.size) (Kd.R_lower H3.out HS2.out.hb.size) (below_then HS2.out.hb HS2.out.hb.size HB1.out) (.int .i64 A) (.int .i64 B) (.slice Ap2 la.length cp2) (.slice Ap3 lb.length cp3) (.int .i64 R)).h2, (spec_l18Act.fin0 HZ.out (Kd.R_lower H2.out HS2.out.hb.size) (Kd.R_lower H3.out HS2.out.hb.size) (below_then HS2.out.hb HS2.out.hb.size HB1.out) (.int .i64 A) (.int .i64 B) (.slice Ap2 la.length cp2) (.slice Ap3 lb.length cp3) (.int .i64 R)).h3, (spec_l18Act.fin0 HZ.out (Kd.R_lower H2.out HS2.out.hb.size) (Kd.R_lower H3.out HS2.out.hb.size) (below_then HS2.out.hb HS2.out.hb.size HB1.out) (.int .i64 A) (.int .i64 B) (.slice Ap2 la.length cp2) (.slice Ap3 lb.length cp3) (.int .i64 R)).hb⟩
set_option maxHeartbeats 4000000 in
set_option maxRecDepth 100000 in
theorem spec_l18Act.l18_s1n (A B R x nx code R' : Int) (A2 A3 : Option Addr) (c2 c3 : Nat) (la lb : List Int) (w : World) (hr2 : Kd.C (Kd.int .i64) w A2 la.length la) (hc2 : la.length ≤ c2) (hr3 : Kd.C (Kd.int .i64) w A3 lb.length lb) (hc3 : lb.length ≤ c3) (hf : spec_l18Own.f A B la lb R = some (A, B, la, lb, R)) (k : Nat) (sent lq : List Int) (hi : spec_l01In.f 1 0 1 = some true) (hi2 : spec_l01In.f 5 1 5 = some true) (hq : lb = x :: lq) (hlq : lq.length ≤ 1000000) (hst : spec_l18Step.f k B 5 x = some (nx, sent, code)) (hrs : spec_l18Act.resets sent R = R') (hR0 : 0 ≤ R) (hR1 : R ≤ 1000) (hln : la.length + sent.length ≤ 1000000) (ho1 : ((la ++ sent).length) ≤ 200) (ho2 : (lq.length) ≤ 200) : Calls Try.prog 41 #[.agg #[.int .i64 A, .int .i64 B, .slice A2 la.length c2, .slice A3 lb.length c3, .int .i64 R], .agg #[.int .i64 1, .int .i64 5]] w (spec_l18Act.L18Post w A nx (la ++ sent) lq R' code) := by
 have HI := Aside0.mk hi
 have HI2 := Aside0.mk hi2
 have HST := Aside0.mk hst
 have HRS := Aside0.mk hrs
 have HLN := Aside0.mk hln
 have HO1 := Aside0.mk ho1
 have HO2 := Aside0.mk ho2
 have HQ0 := Aside0.mk hq
 have HLQ1 := Aside0.mk hlq
 clear hi hi2 hst hrs hln ho1 ho2 hq hlq
 have hu37 := Try.underlying37
 have hu34 := Try.underlying34
 have hu30 := Try.underlying30
 have HR2 := Aside0.mk hr2
 have HR3 := Aside0.mk hr3
 have HC2 := Aside0.mk hc2
 have HC3 := Aside0.mk hc3
 have HF := Aside0.mk hf
 clear hr2 hr3 hc2 hc3 hf
 go_enter Try.func41, Try.ntmps41
 go_upto_region 2 with (go_at_call 42; (with_reducible refine (spec_l18Own.calls A B A2 c2 la A3 c3 lb R A B la lb R _ (Kd.C_below HR2.out ?hq2) HC2.out (Kd.C_below HR3.out ?hq3) HC3.out ?hf).mono ?_); (case hq2 => repeat (first | exact Below.refl _ _ | apply below_alloc)); (case hq3 => repeat (first | exact Below.refl _ _ | apply below_alloc)); (case hf => exact HF.out); rintro e w1 ⟨v2, v3, rfl, h2, h3, hbel⟩; obtain ⟨Ao2, co2, e2⟩ := Kd.R_slice h2; subst e2; obtain ⟨Ao3, co3, e3⟩ := Kd.R_slice h3; subst e3; have HB1 := Aside0.mk hbel; have H2 := Aside0.mk h2; have H3 := Aside0.mk h3; clear hbel h2 h3)
 refine spec_l18Act.wp_gen8 (fun W => spec_l18Act.LA w W w1.heap.size A B R 1 5 A2 A3 c2 c3 la lb A B R (.slice Ao2 la.length co2) (.slice Ao3 lb.length co3) la lb) ⟨?_, ?_, ?_, ?_, ?_, ?_, ?_, ?_⟩ ?_
 case refine_1 => exact blk_alloc (blk_below (blk_alloc (blk_alloc (blk_new _ _) _) _) HB1.out) _
 case refine_2 => exact blk_alloc (blk_below (blk_alloc (spec_l18Act.blk_new_at8 _ _ _ (by simp)) _) HB1.out) _
 case refine_3 => exact blk_alloc (blk_below (spec_l18Act.blk_new_at8 _ _ _ (by simp)) HB1.out) _
 case refine_4 => exact blk_new _ _
 case refine_5 => have := HB1.out.size; simp at this; omega
 case refine_6 => exact Kd.R_alloc (Kd.R_lower H2.out (by simp; omega)) _
 case refine_7 => exact Kd.R_alloc (Kd.R_lower H3.out (by simp; omega)) _
 case refine_8 => exact below_alloc (below_then (by repeat (first | exact Below.refl _ _ | apply below_alloc)) (by simp; omega) HB1.out) _
 generalize w1.heap.size = g
 clear H2 H3 HB1
 rintro W hS
 have HS := Aside0.mk hS
 have kw0 := blk_cell hS.hw 0; have kw1 := blk_cell hS.hw 1; have kw2 := blk_cell hS.hw 2; have kw3 := blk_cell hS.hw 3; have kw4 := blk_cell hS.hw 4; have ka0 := blk_cell hS.ha 0; have ka1 := blk_cell hS.ha 1; have kp0 := blk_cell hS.hp 0; have fp0 := blk_frozen hS.hp 0; have kp1 := blk_cell hS.hp 1; have fp1 := blk_frozen hS.hp 1; have kp2 := blk_cell hS.hp 2; have fp2 := blk_frozen hS.hp 2; have kp3 := blk_cell hS.hp 3; have fp3 := blk_frozen hS.hp 3; have kp4 := blk_cell hS.hp 4; have fp4 := blk_frozen hS.hp 4; have kr0 := blk_cell hS.hr 0; have fr0 := blk_frozen hS.hr 0; have kr1 := blk_cell hS.hr 1; have fr1 := blk_frozen hS.hr 1; have kr2 := blk_cell hS.hr 2; have fr2 := blk_frozen hS.hr 2; have kr3 := blk_cell hS.hr 3; have fr3 := blk_frozen hS.hr 3; have kr4 := blk_cell hS.hr 4; have fr4 := blk_frozen hS.hr 4; have hg := hS.hg; have hlt := blk_lt hS.hp; have lt0 := blk_lt hS.hw; have lt1 := blk_lt hS.ha; have lt2 := blk_lt hS.hr
 clear hS
 have hpos : 0 < lb.length := by rw [HQ0.out]; simp
 obtain ⟨gq, cq0, e2, _, hgq, _⟩ := Kd.R_form HS.out.h3 hpos
 simp only [Value.slice.injEq, true_and] at e2
 obtain ⟨rfl, rfl⟩ := e2
 have hT : Kd.C (Kd.int .i64) W (if co3 = 1 then some ⟨gq, 0, none⟩ else some ⟨gq, 1, none⟩) (lb.length - 1) lq := by
  have h := (Kd.Q_reads' (Kd.Q_drop (Kd.Q_of_R HS.out.h3) (k := 1) (show 1 ≤ lb.length from hpos))).2.2
  rw [HQ0.out] at h ⊢
  simpa [Addr.add, Kd.int, Kd.scalar] using h
 have kq : W.cell? ⟨gq, 0, none⟩ = some (.int .i64 x) := by
  have h := (Kd.R_celln (0 : Int) HS.out.h3 0 (by decide) (by exact_mod_cast hpos)).1
  rw [HQ0.out] at h
  simpa [rdOf] using h
 have HLQ := Aside0.mk (show lb.length - 1 ≤ 1000000 from by have h2 := HLQ1.out; rw [HQ0.out]; simpa using h2)
 have hl0 : ((lb.length : Int) == 0) = false := by rw [beq_eq_false_iff_ne]; omega
 have hl1 : (1 : Int) ≤ (lb.length : Int) := by omega
 by_cases hc1 : co3 = 1
 all_goals
  first | rw [if_pos hc1] at hT | rw [if_neg hc1] at hT
  have HT := Aside0.mk hT
  clear hT
  try subst hc1
  go_wp2_with (first | (go_at_call 35; ((with_reducible refine (spec_l18Act.l01In_q 1 0 1 true _ HI.out).mono ?_); rintro e w' ⟨rfl, rfl⟩)) | (go_at_call 35; ((with_reducible refine (spec_l18Act.l01In_q 5 1 5 true _ HI2.out).mono ?_); rintro e w' ⟨rfl, rfl⟩)) | ((with_reducible refine gate_dst (N := 52) rfl ?_); refine Kd.R_lit (Kd.int .i64) _ 3 ?hg (N := 52) ?hd (xs := ([] : List Int)) (inner := []) (ok := fun _ => True) (okp := fun _ => True) ?hr ?hp (fun _ hk => hk) trivial (Below.refl _ _) (Nat.le_refl _) (by simp) ?_; (case hd => rfl); (case hg => rfl); (case hr => first | (go_simp; done) | (go_simp; rfl)); (case hp => exact (Reps.none _ _)); intro v52 w6 ho7 hb hg_ hnew_; clear hg_ hnew_; have hX : Below W.heap.size W w6 := below_then (by with_reducible (repeat (first | exact Below.refl _ _ | apply below_alloc | apply pw_below_drewN | apply below_drew1 | refine below_set ?_ (Nat.le_refl _)))) (by simp <;> omega) hb; have HX := Aside0.mk hX; have H52 := Aside0.mk (Kd.R_lower ho7 (by simp <;> omega) : Kd.R (Kd.int .i64) 3 w6 W.heap.size _ _ _); have hE : w6.heap[W.heap.size]? = some (.cells #[.int .i64 5, .int .i64 x] 30 (0, 0)) := blk_below (by first | exact blk_new _ _ | (refine blk_put (cs := #[.int .i64 5, .int .i64 0]) ?_ 1 _ rfl; exact blk_new _ _)) hb; have HE := Aside0.mk hE; clear hE hX ho7 hb) | (at_builtin; refine Kd.R_append_rows (Kd.int .i64) (w0 := W) W.heap.size rfl (.tmp 52) (.tmp 54) 26 3 (.int .i64 0) 8 rfl Try.underlying26 info3 rfl (by decide) (by decide) v52 [] lq _ _ _ (fun _ => True) (fun _ => False) rfl rfl H52.out (Kd.C_below HT.out HX.out) (fun _ _ h => h) (fun _ h => h.elim) (fun _ _ => trivial) HX.out HX.out.size (by have := HLQ.out; simp only [List.length_nil]; omega) ?_; intro v8 w8 ho8 hb8 hg8 hat8; rw [List.nil_append] at ho8; obtain ⟨Aq, cq, e8⟩ := Kd.R_slice ho8; subst e8; have HQ8 := Aside0.mk ho8; have HX2 := Aside0.mk hb8; clear HX; have HX := HX2; clear HX2; have hE := blk_grown HE.out hg8 (Kd.R_ne H52.out HE.out (by decide)); have ke0 := blk_cell hE 0; have ke1 := blk_cell hE 1; clear hE HE H52 ho8 hb8 hg8 hat8) | (go_at_call 39; ((with_reducible refine (spec_l18Step.calls k _ _ _ nx sent code _ HST.out).mono ?_); rintro e w2 ⟨v5, rfl, h5, hbel⟩; obtain ⟨Ao5, co5, e5⟩ := Kd.R_slice h5; subst e5; have hB2 : Below W.heap.size W w2 := below_then HX.out (HX.out.size) hbel; have HS2 := Aside0.mk (HS.out.below hB2); have HQ := Aside0.mk (Kd.R_mono (Kd.R_lower (Kd.R_below (Kd.R_new' HQ8.out (Kd.R_lt HS.out.h2)) hbel) HS.out.hb.size) (fun _ hk => hk.2) : Kd.R (Kd.int .i64) 3 w2 w.heap.size (fun k => some k ≠ ((.slice Ao2 la.length co2) : Value).ownBlock) _ lq); have HO := Aside0.mk (Kd.R_mono (Kd.R_elder' HS.out.h2 (fun k hk => Kd.R_base HQ8.out k hk) hB2) (fun _ hk => hk.2) : Kd.R (Kd.int .i64) 3 w2 w.heap.size (fun k => some k ≠ (Value.slice Aq lq.length cq).ownBlock) _ la); have H5 := Aside0.mk (Kd.R_lower h5 (by have := HS.out.hb.size; have := HX.out.size; omega) : Kd.R (Kd.int .i64) 3 w2 w.heap.size _ _ sent); clear h5 hbel hB2 kq; clear kw0 kw1 kw2 kw3 kw4 ka0 ka1 kp0 fp0 kr0 fr0 kp1 fp1 kr1 fr1 kp2 fp2 kr2 fr2 kp3 fp3 kr3 fr3 kp4 fp4 kr4 fr4 hlt lt0 lt1 lt2; have kw0 := blk_cell HS2.out.hw 0; have kw1 := blk_cell HS2.out.hw 1; have kw2 := blk_cell HS2.out.hw 2; have kw3 := blk_cell HS2.out.hw 3; have kw4 := blk_cell HS2.out.hw 4; have ka0 := blk_cell HS2.out.ha 0; have ka1 := blk_cell HS2.out.ha 1; have kp0 := blk_cell HS2.out.hp 0; have fp0 := blk_frozen HS2.out.hp 0; have kp1 := blk_cell HS2.out.hp 1; have fp1 := blk_frozen HS2.out.hp 1; have kp2 := blk_cell HS2.out.hp 2; have fp2 := blk_frozen HS2.out.hp 2; have kp3 := blk_cell HS2.out.hp 3; have fp3 := blk_frozen HS2.out.hp 3; have kp4 := blk_cell HS2.out.hp 4; have fp4 := blk_frozen HS2.out.hp 4; have kr0 := blk_cell HS2.out.hr 0; have fr0 := blk_frozen HS2.out.hr 0; have kr1 := blk_cell HS2.out.hr 1; have fr1 := blk_frozen HS2.out.hr 1; have kr2 := blk_cell HS2.out.hr 2; have fr2 := blk_frozen HS2.out.hr 2; have kr3 := blk_cell HS2.out.hr 3; have fr3 := blk_frozen HS2.out.hr 3; have kr4 := blk_cell HS2.out.hr 4; have fr4 := blk_frozen HS2.out.hr 4; have hlt := blk_lt HS2.out.hp; have lt0 := blk_lt HS2.out.hw; have lt1 := blk_lt HS2.out.ha; have lt2 := blk_lt HS2.out.hr)))
  go_loopg [13] sent.length (fun gk v13 w' => ∃ (j : Nat) (p4 : Int) (vo : Value), j ≤ sent.length ∧ gk = sent.length - j ∧ v13 = .int .i64 j ∧ 0 ≤ p4 ∧ p4 ≤ 1000 ∧ Aside0 (spec_l18Act.resets (sent.drop j) p4 = R') ∧ Aside0 (spec_l18Act.LA w w' g A B R 1 5 A2 A3 c2 c3 la lb A B p4 (.slice Ao2 la.length co2) vo la lb) ∧ Aside0 (Kd.R (Kd.int .i64) 3 w' w.heap.size (fun _ => True) (.slice Ao5 sent.length co5) sent) ∧ Aside0 (Kd.R (Kd.int .i64) 3 w' w.heap.size (fun k => some k ≠ ((.slice Ao2 la.length co2) : Value).ownBlock) (.slice Aq lq.length cq) lq) ∧ Aside0 (Kd.R (Kd.int .i64) 3 w' w.heap.size (fun k => some k ≠ (Value.slice Aq lq.length cq).ownBlock) (.slice Ao2 la.length co2) la))
  case atStart => exact ⟨0, R, _, by omega, by omega, rfl, hR0, hR1, ⟨by rw [List.drop_zero]; exact HRS.out⟩, HS2, H5, HQ, HO⟩
  case round =>
   clear HS HS2 H5 HQ HO
   obtain ⟨j, p4, vo, hj, hgk, rfl, hp0, hp1, HRj, HS2, H5, HQ, HO⟩ := hrel
   have HGK := Aside0.mk hgk
   clear hgk
   have kw0 := blk_cell HS2.out.hw 0; have kw1 := blk_cell HS2.out.hw 1; have kw2 := blk_cell HS2.out.hw 2; have kw3 := blk_cell HS2.out.hw 3; have kw4 := blk_cell HS2.out.hw 4; have ka0 := blk_cell HS2.out.ha 0; have ka1 := blk_cell HS2.out.ha 1; have kp0 := blk_cell HS2.out.hp 0; have fp0 := blk_frozen HS2.out.hp 0; have kp1 := blk_cell HS2.out.hp 1; have fp1 := blk_frozen HS2.out.hp 1; have kp2 := blk_cell HS2.out.hp 2; have fp2 := blk_frozen HS2.out.hp 2; have kp3 := blk_cell HS2.out.hp 3; have fp3 := blk_frozen HS2.out.hp 3; have kp4 := blk_cell HS2.out.hp 4; have fp4 := blk_frozen HS2.out.hp 4; have kr0 := blk_cell HS2.out.hr 0; have fr0 := blk_frozen HS2.out.hr 0; have kr1 := blk_cell HS2.out.hr 1; have fr1 := blk_frozen HS2.out.hr 1; have kr2 := blk_cell HS2.out.hr 2; have fr2 := blk_frozen HS2.out.hr 2; have kr3 := blk_cell HS2.out.hr 3; have fr3 := blk_frozen HS2.out.hr 3; have kr4 := blk_cell HS2.out.hr 4; have fr4 := blk_frozen HS2.out.hr 4; have hlt := blk_lt HS2.out.hp; have lt0 := blk_lt HS2.out.hw; have lt1 := blk_lt HS2.out.ha; have lt2 := blk_lt HS2.out.hr; have lt5 : ∀ k, (Value.slice Ao5 sent.length co5).ownBlock = some k → k < wr.heap.size := Kd.R_lt H5.out; have HLT5 := Aside0.mk lt5; clear lt5
   by_cases hlt_ : j < sent.length
   ·have hlt2 : (j : Int) < (sent.length : Int) := by omega
    have HLJ := Aside0.mk hlt_
    have hsl : sent.length ≤ 1000000 := by have := HLN.out; omega
    obtain ⟨ad, e5, hx⟩ := Kd.at_int (Kd.R_reads' H5.out).2.2 (j : Int) (by omega) hlt2
    cases e5
    have hrd : rd sent (j : Int) = sent[j] := by simp [rd, List.getD_eq_getElem?_getD, List.getElem?_eq_getElem hlt_]
    rw [hrd, Int.toNat_natCast] at hx
    have hR' := HRj.out
    rw [List.drop_eq_getElem_cons hlt_, spec_l18Act.resets] at hR'
    clear HRj hrd
    by_cases h8 : sent[j] = 8
    ·have h8b : (sent[j] == 8) = true := by simpa using h8
     rw [if_pos h8] at hR'
     have HRj := Aside0.mk hR'
     generalize sent[j] = sj at *
     clear h8 hR'
     obtain ⟨p5, hp5⟩ : ∃ p5 : Int, (if p4 + 1 < 1000 then p4 + 1 else 1000) = p5 := ⟨_, rfl⟩
     rw [hp5] at HRj
     have b5 : 0 ≤ p5 ∧ p5 ≤ 1000 := by rw [← hp5]; split <;> omega
     go_wp2
     go_roundg (sent.length - (j + 1))
     case rel => exact ⟨j + 1, p5, _, by have := HLJ.out; omega, rfl, by go_num, b5.1, b5.2, HRj, ⟨HS2.out.set4 p5⟩, ⟨Kd.R_set H5.out HS2.out.hp (by decide) _ _⟩, ⟨Kd.R_set HQ.out HS2.out.hp (by decide) _ _⟩, ⟨Kd.R_set HO.out HS2.out.hp (by decide) _ _⟩⟩
     case measure => have := HGK.out; have := HLJ.out; omega
    ·have h8b : (sent[j] == 8) = false := by simpa using h8
     rw [if_neg h8] at hR'
     have HRj := Aside0.mk hR'
     generalize sent[j] = sj at *
     clear h8 hR'
     go_wp2
     go_roundg (sent.length - (j + 1))
     case rel => exact ⟨j + 1, p4, _, by have := HLJ.out; omega, rfl, by go_num, hp0, hp1, HRj, HS2, H5, HQ, HO⟩
     case measure => have := HGK.out; have := HLJ.out; omega
   ·obtain rfl : j = sent.length := by omega
    have hR' := HRj.out
    rw [List.drop_length, spec_l18Act.resets] at hR'
    subst hR'
    clear HRj HGK hj hlt_
    go_upto_region 27 with (fail)
    refine spec_l18Act.wp_gen8 (fun W' => (spec_l18Act.LA w W' g A B R 1 5 A2 A3 c2 c3 la lb A nx p4 (.slice Ao2 la.length co2) (.slice Aq lq.length cq) la lq) ∧ Kd.R (Kd.int .i64) 3 W' w.heap.size (fun _ => True) (.slice Ao5 sent.length co5) sent) ⟨?_, ?_⟩ ?_
    case refine_1 => exact (HS2.out.set1 nx).set3 (Kd.R_set HQ.out HS2.out.hp (by decide) _ _) (Kd.R_set HO.out HS2.out.hp (by decide) _ _)
    case refine_2 => exact Kd.R_set (Kd.R_set H5.out HS2.out.hp (by decide) _ _) (HS2.out.set1 nx).hp (by decide) _ _
    rintro Wa ⟨hSa, h5a⟩
    clear kw0 kw1 kw2 kw3 kw4 ka0 ka1 kp0 fp0 kr0 fr0 kp1 fp1 kr1 fr1 kp2 fp2 kr2 fr2 kp3 fp3 kr3 fr3 kp4 fp4 kr4 fr4 hlt lt0 lt1 lt2
    clear HS2 H5 HQ HO HLT5
    have HS2 := Aside0.mk hSa
    have H5 := Aside0.mk h5a
    clear hSa h5a
    have kw0 := blk_cell HS2.out.hw 0; have kw1 := blk_cell HS2.out.hw 1; have kw2 := blk_cell HS2.out.hw 2; have kw3 := blk_cell HS2.out.hw 3; have kw4 := blk_cell HS2.out.hw 4; have ka0 := blk_cell HS2.out.ha 0; have ka1 := blk_cell HS2.out.ha 1; have kp0 := blk_cell HS2.out.hp 0; have fp0 := blk_frozen HS2.out.hp 0; have kp1 := blk_cell HS2.out.hp 1; have fp1 := blk_frozen HS2.out.hp 1; have kp2 := blk_cell HS2.out.hp 2; have fp2 := blk_frozen HS2.out.hp 2; have kp3 := blk_cell HS2.out.hp 3; have fp3 := blk_frozen HS2.out.hp 3; have kp4 := blk_cell HS2.out.hp 4; have fp4 := blk_frozen HS2.out.hp 4; have kr0 := blk_cell HS2.out.hr 0; have fr0 := blk_frozen HS2.out.hr 0; have kr1 := blk_cell HS2.out.hr 1; have fr1 := blk_frozen HS2.out.hr 1; have kr2 := blk_cell HS2.out.hr 2; have fr2 := blk_frozen HS2.out.hr 2; have kr3 := blk_cell HS2.out.hr 3; have fr3 := blk_frozen HS2.out.hr 3; have kr4 := blk_cell HS2.out.hr 4; have fr4 := blk_frozen HS2.out.hr 4; have hlt := blk_lt HS2.out.hp; have lt0 := blk_lt HS2.out.hw; have lt1 := blk_lt HS2.out.ha; have lt2 := blk_lt HS2.out.hr
    go_upto_region 28 with (at_builtin; refine Kd.R_append_rows (Kd.int .i64) (w0 := w) w.heap.size rfl (.tmp 96) (.tmp 97) 26 3 (.int .i64 0) 8 rfl Try.underlying26 info3 rfl (by decide) (by decide) (.slice Ao2 la.length co2) la sent _ _ _ (fun k_ => some k_ ≠ ((.slice Aq lq.length cq) : Value).ownBlock) (fun _ => False) rfl rfl HS2.out.h2 (Kd.R_reads' H5.out).2.2 (fun _ _ h => h) (fun _ h => h.elim) (fun k hk he => by have := Kd.R_lt HS2.out.h3 k he.symm; omega) HS2.out.hb HS2.out.hb.size (by have := HLN.out; omega) ?_; intro v9 w9 ho9 hb9 hg9 hat9; obtain ⟨Ao9, co9, e9⟩ := Kd.R_slice ho9; rw [List.length_append] at e9; subst e9; have HA := Aside0.mk (HS2.out.app2 ho9 hb9 hg9 hat9); have g2 := blk_grown HS2.out.hp hg9 (Kd.R_ne HS2.out.h2 HS2.out.hp (by decide)); have kg := blk_cell g2 2; have fg := blk_frozen g2 2; clear g2 ho9 hb9 hg9 hat9)
    refine spec_l18Act.wp_gen8 (fun W' => spec_l18Act.LA w W' g A B R 1 5 A2 A3 c2 c3 la lb A nx p4 (.slice Ao9 (la.length + sent.length) co9) (.slice Aq lq.length cq) (la ++ sent) lq) HA.out ?_
    rintro Wb hSb
    clear kw0 kw1 kw2 kw3 kw4 ka0 ka1 kp0 fp0 kr0 fr0 kp1 fp1 kr1 fr1 kp2 fp2 kr2 fr2 kp3 fp3 kr3 fr3 kp4 fp4 kr4 fr4 hlt lt0 lt1 lt2
    clear HS2 H5 HA kg fg
    have hln2 : (la ++ sent).length = la.length + sent.length := List.length_append
    have HLN2 := Aside0.mk hln2
    clear hln2
    generalize hnn : la.length + sent.length = nn at *
    have HMM := Aside0.mk hnn
    clear hnn
    have HS2 := Aside0.mk hSb
    clear hSb
    have kw0 := blk_cell HS2.out.hw 0; have kw1 := blk_cell HS2.out.hw 1; have kw2 := blk_cell HS2.out.hw 2; have kw3 := blk_cell HS2.out.hw 3; have kw4 := blk_cell HS2.out.hw 4; have ka0 := blk_cell HS2.out.ha 0; have ka1 := blk_cell HS2.out.ha 1; have kp0 := blk_cell HS2.out.hp 0; have fp0 := blk_frozen HS2.out.hp 0; have kp1 := blk_cell HS2.out.hp 1; have fp1 := blk_frozen HS2.out.hp 1; have kp2 := blk_cell HS2.out.hp 2; have fp2 := blk_frozen HS2.out.hp 2; have kp3 := blk_cell HS2.out.hp 3; have fp3 := blk_frozen HS2.out.hp 3; have kp4 := blk_cell HS2.out.hp 4; have fp4 := blk_frozen HS2.out.hp 4; have kr0 := blk_cell HS2.out.hr 0; have fr0 := blk_frozen HS2.out.hr 0; have kr1 := blk_cell HS2.out.hr 1; have fr1 := blk_frozen HS2.out.hr 1; have kr2 := blk_cell HS2.out.hr 2; have fr2 := blk_frozen HS2.out.hr 2; have kr3 := blk_cell HS2.out.hr 3; have fr3 := blk_frozen HS2.out.hr 3; have kr4 := blk_cell HS2.out.hr 4; have fr4 := blk_frozen HS2.out.hr 4; have hlt := blk_lt HS2.out.hp; have lt0 := blk_lt HS2.out.hw; have lt1 := blk_lt HS2.out.ha; have lt2 := blk_lt HS2.out.hr
    have o1 : decide ((200 : Int) < (nn : Int)) = false := decide_eq_false (by have := HO1.out; have := HLN2.out; omega)
    have o2 : decide ((200 : Int) < (lq.length : Int)) = false := decide_eq_false (by have := HO2.out; have := HLN2.out; omega)
    have o3 : decide (200 < nn) = false := decide_eq_false (by have := HO1.out; have := HLN2.out; omega)
    have o4 : decide (200 < lq.length) = false := decide_eq_false (by have := HO2.out; have := HLN2.out; omega)
    go_wp2
    exact bodyPost_ret (results_ct rfl _ _ (w.heap.size + 2) 37 #[.int .i64 A, .int .i64 nx, .slice Ao9 nn co9, .slice Aq lq.length cq, .int .i64 p4] (0, 0) _ rfl (spec_l18Act.LA.fin (HS2.out) (.int .i64 A) (.int .i64 nx) (.slice Ao9 nn co9) (.slice Aq lq.length cq) (.int .i64 p4)).hr Try.underlying37 rfl (by kernel_rfl)) rfl ⟨_, _, rfl, (spec_l18Act.LA.fin (HS2.out) (.int .i64 A) (.int .i64 nx) (.slice Ao9 nn co9) (.slice Aq lq.length cq) (.int .i64 p4)).h2, (spec_l18Act.LA.fin (HS2.out) (.int .i64 A) (.int .i64 nx) (.slice Ao9 nn co9) (.slice Aq lq.length cq) (.int .i64 p4)).h3, (spec_l18Act.LA.fin (HS2.out) (.int .i64 A) (.int .i64 nx) (.slice Ao9 nn co9) (.slice Aq lq.length cq) (.int .i64 p4)).hb⟩
set_option maxHeartbeats 4000000 in
set_option maxRecDepth 100000 in
theorem spec_l18Act.l18_s1a (A B R x nx code R' : Int) (A2 A3 : Option Addr) (c2 c3 : Nat) (la lb : List Int) (w : World) (hr2 : Kd.C (Kd.int .i64) w A2 la.length la) (hc2 : la.length ≤ c2) (hr3 : Kd.C (Kd.int .i64) w A3 lb.length lb) (hc3 : lb.length ≤ c3) (hf : spec_l18Own.f A B la lb R = some (A, B, la, lb, R)) (k : Nat) (sent lq : List Int) (hi : spec_l01In.f 1 0 1 = some true) (hi2 : spec_l01In.f 5 1 5 = some true) (hq : lb = x :: lq) (hlq : lq.length ≤ 1000000) (hst : spec_l18Step.f k B 5 x = some (nx, sent, code)) (hrs : spec_l18Act.resets sent R = R') (hR0 : 0 ≤ R) (hR1 : R ≤ 1000) (hln : la.length + sent.length ≤ 1000000) (ho1 : 200 < ((la ++ sent).length)) : Calls Try.prog 41 #[.agg #[.int .i64 A, .int .i64 B, .slice A2 la.length c2, .slice A3 lb.length c3, .int .i64 R], .agg #[.int .i64 1, .int .i64 5]] w (spec_l18Act.L18Post w A B la lb R 7) := by
 have HI := Aside0.mk hi
 have HI2 := Aside0.mk hi2
 have HST := Aside0.mk hst
 have HRS := Aside0.mk hrs
 have HLN := Aside0.mk hln
 have HO1 := Aside0.mk ho1
 have HQ0 := Aside0.mk hq
 have HLQ1 := Aside0.mk hlq
 clear hi hi2 hst hrs hln ho1 hq hlq
 have hu37 := Try.underlying37
 have hu34 := Try.underlying34
 have hu30 := Try.underlying30
 have HR2 := Aside0.mk hr2
 have HR3 := Aside0.mk hr3
 have HC2 := Aside0.mk hc2
 have HC3 := Aside0.mk hc3
 have HF := Aside0.mk hf
 clear hr2 hr3 hc2 hc3 hf
 go_enter Try.func41, Try.ntmps41
 go_upto_region 2 with (go_at_call 42; (with_reducible refine (spec_l18Own.calls A B A2 c2 la A3 c3 lb R A B la lb R _ (Kd.C_below HR2.out ?hq2) HC2.out (Kd.C_below HR3.out ?hq3) HC3.out ?hf).mono ?_); (case hq2 => repeat (first | exact Below.refl _ _ | apply below_alloc)); (case hq3 => repeat (first | exact Below.refl _ _ | apply below_alloc)); (case hf => exact HF.out); rintro e w1 ⟨v2, v3, rfl, h2, h3, hbel⟩; obtain ⟨Ao2, co2, e2⟩ := Kd.R_slice h2; subst e2; obtain ⟨Ao3, co3, e3⟩ := Kd.R_slice h3; subst e3; have HB1 := Aside0.mk hbel; have H2 := Aside0.mk h2; have H3 := Aside0.mk h3; clear hbel h2 h3)
 refine spec_l18Act.wp_gen8 (fun W => spec_l18Act.LA w W w1.heap.size A B R 1 5 A2 A3 c2 c3 la lb A B R (.slice Ao2 la.length co2) (.slice Ao3 lb.length co3) la lb) ⟨?_, ?_, ?_, ?_, ?_, ?_, ?_, ?_⟩ ?_
 case refine_1 => exact blk_alloc (blk_below (blk_alloc (blk_alloc (blk_new _ _) _) _) HB1.out) _
 case refine_2 => exact blk_alloc (blk_below (blk_alloc (spec_l18Act.blk_new_at8 _ _ _ (by simp)) _) HB1.out) _
 case refine_3 => exact blk_alloc (blk_below (spec_l18Act.blk_new_at8 _ _ _ (by simp)) HB1.out) _
 case refine_4 => exact blk_new _ _
 case refine_5 => have := HB1.out.size; simp at this; omega
 case refine_6 => exact Kd.R_alloc (Kd.R_lower H2.out (by simp; omega)) _
 case refine_7 => exact Kd.R_alloc (Kd.R_lower H3.out (by simp; omega)) _
 case refine_8 => exact below_alloc (below_then (by repeat (first | exact Below.refl _ _ | apply below_alloc)) (by simp; omega) HB1.out) _
 generalize w1.heap.size = g
 clear H2 H3 HB1
 rintro W hS
 have HS := Aside0.mk hS
 have kw0 := blk_cell hS.hw 0; have kw1 := blk_cell hS.hw 1; have kw2 := blk_cell hS.hw 2; have kw3 := blk_cell hS.hw 3; have kw4 := blk_cell hS.hw 4; have ka0 := blk_cell hS.ha 0; have ka1 := blk_cell hS.ha 1; have kp0 := blk_cell hS.hp 0; have fp0 := blk_frozen hS.hp 0; have kp1 := blk_cell hS.hp 1; have fp1 := blk_frozen hS.hp 1; have kp2 := blk_cell hS.hp 2; have fp2 := blk_frozen hS.hp 2; have kp3 := blk_cell hS.hp 3; have fp3 := blk_frozen hS.hp 3; have kp4 := blk_cell hS.hp 4; have fp4 := blk_frozen hS.hp 4; have kr0 := blk_cell hS.hr 0; have fr0 := blk_frozen hS.hr 0; have kr1 := blk_cell hS.hr 1; have fr1 := blk_frozen hS.hr 1; have kr2 := blk_cell hS.hr 2; have fr2 := blk_frozen hS.hr 2; have kr3 := blk_cell hS.hr 3; have fr3 := blk_frozen hS.hr 3; have kr4 := blk_cell hS.hr 4; have fr4 := blk_frozen hS.hr 4; have hg := hS.hg; have hlt := blk_lt hS.hp; have lt0 := blk_lt hS.hw; have lt1 := blk_lt hS.ha; have lt2 := blk_lt hS.hr
 clear hS
 have hpos : 0 < lb.length := by rw [HQ0.out]; simp
 obtain ⟨gq, cq0, e2, _, hgq, _⟩ := Kd.R_form HS.out.h3 hpos
 simp only [Value.slice.injEq, true_and] at e2
 obtain ⟨rfl, rfl⟩ := e2
 have hT : Kd.C (Kd.int .i64) W (if co3 = 1 then some ⟨gq, 0, none⟩ else some ⟨gq, 1, none⟩) (lb.length - 1) lq := by
  have h := (Kd.Q_reads' (Kd.Q_drop (Kd.Q_of_R HS.out.h3) (k := 1) (show 1 ≤ lb.length from hpos))).2.2
  rw [HQ0.out] at h ⊢
  simpa [Addr.add, Kd.int, Kd.scalar] using h
 have kq : W.cell? ⟨gq, 0, none⟩ = some (.int .i64 x) := by
  have h := (Kd.R_celln (0 : Int) HS.out.h3 0 (by decide) (by exact_mod_cast hpos)).1
  rw [HQ0.out] at h
  simpa [rdOf] using h
 have HLQ := Aside0.mk (show lb.length - 1 ≤ 1000000 from by have h2 := HLQ1.out; rw [HQ0.out]; simpa using h2)
 have hl0 : ((lb.length : Int) == 0) = false := by rw [beq_eq_false_iff_ne]; omega
 have hl1 : (1 : Int) ≤ (lb.length : Int) := by omega
 by_cases hc1 : co3 = 1
 all_goals
  first | rw [if_pos hc1] at hT | rw [if_neg hc1] at hT
  have HT := Aside0.mk hT
  clear hT
  try subst hc1
  go_wp2_with (first | (go_at_call 35; ((with_reducible refine (spec_l18Act.l01In_q 1 0 1 true _ HI.out).mono ?_); rintro e w' ⟨rfl, rfl⟩)) | (go_at_call 35; ((with_reducible refine (spec_l18Act.l01In_q 5 1 5 true _ HI2.out).mono ?_); rintro e w' ⟨rfl, rfl⟩)) | ((with_reducible refine gate_dst (N := 52) rfl ?_); refine Kd.R_lit (Kd.int .i64) _ 3 ?hg (N := 52) ?hd (xs := ([] : List Int)) (inner := []) (ok := fun _ => True) (okp := fun _ => True) ?hr ?hp (fun _ hk => hk) trivial (Below.refl _ _) (Nat.le_refl _) (by simp) ?_; (case hd => rfl); (case hg => rfl); (case hr => first | (go_simp; done) | (go_simp; rfl)); (case hp => exact (Reps.none _ _)); intro v52 w6 ho7 hb hg_ hnew_; clear hg_ hnew_; have hX : Below W.heap.size W w6 := below_then (by with_reducible (repeat (first | exact Below.refl _ _ | apply below_alloc | apply pw_below_drewN | apply below_drew1 | refine below_set ?_ (Nat.le_refl _)))) (by simp <;> omega) hb; have HX := Aside0.mk hX; have H52 := Aside0.mk (Kd.R_lower ho7 (by simp <;> omega) : Kd.R (Kd.int .i64) 3 w6 W.heap.size _ _ _); have hE : w6.heap[W.heap.size]? = some (.cells #[.int .i64 5, .int .i64 x] 30 (0, 0)) := blk_below (by first | exact blk_new _ _ | (refine blk_put (cs := #[.int .i64 5, .int .i64 0]) ?_ 1 _ rfl; exact blk_new _ _)) hb; have HE := Aside0.mk hE; clear hE hX ho7 hb) | (at_builtin; refine Kd.R_append_rows (Kd.int .i64) (w0 := W) W.heap.size rfl (.tmp 52) (.tmp 54) 26 3 (.int .i64 0) 8 rfl Try.underlying26 info3 rfl (by decide) (by decide) v52 [] lq _ _ _ (fun _ => True) (fun _ => False) rfl rfl H52.out (Kd.C_below HT.out HX.out) (fun _ _ h => h) (fun _ h => h.elim) (fun _ _ => trivial) HX.out HX.out.size (by have := HLQ.out; simp only [List.length_nil]; omega) ?_; intro v8 w8 ho8 hb8 hg8 hat8; rw [List.nil_append] at ho8; obtain ⟨Aq, cq, e8⟩ := Kd.R_slice ho8; subst e8; have HQ8 := Aside0.mk ho8; have HX2 := Aside0.mk hb8; clear HX; have HX := HX2; clear HX2; have hE := blk_grown HE.out hg8 (Kd.R_ne H52.out HE.out (by decide)); have ke0 := blk_cell hE 0; have ke1 := blk_cell hE 1; clear hE HE H52 ho8 hb8 hg8 hat8) | (go_at_call 39; ((with_reducible refine (spec_l18Step.calls k _ _ _ nx sent code _ HST.out).mono ?_); rintro e w2 ⟨v5, rfl, h5, hbel⟩; obtain ⟨Ao5, co5, e5⟩ := Kd.R_slice h5; subst e5; have hB2 : Below W.heap.size W w2 := below_then HX.out (HX.out.size) hbel; have HS2 := Aside0.mk (HS.out.below hB2); have HQ := Aside0.mk (Kd.R_mono (Kd.R_lower (Kd.R_below (Kd.R_new' HQ8.out (Kd.R_lt HS.out.h2)) hbel) HS.out.hb.size) (fun _ hk => hk.2) : Kd.R (Kd.int .i64) 3 w2 w.heap.size (fun k => some k ≠ ((.slice Ao2 la.length co2) : Value).ownBlock) _ lq); have HO := Aside0.mk (Kd.R_mono (Kd.R_elder' HS.out.h2 (fun k hk => Kd.R_base HQ8.out k hk) hB2) (fun _ hk => hk.2) : Kd.R (Kd.int .i64) 3 w2 w.heap.size (fun k => some k ≠ (Value.slice Aq lq.length cq).ownBlock) _ la); have H5 := Aside0.mk (Kd.R_lower h5 (by have := HS.out.hb.size; have := HX.out.size; omega) : Kd.R (Kd.int .i64) 3 w2 w.heap.size _ _ sent); clear h5 hbel hB2 kq; clear kw0 kw1 kw2 kw3 kw4 ka0 ka1 kp0 fp0 kr0 fr0 kp1 fp1 kr1 fr1 kp2 fp2 kr2 fr2 kp3 fp3 kr3 fr3 kp4 fp4 kr4 fr4 hlt lt0 lt1 lt2; have kw0 := blk_cell HS2.out.hw 0; have kw1 := blk_cell HS2.out.hw 1; have kw2 := blk_cell HS2.out.hw 2; have kw3 := blk_cell HS2.out.hw 3; have kw4 := blk_cell HS2.out.hw 4; have ka0 := blk_cell HS2.out.ha 0; have ka1 := blk_cell HS2.out.ha 1; have kp0 := blk_cell HS2.out.hp 0; have fp0 := blk_frozen HS2.out.hp 0; have kp1 := blk_cell HS2.out.hp 1; have fp1 := blk_frozen HS2.out.hp 1; have kp2 := blk_cell HS2.out.hp 2; have fp2 := blk_frozen HS2.out.hp 2; have kp3 := blk_cell HS2.out.hp 3; have fp3 := blk_frozen HS2.out.hp 3; have kp4 := blk_cell HS2.out.hp 4; have fp4 := blk_frozen HS2.out.hp 4; have kr0 := blk_cell HS2.out.hr 0; have fr0 := blk_frozen HS2.out.hr 0; have kr1 := blk_cell HS2.out.hr 1; have fr1 := blk_frozen HS2.out.hr 1; have kr2 := blk_cell HS2.out.hr 2; have fr2 := blk_frozen HS2.out.hr 2; have kr3 := blk_cell HS2.out.hr 3; have fr3 := blk_frozen HS2.out.hr 3; have kr4 := blk_cell HS2.out.hr 4; have fr4 := blk_frozen HS2.out.hr 4; have hlt := blk_lt HS2.out.hp; have lt0 := blk_lt HS2.out.hw; have lt1 := blk_lt HS2.out.ha; have lt2 := blk_lt HS2.out.hr)))
  go_loopg [13] sent.length (fun gk v13 w' => ∃ (j : Nat) (p4 : Int) (vo : Value), j ≤ sent.length ∧ gk = sent.length - j ∧ v13 = .int .i64 j ∧ 0 ≤ p4 ∧ p4 ≤ 1000 ∧ Aside0 (spec_l18Act.resets (sent.drop j) p4 = R') ∧ Aside0 (spec_l18Act.LA w w' g A B R 1 5 A2 A3 c2 c3 la lb A B p4 (.slice Ao2 la.length co2) vo la lb) ∧ Aside0 (Kd.R (Kd.int .i64) 3 w' w.heap.size (fun _ => True) (.slice Ao5 sent.length co5) sent) ∧ Aside0 (Kd.R (Kd.int .i64) 3 w' w.heap.size (fun k => some k ≠ ((.slice Ao2 la.length co2) : Value).ownBlock) (.slice Aq lq.length cq) lq) ∧ Aside0 (Kd.R (Kd.int .i64) 3 w' w.heap.size (fun k => some k ≠ (Value.slice Aq lq.length cq).ownBlock) (.slice Ao2 la.length co2) la))
  case atStart => exact ⟨0, R, _, by omega, by omega, rfl, hR0, hR1, ⟨by rw [List.drop_zero]; exact HRS.out⟩, HS2, H5, HQ, HO⟩
  case round =>
   clear HS HS2 H5 HQ HO
   obtain ⟨j, p4, vo, hj, hgk, rfl, hp0, hp1, HRj, HS2, H5, HQ, HO⟩ := hrel
   have HGK := Aside0.mk hgk
   clear hgk
   have kw0 := blk_cell HS2.out.hw 0; have kw1 := blk_cell HS2.out.hw 1; have kw2 := blk_cell HS2.out.hw 2; have kw3 := blk_cell HS2.out.hw 3; have kw4 := blk_cell HS2.out.hw 4; have ka0 := blk_cell HS2.out.ha 0; have ka1 := blk_cell HS2.out.ha 1; have kp0 := blk_cell HS2.out.hp 0; have fp0 := blk_frozen HS2.out.hp 0; have kp1 := blk_cell HS2.out.hp 1; have fp1 := blk_frozen HS2.out.hp 1; have kp2 := blk_cell HS2.out.hp 2; have fp2 := blk_frozen HS2.out.hp 2; have kp3 := blk_cell HS2.out.hp 3; have fp3 := blk_frozen HS2.out.hp 3; have kp4 := blk_cell HS2.out.hp 4; have fp4 := blk_frozen HS2.out.hp 4; have kr0 := blk_cell HS2.out.hr 0; have fr0 := blk_frozen HS2.out.hr 0; have kr1 := blk_cell HS2.out.hr 1; have fr1 := blk_frozen HS2.out.hr 1; have kr2 := blk_cell HS2.out.hr 2; have fr2 := blk_frozen HS2.out.hr 2; have kr3 := blk_cell HS2.out.hr 3; have fr3 := blk_frozen HS2.out.hr 3; have kr4 := blk_cell HS2.out.hr 4; have fr4 := blk_frozen HS2.out.hr 4; have hlt := blk_lt HS2.out.hp; have lt0 := blk_lt HS2.out.hw; have lt1 := blk_lt HS2.out.ha; have lt2 := blk_lt HS2.out.hr; have lt5 : ∀ k, (Value.slice Ao5 sent.length co5).ownBlock = some k → k < wr.heap.size := Kd.R_lt H5.out; have HLT5 := Aside0.mk lt5; clear lt5
   by_cases hlt_ : j < sent.length
   ·have hlt2 : (j : Int) < (sent.length : Int) := by omega
    have HLJ := Aside0.mk hlt_
    have hsl : sent.length ≤ 1000000 := by have := HLN.out; omega
    obtain ⟨ad, e5, hx⟩ := Kd.at_int (Kd.R_reads' H5.out).2.2 (j : Int) (by omega) hlt2
    cases e5
    have hrd : rd sent (j : Int) = sent[j] := by simp [rd, List.getD_eq_getElem?_getD, List.getElem?_eq_getElem hlt_]
    rw [hrd, Int.toNat_natCast] at hx
    have hR' := HRj.out
    rw [List.drop_eq_getElem_cons hlt_, spec_l18Act.resets] at hR'
    clear HRj hrd
    by_cases h8 : sent[j] = 8
    ·have h8b : (sent[j] == 8) = true := by simpa using h8
     rw [if_pos h8] at hR'
     have HRj := Aside0.mk hR'
     generalize sent[j] = sj at *
     clear h8 hR'
     obtain ⟨p5, hp5⟩ : ∃ p5 : Int, (if p4 + 1 < 1000 then p4 + 1 else 1000) = p5 := ⟨_, rfl⟩
     rw [hp5] at HRj
     have b5 : 0 ≤ p5 ∧ p5 ≤ 1000 := by rw [← hp5]; split <;> omega
     go_wp2
     go_roundg (sent.length - (j + 1))
     case rel => exact ⟨j + 1, p5, _, by have := HLJ.out; omega, rfl, by go_num, b5.1, b5.2, HRj, ⟨HS2.out.set4 p5⟩, ⟨Kd.R_set H5.out HS2.out.hp (by decide) _ _⟩, ⟨Kd.R_set HQ.out HS2.out.hp (by decide) _ _⟩, ⟨Kd.R_set HO.out HS2.out.hp (by decide) _ _⟩⟩
     case measure => have := HGK.out; have := HLJ.out; omega
    ·have h8b : (sent[j] == 8) = false := by simpa using h8
     rw [if_neg h8] at hR'
     have HRj := Aside0.mk hR'
     generalize sent[j] = sj at *
     clear h8 hR'
     go_wp2
     go_roundg (sent.length - (j + 1))
     case rel => exact ⟨j + 1, p4, _, by have := HLJ.out; omega, rfl, by go_num, hp0, hp1, HRj, HS2, H5, HQ, HO⟩
     case measure => have := HGK.out; have := HLJ.out; omega
   ·obtain rfl : j = sent.length := by omega
    have hR' := HRj.out
    rw [List.drop_length, spec_l18Act.resets] at hR'
    subst hR'
    clear HRj HGK hj hlt_
    go_upto_region 27 with (fail)
    refine spec_l18Act.wp_gen8 (fun W' => (spec_l18Act.LA w W' g A B R 1 5 A2 A3 c2 c3 la lb A nx p4 (.slice Ao2 la.length co2) (.slice Aq lq.length cq) la lq) ∧ Kd.R (Kd.int .i64) 3 W' w.heap.size (fun _ => True) (.slice Ao5 sent.length co5) sent) ⟨?_, ?_⟩ ?_
    case refine_1 => exact (HS2.out.set1 nx).set3 (Kd.R_set HQ.out HS2.out.hp (by decide) _ _) (Kd.R_set HO.out HS2.out.hp (by decide) _ _)
    case refine_2 => exact Kd.R_set (Kd.R_set H5.out HS2.out.hp (by decide) _ _) (HS2.out.set1 nx).hp (by decide) _ _
    rintro Wa ⟨hSa, h5a⟩
    clear kw0 kw1 kw2 kw3 kw4 ka0 ka1 kp0 fp0 kr0 fr0 kp1 fp1 kr1 fr1 kp2 fp2 kr2 fr2 kp3 fp3 kr3 fr3 kp4 fp4 kr4 fr4 hlt lt0 lt1 lt2
    clear HS2 H5 HQ HO HLT5
    have HS2 := Aside0.mk hSa
    have H5 := Aside0.mk h5a
    clear hSa h5a
    have kw0 := blk_cell HS2.out.hw 0; have kw1 := blk_cell HS2.out.hw 1; have kw2 := blk_cell HS2.out.hw 2; have kw3 := blk_cell HS2.out.hw 3; have kw4 := blk_cell HS2.out.hw 4; have ka0 := blk_cell HS2.out.ha 0; have ka1 := blk_cell HS2.out.ha 1; have kp0 := blk_cell HS2.out.hp 0; have fp0 := blk_frozen HS2.out.hp 0; have kp1 := blk_cell HS2.out.hp 1; have fp1 := blk_frozen HS2.out.hp 1; have kp2 := blk_cell HS2.out.hp 2; have fp2 := blk_frozen HS2.out.hp 2; have kp3 := blk_cell HS2.out.hp 3; have fp3 := blk_frozen HS2.out.hp 3; have kp4 := blk_cell HS2.out.hp 4; have fp4 := blk_frozen HS2.out.hp 4; have kr0 := blk_cell HS2.out.hr 0; have fr0 := blk_frozen HS2.out.hr 0; have kr1 := blk_cell HS2.out.hr 1; have fr1 := blk_frozen HS2.out.hr 1; have kr2 := blk_cell HS2.out.hr 2; have fr2 := blk_frozen HS2.out.hr 2; have kr3 := blk_cell HS2.out.hr 3; have fr3 := blk_frozen HS2.out.hr 3; have kr4 := blk_cell HS2.out.hr 4; have fr4 := blk_frozen HS2.out.hr 4; have hlt := blk_lt HS2.out.hp; have lt0 := blk_lt HS2.out.hw; have lt1 := blk_lt HS2.out.ha; have lt2 := blk_lt HS2.out.hr
    go_upto_region 28 with (at_builtin; refine Kd.R_append_rows (Kd.int .i64) (w0 := w) w.heap.size rfl (.tmp 96) (.tmp 97) 26 3 (.int .i64 0) 8 rfl Try.underlying26 info3 rfl (by decide) (by decide) (.slice Ao2 la.length co2) la sent _ _ _ (fun k_ => some k_ ≠ ((.slice Aq lq.length cq) : Value).ownBlock) (fun _ => False) rfl rfl HS2.out.h2 (Kd.R_reads' H5.out).2.2 (fun _ _ h => h) (fun _ h => h.elim) (fun k hk he => by have := Kd.R_lt HS2.out.h3 k he.symm; omega) HS2.out.hb HS2.out.hb.size (by have := HLN.out; omega) ?_; intro v9 w9 ho9 hb9 hg9 hat9; obtain ⟨Ao9, co9, e9⟩ := Kd.R_slice ho9; rw [List.length_append] at e9; subst e9; have HA := Aside0.mk (HS2.out.app2 ho9 hb9 hg9 hat9); have g2 := blk_grown HS2.out.hp hg9 (Kd.R_ne HS2.out.h2 HS2.out.hp (by decide)); have kg := blk_cell g2 2; have fg := blk_frozen g2 2; clear g2 ho9 hb9 hg9 hat9)
    refine spec_l18Act.wp_gen8 (fun W' => spec_l18Act.LA w W' g A B R 1 5 A2 A3 c2 c3 la lb A nx p4 (.slice Ao9 (la.length + sent.length) co9) (.slice Aq lq.length cq) (la ++ sent) lq) HA.out ?_
    rintro Wb hSb
    clear kw0 kw1 kw2 kw3 kw4 ka0 ka1 kp0 fp0 kr0 fr0 kp1 fp1 kr1 fr1 kp2 fp2 kr2 fr2 kp3 fp3 kr3 fr3 kp4 fp4 kr4 fr4 hlt lt0 lt1 lt2
    clear HS2 H5 HA kg fg
    have hln2 : (la ++ sent).length = la.length + sent.length := List.length_append
    have HLN2 := Aside0.mk hln2
    clear hln2
    generalize hnn : la.length + sent.length = nn at *
    have HMM := Aside0.mk hnn
    clear hnn
    have HS2 := Aside0.mk hSb
    clear hSb
    have kw0 := blk_cell HS2.out.hw 0; have kw1 := blk_cell HS2.out.hw 1; have kw2 := blk_cell HS2.out.hw 2; have kw3 := blk_cell HS2.out.hw 3; have kw4 := blk_cell HS2.out.hw 4; have ka0 := blk_cell HS2.out.ha 0; have ka1 := blk_cell HS2.out.ha 1; have kp0 := blk_cell HS2.out.hp 0; have fp0 := blk_frozen HS2.out.hp 0; have kp1 := blk_cell HS2.out.hp 1; have fp1 := blk_frozen HS2.out.hp 1; have kp2 := blk_cell HS2.out.hp 2; have fp2 := blk_frozen HS2.out.hp 2; have kp3 := blk_cell HS2.out.hp 3; have fp3 := blk_frozen HS2.out.hp 3; have kp4 := blk_cell HS2.out.hp 4; have fp4 := blk_frozen HS2.out.hp 4; have kr0 := blk_cell HS2.out.hr 0; have fr0 := blk_frozen HS2.out.hr 0; have kr1 := blk_cell HS2.out.hr 1; have fr1 := blk_frozen HS2.out.hr 1; have kr2 := blk_cell HS2.out.hr 2; have fr2 := blk_frozen HS2.out.hr 2; have kr3 := blk_cell HS2.out.hr 3; have fr3 := blk_frozen HS2.out.hr 3; have kr4 := blk_cell HS2.out.hr 4; have fr4 := blk_frozen HS2.out.hr 4; have hlt := blk_lt HS2.out.hp; have lt0 := blk_lt HS2.out.hw; have lt1 := blk_lt HS2.out.ha; have lt2 := blk_lt HS2.out.hr
    have o1 : decide ((200 : Int) < (nn : Int)) = true := decide_eq_true (by have := HO1.out; have := HLN2.out; omega)
    have o3 : decide (200 < nn) = true := decide_eq_true (by have := HO1.out; have := HLN2.out; omega)
    go_wp2_with (go_at_call 42; (with_reducible refine (spec_l18Own.calls A B A2 c2 la A3 c3 lb R A B la lb R _ (Kd.C_below HR2.out ?hq2) HC2.out (Kd.C_below HR3.out ?hq3) HC3.out ?hf).mono ?_); (case hq2 => exact HS2.out.hb); (case hq3 => exact HS2.out.hb); (case hf => exact HF.out); rintro e w1 ⟨v2, v3, rfl, h2, h3, hbel⟩; obtain ⟨Ap2, cp2, e2⟩ := Kd.R_slice h2; subst e2; obtain ⟨Ap3, cp3, e3⟩ := Kd.R_slice h3; subst e3; have HB1 := Aside0.mk hbel; have H2 := Aside0.mk h2; have H3 := Aside0.mk h3; have hrz := blk_below HS2.out.hr hbel; have kr0_ := blk_cell hrz 0; have fr0_ := blk_frozen hrz 0; have kr1_ := blk_cell hrz 1; have fr1_ := blk_frozen hrz 1; have kr2_ := blk_cell hrz 2; have fr2_ := blk_frozen hrz 2; have kr3_ := blk_cell hrz 3; have fr3_ := blk_frozen hrz 3; have kr4_ := blk_cell hrz 4; have fr4_ := blk_frozen hrz 4; have HZ := Aside0.mk hrz; clear hrz; clear hbel h2 h3)
    exact bodyPost_ret (results_ct rfl _ _ (w.heap.size + 2) 37 #[.int .i64 A, .int .i64 B, .slice Ap2 la.length cp2, .slice Ap3 lb.length cp3, .int .i64 R] (0, 0) _ rfl (spec_l18Act.fin0 HZ.out (Kd.R_lower H2.out HS2.out.hb.size) (Kd.R_lower H3.out HS2.out.hb.size) (below_then HS2.out.hb HS2.out.hb.size HB1.out) (.int .i64 A) (.int .i64 B) (.slice Ap2 la.length cp2) (.slice Ap3 lb.length cp3) (.int .i64 R)).hr Try.underlying37 rfl (by kernel_rfl)) rfl ⟨_, _, rfl, (spec_l18Act.fin0 HZ.out (Kd.R_lower H2.out HS2.out.hb.size) (Kd.R_lower H3.out HS2.out.hb.size) (below_then HS2.out.hb HS2.out.hb.size HB1.out) (.int .i64 A) (.int .i64 B) (.slice Ap2 la.length cp2) (.slice Ap3 lb.length cp3) (.int .i64 R)).h2, (spec_l18Act.fin0 HZ.out (Kd.R_lower H2.out HS2.out.hb.size) (Kd.R_lower H3.out HS2.out.hb.size) (below_then HS2.out.hb HS2.out.hb.size HB1.out) (.int .i64 A) (.int .i64 B) (.slice Ap2 la.length cp2) (.slice Ap3 lb.length cp3) (.int .i64 R)).h3, (spec_l18Act.fin0 HZ.out (Kd.R_lower H2.out HS2.out.hb.size) (Kd.R_lower H3.out HS2.out.hb.size) (below_then HS2.out.hb HS2.out.hb.size HB1.out) (.int .i64 A) (.int .i64 B) (.slice Ap2 la.length cp2) (.slice Ap3 lb.length cp3) (.int .i64 R)).hb⟩
set_option maxHeartbeats 4000000 in
set_option maxRecDepth 100000 in
theorem spec_l18Act.l18_s1b (A B R x nx code R' : Int) (A2 A3 : Option Addr) (c2 c3 : Nat) (la lb : List Int) (w : World) (hr2 : Kd.C (Kd.int .i64) w A2 la.length la) (hc2 : la.length ≤ c2) (hr3 : Kd.C (Kd.int .i64) w A3 lb.length lb) (hc3 : lb.length ≤ c3) (hf : spec_l18Own.f A B la lb R = some (A, B, la, lb, R)) (k : Nat) (sent lq : List Int) (hi : spec_l01In.f 1 0 1 = some true) (hi2 : spec_l01In.f 5 1 5 = some true) (hq : lb = x :: lq) (hlq : lq.length ≤ 1000000) (hst : spec_l18Step.f k B 5 x = some (nx, sent, code)) (hrs : spec_l18Act.resets sent R = R') (hR0 : 0 ≤ R) (hR1 : R ≤ 1000) (hln : la.length + sent.length ≤ 1000000) (ho1 : ((la ++ sent).length) ≤ 200) (ho2 : 200 < (lq.length)) : Calls Try.prog 41 #[.agg #[.int .i64 A, .int .i64 B, .slice A2 la.length c2, .slice A3 lb.length c3, .int .i64 R], .agg #[.int .i64 1, .int .i64 5]] w (spec_l18Act.L18Post w A B la lb R 7) := by
 have HI := Aside0.mk hi
 have HI2 := Aside0.mk hi2
 have HST := Aside0.mk hst
 have HRS := Aside0.mk hrs
 have HLN := Aside0.mk hln
 have HO1 := Aside0.mk ho1
 have HO2 := Aside0.mk ho2
 have HQ0 := Aside0.mk hq
 have HLQ1 := Aside0.mk hlq
 clear hi hi2 hst hrs hln ho1 ho2 hq hlq
 have hu37 := Try.underlying37
 have hu34 := Try.underlying34
 have hu30 := Try.underlying30
 have HR2 := Aside0.mk hr2
 have HR3 := Aside0.mk hr3
 have HC2 := Aside0.mk hc2
 have HC3 := Aside0.mk hc3
 have HF := Aside0.mk hf
 clear hr2 hr3 hc2 hc3 hf
 go_enter Try.func41, Try.ntmps41
 go_upto_region 2 with (go_at_call 42; (with_reducible refine (spec_l18Own.calls A B A2 c2 la A3 c3 lb R A B la lb R _ (Kd.C_below HR2.out ?hq2) HC2.out (Kd.C_below HR3.out ?hq3) HC3.out ?hf).mono ?_); (case hq2 => repeat (first | exact Below.refl _ _ | apply below_alloc)); (case hq3 => repeat (first | exact Below.refl _ _ | apply below_alloc)); (case hf => exact HF.out); rintro e w1 ⟨v2, v3, rfl, h2, h3, hbel⟩; obtain ⟨Ao2, co2, e2⟩ := Kd.R_slice h2; subst e2; obtain ⟨Ao3, co3, e3⟩ := Kd.R_slice h3; subst e3; have HB1 := Aside0.mk hbel; have H2 := Aside0.mk h2; have H3 := Aside0.mk h3; clear hbel h2 h3)
 refine spec_l18Act.wp_gen8 (fun W => spec_l18Act.LA w W w1.heap.size A B R 1 5 A2 A3 c2 c3 la lb A B R (.slice Ao2 la.length co2) (.slice Ao3 lb.length co3) la lb) ⟨?_, ?_, ?_, ?_, ?_, ?_, ?_, ?_⟩ ?_
 case refine_1 => exact blk_alloc (blk_below (blk_alloc (blk_alloc (blk_new _ _) _) _) HB1.out) _
 case refine_2 => exact blk_alloc (blk_below (blk_alloc (spec_l18Act.blk_new_at8 _ _ _ (by simp)) _) HB1.out) _
 case refine_3 => exact blk_alloc (blk_below (spec_l18Act.blk_new_at8 _ _ _ (by simp)) HB1.out) _
 case refine_4 => exact blk_new _ _
 case refine_5 => have := HB1.out.size; simp at this; omega
 case refine_6 => exact Kd.R_alloc (Kd.R_lower H2.out (by simp; omega)) _
 case refine_7 => exact Kd.R_alloc (Kd.R_lower H3.out (by simp; omega)) _
 case refine_8 => exact below_alloc (below_then (by repeat (first | exact Below.refl _ _ | apply below_alloc)) (by simp; omega) HB1.out) _
 generalize w1.heap.size = g
 clear H2 H3 HB1
 rintro W hS
 have HS := Aside0.mk hS
 have kw0 := blk_cell hS.hw 0; have kw1 := blk_cell hS.hw 1; have kw2 := blk_cell hS.hw 2; have kw3 := blk_cell hS.hw 3; have kw4 := blk_cell hS.hw 4; have ka0 := blk_cell hS.ha 0; have ka1 := blk_cell hS.ha 1; have kp0 := blk_cell hS.hp 0; have fp0 := blk_frozen hS.hp 0; have kp1 := blk_cell hS.hp 1; have fp1 := blk_frozen hS.hp 1; have kp2 := blk_cell hS.hp 2; have fp2 := blk_frozen hS.hp 2; have kp3 := blk_cell hS.hp 3; have fp3 := blk_frozen hS.hp 3; have kp4 := blk_cell hS.hp 4; have fp4 := blk_frozen hS.hp 4; have kr0 := blk_cell hS.hr 0; have fr0 := blk_frozen hS.hr 0; have kr1 := blk_cell hS.hr 1; have fr1 := blk_frozen hS.hr 1; have kr2 := blk_cell hS.hr 2; have fr2 := blk_frozen hS.hr 2; have kr3 := blk_cell hS.hr 3; have fr3 := blk_frozen hS.hr 3; have kr4 := blk_cell hS.hr 4; have fr4 := blk_frozen hS.hr 4; have hg := hS.hg; have hlt := blk_lt hS.hp; have lt0 := blk_lt hS.hw; have lt1 := blk_lt hS.ha; have lt2 := blk_lt hS.hr
 clear hS
 have hpos : 0 < lb.length := by rw [HQ0.out]; simp
 obtain ⟨gq, cq0, e2, _, hgq, _⟩ := Kd.R_form HS.out.h3 hpos
 simp only [Value.slice.injEq, true_and] at e2
 obtain ⟨rfl, rfl⟩ := e2
 have hT : Kd.C (Kd.int .i64) W (if co3 = 1 then some ⟨gq, 0, none⟩ else some ⟨gq, 1, none⟩) (lb.length - 1) lq := by
  have h := (Kd.Q_reads' (Kd.Q_drop (Kd.Q_of_R HS.out.h3) (k := 1) (show 1 ≤ lb.length from hpos))).2.2
  rw [HQ0.out] at h ⊢
  simpa [Addr.add, Kd.int, Kd.scalar] using h
 have kq : W.cell? ⟨gq, 0, none⟩ = some (.int .i64 x) := by
  have h := (Kd.R_celln (0 : Int) HS.out.h3 0 (by decide) (by exact_mod_cast hpos)).1
  rw [HQ0.out] at h
  simpa [rdOf] using h
 have HLQ := Aside0.mk (show lb.length - 1 ≤ 1000000 from by have h2 := HLQ1.out; rw [HQ0.out]; simpa using h2)
 have hl0 : ((lb.length : Int) == 0) = false := by rw [beq_eq_false_iff_ne]; omega
 have hl1 : (1 : Int) ≤ (lb.length : Int) := by omega
 by_cases hc1 : co3 = 1
 all_goals
  first | rw [if_pos hc1] at hT | rw [if_neg hc1] at hT
  have HT := Aside0.mk hT
  clear hT
  try subst hc1
  go_wp2_with (first | (go_at_call 35; ((with_reducible refine (spec_l18Act.l01In_q 1 0 1 true _ HI.out).mono ?_); rintro e w' ⟨rfl, rfl⟩)) | (go_at_call 35; ((with_reducible refine (spec_l18Act.l01In_q 5 1 5 true _ HI2.out).mono ?_); rintro e w' ⟨rfl, rfl⟩)) | ((with_reducible refine gate_dst (N := 52) rfl ?_); refine Kd.R_lit (Kd.int .i64) _ 3 ?hg (N := 52) ?hd (xs := ([] : List Int)) (inner := []) (ok := fun _ => True) (okp := fun _ => True) ?hr ?hp (fun _ hk => hk) trivial (Below.refl _ _) (Nat.le_refl _) (by simp) ?_; (case hd => rfl); (case hg => rfl); (case hr => first | (go_simp; done) | (go_simp; rfl)); (case hp => exact (Reps.none _ _)); intro v52 w6 ho7 hb hg_ hnew_; clear hg_ hnew_; have hX : Below W.heap.size W w6 := below_then (by with_reducible (repeat (first | exact Below.refl _ _ | apply below_alloc | apply pw_below_drewN | apply below_drew1 | refine below_set ?_ (Nat.le_refl _)))) (by simp <;> omega) hb; have HX := Aside0.mk hX; have H52 := Aside0.mk (Kd.R_lower ho7 (by simp <;> omega) : Kd.R (Kd.int .i64) 3 w6 W.heap.size _ _ _); have hE : w6.heap[W.heap.size]? = some (.cells #[.int .i64 5, .int .i64 x] 30 (0, 0)) := blk_below (by first | exact blk_new _ _ | (refine blk_put (cs := #[.int .i64 5, .int .i64 0]) ?_ 1 _ rfl; exact blk_new _ _)) hb; have HE := Aside0.mk hE; clear hE hX ho7 hb) | (at_builtin; refine Kd.R_append_rows (Kd.int .i64) (w0 := W) W.heap.size rfl (.tmp 52) (.tmp 54) 26 3 (.int .i64 0) 8 rfl Try.underlying26 info3 rfl (by decide) (by decide) v52 [] lq _ _ _ (fun _ => True) (fun _ => False) rfl rfl H52.out (Kd.C_below HT.out HX.out) (fun _ _ h => h) (fun _ h => h.elim) (fun _ _ => trivial) HX.out HX.out.size (by have := HLQ.out; simp only [List.length_nil]; omega) ?_; intro v8 w8 ho8 hb8 hg8 hat8; rw [List.nil_append] at ho8; obtain ⟨Aq, cq, e8⟩ := Kd.R_slice ho8; subst e8; have HQ8 := Aside0.mk ho8; have HX2 := Aside0.mk hb8; clear HX; have HX := HX2; clear HX2; have hE := blk_grown HE.out hg8 (Kd.R_ne H52.out HE.out (by decide)); have ke0 := blk_cell hE 0; have ke1 := blk_cell hE 1; clear hE HE H52 ho8 hb8 hg8 hat8) | (go_at_call 39; ((with_reducible refine (spec_l18Step.calls k _ _ _ nx sent code _ HST.out).mono ?_); rintro e w2 ⟨v5, rfl, h5, hbel⟩; obtain ⟨Ao5, co5, e5⟩ := Kd.R_slice h5; subst e5; have hB2 : Below W.heap.size W w2 := below_then HX.out (HX.out.size) hbel; have HS2 := Aside0.mk (HS.out.below hB2); have HQ := Aside0.mk (Kd.R_mono (Kd.R_lower (Kd.R_below (Kd.R_new' HQ8.out (Kd.R_lt HS.out.h2)) hbel) HS.out.hb.size) (fun _ hk => hk.2) : Kd.R (Kd.int .i64) 3 w2 w.heap.size (fun k => some k ≠ ((.slice Ao2 la.length co2) : Value).ownBlock) _ lq); have HO := Aside0.mk (Kd.R_mono (Kd.R_elder' HS.out.h2 (fun k hk => Kd.R_base HQ8.out k hk) hB2) (fun _ hk => hk.2) : Kd.R (Kd.int .i64) 3 w2 w.heap.size (fun k => some k ≠ (Value.slice Aq lq.length cq).ownBlock) _ la); have H5 := Aside0.mk (Kd.R_lower h5 (by have := HS.out.hb.size; have := HX.out.size; omega) : Kd.R (Kd.int .i64) 3 w2 w.heap.size _ _ sent); clear h5 hbel hB2 kq; clear kw0 kw1 kw2 kw3 kw4 ka0 ka1 kp0 fp0 kr0 fr0 kp1 fp1 kr1 fr1 kp2 fp2 kr2 fr2 kp3 fp3 kr3 fr3 kp4 fp4 kr4 fr4 hlt lt0 lt1 lt2; have kw0 := blk_cell HS2.out.hw 0; have kw1 := blk_cell HS2.out.hw 1; have kw2 := blk_cell HS2.out.hw 2; have kw3 := blk_cell HS2.out.hw 3; have kw4 := blk_cell HS2.out.hw 4; have ka0 := blk_cell HS2.out.ha 0; have ka1 := blk_cell HS2.out.ha 1; have kp0 := blk_cell HS2.out.hp 0; have fp0 := blk_frozen HS2.out.hp 0; have kp1 := blk_cell HS2.out.hp 1; have fp1 := blk_frozen HS2.out.hp 1; have kp2 := blk_cell HS2.out.hp 2; have fp2 := blk_frozen HS2.out.hp 2; have kp3 := blk_cell HS2.out.hp 3; have fp3 := blk_frozen HS2.out.hp 3; have kp4 := blk_cell HS2.out.hp 4; have fp4 := blk_frozen HS2.out.hp 4; have kr0 := blk_cell HS2.out.hr 0; have fr0 := blk_frozen HS2.out.hr 0; have kr1 := blk_cell HS2.out.hr 1; have fr1 := blk_frozen HS2.out.hr 1; have kr2 := blk_cell HS2.out.hr 2; have fr2 := blk_frozen HS2.out.hr 2; have kr3 := blk_cell HS2.out.hr 3; have fr3 := blk_frozen HS2.out.hr 3; have kr4 := blk_cell HS2.out.hr 4; have fr4 := blk_frozen HS2.out.hr 4; have hlt := blk_lt HS2.out.hp; have lt0 := blk_lt HS2.out.hw; have lt1 := blk_lt HS2.out.ha; have lt2 := blk_lt HS2.out.hr)))
  go_loopg [13] sent.length (fun gk v13 w' => ∃ (j : Nat) (p4 : Int) (vo : Value), j ≤ sent.length ∧ gk = sent.length - j ∧ v13 = .int .i64 j ∧ 0 ≤ p4 ∧ p4 ≤ 1000 ∧ Aside0 (spec_l18Act.resets (sent.drop j) p4 = R') ∧ Aside0 (spec_l18Act.LA w w' g A B R 1 5 A2 A3 c2 c3 la lb A B p4 (.slice Ao2 la.length co2) vo la lb) ∧ Aside0 (Kd.R (Kd.int .i64) 3 w' w.heap.size (fun _ => True) (.slice Ao5 sent.length co5) sent) ∧ Aside0 (Kd.R (Kd.int .i64) 3 w' w.heap.size (fun k => some k ≠ ((.slice Ao2 la.length co2) : Value).ownBlock) (.slice Aq lq.length cq) lq) ∧ Aside0 (Kd.R (Kd.int .i64) 3 w' w.heap.size (fun k => some k ≠ (Value.slice Aq lq.length cq).ownBlock) (.slice Ao2 la.length co2) la))
  case atStart => exact ⟨0, R, _, by omega, by omega, rfl, hR0, hR1, ⟨by rw [List.drop_zero]; exact HRS.out⟩, HS2, H5, HQ, HO⟩
  case round =>
   clear HS HS2 H5 HQ HO
   obtain ⟨j, p4, vo, hj, hgk, rfl, hp0, hp1, HRj, HS2, H5, HQ, HO⟩ := hrel
   have HGK := Aside0.mk hgk
   clear hgk
   have kw0 := blk_cell HS2.out.hw 0; have kw1 := blk_cell HS2.out.hw 1; have kw2 := blk_cell HS2.out.hw 2; have kw3 := blk_cell HS2.out.hw 3; have kw4 := blk_cell HS2.out.hw 4; have ka0 := blk_cell HS2.out.ha 0; have ka1 := blk_cell HS2.out.ha 1; have kp0 := blk_cell HS2.out.hp 0; have fp0 := blk_frozen HS2.out.hp 0; have kp1 := blk_cell HS2.out.hp 1; have fp1 := blk_frozen HS2.out.hp 1; have kp2 := blk_cell HS2.out.hp 2; have fp2 := blk_frozen HS2.out.hp 2; have kp3 := blk_cell HS2.out.hp 3; have fp3 := blk_frozen HS2.out.hp 3; have kp4 := blk_cell HS2.out.hp 4; have fp4 := blk_frozen HS2.out.hp 4; have kr0 := blk_cell HS2.out.hr 0; have fr0 := blk_frozen HS2.out.hr 0; have kr1 := blk_cell HS2.out.hr 1; have fr1 := blk_frozen HS2.out.hr 1; have kr2 := blk_cell HS2.out.hr 2; have fr2 := blk_frozen HS2.out.hr 2; have kr3 := blk_cell HS2.out.hr 3; have fr3 := blk_frozen HS2.out.hr 3; have kr4 := blk_cell HS2.out.hr 4; have fr4 := blk_frozen HS2.out.hr 4; have hlt := blk_lt HS2.out.hp; have lt0 := blk_lt HS2.out.hw; have lt1 := blk_lt HS2.out.ha; have lt2 := blk_lt HS2.out.hr; have lt5 : ∀ k, (Value.slice Ao5 sent.length co5).ownBlock = some k → k < wr.heap.size := Kd.R_lt H5.out; have HLT5 := Aside0.mk lt5; clear lt5
   by_cases hlt_ : j < sent.length
   ·have hlt2 : (j : Int) < (sent.length : Int) := by omega
    have HLJ := Aside0.mk hlt_
    have hsl : sent.length ≤ 1000000 := by have := HLN.out; omega
    obtain ⟨ad, e5, hx⟩ := Kd.at_int (Kd.R_reads' H5.out).2.2 (j : Int) (by omega) hlt2
    cases e5
    have hrd : rd sent (j : Int) = sent[j] := by simp [rd, List.getD_eq_getElem?_getD, List.getElem?_eq_getElem hlt_]
    rw [hrd, Int.toNat_natCast] at hx
    have hR' := HRj.out
    rw [List.drop_eq_getElem_cons hlt_, spec_l18Act.resets] at hR'
    clear HRj hrd
    by_cases h8 : sent[j] = 8
    ·have h8b : (sent[j] == 8) = true := by simpa using h8
     rw [if_pos h8] at hR'
     have HRj := Aside0.mk hR'
     generalize sent[j] = sj at *
     clear h8 hR'
     obtain ⟨p5, hp5⟩ : ∃ p5 : Int, (if p4 + 1 < 1000 then p4 + 1 else 1000) = p5 := ⟨_, rfl⟩
     rw [hp5] at HRj
     have b5 : 0 ≤ p5 ∧ p5 ≤ 1000 := by rw [← hp5]; split <;> omega
     go_wp2
     go_roundg (sent.length - (j + 1))
     case rel => exact ⟨j + 1, p5, _, by have := HLJ.out; omega, rfl, by go_num, b5.1, b5.2, HRj, ⟨HS2.out.set4 p5⟩, ⟨Kd.R_set H5.out HS2.out.hp (by decide) _ _⟩, ⟨Kd.R_set HQ.out HS2.out.hp (by decide) _ _⟩, ⟨Kd.R_set HO.out HS2.out.hp (by decide) _ _⟩⟩
     case measure => have := HGK.out; have := HLJ.out; omega
    ·have h8b : (sent[j] == 8) = false := by simpa using h8
     rw [if_neg h8] at hR'
     have HRj := Aside0.mk hR'
     generalize sent[j] = sj at *
     clear h8 hR'
     go_wp2
     go_roundg (sent.length - (j + 1))
     case rel => exact ⟨j + 1, p4, _, by have := HLJ.out; omega, rfl, by go_num, hp0, hp1, HRj, HS2, H5, HQ, HO⟩
     case measure => have := HGK.out; have := HLJ.out; omega
   ·obtain rfl : j = sent.length := by omega
    have hR' := HRj.out
    rw [List.drop_length, spec_l18Act.resets] at hR'
    subst hR'
    clear HRj HGK hj hlt_
    go_upto_region 27 with (fail)
    refine spec_l18Act.wp_gen8 (fun W' => (spec_l18Act.LA w W' g A B R 1 5 A2 A3 c2 c3 la lb A nx p4 (.slice Ao2 la.length co2) (.slice Aq lq.length cq) la lq) ∧ Kd.R (Kd.int .i64) 3 W' w.heap.size (fun _ => True) (.slice Ao5 sent.length co5) sent) ⟨?_, ?_⟩ ?_
    case refine_1 => exact (HS2.out.set1 nx).set3 (Kd.R_set HQ.out HS2.out.hp (by decide) _ _) (Kd.R_set HO.out HS2.out.hp (by decide) _ _)
    case refine_2 => exact Kd.R_set (Kd.R_set H5.out HS2.out.hp (by decide) _ _) (HS2.out.set1 nx).hp (by decide) _ _
    rintro Wa ⟨hSa, h5a⟩
    clear kw0 kw1 kw2 kw3 kw4 ka0 ka1 kp0 fp0 kr0 fr0 kp1 fp1 kr1 fr1 kp2 fp2 kr2 fr2 kp3 fp3 kr3 fr3 kp4 fp4 kr4 fr4 hlt lt0 lt1 lt2
    clear HS2 H5 HQ HO HLT5
    have HS2 := Aside0.mk hSa
    have H5 := Aside0.mk h5a
    clear hSa h5a
    have kw0 := blk_cell HS2.out.hw 0; have kw1 := blk_cell HS2.out.hw 1; have kw2 := blk_cell HS2.out.hw 2; have kw3 := blk_cell HS2.out.hw 3; have kw4 := blk_cell HS2.out.hw 4; have ka0 := blk_cell HS2.out.ha 0; have ka1 := blk_cell HS2.out.ha 1; have kp0 := blk_cell HS2.out.hp 0; have fp0 := blk_frozen HS2.out.hp 0; have kp1 := blk_cell HS2.out.hp 1; have fp1 := blk_frozen HS2.out.hp 1; have kp2 := blk_cell HS2.out.hp 2; have fp2 := blk_frozen HS2.out.hp 2; have kp3 := blk_cell HS2.out.hp 3; have fp3 := blk_frozen HS2.out.hp 3; have kp4 := blk_cell HS2.out.hp 4; have fp4 := blk_frozen HS2.out.hp 4; have kr0 := blk_cell HS2.out.hr 0; have fr0 := blk_frozen HS2.out.hr 0; have kr1 := blk_cell HS2.out.hr 1; have fr1 := blk_frozen HS2.out.hr 1; have kr2 := blk_cell HS2.out.hr 2; have fr2 := blk_frozen HS2.out.hr 2; have kr3 := blk_cell HS2.out.hr 3; have fr3 := blk_frozen HS2.out.hr 3; have kr4 := blk_cell HS2.out.hr 4; have fr4 := blk_frozen HS2.out.hr 4; have hlt := blk_lt HS2.out.hp; have lt0 := blk_lt HS2.out.hw; have lt1 := blk_lt HS2.out.ha; have lt2 := blk_lt HS2.out.hr
    go_upto_region 28 with (at_builtin; refine Kd.R_append_rows (Kd.int .i64) (w0 := w) w.heap.size rfl (.tmp 96) (.tmp 97) 26 3 (.int .i64 0) 8 rfl Try.underlying26 info3 rfl (by decide) (by decide) (.slice Ao2 la.length co2) la sent _ _ _ (fun k_ => some k_ ≠ ((.slice Aq lq.length cq) : Value).ownBlock) (fun _ => False) rfl rfl HS2.out.h2 (Kd.R_reads' H5.out).2.2 (fun _ _ h => h) (fun _ h => h.elim) (fun k hk he => by have := Kd.R_lt HS2.out.h3 k he.symm; omega) HS2.out.hb HS2.out.hb.size (by have := HLN.out; omega) ?_; intro v9 w9 ho9 hb9 hg9 hat9; obtain ⟨Ao9, co9, e9⟩ := Kd.R_slice ho9; rw [List.length_append] at e9; subst e9; have HA := Aside0.mk (HS2.out.app2 ho9 hb9 hg9 hat9); have g2 := blk_grown HS2.out.hp hg9 (Kd.R_ne HS2.out.h2 HS2.out.hp (by decide)); have kg := blk_cell g2 2; have fg := blk_frozen g2 2; clear g2 ho9 hb9 hg9 hat9)
    refine spec_l18Act.wp_gen8 (fun W' => spec_l18Act.LA w W' g A B R 1 5 A2 A3 c2 c3 la lb A nx p4 (.slice Ao9 (la.length + sent.length) co9) (.slice Aq lq.length cq) (la ++ sent) lq) HA.out ?_
    rintro Wb hSb
    clear kw0 kw1 kw2 kw3 kw4 ka0 ka1 kp0 fp0 kr0 fr0 kp1 fp1 kr1 fr1 kp2 fp2 kr2 fr2 kp3 fp3 kr3 fr3 kp4 fp4 kr4 fr4 hlt lt0 lt1 lt2
    clear HS2 H5 HA kg fg
    have hln2 : (la ++ sent).length = la.length + sent.length := List.length_append
    have HLN2 := Aside0.mk hln2
    clear hln2
    generalize hnn : la.length + sent.length = nn at *
    have HMM := Aside0.mk hnn
    clear hnn
    have HS2 := Aside0.mk hSb
    clear hSb
    have kw0 := blk_cell HS2.out.hw 0; have kw1 := blk_cell HS2.out.hw 1; have kw2 := blk_cell HS2.out.hw 2; have kw3 := blk_cell HS2.out.hw 3; have kw4 := blk_cell HS2.out.hw 4; have ka0 := blk_cell HS2.out.ha 0; have ka1 := blk_cell HS2.out.ha 1; have kp0 := blk_cell HS2.out.hp 0; have fp0 := blk_frozen HS2.out.hp 0; have kp1 := blk_cell HS2.out.hp 1; have fp1 := blk_frozen HS2.out.hp 1; have kp2 := blk_cell HS2.out.hp 2; have fp2 := blk_frozen HS2.out.hp 2; have kp3 := blk_cell HS2.out.hp 3; have fp3 := blk_frozen HS2.out.hp 3; have kp4 := blk_cell HS2.out.hp 4; have fp4 := blk_frozen HS2.out.hp 4; have kr0 := blk_cell HS2.out.hr 0; have fr0 := blk_frozen HS2.out.hr 0; have kr1 := blk_cell HS2.out.hr 1; have fr1 := blk_frozen HS2.out.hr 1; have kr2 := blk_cell HS2.out.hr 2; have fr2 := blk_frozen HS2.out.hr 2; have kr3 := blk_cell HS2.out.hr 3; have fr3 := blk_frozen HS2.out.hr 3; have kr4 := blk_cell HS2.out.hr 4; have fr4 := blk_frozen HS2.out.hr 4; have hlt := blk_lt HS2.out.hp; have lt0 := blk_lt HS2.out.hw; have lt1 := blk_lt HS2.out.ha; have lt2 := blk_lt HS2.out.hr
    have o1 : decide ((200 : Int) < (nn : Int)) = false := decide_eq_false (by have := HO1.out; have := HLN2.out; omega)
    have o2 : decide ((200 : Int) < (lq.length : Int)) = true := decide_eq_true (by have := HO2.out; have := HLN2.out; omega)
    have o3 : decide (200 < nn) = false := decide_eq_false (by have := HO1.out; have := HLN2.out; omega)
    have o4 : decide (200 < lq.length) = true := decide_eq_true (by have := HO2.out; have := HLN2.out; omega)
    go_wp2_with (go_at_call 42; (with_reducible refine (spec_l18Own.calls A B A2 c2 la A3 c3 lb R A B la lb R _ (Kd.C_below HR2.out ?hq2) HC2.out (Kd.C_below HR3.out ?hq3) HC3.out ?hf).mono ?_); (case hq2 => exact HS2.out.hb); (case hq3 => exact HS2.out.hb); (case hf => exact HF.out); rintro e w1 ⟨v2, v3, rfl, h2, h3, hbel⟩; obtain ⟨Ap2, cp2, e2⟩ := Kd.R_slice h2; subst e2; obtain ⟨Ap3, cp3, e3⟩ := Kd.R_slice h3; subst e3; have HB1 := Aside0.mk hbel; have H2 := Aside0.mk h2; have H3 := Aside0.mk h3; have hrz := blk_below HS2.out.hr hbel; have kr0_ := blk_cell hrz 0; have fr0_ := blk_frozen hrz 0; have kr1_ := blk_cell hrz 1; have fr1_ := blk_frozen hrz 1; have kr2_ := blk_cell hrz 2; have fr2_ := blk_frozen hrz 2; have kr3_ := blk_cell hrz 3; have fr3_ := blk_frozen hrz 3; have kr4_ := blk_cell hrz 4; have fr4_ := blk_frozen hrz 4; have HZ := Aside0.mk hrz; clear hrz; clear hbel h2 h3)
    exact bodyPost_ret (results_ct rfl _ _ (w.heap.size + 2) 37 #[.int .i64 A, .int .i64 B, .slice Ap2 la.length cp2, .slice Ap3 lb.length cp3, .int .i64 R] (0, 0) _ rfl (spec_l18Act.fin0 HZ.out (Kd.R_lower H2.out HS2.out.hb.size) (Kd.R_lower H3.out HS2.out.hb.size) (below_then HS2.out.hb HS2.out.hb.size HB1.out) (.int .i64 A) (.int .i64 B) (.slice Ap2 la.length cp2) (.slice Ap3 lb.length cp3) (.int .i64 R)).hr Try.underlying37 rfl (by kernel_rfl)) rfl ⟨_, _, rfl, (spec_l18Act.fin0 HZ.out (Kd.R_lower H2.out HS2.out.hb.size) (Kd.R_lower H3.out HS2.out.hb.size) (below_then HS2.out.hb HS2.out.hb.size HB1.out) (.int .i64 A) (.int .i64 B) (.slice Ap2 la.length cp2) (.slice Ap3 lb.length cp3) (.int .i64 R)).h2, (spec_l18Act.fin0 HZ.out (Kd.R_lower H2.out HS2.out.hb.size) (Kd.R_lower H3.out HS2.out.hb.size) (below_then HS2.out.hb HS2.out.hb.size HB1.out) (.int .i64 A) (.int .i64 B) (.slice Ap2 la.length cp2) (.slice Ap3 lb.length cp3) (.int .i64 R)).h3, (spec_l18Act.fin0 HZ.out (Kd.R_lower H2.out HS2.out.hb.size) (Kd.R_lower H3.out HS2.out.hb.size) (below_then HS2.out.hb HS2.out.hb.size HB1.out) (.int .i64 A) (.int .i64 B) (.slice Ap2 la.length cp2) (.slice Ap3 lb.length cp3) (.int .i64 R)).hb⟩

set_option maxHeartbeats 8000000 in
set_option maxRecDepth 100000 in
theorem spec_l18Act.calls (k : Nat) (a0_0 : Int) (a0_1 : Int) (A0_2 : Option Addr) (c0_2 : Nat) (l0_2 : List Int) (A0_3 : Option Addr) (c0_3 : Nat) (l0_3 : List Int) (a0_4 : Int) (a1_0 : Int) (a1_1 : Int) (r1 : Int) (r2 : Int) (r3 : List Int) (r4 : List Int) (r5 : Int) (r6 : Int) (w : World) (hr0_2 : Kd.C (Kd.int .i64) w A0_2 l0_2.length l0_2) (hc0_2 : l0_2.length ≤ c0_2) (hr0_3 : Kd.C (Kd.int .i64) w A0_3 l0_3.length l0_3) (hc0_3 : l0_3.length ≤ c0_3) (h : spec_l18Act.f k a0_0 a0_1 l0_2 l0_3 a0_4 a1_0 a1_1 = some (r1, r2, r3, r4, r5, r6)) :
  Calls Try.prog 41 #[.agg #[.int .i64 a0_0, .int .i64 a0_1, .slice A0_2 l0_2.length c0_2, .slice A0_3 l0_3.length c0_3, .int .i64 a0_4], .agg #[.int .i64 a1_0, .int .i64 a1_1]] w fun e w' => ∃ v2_ v3_ : Value, e = .returned (.tuple #[.agg #[.int .i64 r1, .int .i64 r2, v2_, v3_, .int .i64 r5], .int .i64 r6]) ∧ Kd.R (Kd.int .i64) 3 w' w.heap.size (fun k_ => some k_ ≠ (v3_ : Value).ownBlock) v2_ r3 ∧ Kd.R (Kd.int .i64) 3 w' w.heap.size (fun k_ => some k_ ≠ (v2_ : Value).ownBlock) v3_ r4 ∧ Below w.heap.size w w' := by
 unfold spec_l18Act.f at h
 by_cases hb : 0 ≤ a0_4 ∧ a0_4 ≤ 1000 ∧ l0_2.length ≤ 1000 ∧ l0_3.length ≤ 1000
 case neg => rw [if_neg hb] at h; cases h
 rw [if_pos hb] at h
 obtain ⟨hR0, hR1, hA1, hB1⟩ := hb
 have hown : spec_l18Own.f a0_0 a0_1 l0_2 l0_3 a0_4 = some (a0_0, a0_1, l0_2, l0_3, a0_4) := by
  unfold spec_l18Own.f
  rw [Option.bind_some, if_pos (by simp; omega), Option.bind_some, if_pos (by simp; omega)]; rfl
 have inr : ∀ a b c : Int, spec_l01In.f a b c = some (decide (b ≤ a ∧ a ≤ c)) := by
  intro a b c
  unfold spec_l01In.f
  by_cases h : a ≥ b <;> simp [h]
 by_cases hv : 0 ≤ a1_0 ∧ a1_0 ≤ 1 ∧ 1 ≤ a1_1 ∧ a1_1 ≤ 5
 case neg =>
  rw [if_neg hv] at h
  simp only [Option.some.injEq, Prod.mk.injEq] at h
  obtain ⟨rfl, rfl, rfl, rfl, rfl, rfl⟩ := h
  by_cases h1 : 0 ≤ a1_0 ∧ a1_0 ≤ 1
  ·exact spec_l18Act.l18_form2 _ _ _ _ _ _ _ _ _ _ _ w hr0_2 hc0_2 hr0_3 hc0_3 hown (by rw [inr, decide_eq_true h1]) (by rw [inr, decide_eq_false (fun h2 => hv ⟨h1.1, h1.2, h2.1, h2.2⟩)])
  ·exact spec_l18Act.l18_form1 _ _ _ _ _ _ _ _ _ _ _ w hr0_2 hc0_2 hr0_3 hc0_3 hown (by rw [inr, decide_eq_false h1])
 rw [if_pos hv] at h
 obtain ⟨v1, v2, v3, v4⟩ := hv
 have hi2 : spec_l01In.f a1_1 1 5 = some true := by rw [inr, decide_eq_true ⟨v3, v4⟩]
 have hi1 : spec_l01In.f a1_0 0 1 = some true := by rw [inr, decide_eq_true ⟨v1, v2⟩]
 by_cases hs0 : a1_0 = 0
 ·rw [if_pos hs0] at h
  subst hs0
  obtain ⟨⟨q1, q2, q3, q4, q5⟩, hc, h⟩ := Option.bind_eq_some_iff.mp h
  simp only [Option.some.injEq, Prod.mk.injEq] at h
  obtain ⟨rfl, rfl, rfl, rfl, rfl, rfl⟩ := h
  unfold spec_l18Act.core at hc
  by_cases hn : a1_1 = 5 ∧ l0_2 = []
  ·rw [if_pos hn] at hc
   obtain ⟨h5, he⟩ := hn
   subst h5
   simp only [Option.some.injEq, Prod.mk.injEq] at hc
   obtain ⟨rfl, rfl, rfl, rfl, rfl⟩ := hc
   exact spec_l18Act.l18_none0 _ _ _ _ _ _ _ _ _ w hr0_2 hc0_2 hr0_3 hc0_3 hown hi1 hi2 he
  rw [if_neg hn] at hc
  obtain ⟨⟨n1, sent, n3⟩, hst, hc⟩ := Option.bind_eq_some_iff.mp hc
  by_cases hs : sent.length ≤ 100000
  case neg => rw [if_neg hs] at hc; cases hc
  rw [if_pos hs] at hc
  dsimp only at hc
  by_cases h5 : a1_1 = 5
  ·subst h5
   simp only [if_true] at hst hc
   obtain ⟨x, lq, hl⟩ : ∃ x lq, l0_2 = x :: lq := by
    cases l0_2 with
    | nil => exact absurd ⟨rfl, rfl⟩ hn
    | cons x lq => exact ⟨x, lq, rfl⟩
   rw [hl, List.headD_cons] at hst
   have hd : l0_2.drop 1 = lq := by rw [hl]; rfl
   rw [hd] at hc
   have hlq : lq.length ≤ 1000000 := by (have : l0_2.length = lq.length + 1 := (by rw [hl]; rfl)); omega
   by_cases ho : 200 < lq.length ∨ 200 < (l0_3 ++ sent).length
   ·rw [if_pos ho] at hc
    simp only [Option.some.injEq, Prod.mk.injEq] at hc
    obtain ⟨rfl, rfl, rfl, rfl, rfl⟩ := hc
    by_cases ho1 : 200 < lq.length
    ·exact spec_l18Act.l18_s0a _ _ _ x n1 n3 _ _ _ _ _ _ _ w hr0_2 hc0_2 hr0_3 hc0_3 hown k sent lq hi1 hi2 hl hlq hst rfl hR0 hR1 (by omega) ho1
    ·exact spec_l18Act.l18_s0b _ _ _ x n1 n3 _ _ _ _ _ _ _ w hr0_2 hc0_2 hr0_3 hc0_3 hown k sent lq hi1 hi2 hl hlq hst rfl hR0 hR1 (by omega) (by omega) (by omega)
   ·rw [if_neg ho] at hc
    simp only [Option.some.injEq, Prod.mk.injEq] at hc
    obtain ⟨rfl, rfl, rfl, rfl, rfl⟩ := hc
    exact spec_l18Act.l18_s0n _ _ _ x _ _ _ _ _ _ _ _ _ w hr0_2 hc0_2 hr0_3 hc0_3 hown k sent lq hi1 hi2 hl hlq hst rfl hR0 hR1 (by omega) (by omega) (by omega)
  ·simp only [if_neg h5] at hst hc
   have hk5 : (a1_1 == 5) = false := by simpa using h5
   by_cases ho : 200 < l0_2.length ∨ 200 < (l0_3 ++ sent).length
   ·rw [if_pos ho] at hc
    simp only [Option.some.injEq, Prod.mk.injEq] at hc
    obtain ⟨rfl, rfl, rfl, rfl, rfl⟩ := hc
    by_cases ho1 : 200 < l0_2.length
    ·exact spec_l18Act.l18_u0a _ _ _ a1_1 n1 n3 _ _ _ _ _ _ _ w hr0_2 hc0_2 hr0_3 hc0_3 hown k sent hi1 hi2 hk5 hst rfl hR0 hR1 (by omega) ho1
    ·exact spec_l18Act.l18_u0b _ _ _ a1_1 n1 n3 _ _ _ _ _ _ _ w hr0_2 hc0_2 hr0_3 hc0_3 hown k sent hi1 hi2 hk5 hst rfl hR0 hR1 (by omega) (by omega) (by omega)
   ·rw [if_neg ho] at hc
    simp only [Option.some.injEq, Prod.mk.injEq] at hc
    obtain ⟨rfl, rfl, rfl, rfl, rfl⟩ := hc
    exact spec_l18Act.l18_u0n _ _ _ a1_1 _ _ _ _ _ _ _ _ _ w hr0_2 hc0_2 hr0_3 hc0_3 hown k sent hi1 hi2 hk5 hst rfl hR0 hR1 (by omega) (by omega) (by omega)
 ·rw [if_neg hs0] at h
  obtain rfl : a1_0 = 1 := by omega
  obtain ⟨⟨q1, q2, q3, q4, q5⟩, hc, h⟩ := Option.bind_eq_some_iff.mp h
  simp only [Option.some.injEq, Prod.mk.injEq] at h
  obtain ⟨rfl, rfl, rfl, rfl, rfl, rfl⟩ := h
  unfold spec_l18Act.core at hc
  by_cases hn : a1_1 = 5 ∧ l0_3 = []
  ·rw [if_pos hn] at hc
   obtain ⟨h5, he⟩ := hn
   subst h5
   simp only [Option.some.injEq, Prod.mk.injEq] at hc
   obtain ⟨rfl, rfl, rfl, rfl, rfl⟩ := hc
   exact spec_l18Act.l18_none1 _ _ _ _ _ _ _ _ _ w hr0_2 hc0_2 hr0_3 hc0_3 hown hi1 hi2 he
  rw [if_neg hn] at hc
  obtain ⟨⟨n1, sent, n3⟩, hst, hc⟩ := Option.bind_eq_some_iff.mp hc
  by_cases hs : sent.length ≤ 100000
  case neg => rw [if_neg hs] at hc; cases hc
  rw [if_pos hs] at hc
  dsimp only at hc
  by_cases h5 : a1_1 = 5
  ·subst h5
   simp only [if_true] at hst hc
   obtain ⟨x, lq, hl⟩ : ∃ x lq, l0_3 = x :: lq := by
    cases l0_3 with
    | nil => exact absurd ⟨rfl, rfl⟩ hn
    | cons x lq => exact ⟨x, lq, rfl⟩
   rw [hl, List.headD_cons] at hst
   have hd : l0_3.drop 1 = lq := by rw [hl]; rfl
   rw [hd] at hc
   have hlq : lq.length ≤ 1000000 := by (have : l0_3.length = lq.length + 1 := (by rw [hl]; rfl)); omega
   by_cases ho : 200 < lq.length ∨ 200 < (l0_2 ++ sent).length
   ·rw [if_pos ho] at hc
    simp only [Option.some.injEq, Prod.mk.injEq] at hc
    obtain ⟨rfl, rfl, rfl, rfl, rfl⟩ := hc
    by_cases ho1 : 200 < (l0_2 ++ sent).length
    ·exact spec_l18Act.l18_s1a _ _ _ x n1 n3 _ _ _ _ _ _ _ w hr0_2 hc0_2 hr0_3 hc0_3 hown k sent lq hi1 hi2 hl hlq hst rfl hR0 hR1 (by omega) ho1
    ·exact spec_l18Act.l18_s1b _ _ _ x n1 n3 _ _ _ _ _ _ _ w hr0_2 hc0_2 hr0_3 hc0_3 hown k sent lq hi1 hi2 hl hlq hst rfl hR0 hR1 (by omega) (by omega) (by omega)
   ·rw [if_neg ho] at hc
    simp only [Option.some.injEq, Prod.mk.injEq] at hc
    obtain ⟨rfl, rfl, rfl, rfl, rfl⟩ := hc
    exact spec_l18Act.l18_s1n _ _ _ x _ _ _ _ _ _ _ _ _ w hr0_2 hc0_2 hr0_3 hc0_3 hown k sent lq hi1 hi2 hl hlq hst rfl hR0 hR1 (by omega) (by omega) (by omega)
  ·simp only [if_neg h5] at hst hc
   have hk5 : (a1_1 == 5) = false := by simpa using h5
   by_cases ho : 200 < l0_3.length ∨ 200 < (l0_2 ++ sent).length
   ·rw [if_pos ho] at hc
    simp only [Option.some.injEq, Prod.mk.injEq] at hc
    obtain ⟨rfl, rfl, rfl, rfl, rfl⟩ := hc
    by_cases ho1 : 200 < (l0_2 ++ sent).length
    ·exact spec_l18Act.l18_u1a _ _ _ a1_1 n1 n3 _ _ _ _ _ _ _ w hr0_2 hc0_2 hr0_3 hc0_3 hown k sent hi1 hi2 hk5 hst rfl hR0 hR1 (by omega) ho1
    ·exact spec_l18Act.l18_u1b _ _ _ a1_1 n1 n3 _ _ _ _ _ _ _ w hr0_2 hc0_2 hr0_3 hc0_3 hown k sent hi1 hi2 hk5 hst rfl hR0 hR1 (by omega) (by omega) (by omega)
   ·rw [if_neg ho] at hc
    simp only [Option.some.injEq, Prod.mk.injEq] at hc
    obtain ⟨rfl, rfl, rfl, rfl, rfl⟩ := hc
    exact spec_l18Act.l18_u1n _ _ _ a1_1 _ _ _ _ _ _ _ _ _ w hr0_2 hc0_2 hr0_3 hc0_3 hown k sent hi1 hi2 hk5 hst rfl hR0 hR1 (by omega) (by omega) (by omega)

end Go.Proofs.Ytnceiegngfpmkaa.PSta
