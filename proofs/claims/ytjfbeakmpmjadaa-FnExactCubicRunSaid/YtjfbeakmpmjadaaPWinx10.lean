-- Written by plug.py, a program of this work, over the kit's printing program: the functions that it prints, and this work's own proofs of those that it does not.
import Derived.Test.YtjfbeakmpmjadaaPWinx0
import Derived.Test.YtjfbeakmpmjadaaPWinx9
namespace Go.Proofs.Ytjfbeakmpmjadaa.PWin
open Go.RowKit Go.Proofs.YtjfbeakmpmjadaaW.PrintWords Go.Proofs.YtjfbeakmpmjadaaW.PrintLast Go.Proofs.YtjfbeakmpmjadaaW.PrintMore
attribute [local go_sem] max2_int min2_int max_two min_two max_three min_three max_four min_four   -- for this text's walks alone
set_option linter.unusedVariables false
set_option linter.unusedSimpArgs false

/-- A state of type 26 at block g of W; what its slices lead to came in by w0. -/
def IsS26 (w0 W : World) (g : Nat) (f0 : Int) (f1 : Int) (f2 : Int) (f3 : Int) (f4 : Int) (f5 : Int) (f6 : Int) : Prop := W.heap[g]? = some (.cells #[.int .i64 f0, .int .i64 f1, .int .i64 f2, .int .i64 f3, .int .i64 f4, .int .i64 f5, .int .i64 f6] 26 (0, 0)) ∧ w0.heap.size ≤ g
theorem IsS26.grown {w0 W : World} {g : Nat} {f0 : Int} {f1 : Int} {f2 : Int} {f3 : Int} {f4 : Int} {f5 : Int} {f6 : Int} {W1 : World} {row : Option Nat} (h : IsS26 w0 W g f0 f1 f2 f3 f4 f5 f6) (hw : W.grownBy W1 row) (hne : some g ≠ row) : IsS26 w0 W1 g f0 f1 f2 f3 f4 f5 f6 := by
  obtain ⟨hb, hg⟩ := h
  exact ⟨blk_grown hb hw hne, hg⟩
theorem IsS26.own_neN {w0 W : World} {g : Nat} {f0 : Int} {f1 : Int} {f2 : Int} {f3 : Int} {f4 : Int} {f5 : Int} {f6 : Int} {α : Type} {d : Kd α} {e : Nat} {base : Nat} {ok : Nat → Prop} {v : Value} {xs : List α} (h : IsS26 w0 W g f0 f1 f2 f3 f4 f5 f6) (ho : Kd.N d e W base ok v xs) (ht : e ≠ 26) : some g ≠ v.ownBlock := by
  obtain ⟨hb, hg⟩ := h
  exact Kd.N_ne ho hb ht
theorem IsS26.fresh {w0 W : World} {g : Nat} {f0 : Int} {f1 : Int} {f2 : Int} {f3 : Int} {f4 : Int} {f5 : Int} {f6 : Int} (h : IsS26 w0 W g f0 f1 f2 f3 f4 f5 f6) : ∀ k, W.heap.size ≤ k → k ≠ g := by
  obtain ⟨hb, hg⟩ := h
  exact Kd.freshB hb
theorem IsS26.kept {w0 W : World} {g : Nat} {f0 : Int} {f1 : Int} {f2 : Int} {f3 : Int} {f4 : Int} {f5 : Int} {f6 : Int} {W1 : World} {S : Nat → Prop} (h : IsS26 w0 W g f0 f1 f2 f3 f4 f5 f6) (hk : Kept W W1 S) (hne : ¬ S g) : IsS26 w0 W1 g f0 f1 f2 f3 f4 f5 f6 := by
  obtain ⟨hb, hg⟩ := h
  exact ⟨blk_kept hb hk hne, hg⟩
theorem IsS26.below {w0 W : World} {g : Nat} {f0 : Int} {f1 : Int} {f2 : Int} {f3 : Int} {f4 : Int} {f5 : Int} {f6 : Int} {W1 : World} (h : IsS26 w0 W g f0 f1 f2 f3 f4 f5 f6) (hw : Below W.heap.size W W1) : IsS26 w0 W1 g f0 f1 f2 f3 f4 f5 f6 := h.grown (grown_of_below hw none) (by simp)
theorem IsS26.alloc {w0 W : World} {g : Nat} {f0 : Int} {f1 : Int} {f2 : Int} {f3 : Int} {f4 : Int} {f5 : Int} {f6 : Int} (h : IsS26 w0 W g f0 f1 f2 f3 f4 f5 f6) (o : Obj) : IsS26 w0 (W.alloc o) g f0 f1 f2 f3 f4 f5 f6 := h.below (below_alloc (Below.refl _ _) o)
theorem IsS26.drewN {w0 W : World} {g : Nat} {f0 : Int} {f1 : Int} {f2 : Int} {f3 : Int} {f4 : Int} {f5 : Int} {f6 : Int} (h : IsS26 w0 W g f0 f1 f2 f3 f4 f5 f6) (m : Nat) : IsS26 w0 (W.drewN m) g f0 f1 f2 f3 f4 f5 f6 := h
theorem IsS26.drew {w0 W : World} {g : Nat} {f0 : Int} {f1 : Int} {f2 : Int} {f3 : Int} {f4 : Int} {f5 : Int} {f6 : Int} (h : IsS26 w0 W g f0 f1 f2 f3 f4 f5 f6) : IsS26 w0 W.drew g f0 f1 f2 f3 f4 f5 f6 := h
theorem IsS26.at_ {w0 W : World} {g : Nat} {f0 : Int} {f1 : Int} {f2 : Int} {f3 : Int} {f4 : Int} {f5 : Int} {f6 : Int} {w' : World} {m : Nat} (hq : W.drewN m = w') (h : IsS26 w0 W g f0 f1 f2 f3 f4 f5 f6) : IsS26 w0 w' g f0 f1 f2 f3 f4 f5 f6 := by subst hq; exact IsS26.drewN h m
theorem IsS26.apart {w0 W : World} {g : Nat} {f0 : Int} {f1 : Int} {f2 : Int} {f3 : Int} {f4 : Int} {f5 : Int} {f6 : Int} {α : Type} {d : Kd α} {e : Nat} {base : Nat} {ok : Nat → Prop} {v : Value} {xs : List α} (h : IsS26 w0 W g f0 f1 f2 f3 f4 f5 f6) (ho : d.R e W base ok v xs) (ht : ∀ q, q ∈ e :: d.E → q ≠ 26) : d.R e W base (fun k => ok k ∧ k ≠ g) v xs := by
  obtain ⟨hb, hg⟩ := h
  exact Kd.R_types ho hb ht
theorem IsS26.own_ne {w0 W : World} {g : Nat} {f0 : Int} {f1 : Int} {f2 : Int} {f3 : Int} {f4 : Int} {f5 : Int} {f6 : Int} {α : Type} {d : Kd α} {e : Nat} {base : Nat} {ok : Nat → Prop} {v : Value} {xs : List α} (h : IsS26 w0 W g f0 f1 f2 f3 f4 f5 f6) (ho : d.R e W base ok v xs) (ht : e ≠ 26) : some g ≠ v.ownBlock := by
  obtain ⟨hb, hg⟩ := h
  exact Kd.R_ne ho hb ht
theorem IsS26.apartQ {w0 W : World} {g : Nat} {f0 : Int} {f1 : Int} {f2 : Int} {f3 : Int} {f4 : Int} {f5 : Int} {f6 : Int} {α : Type} {d : Kd α} {e : Nat} {base : Nat} {ok : Nat → Prop} {v : Value} {xs : List α} (h : IsS26 w0 W g f0 f1 f2 f3 f4 f5 f6) (ho : d.Q e W base ok v xs) (ht : ∀ q, q ∈ e :: d.E → q ≠ 26) : d.Q e W base (fun k => ok k ∧ k ≠ g) v xs := by
  obtain ⟨hb, hg⟩ := h
  exact Kd.Q_types ho hb ht
theorem IsS26.own_neQ {w0 W : World} {g : Nat} {f0 : Int} {f1 : Int} {f2 : Int} {f3 : Int} {f4 : Int} {f5 : Int} {f6 : Int} {α : Type} {d : Kd α} {e : Nat} {base : Nat} {ok : Nat → Prop} {v : Value} {xs : List α} (h : IsS26 w0 W g f0 f1 f2 f3 f4 f5 f6) (ho : d.Q e W base ok v xs) (ht : e ≠ 26) : some g ≠ v.ownBlock := by
  obtain ⟨hb, hg⟩ := h
  exact Kd.Q_ne ho hb ht
theorem IsS26.apartS {w0 W : World} {g : Nat} {f0 : Int} {f1 : Int} {f2 : Int} {f3 : Int} {f4 : Int} {f5 : Int} {f6 : Int} {α : Type} {d : Kd α} {e : Nat} {base : Nat} {ok : Nat → Prop} {v : Value} {xs : List α} (h : IsS26 w0 W g f0 f1 f2 f3 f4 f5 f6) (ho : d.S e W base ok v xs) (ht : ∀ q, q ∈ e :: d.E → q ≠ 26) : d.S e W base (fun k => ok k ∧ k ≠ g) v xs := by
  obtain ⟨hb, hg⟩ := h
  exact Kd.S_types ho hb ht
theorem IsS26.own_neS {w0 W : World} {g : Nat} {f0 : Int} {f1 : Int} {f2 : Int} {f3 : Int} {f4 : Int} {f5 : Int} {f6 : Int} {α : Type} {d : Kd α} {e : Nat} {base : Nat} {ok : Nat → Prop} {v : Value} {xs : List α} (h : IsS26 w0 W g f0 f1 f2 f3 f4 f5 f6) (ho : d.S e W base ok v xs) (ht : e ≠ 26) : some g ≠ v.ownBlock := by
  obtain ⟨hb, hg⟩ := h
  exact Kd.S_ne ho hb ht
theorem IsS26.lt {w0 W : World} {g : Nat} {f0 : Int} {f1 : Int} {f2 : Int} {f3 : Int} {f4 : Int} {f5 : Int} {f6 : Int} (h : IsS26 w0 W g f0 f1 f2 f3 f4 f5 f6) : g < W.heap.size := by
  obtain ⟨hb, hg⟩ := h
  exact blk_lt hb
theorem IsS26.ge {w0 W : World} {g : Nat} {f0 : Int} {f1 : Int} {f2 : Int} {f3 : Int} {f4 : Int} {f5 : Int} {f6 : Int} (h : IsS26 w0 W g f0 f1 f2 f3 f4 f5 f6) : w0.heap.size ≤ g := by
  obtain ⟨hb, hg⟩ := h
  exact hg
theorem IsS26.ne_blk {w0 W : World} {g : Nat} {f0 : Int} {f1 : Int} {f2 : Int} {f3 : Int} {f4 : Int} {f5 : Int} {f6 : Int} {a : Nat} {cs : Array Value} {t : TypeId} {fr : Nat × Nat} (h : IsS26 w0 W g f0 f1 f2 f3 f4 f5 f6) (hb2 : W.heap[a]? = some (.cells cs t fr)) (ht : t ≠ 26) : g ≠ a := by
  obtain ⟨hb, hg⟩ := h
  rintro rfl
  rw [hb] at hb2
  injection hb2 with hb2
  injection hb2 with _ ht2
  exact ht ht2.symm
theorem IsS26.far {w0 W : World} {g : Nat} {f0 : Int} {f1 : Int} {f2 : Int} {f3 : Int} {f4 : Int} {f5 : Int} {f6 : Int} {p : Addr} (h : IsS26 w0 W g f0 f1 f2 f3 f4 f5 f6) (hne : g ≠ p.block) (u : Value) : IsS26 w0 (W.setCell p u) g f0 f1 f2 f3 f4 f5 f6 := by
  obtain ⟨hb, hg⟩ := h
  exact ⟨blk_far hb hne u, hg⟩
theorem cellS26_0 {W : World} {g : Nat} {f0 : Int} {f1 : Int} {f2 : Int} {f3 : Int} {f4 : Int} {f5 : Int} {f6 : Int} (h : W.heap[g]? = some (.cells #[.int .i64 f0, .int .i64 f1, .int .i64 f2, .int .i64 f3, .int .i64 f4, .int .i64 f5, .int .i64 f6] 26 (0, 0))) : W.cell? ⟨g, 0, none⟩ = some (.int .i64 f0) := (blk_cell h 0).trans rfl
theorem IsS26.set_0 {w0 W : World} {g : Nat} {f0 : Int} {f1 : Int} {f2 : Int} {f3 : Int} {f4 : Int} {f5 : Int} {f6 : Int} (h : IsS26 w0 W g f0 f1 f2 f3 f4 f5 f6) (x : Int) : IsS26 w0 (W.setCell ⟨g, 0, none⟩ (.int .i64 x)) g x f1 f2 f3 f4 f5 f6 := by
  obtain ⟨hb, hg⟩ := h
  exact ⟨by simpa using blk_set hb 0 (.int .i64 x), hg⟩
theorem cellS26_1 {W : World} {g : Nat} {f0 : Int} {f1 : Int} {f2 : Int} {f3 : Int} {f4 : Int} {f5 : Int} {f6 : Int} (h : W.heap[g]? = some (.cells #[.int .i64 f0, .int .i64 f1, .int .i64 f2, .int .i64 f3, .int .i64 f4, .int .i64 f5, .int .i64 f6] 26 (0, 0))) : W.cell? ⟨g, 1, none⟩ = some (.int .i64 f1) := (blk_cell h 1).trans rfl
theorem IsS26.set_1 {w0 W : World} {g : Nat} {f0 : Int} {f1 : Int} {f2 : Int} {f3 : Int} {f4 : Int} {f5 : Int} {f6 : Int} (h : IsS26 w0 W g f0 f1 f2 f3 f4 f5 f6) (x : Int) : IsS26 w0 (W.setCell ⟨g, 1, none⟩ (.int .i64 x)) g f0 x f2 f3 f4 f5 f6 := by
  obtain ⟨hb, hg⟩ := h
  exact ⟨by simpa using blk_set hb 1 (.int .i64 x), hg⟩
theorem cellS26_2 {W : World} {g : Nat} {f0 : Int} {f1 : Int} {f2 : Int} {f3 : Int} {f4 : Int} {f5 : Int} {f6 : Int} (h : W.heap[g]? = some (.cells #[.int .i64 f0, .int .i64 f1, .int .i64 f2, .int .i64 f3, .int .i64 f4, .int .i64 f5, .int .i64 f6] 26 (0, 0))) : W.cell? ⟨g, 2, none⟩ = some (.int .i64 f2) := (blk_cell h 2).trans rfl
theorem IsS26.set_2 {w0 W : World} {g : Nat} {f0 : Int} {f1 : Int} {f2 : Int} {f3 : Int} {f4 : Int} {f5 : Int} {f6 : Int} (h : IsS26 w0 W g f0 f1 f2 f3 f4 f5 f6) (x : Int) : IsS26 w0 (W.setCell ⟨g, 2, none⟩ (.int .i64 x)) g f0 f1 x f3 f4 f5 f6 := by
  obtain ⟨hb, hg⟩ := h
  exact ⟨by simpa using blk_set hb 2 (.int .i64 x), hg⟩
theorem cellS26_3 {W : World} {g : Nat} {f0 : Int} {f1 : Int} {f2 : Int} {f3 : Int} {f4 : Int} {f5 : Int} {f6 : Int} (h : W.heap[g]? = some (.cells #[.int .i64 f0, .int .i64 f1, .int .i64 f2, .int .i64 f3, .int .i64 f4, .int .i64 f5, .int .i64 f6] 26 (0, 0))) : W.cell? ⟨g, 3, none⟩ = some (.int .i64 f3) := (blk_cell h 3).trans rfl
theorem IsS26.set_3 {w0 W : World} {g : Nat} {f0 : Int} {f1 : Int} {f2 : Int} {f3 : Int} {f4 : Int} {f5 : Int} {f6 : Int} (h : IsS26 w0 W g f0 f1 f2 f3 f4 f5 f6) (x : Int) : IsS26 w0 (W.setCell ⟨g, 3, none⟩ (.int .i64 x)) g f0 f1 f2 x f4 f5 f6 := by
  obtain ⟨hb, hg⟩ := h
  exact ⟨by simpa using blk_set hb 3 (.int .i64 x), hg⟩
theorem cellS26_4 {W : World} {g : Nat} {f0 : Int} {f1 : Int} {f2 : Int} {f3 : Int} {f4 : Int} {f5 : Int} {f6 : Int} (h : W.heap[g]? = some (.cells #[.int .i64 f0, .int .i64 f1, .int .i64 f2, .int .i64 f3, .int .i64 f4, .int .i64 f5, .int .i64 f6] 26 (0, 0))) : W.cell? ⟨g, 4, none⟩ = some (.int .i64 f4) := (blk_cell h 4).trans rfl
theorem IsS26.set_4 {w0 W : World} {g : Nat} {f0 : Int} {f1 : Int} {f2 : Int} {f3 : Int} {f4 : Int} {f5 : Int} {f6 : Int} (h : IsS26 w0 W g f0 f1 f2 f3 f4 f5 f6) (x : Int) : IsS26 w0 (W.setCell ⟨g, 4, none⟩ (.int .i64 x)) g f0 f1 f2 f3 x f5 f6 := by
  obtain ⟨hb, hg⟩ := h
  exact ⟨by simpa using blk_set hb 4 (.int .i64 x), hg⟩
theorem cellS26_5 {W : World} {g : Nat} {f0 : Int} {f1 : Int} {f2 : Int} {f3 : Int} {f4 : Int} {f5 : Int} {f6 : Int} (h : W.heap[g]? = some (.cells #[.int .i64 f0, .int .i64 f1, .int .i64 f2, .int .i64 f3, .int .i64 f4, .int .i64 f5, .int .i64 f6] 26 (0, 0))) : W.cell? ⟨g, 5, none⟩ = some (.int .i64 f5) := (blk_cell h 5).trans rfl
theorem IsS26.set_5 {w0 W : World} {g : Nat} {f0 : Int} {f1 : Int} {f2 : Int} {f3 : Int} {f4 : Int} {f5 : Int} {f6 : Int} (h : IsS26 w0 W g f0 f1 f2 f3 f4 f5 f6) (x : Int) : IsS26 w0 (W.setCell ⟨g, 5, none⟩ (.int .i64 x)) g f0 f1 f2 f3 f4 x f6 := by
  obtain ⟨hb, hg⟩ := h
  exact ⟨by simpa using blk_set hb 5 (.int .i64 x), hg⟩
theorem cellS26_6 {W : World} {g : Nat} {f0 : Int} {f1 : Int} {f2 : Int} {f3 : Int} {f4 : Int} {f5 : Int} {f6 : Int} (h : W.heap[g]? = some (.cells #[.int .i64 f0, .int .i64 f1, .int .i64 f2, .int .i64 f3, .int .i64 f4, .int .i64 f5, .int .i64 f6] 26 (0, 0))) : W.cell? ⟨g, 6, none⟩ = some (.int .i64 f6) := (blk_cell h 6).trans rfl
theorem IsS26.set_6 {w0 W : World} {g : Nat} {f0 : Int} {f1 : Int} {f2 : Int} {f3 : Int} {f4 : Int} {f5 : Int} {f6 : Int} (h : IsS26 w0 W g f0 f1 f2 f3 f4 f5 f6) (x : Int) : IsS26 w0 (W.setCell ⟨g, 6, none⟩ (.int .i64 x)) g f0 f1 f2 f3 f4 f5 x := by
  obtain ⟨hb, hg⟩ := h
  exact ⟨by simpa using blk_set hb 6 (.int .i64 x), hg⟩
theorem IsS26.new (w0 W : World) (f0 : Int) (f1 : Int) (f2 : Int) (f3 : Int) (f4 : Int) (f5 : Int) (f6 : Int) (hB : Below w0.heap.size w0 W) : IsS26 w0 (W.alloc (.cells #[.int .i64 f0, .int .i64 f1, .int .i64 f2, .int .i64 f3, .int .i64 f4, .int .i64 f5, .int .i64 f6] 26)) W.heap.size f0 f1 f2 f3 f4 f5 f6 := ⟨by simpa using heap_alloc_new W _, hB.size⟩

/-! ### impl_Cubic_ack: function 35 -/
def impl_Cubic_ack.f (s0_0 : Int) (s0_1 : Int) (s0_2 : Int) (s0_3 : Int) (s0_4 : Int) (s0_5 : Int) (s0_6 : Int) : Option (Int × Int × Int × Int × Int × Int × Int) :=
  if 1 ≤ s0_0 ∧ s0_0 ≤ 100000 ∧ 0 ≤ s0_6 ∧ s0_6 ≤ 100000 ∧ 0 ≤ s0_4 ∧ s0_4 ≤ s0_5 ∧ s0_5 ≤ 1000000 then
    if s0_0 < s0_1 then some (s0_0 + 1, s0_1, s0_2, s0_3, s0_4, s0_5, s0_6)
    else (impl_curve.f s0_2 s0_3 (s0_5 - s0_4)).bind fun aim =>
      if -1000000 ≤ aim ∧ aim ≤ 1000000 then
        if s0_0 < aim then
          (if s0_0 / (aim - s0_0) < s0_6 + 1 then some (mn (s0_0 + 1) 100000, s0_1, s0_2, s0_3, s0_4, s0_5, 0)
           else some (s0_0, s0_1, s0_2, s0_3, s0_4, s0_5, mn (s0_6 + 1) 100000))
        else
          (if 100 * s0_0 < s0_6 + 1 then some (mn (s0_0 + 1) 100000, s0_1, s0_2, s0_3, s0_4, s0_5, 0)
           else some (s0_0, s0_1, s0_2, s0_3, s0_4, s0_5, mn (s0_6 + 1) 100000))
      else none
  else none

set_option maxHeartbeats 2000000 in
set_option maxRecDepth 100000 in
theorem impl_Cubic_ack.curve_q (a0 : Int) (a1 : Int) (a2 : Int) (r : Int) (w : World) (h : impl_curve.f a0 a1 a2 = some r) :
    Calls Try.prog 42 #[.int .i64 a0, .int .i64 a1, .int .i64 a2] w fun e w' => e = .returned (.int .i64 r) ∧ w = w' := by
  have H : (some (mn (mx (wrap64 ((wrap64 (Int.tdiv (wrap64 ((wrap64 (Int.tdiv (wrap64 ((wrap64 ((mn (wrap64 (a2 - a1)) 100000) * (mn (wrap64 (a2 - a1)) 100000))) * (mn (wrap64 (a2 - a1)) 100000))) 1000000)) * 4)) 10000)) + a0)) 1) 100000)) = some r := h
  clear h
  obtain ⟨ji4, hji4⟩ : ∃ j_ : Int, (mn (wrap64 (a2 - a1)) 100000) = j_ := ⟨_, rfl⟩
  replace H : (some (mn (mx (wrap64 ((wrap64 (Int.tdiv (wrap64 ((wrap64 (Int.tdiv (wrap64 ((wrap64 ((ji4) * (ji4))) * (ji4))) 1000000)) * 4)) 10000)) + a0)) 1) 100000)) = some r := by first | (rw [hji4] at H; exact H) | (simp only [hji4] at H ⊢; exact H)
  (try (have hji4h : ji4 ≤ 100000 := by (rw [← hji4]; unfold mn; (repeat' split) <;> omega)))
  (try (have hji4g : ji4 ≤ 64 := by omega))
  have hji4_ : (if 100000 < (wrap64 (a2 - a1)) then 100000 else (wrap64 (a2 - a1))) = ji4 := hji4
  obtain ⟨ji5, hji5⟩ : ∃ j_ : Int, (mx (wrap64 ((wrap64 (Int.tdiv (wrap64 ((wrap64 (Int.tdiv (wrap64 ((wrap64 ((ji4) * (ji4))) * (ji4))) 1000000)) * 4)) 10000)) + a0)) 1) = j_ := ⟨_, rfl⟩
  replace H : (some (mn (ji5) 100000)) = some r := by first | (rw [hji5] at H; exact H) | (simp only [hji5] at H ⊢; exact H)
  have hji5_ : (if (wrap64 ((wrap64 (Int.tdiv (wrap64 ((wrap64 (Int.tdiv (wrap64 ((wrap64 ((ji4) * (ji4))) * (ji4))) 1000000)) * 4)) 10000)) + a0)) < 1 then 1 else (wrap64 ((wrap64 (Int.tdiv (wrap64 ((wrap64 (Int.tdiv (wrap64 ((wrap64 ((ji4) * (ji4))) * (ji4))) 1000000)) * 4)) 10000)) + a0))) = ji5 := hji5
  obtain ⟨ji6, hji6⟩ : ∃ j_ : Int, (mn (ji5) 100000) = j_ := ⟨_, rfl⟩
  replace H : (some ji6) = some r := by first | (rw [hji6] at H; exact H) | (simp only [hji6] at H ⊢; exact H)
  have hji6_ : (if 100000 < (ji5) then 100000 else (ji5)) = ji6 := hji6
  obtain rfl := Option.some.inj H
  go_enter Try.func42, Try.ntmps42
  go_wp2
  go_ret
  exact ⟨by first | rfl | (simp [errW_none, errW_some] <;> rfl) | (simp only [← hji4, ← hji5, ← hji6]; first | rfl | (simp [errW_none, errW_some] <;> rfl)) | (simp [*, errW_none, errW_some] <;> rfl), rfl⟩

def impl_Cubic_ack.CPost (w0 w : World) (g : Nat) (f0 f1 f2 f3 f4 f5 f6 : Int) (e : Ending) (w' : World) : Prop :=
  e = .returned (.tuple #[]) ∧ IsS26 w0 w' g f0 f1 f2 f3 f4 f5 f6 ∧ Below w0.heap.size w0 w' ∧ KeepBut w w' g none
set_option maxHeartbeats 2000000 in
set_option maxRecDepth 100000 in
theorem impl_Cubic_ack.ack_slow (g : Nat) (w_ s m o si n c : Int) (w0 w : World) (hI : IsS26 w0 w g w_ s m o si n c) (hB : Below w0.heap.size w0 w) (h1 : 1 ≤ w_) (h2 : w_ ≤ 100000) (hlt : w_ < s) :
    Calls Try.prog 35 #[.pointer (some ⟨g, 0, none⟩)] w (impl_Cubic_ack.CPost w0 w g (w_ + 1) s m o si n c) := by
  have HI := Aside0.mk hI
  have HB := Aside0.mk hB
  have HK := Aside0.mk (KeepBut.refl w g none)
  obtain ⟨hb, hg⟩ := hI
  have k0 := cellS26_0 hb
  have k1 := cellS26_1 hb
  have f0 := blk_frozen hb 0
  have HG := Aside0.mk hg
  clear hb hg hB
  go_enter Try.func35, Try.ntmps35
  go_wp2
  go_quiet (fail)
  go_wp2
  go_end0
  exact ⟨rfl, by repeat (first | exact HI.out | apply IsS26.drewN | apply IsS26.drew | apply IsS26.set_0), by repeat (first | exact HB.out | apply pw_below_drewN | apply below_drew1 | refine below_set ?_ HG.out), by repeat (first | exact HK.out | apply KeepBut.set_ | apply keep_drewN | apply keep_drew)⟩

theorem impl_Cubic_ack.q_addl {P : Program} {f : FuncId} {args : Array Value} {w : World} {a n : Nat} {v : Value} (h : Calls P f args (w.drewN (a + n)) fun e w' => e = .returned v ∧ w.drewN (a + n) = w') :
    Calls P f args (w.drewN (a + n)) fun e w'' => e = .returned v ∧ ∃ m, w'' = w.drewN (a + m) := h.mono fun _ _ ⟨he, hm⟩ => ⟨he, n, hm.symm⟩

set_option maxHeartbeats 4000000 in
set_option maxRecDepth 100000 in
theorem impl_Cubic_ack.ack_a1 (g : Nat) (w_ s m o si n c aim need : Int) (w0 w : World) (hI : IsS26 w0 w g w_ s m o si n c) (hB : Below w0.heap.size w0 w) (h1 : 1 ≤ w_) (h2 : w_ ≤ 100000) (hlt : ¬ w_ < s) (h3 : 0 ≤ c) (h4 : c ≤ 100000) (h5 : 0 ≤ si) (h6 : si ≤ n) (h7 : n ≤ 1000000) (hc : impl_curve.f m o (n - si) = some aim) (ha : -1000000 ≤ aim ∧ aim ≤ 1000000) (hw : w_ < aim) (hne : aim - w_ ≠ 0) (hnd : Int.tdiv w_ (aim - w_) = need) (hgt : need < c + 1) (hn0 : 0 ≤ need) (hn1 : need ≤ 10000000) :
    Calls Try.prog 35 #[.pointer (some ⟨g, 0, none⟩)] w fun e w' => e = .returned (.tuple #[]) ∧ IsS26 w0 w' g (mn (w_ + 1) 100000) s m o si n 0 ∧ Below w0.heap.size w0 w' ∧ KeepBut w w' g none := by
  have HI := Aside0.mk hI
  have HB := Aside0.mk hB
  have HK := Aside0.mk (KeepBut.refl w g none)
  obtain ⟨hb, hg⟩ := hI
  have k0 := cellS26_0 hb
  have k1 := cellS26_1 hb
  have k2 := cellS26_2 hb
  have k3 := cellS26_3 hb
  have k4 := cellS26_4 hb
  have k5 := cellS26_5 hb
  have k6 := cellS26_6 hb
  have f0 := blk_frozen hb 0
  have f6 := blk_frozen hb 6
  have HG := Aside0.mk hg
  clear hb hg hB
  go_enter Try.func35, Try.ntmps35
  go_wp2
  go_quiet (fail)
  go_wp2
  go_quiet ((go_at_call 42; exact impl_Cubic_ack.q_addl (impl_Cubic_ack.curve_q _ _ _ _ _ hc)))
  go_wp2
  go_quiet (fail)
  go_wp2
  all_goals go_end0
  all_goals first | rw [mn, if_pos h] | rw [mn, if_neg (by omega)]
  all_goals exact ⟨rfl, (by apply IsS26.set_6; apply IsS26.set_0; apply IsS26.set_6; apply IsS26.set_6; apply IsS26.drewN; exact HI.out), below_set (below_set (below_set (below_set (pw_below_drewN HB.out _) HG.out) HG.out) HG.out) HG.out, by apply KeepBut.set_; apply KeepBut.set_; apply KeepBut.set_; apply KeepBut.set_; apply keep_drewN; exact HK.out⟩

set_option maxHeartbeats 4000000 in
set_option maxRecDepth 100000 in
theorem impl_Cubic_ack.ack_a0 (g : Nat) (w_ s m o si n c aim need : Int) (w0 w : World) (hI : IsS26 w0 w g w_ s m o si n c) (hB : Below w0.heap.size w0 w) (h1 : 1 ≤ w_) (h2 : w_ ≤ 100000) (hlt : ¬ w_ < s) (h3 : 0 ≤ c) (h4 : c ≤ 100000) (h5 : 0 ≤ si) (h6 : si ≤ n) (h7 : n ≤ 1000000) (hc : impl_curve.f m o (n - si) = some aim) (ha : -1000000 ≤ aim ∧ aim ≤ 1000000) (hw : w_ < aim) (hne : aim - w_ ≠ 0) (hnd : Int.tdiv w_ (aim - w_) = need) (hgt : ¬ need < c + 1) (hn0 : 0 ≤ need) (hn1 : need ≤ 10000000) :
    Calls Try.prog 35 #[.pointer (some ⟨g, 0, none⟩)] w fun e w' => e = .returned (.tuple #[]) ∧ IsS26 w0 w' g w_ s m o si n (mn (c + 1) 100000) ∧ Below w0.heap.size w0 w' ∧ KeepBut w w' g none := by
  have HI := Aside0.mk hI
  have HB := Aside0.mk hB
  have HK := Aside0.mk (KeepBut.refl w g none)
  obtain ⟨hb, hg⟩ := hI
  have k0 := cellS26_0 hb
  have k1 := cellS26_1 hb
  have k2 := cellS26_2 hb
  have k3 := cellS26_3 hb
  have k4 := cellS26_4 hb
  have k5 := cellS26_5 hb
  have k6 := cellS26_6 hb
  have f0 := blk_frozen hb 0
  have f6 := blk_frozen hb 6
  have HG := Aside0.mk hg
  clear hb hg hB
  go_enter Try.func35, Try.ntmps35
  go_wp2
  go_quiet (fail)
  go_wp2
  go_quiet ((go_at_call 42; exact impl_Cubic_ack.q_addl (impl_Cubic_ack.curve_q _ _ _ _ _ hc)))
  go_wp2
  go_quiet (fail)
  go_wp2
  all_goals go_end0
  all_goals first | rw [mn, if_pos h] | rw [mn, if_neg (by omega)]
  all_goals exact ⟨rfl, (by apply IsS26.set_6; apply IsS26.set_6; apply IsS26.drewN; exact HI.out), below_set (below_set (pw_below_drewN HB.out _) HG.out) HG.out, by apply KeepBut.set_; apply KeepBut.set_; apply keep_drewN; exact HK.out⟩

set_option maxHeartbeats 4000000 in
set_option maxRecDepth 100000 in
theorem impl_Cubic_ack.ack_b1 (g : Nat) (w_ s m o si n c aim need : Int) (w0 w : World) (hI : IsS26 w0 w g w_ s m o si n c) (hB : Below w0.heap.size w0 w) (h1 : 1 ≤ w_) (h2 : w_ ≤ 100000) (hlt : ¬ w_ < s) (h3 : 0 ≤ c) (h4 : c ≤ 100000) (h5 : 0 ≤ si) (h6 : si ≤ n) (h7 : n ≤ 1000000) (hc : impl_curve.f m o (n - si) = some aim) (ha : -1000000 ≤ aim ∧ aim ≤ 1000000) (hw : ¬ w_ < aim) (hnd : 100 * w_ = need) (hgt : need < c + 1) (hn0 : 0 ≤ need) (hn1 : need ≤ 10000000) :
    Calls Try.prog 35 #[.pointer (some ⟨g, 0, none⟩)] w fun e w' => e = .returned (.tuple #[]) ∧ IsS26 w0 w' g (mn (w_ + 1) 100000) s m o si n 0 ∧ Below w0.heap.size w0 w' ∧ KeepBut w w' g none := by
  have HI := Aside0.mk hI
  have HB := Aside0.mk hB
  have HK := Aside0.mk (KeepBut.refl w g none)
  obtain ⟨hb, hg⟩ := hI
  have k0 := cellS26_0 hb
  have k1 := cellS26_1 hb
  have k2 := cellS26_2 hb
  have k3 := cellS26_3 hb
  have k4 := cellS26_4 hb
  have k5 := cellS26_5 hb
  have k6 := cellS26_6 hb
  have f0 := blk_frozen hb 0
  have f6 := blk_frozen hb 6
  have HG := Aside0.mk hg
  clear hb hg hB
  go_enter Try.func35, Try.ntmps35
  go_wp2
  go_quiet (fail)
  go_wp2
  go_quiet ((go_at_call 42; exact impl_Cubic_ack.q_addl (impl_Cubic_ack.curve_q _ _ _ _ _ hc)))
  go_wp2
  all_goals go_end0
  all_goals first | rw [mn, if_pos h] | rw [mn, if_neg (by omega)]
  all_goals exact ⟨rfl, (by apply IsS26.set_6; apply IsS26.set_0; apply IsS26.set_6; apply IsS26.set_6; apply IsS26.drewN; exact HI.out), below_set (below_set (below_set (below_set (pw_below_drewN HB.out _) HG.out) HG.out) HG.out) HG.out, by apply KeepBut.set_; apply KeepBut.set_; apply KeepBut.set_; apply KeepBut.set_; apply keep_drewN; exact HK.out⟩

set_option maxHeartbeats 4000000 in
set_option maxRecDepth 100000 in
theorem impl_Cubic_ack.ack_b0 (g : Nat) (w_ s m o si n c aim need : Int) (w0 w : World) (hI : IsS26 w0 w g w_ s m o si n c) (hB : Below w0.heap.size w0 w) (h1 : 1 ≤ w_) (h2 : w_ ≤ 100000) (hlt : ¬ w_ < s) (h3 : 0 ≤ c) (h4 : c ≤ 100000) (h5 : 0 ≤ si) (h6 : si ≤ n) (h7 : n ≤ 1000000) (hc : impl_curve.f m o (n - si) = some aim) (ha : -1000000 ≤ aim ∧ aim ≤ 1000000) (hw : ¬ w_ < aim) (hnd : 100 * w_ = need) (hgt : ¬ need < c + 1) (hn0 : 0 ≤ need) (hn1 : need ≤ 10000000) :
    Calls Try.prog 35 #[.pointer (some ⟨g, 0, none⟩)] w fun e w' => e = .returned (.tuple #[]) ∧ IsS26 w0 w' g w_ s m o si n (mn (c + 1) 100000) ∧ Below w0.heap.size w0 w' ∧ KeepBut w w' g none := by
  have HI := Aside0.mk hI
  have HB := Aside0.mk hB
  have HK := Aside0.mk (KeepBut.refl w g none)
  obtain ⟨hb, hg⟩ := hI
  have k0 := cellS26_0 hb
  have k1 := cellS26_1 hb
  have k2 := cellS26_2 hb
  have k3 := cellS26_3 hb
  have k4 := cellS26_4 hb
  have k5 := cellS26_5 hb
  have k6 := cellS26_6 hb
  have f0 := blk_frozen hb 0
  have f6 := blk_frozen hb 6
  have HG := Aside0.mk hg
  clear hb hg hB
  go_enter Try.func35, Try.ntmps35
  go_wp2
  go_quiet (fail)
  go_wp2
  go_quiet ((go_at_call 42; exact impl_Cubic_ack.q_addl (impl_Cubic_ack.curve_q _ _ _ _ _ hc)))
  go_wp2
  all_goals go_end0
  all_goals first | rw [mn, if_pos h] | rw [mn, if_neg (by omega)]
  all_goals exact ⟨rfl, (by apply IsS26.set_6; apply IsS26.set_6; apply IsS26.drewN; exact HI.out), below_set (below_set (pw_below_drewN HB.out _) HG.out) HG.out, by apply KeepBut.set_; apply KeepBut.set_; apply keep_drewN; exact HK.out⟩


set_option maxHeartbeats 8000000 in
set_option maxRecDepth 100000 in
theorem impl_Cubic_ack.calls (g : Nat) (s0_0 : Int) (s0_1 : Int) (s0_2 : Int) (s0_3 : Int) (s0_4 : Int) (s0_5 : Int) (s0_6 : Int) (r1 : Int) (r2 : Int) (r3 : Int) (r4 : Int) (r5 : Int) (r6 : Int) (r7 : Int) (w0 w : World) (hI : IsS26 w0 w g s0_0 s0_1 s0_2 s0_3 s0_4 s0_5 s0_6) (hB : Below w0.heap.size w0 w) (h : impl_Cubic_ack.f s0_0 s0_1 s0_2 s0_3 s0_4 s0_5 s0_6 = some (r1, r2, r3, r4, r5, r6, r7)) :
    Calls Try.prog 35 #[.pointer (some ⟨g, 0, none⟩)] w fun e w' => e = .returned (.tuple #[]) ∧ IsS26 w0 w' g r1 r2 r3 r4 r5 r6 r7 ∧ Below w0.heap.size w0 w' ∧ KeepBut w w' g none := by
  unfold impl_Cubic_ack.f at h
  by_cases hb : 1 ≤ s0_0 ∧ s0_0 ≤ 100000 ∧ 0 ≤ s0_6 ∧ s0_6 ≤ 100000 ∧ 0 ≤ s0_4 ∧ s0_4 ≤ s0_5 ∧ s0_5 ≤ 1000000
  case neg => rw [if_neg hb] at h; cases h
  rw [if_pos hb] at h
  obtain ⟨h1, h2, h3, h4, h5, h6, h7⟩ := hb
  by_cases hlt : s0_0 < s0_1
  case pos =>
    rw [if_pos hlt] at h
    simp only [Option.some.injEq, Prod.mk.injEq] at h
    obtain ⟨rfl, rfl, rfl, rfl, rfl, rfl, rfl⟩ := h
    exact impl_Cubic_ack.ack_slow g _ _ _ _ _ _ _ w0 w hI hB h1 h2 hlt
  rw [if_neg hlt] at h
  obtain ⟨aim, hc, h⟩ := Option.bind_eq_some_iff.mp h
  by_cases ha : -1000000 ≤ aim ∧ aim ≤ 1000000
  case neg => rw [if_neg ha] at h; cases h
  rw [if_pos ha] at h
  by_cases hw : s0_0 < aim
  · rw [if_pos hw] at h
    have hdiv : Int.tdiv s0_0 (aim - s0_0) = s0_0 / (aim - s0_0) := Int.tdiv_eq_ediv_of_nonneg (by omega)
    have hd0 : 0 ≤ s0_0 / (aim - s0_0) := Int.ediv_nonneg (by omega) (by omega)
    have hd1 : s0_0 / (aim - s0_0) ≤ s0_0 := Int.ediv_le_self _ (by omega)
    by_cases hgt : s0_0 / (aim - s0_0) < s0_6 + 1
    · rw [if_pos hgt] at h
      simp only [Option.some.injEq, Prod.mk.injEq] at h
      obtain ⟨rfl, rfl, rfl, rfl, rfl, rfl, rfl⟩ := h
      exact impl_Cubic_ack.ack_a1 g _ _ _ _ _ _ _ aim _ w0 w hI hB h1 h2 hlt h3 h4 h5 h6 h7 hc ha hw (by omega) hdiv hgt hd0 (by omega)
    · rw [if_neg hgt] at h
      simp only [Option.some.injEq, Prod.mk.injEq] at h
      obtain ⟨rfl, rfl, rfl, rfl, rfl, rfl, rfl⟩ := h
      exact impl_Cubic_ack.ack_a0 g _ _ _ _ _ _ _ aim _ w0 w hI hB h1 h2 hlt h3 h4 h5 h6 h7 hc ha hw (by omega) hdiv hgt hd0 (by omega)
  · rw [if_neg hw] at h
    by_cases hgt : 100 * s0_0 < s0_6 + 1
    · rw [if_pos hgt] at h
      simp only [Option.some.injEq, Prod.mk.injEq] at h
      obtain ⟨rfl, rfl, rfl, rfl, rfl, rfl, rfl⟩ := h
      exact impl_Cubic_ack.ack_b1 g _ _ _ _ _ _ _ aim _ w0 w hI hB h1 h2 hlt h3 h4 h5 h6 h7 hc ha hw rfl hgt (by omega) (by omega)
    · rw [if_neg hgt] at h
      simp only [Option.some.injEq, Prod.mk.injEq] at h
      obtain ⟨rfl, rfl, rfl, rfl, rfl, rfl, rfl⟩ := h
      exact impl_Cubic_ack.ack_b0 g _ _ _ _ _ _ _ aim _ w0 w hI hB h1 h2 hlt h3 h4 h5 h6 h7 hc ha hw rfl hgt (by omega) (by omega)

end Go.Proofs.Ytjfbeakmpmjadaa.PWin
