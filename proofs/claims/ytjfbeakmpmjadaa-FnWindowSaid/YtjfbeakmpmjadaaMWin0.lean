/- Texts of this claim, merged: what functions come to, and plain laws over it. -/
import Derived.Test.YtjfbeakmpmjadaaProg
import Derived.Below
import Derived.Deep.Draws
import Derived.Deep.AppendLies
import Derived.Maps.AppendAt
import Derived.OwnWalk
import Derived.Laws.BytesArg
import Derived.Laws.MakeOwn
import Derived.Laws.OwnMore
import Derived.Deep.OwnRows
import Derived.Tactics
import Derived.Lib.ConvBytes
import Derived.Laws.Slices
import Derived.WalkKit
import Derived.KernelRfl
import Derived.RowKit3
import Derived.Deep.LoopGhost
import Derived.Deep.QuietTactic
import Derived.BigQuiet
import Derived.WideLaws
import Derived.Deep.DeepCutAuto
import Derived.Deep.CutBlock
import Derived.Deep.RegionHeld3
import Derived.Laws.Rows
import Derived.Lib.AppendStr
import Derived.ArgAppend
import Derived.Laws.IdiomCopy
import Derived.OrdersHeld
import Derived.Laws.BitsLemmas
import Derived.RowKit
import Derived.StillTailTactics
import Derived.Test.YtjfbeakmpmjadaaWWords
import Derived.Test.YtjfbeakmpmjadaaWLast
import Derived.Test.YtjfbeakmpmjadaaWTab
import Derived.Test.YtjfbeakmpmjadaaWFour
import Derived.Test.YtjfbeakmpmjadaaWQPut
import Derived.Test.YtjfbeakmpmjadaaWApart
import Derived.Test.YtjfbeakmpmjadaaWArr
import Derived.Test.YtjfbeakmpmjadaaWZeros
import Derived.Test.YtjfbeakmpmjadaaWFoot
import Derived.Test.YtjfbeakmpmjadaaWKept
import Derived.Test.YtjfbeakmpmjadaaWShare
import Derived.Test.YtjfbeakmpmjadaaWN
import Derived.Test.YtjfbeakmpmjadaaWFootNe
import Derived.Test.YtjfbeakmpmjadaaWAt
import Derived.Test.YtjfbeakmpmjadaaWEqStruct
import Derived.Test.YtjfbeakmpmjadaaWRepsOne
import Derived.Test.YtjfbeakmpmjadaaWInv
import Derived.Test.YtjfbeakmpmjadaaWInvWords
import Derived.Test.YtjfbeakmpmjadaaWGuard
import Derived.Test.YtjfbeakmpmjadaaWNEv
import Derived.Test.YtjfbeakmpmjadaaWMore
namespace Go.Proofs.Ytjfbeakmpmjadaa.PWin
open Go.RowKit Go.Proofs.YtjfbeakmpmjadaaW.PrintWords Go.Proofs.YtjfbeakmpmjadaaW.PrintLast Go.Proofs.YtjfbeakmpmjadaaW.PrintMore
attribute [local go_sem] max2_int min2_int max_two min_two max_three min_three max_four min_four   -- for this text's walks alone
set_option linter.unusedVariables false
set_option linter.unusedSimpArgs false



def errW : Option Int → Value
  | none => .nilIface
  | some c => .iface 0 (.int .i64 c)
theorem errW_none : errW none = .nilIface := rfl
theorem errW_some (c : Int) : errW (some c) = .iface 0 (.int .i64 c) := rfl

theorem info3 : (Try.prog.info? 3).map (fun i => (i.zero, i.size, i.bytes)) = some (some (.int .i64 0), 1, 8) := by kernel_rfl
theorem info30 : (Try.prog.info? 30).map (fun i => (i.zero, i.size, i.bytes)) = some (some (.agg #[(.int .i64 0), (.int .i64 0)]), 2, 16) := by kernel_rfl
-- the values' own types
/-! #### struct type 30 -/
structure S30 where
  f0 : Int
  f1 : Int
def z30 : S30 := ⟨(0 : Int), (0 : Int)⟩
def k30 : Kd S30 := Kd.iso (Kd.pair (Kd.int .i64) (Kd.int .i64)) (fun x : S30 => (x.f0, x.f1))
theorem k30_open {w : World} {x : S30} {cs : List Value} (h : k30.K w x cs) : cs = [.int .i64 x.f0, .int .i64 x.f1] := by
  obtain ⟨_, _, rfl, rfl, rfl⟩ := h
  exact rfl
theorem k30_openM {w : World} {base : Nat} {ok : Nat → Prop} {x : S30} {cs : List Value} (h : k30.M w base ok x cs) : cs = [.int .i64 x.f0, .int .i64 x.f1] := by
  obtain ⟨_, _, rfl, rfl, rfl⟩ := h
  exact rfl
theorem k30_mk (w : World) (x : S30)  : k30.K w x [.int .i64 x.f0, .int .i64 x.f1] := ⟨[.int .i64 x.f0], [.int .i64 x.f1], rfl, rfl, rfl⟩
theorem k30_mkM (w : World) (base : Nat) (ok : Nat → Prop) (x : S30)  : k30.M w base ok x [.int .i64 x.f0, .int .i64 x.f1] := ⟨[.int .i64 x.f0], [.int .i64 x.f1], rfl, rfl, rfl⟩
def rd_T30 (xs : List S30) (i : Int) : S30 := xs.getD i.toNat z30
theorem at_T30 {w : World} {A : Option Addr} {n : Nat} {xs : List S30} (h : Kd.C k30 w A n xs) (i : Int) (h0 : 0 ≤ i) (h1 : i < n) : ∃ ad , A = some ad ∧ w.cell? (ad.add (i.toNat * 2)) = some (.int .i64 (rd_T30 xs i).f0) ∧ w.cell? ⟨(ad.add (i.toNat * 2)).block, (ad.add (i.toNat * 2)).off + 1, none⟩ = some (.int .i64 (rd_T30 xs i).f1) := by
  obtain ⟨ad, c, e, _, hK, hc0⟩ := Kd.C_get h z30 i h0 h1
  have hc : ∀ j u, c[j]? = some u → w.cell? (ad.add (i.toNat * 2 + j)) = some u := hc0
  obtain rfl := k30_open hK
  exact ⟨ad, e, hc 0 _ rfl, by rw [← add_field _ _ 1 (by omega)]; exact hc 1 _ rfl⟩

/-! #### struct type 25 -/
structure S25 where
  f0 : Int
  f1 : Int
def z25 : S25 := ⟨(0 : Int), (0 : Int)⟩
def k25 : Kd S25 := Kd.iso (Kd.pair (Kd.int .i64) (Kd.int .i64)) (fun x : S25 => (x.f0, x.f1))
theorem k25_open {w : World} {x : S25} {cs : List Value} (h : k25.K w x cs) : cs = [.int .i64 x.f0, .int .i64 x.f1] := by
  obtain ⟨_, _, rfl, rfl, rfl⟩ := h
  exact rfl
theorem k25_openM {w : World} {base : Nat} {ok : Nat → Prop} {x : S25} {cs : List Value} (h : k25.M w base ok x cs) : cs = [.int .i64 x.f0, .int .i64 x.f1] := by
  obtain ⟨_, _, rfl, rfl, rfl⟩ := h
  exact rfl
theorem k25_mk (w : World) (x : S25)  : k25.K w x [.int .i64 x.f0, .int .i64 x.f1] := ⟨[.int .i64 x.f0], [.int .i64 x.f1], rfl, rfl, rfl⟩
theorem k25_mkM (w : World) (base : Nat) (ok : Nat → Prop) (x : S25)  : k25.M w base ok x [.int .i64 x.f0, .int .i64 x.f1] := ⟨[.int .i64 x.f0], [.int .i64 x.f1], rfl, rfl, rfl⟩
def rd_T25 (xs : List S25) (i : Int) : S25 := xs.getD i.toNat z25
theorem at_T25 {w : World} {A : Option Addr} {n : Nat} {xs : List S25} (h : Kd.C k25 w A n xs) (i : Int) (h0 : 0 ≤ i) (h1 : i < n) : ∃ ad , A = some ad ∧ w.cell? (ad.add (i.toNat * 2)) = some (.int .i64 (rd_T25 xs i).f0) ∧ w.cell? ⟨(ad.add (i.toNat * 2)).block, (ad.add (i.toNat * 2)).off + 1, none⟩ = some (.int .i64 (rd_T25 xs i).f1) := by
  obtain ⟨ad, c, e, _, hK, hc0⟩ := Kd.C_get h z25 i h0 h1
  have hc : ∀ j u, c[j]? = some u → w.cell? (ad.add (i.toNat * 2 + j)) = some u := hc0
  obtain rfl := k25_open hK
  exact ⟨ad, e, hc 0 _ rfl, by rw [← add_field _ _ 1 (by omega)]; exact hc 1 _ rfl⟩

end Go.Proofs.Ytjfbeakmpmjadaa.PWin

namespace Go.Proofs.Ytjfbeakmpmjadaa.PWin
open Go.RowKit Go.Proofs.YtjfbeakmpmjadaaW.PrintWords Go.Proofs.YtjfbeakmpmjadaaW.PrintLast Go.Proofs.YtjfbeakmpmjadaaW.PrintMore
attribute [local go_sem] max2_int min2_int max_two min_two max_three min_three max_four min_four   -- for this text's walks alone
set_option linter.unusedVariables false
set_option linter.unusedSimpArgs false

theorem eqA26 (d : Nat) (w : World) (x0 y0 : Int) (x1 y1 : Int) (x2 y2 : Int) (x3 y3 : Int) (x4 y4 : Int) (x5 y5 : Int) (x6 y6 : Int) :
    (Op.equalIn (d + 2) 26 (.agg #[.int .i64 x0, .int .i64 x1, .int .i64 x2, .int .i64 x3, .int .i64 x4, .int .i64 x5, .int .i64 x6]) (.agg #[.int .i64 y0, .int .i64 y1, .int .i64 y2, .int .i64 y3, .int .i64 y4, .int .i64 y5, .int .i64 y6])).run Try.prog w = .ok (x0 == y0 && (x1 == y1 && (x2 == y2 && (x3 == y3 && (x4 == y4 && (x5 == y5 && (x6 == y6))))))) w := by
  refine eqA_of Try.underlying26 (by kernel_rfl) ?_
  refine eqf_cons (by rfl) (by go_simp; rfl) (by go_simp; rfl) (by go_simp) ?_
  refine eqf_cons (by rfl) (by go_simp; rfl) (by go_simp; rfl) (by go_simp) ?_
  refine eqf_cons (by rfl) (by go_simp; rfl) (by go_simp; rfl) (by go_simp) ?_
  refine eqf_cons (by rfl) (by go_simp; rfl) (by go_simp; rfl) (by go_simp) ?_
  refine eqf_cons (by rfl) (by go_simp; rfl) (by go_simp; rfl) (by go_simp) ?_
  refine eqf_cons (by rfl) (by go_simp; rfl) (by go_simp; rfl) (by go_simp) ?_
  exact eqf_last (by rfl) (by go_simp; rfl) (by go_simp; rfl) (by go_simp)
end Go.Proofs.Ytjfbeakmpmjadaa.PWin

namespace Go.Proofs.Ytjfbeakmpmjadaa.PWin
open Go.RowKit Go.Proofs.YtjfbeakmpmjadaaW.PrintWords Go.Proofs.YtjfbeakmpmjadaaW.PrintLast Go.Proofs.YtjfbeakmpmjadaaW.PrintMore
attribute [local go_sem] max2_int min2_int max_two min_two max_three min_three max_four min_four   -- for this text's walks alone
set_option linter.unusedVariables false
set_option linter.unusedSimpArgs false

/-! ### spec_l01In: function 32 -/
def spec_l01In.f (a0 : Int) (a1 : Int) (a2 : Int) : Option (Bool) := if a0 ≥ a1 then (some (decide (a0 ≤ a2))) else (some false)
set_option maxHeartbeats 8000000 in
set_option maxRecDepth 100000 in
theorem spec_l01In.calls (a0 : Int) (a1 : Int) (a2 : Int) (r : Bool) (w : World) (h : spec_l01In.f a0 a1 a2 = some r) :
    Calls Try.prog 32 #[.int .i64 a0, .int .i64 a1, .int .i64 a2] w fun e w' => e = .returned (.bool r) ∧ Drawn0 w w' := by
  have H : (if a0 ≥ a1 then (some (decide (a0 ≤ a2))) else (some false)) = some r := h
  clear h
  by_cases c4 : a0 ≥ a1
  · rw [if_pos c4] at H
    have c4b0 : decide (a1 ≤ a0) = true := decide_eq_true c4
    clear c4
    obtain rfl := Option.some.inj H
    go_enter Try.func32, Try.ntmps32
    go_wp2
    go_ret
    exact ⟨by first | rfl | (simp; done) | (simp [*]; done), by repeat (first | exact Drawn0.refl _ | apply Drawn0.step)⟩
  · rw [if_neg c4] at H
    have c4b0 : decide (a1 ≤ a0) = false := decide_eq_false c4
    clear c4
    obtain rfl := Option.some.inj H
    go_enter Try.func32, Try.ntmps32
    go_wp2
    go_ret
    exact ⟨by first | rfl | (simp; done) | (simp [*]; done), by repeat (first | exact Drawn0.refl _ | apply Drawn0.step)⟩

/-! ### spec_l16At: function 40 -/
def spec_l16At.f (a0 : Int) (a1 : Int) (a2 : Int) : Option (Int) := if (wrap64 (a2 - a1)) > 100000 then (some (mx 1 (mn 100000 (wrap64 (a0 + 400000))))) else (some (mx 1 (mn 100000 (wrap64 (a0 + (wrap64 (Int.tdiv (wrap64 ((wrap64 (Int.tdiv (wrap64 ((wrap64 ((wrap64 (a2 - a1)) * (wrap64 (a2 - a1)))) * (wrap64 (a2 - a1)))) 1000000)) * 4)) 10000)))))))
set_option maxHeartbeats 8000000 in
set_option maxRecDepth 100000 in
theorem spec_l16At.calls (a0 : Int) (a1 : Int) (a2 : Int) (r : Int) (w : World) (h : spec_l16At.f a0 a1 a2 = some r) :
    Calls Try.prog 40 #[.int .i64 a0, .int .i64 a1, .int .i64 a2] w fun e w' => e = .returned (.int .i64 r) ∧ Below w.heap.size w w' := by
  have HB := Aside0.mk (Below.refl w.heap.size w)
  have H : (if (wrap64 (a2 - a1)) > 100000 then (some (mx 1 (mn 100000 (wrap64 (a0 + 400000))))) else (some (mx 1 (mn 100000 (wrap64 (a0 + (wrap64 (Int.tdiv (wrap64 ((wrap64 (Int.tdiv (wrap64 ((wrap64 ((wrap64 (a2 - a1)) * (wrap64 (a2 - a1)))) * (wrap64 (a2 - a1)))) 1000000)) * 4)) 10000)))))))) = some r := h
  clear h
  by_cases c4 : (wrap64 (a2 - a1)) > 100000
  · rw [if_pos c4] at H
    have c4b0 : decide (100000 < (wrap64 (a2 - a1))) = true := decide_eq_true c4
    clear c4
    obtain ⟨ji5, hji5⟩ : ∃ j_ : Int, (mn 100000 (wrap64 (a0 + 400000))) = j_ := ⟨_, rfl⟩
    replace H : (some (mx 1 (ji5))) = some r := by first | (rw [hji5] at H; exact H) | (simp only [hji5] at H ⊢; exact H)
    (try (have hji5h : ji5 ≤ 100000 := by (rw [← hji5]; unfold mn; (repeat' split) <;> omega)))
    (try (have hji5g : ji5 ≤ 64 := by omega))
    have hji5_ : (if (wrap64 (a0 + 400000)) < 100000 then (wrap64 (a0 + 400000)) else 100000) = ji5 := hji5
    obtain ⟨ji6, hji6⟩ : ∃ j_ : Int, (mx 1 (ji5)) = j_ := ⟨_, rfl⟩
    replace H : (some ji6) = some r := by first | (rw [hji6] at H; exact H) | (simp only [hji6] at H ⊢; exact H)
    have hji6_ : (if 1 < (ji5) then (ji5) else 1) = ji6 := hji6
    obtain rfl := Option.some.inj H
    go_enter Try.func40, Try.ntmps40
    go_wp2
    go_ret
    exact ⟨by first | rfl | (simp [errW_none, errW_some] <;> rfl) | (simp only [← hji5, ← hji6]; first | rfl | (simp [errW_none, errW_some] <;> rfl)) | (simp [*, errW_none, errW_some] <;> rfl), by repeat (first | (with_reducible first | exact HB.out | apply below_alloc | apply pw_below_drewN | apply below_drew1) | exact HB.out)⟩
  · rw [if_neg c4] at H
    have c4b0 : decide (100000 < (wrap64 (a2 - a1))) = false := decide_eq_false c4
    clear c4
    obtain ⟨ji7, hji7⟩ : ∃ j_ : Int, (mn 100000 (wrap64 (a0 + (wrap64 (Int.tdiv (wrap64 ((wrap64 (Int.tdiv (wrap64 ((wrap64 ((wrap64 (a2 - a1)) * (wrap64 (a2 - a1)))) * (wrap64 (a2 - a1)))) 1000000)) * 4)) 10000))))) = j_ := ⟨_, rfl⟩
    replace H : (some (mx 1 (ji7))) = some r := by first | (rw [hji7] at H; exact H) | (simp only [hji7] at H ⊢; exact H)
    (try (have hji7h : ji7 ≤ 100000 := by (rw [← hji7]; unfold mn; (repeat' split) <;> omega)))
    (try (have hji7g : ji7 ≤ 64 := by omega))
    have hji7_ : (if (wrap64 (a0 + (wrap64 (Int.tdiv (wrap64 ((wrap64 (Int.tdiv (wrap64 ((wrap64 ((wrap64 (a2 - a1)) * (wrap64 (a2 - a1)))) * (wrap64 (a2 - a1)))) 1000000)) * 4)) 10000)))) < 100000 then (wrap64 (a0 + (wrap64 (Int.tdiv (wrap64 ((wrap64 (Int.tdiv (wrap64 ((wrap64 ((wrap64 (a2 - a1)) * (wrap64 (a2 - a1)))) * (wrap64 (a2 - a1)))) 1000000)) * 4)) 10000)))) else 100000) = ji7 := hji7
    obtain ⟨ji8, hji8⟩ : ∃ j_ : Int, (mx 1 (ji7)) = j_ := ⟨_, rfl⟩
    replace H : (some ji8) = some r := by first | (rw [hji8] at H; exact H) | (simp only [hji8] at H ⊢; exact H)
    have hji8_ : (if 1 < (ji7) then (ji7) else 1) = ji8 := hji8
    obtain rfl := Option.some.inj H
    go_enter Try.func40, Try.ntmps40
    go_wp2
    go_ret
    exact ⟨by first | rfl | (simp [errW_none, errW_some] <;> rfl) | (simp only [← hji7, ← hji8]; first | rfl | (simp [errW_none, errW_some] <;> rfl)) | (simp [*, errW_none, errW_some] <;> rfl), by repeat (first | (with_reducible first | exact HB.out | apply below_alloc | apply pw_below_drewN | apply below_drew1) | exact HB.out)⟩

end Go.Proofs.Ytjfbeakmpmjadaa.PWin

namespace Go.Proofs.Ytjfbeakmpmjadaa.PWin
open Go.RowKit Go.Proofs.YtjfbeakmpmjadaaW.PrintWords Go.Proofs.YtjfbeakmpmjadaaW.PrintLast Go.Proofs.YtjfbeakmpmjadaaW.PrintMore
attribute [local go_sem] max2_int min2_int max_two min_two max_three min_three max_four min_four   -- for this text's walks alone
set_option linter.unusedVariables false
set_option linter.unusedSimpArgs false

/-! ### spec_l16Ack: function 33 -/
def spec_l16Ack.l0 : Nat → Int → Int → Int → Int → Int → Int → Int → Int → Int → Option (Int × Int × Int × Int × Int × Int × Int)
  | 0, _, _, _, _, _, _, _, _, _ => none
  | k + 1, x1, x5, x102000, x102001, x102002, x102003, x102004, x102005, x102006 => if x5 < x1 then (if x102000 < x102001 then (spec_l16Ack.l0 k x1 (wrap64 (x5 + 1)) (wrap64 (x102000 + 1)) x102001 x102002 x102003 x102004 x102005 x102006) else ((spec_l16At.f x102002 x102003 (wrap64 (x102005 - x102004))).bind fun t103 => (if t103 > x102000 then (if (wrap64 (t103 - x102000)) = 0 then (none) else (if (wrap64 (x102006 + 1)) > (wrap64 (Int.tdiv x102000 (wrap64 (t103 - x102000)))) then (spec_l16Ack.l0 k x1 (wrap64 (x5 + 1)) (mn 100000 (wrap64 (x102000 + 1))) x102001 x102002 x102003 x102004 x102005 0) else (spec_l16Ack.l0 k x1 (wrap64 (x5 + 1)) x102000 x102001 x102002 x102003 x102004 x102005 (mn (wrap64 (x102006 + 1)) 100000)))) else (if (wrap64 (x102006 + 1)) > (wrap64 (100 * x102000)) then (spec_l16Ack.l0 k x1 (wrap64 (x5 + 1)) (mn 100000 (wrap64 (x102000 + 1))) x102001 x102002 x102003 x102004 x102005 0) else (spec_l16Ack.l0 k x1 (wrap64 (x5 + 1)) x102000 x102001 x102002 x102003 x102004 x102005 (mn (wrap64 (x102006 + 1)) 100000)))))) else (some (x102000, x102001, x102002, x102003, x102004, x102005, x102006))
def spec_l16Ack.f (k : Nat) (a0_0 : Int) (a0_1 : Int) (a0_2 : Int) (a0_3 : Int) (a0_4 : Int) (a0_5 : Int) (a0_6 : Int) (a1 : Int) : Option (Int × Int × Int × Int × Int × Int × Int) := spec_l16Ack.l0 k a1 0 a0_0 a0_1 a0_2 a0_3 a0_4 a0_5 a0_6
theorem spec_l16Ack.mono_l : ∀ k, (∀ y0 y1 y2 y3 y4 y5 y6 y7 y8, LeO (spec_l16Ack.l0 k y0 y1 y2 y3 y4 y5 y6 y7 y8) (spec_l16Ack.l0 (k + 1) y0 y1 y2 y3 y4 y5 y6 y7 y8))
  | 0 => fun _ _ _ _ _ _ _ _ _ r h => by simp [spec_l16Ack.l0] at h
  | k + 1 => by
    have ih0 := spec_l16Ack.mono_l k
    · intro y0 y1 y2 y3 y4 y5 y6 y7 y8
      unfold spec_l16Ack.l0
      repeat' first
      | (with_reducible exact ih0 _ _ _ _ _ _ _ _ _)
      | (with_reducible exact LeO.refl _)
      | (with_reducible exact LeO.none _)
      | (with_reducible refine LeO.ite ?_ ?_)
      | (with_reducible refine LeO.bind ?_ (fun _ => ?_))
      | exact ih0 _ _ _ _ _ _ _ _ _
      | exact LeO.none _
      | refine LeO.ite ?_ ?_
      | refine LeO.bind ?_ (fun _ => ?_)
theorem spec_l16Ack.mono : ∀ a0 a1 a2 a3 a4 a5 a6 a7 k, LeO (spec_l16Ack.f k a0 a1 a2 a3 a4 a5 a6 a7) (spec_l16Ack.f (k + 1) a0 a1 a2 a3 a4 a5 a6 a7) := by
  intro a0 a1 a2 a3 a4 a5 a6 a7 k
  have ih0 := spec_l16Ack.mono_l k
  unfold spec_l16Ack.f
  repeat' first
      | (with_reducible exact ih0 _ _ _ _ _ _ _ _ _)
      | (with_reducible exact LeO.refl _)
      | (with_reducible exact LeO.none _)
      | (with_reducible refine LeO.ite ?_ ?_)
      | (with_reducible refine LeO.bind ?_ (fun _ => ?_))
      | exact ih0 _ _ _ _ _ _ _ _ _
      | exact LeO.none _
      | refine LeO.ite ?_ ?_
      | refine LeO.bind ?_ (fun _ => ?_)
set_option maxHeartbeats 8000000 in
set_option maxRecDepth 100000 in
theorem spec_l16Ack.calls (k : Nat) (a0_0 : Int) (a0_1 : Int) (a0_2 : Int) (a0_3 : Int) (a0_4 : Int) (a0_5 : Int) (a0_6 : Int) (a1 : Int) (r1 : Int) (r2 : Int) (r3 : Int) (r4 : Int) (r5 : Int) (r6 : Int) (r7 : Int) (w : World) (h : spec_l16Ack.f k a0_0 a0_1 a0_2 a0_3 a0_4 a0_5 a0_6 a1 = some (r1, r2, r3, r4, r5, r6, r7)) :
    Calls Try.prog 33 #[.agg #[.int .i64 a0_0, .int .i64 a0_1, .int .i64 a0_2, .int .i64 a0_3, .int .i64 a0_4, .int .i64 a0_5, .int .i64 a0_6], .int .i64 a1] w fun e w' => e = .returned (.agg #[.int .i64 r1, .int .i64 r2, .int .i64 r3, .int .i64 r4, .int .i64 r5, .int .i64 r6, .int .i64 r7]) ∧ Below w.heap.size w w' := by
  have hu26 := Try.underlying26
  have HB := Aside0.mk (Below.refl w.heap.size w)
  have H : (spec_l16Ack.l0 k a1 0 a0_0 a0_1 a0_2 a0_3 a0_4 a0_5 a0_6) = some (r1, r2, r3, r4, r5, r6, r7) := h
  clear h
  have H' := Aside0.mk H
  clear H
  go_enter Try.func33, Try.ntmps33
  go_wp2_with (first | ((with_reducible refine gate_dst (N := 2) rfl ?_); refine box_event ?hg (N := 2) ?hd (cs := #[.int .i64 a0_0, .int .i64 a0_1, .int .i64 a0_2, .int .i64 a0_3, .int .i64 a0_4, .int .i64 a0_5, .int .i64 a0_6]) (t := 26) ?hr ?_; (case hd => rfl); (case hg => rfl); (case hr => first | (go_simp; done) | (go_simp; rfl)); intro gb101 hg w3 hbox hb; have n0_ := Aside0.mk (below_step (by repeat (first | (with_reducible first | exact HB.out | apply below_alloc | apply pw_below_drewN | apply below_drew1) | exact HB.out)) hb); have n1_ := Aside0.mk (hbox); have n2_ := Aside0.mk ((by rw [hg]; exact (below_size (by repeat (first | (with_reducible first | exact HB.out | apply below_alloc | apply pw_below_drewN | apply below_drew1) | exact HB.out))) : w.heap.size ≤ gb101)); have n3_ := Aside0.mk ((by rw [hg]; exact (below_size (by repeat (first | (with_reducible first | exact HB.out | apply below_alloc | apply pw_below_drewN | apply below_drew1) | exact HB.out))) : w.heap.size ≤ gb101)); clear HB; have HB := n0_; have BK101 := n1_; have GW101 := n2_; have GE101 := n3_; clear n0_ n1_ n2_ n3_; clear hb hbox hg) | ((with_reducible refine gate_dst (N := 4) rfl ?_); refine box_event ?hg (N := 4) ?hd (cs := #[.int .i64 0, .int .i64 0, .int .i64 0, .int .i64 0, .int .i64 0, .int .i64 0, .int .i64 0]) (t := 26) ?hr ?_; (case hd => rfl); (case hg => rfl); (case hr => first | (go_simp; done) | (go_simp; rfl)); intro gb102 hg w4 hbox hb; have n0_ := Aside0.mk (blk_below (g := gb101) (o := .cells #[.int .i64 a0_0, .int .i64 a0_1, .int .i64 a0_2, .int .i64 a0_3, .int .i64 a0_4, .int .i64 a0_5, .int .i64 a0_6] 26 (0, 0)) (by (with_reducible repeat (first | refine blk_drewN ?_ _ | refine blk_drew ?_ | refine blk_alloc ?_ _)); exact BK101.out) hb); have n1_ := Aside0.mk (below_step (by repeat (first | (with_reducible first | exact HB.out | apply below_alloc | apply pw_below_drewN | apply below_drew1 | refine below_set ?_ GE101.out) | exact HB.out)) hb); have n2_ := Aside0.mk (hbox); have n3_ := Aside0.mk ((by rw [hg]; exact (below_size (by repeat (first | (with_reducible first | exact HB.out | apply below_alloc | apply pw_below_drewN | apply below_drew1 | refine below_set ?_ GE101.out) | exact HB.out))) : w.heap.size ≤ gb102)); have n4_ := Aside0.mk ((by rw [hg]; exact (below_size (by repeat (first | (with_reducible first | exact HB.out | apply below_alloc | apply pw_below_drewN | apply below_drew1 | refine below_set ?_ GE101.out) | exact HB.out))) : w.heap.size ≤ gb102)); have n5_ := Aside0.mk ((by rw [hg]; exact Nat.ne_of_lt (blk_lt (g := gb101) (o := .cells #[.int .i64 a0_0, .int .i64 a0_1, .int .i64 a0_2, .int .i64 a0_3, .int .i64 a0_4, .int .i64 a0_5, .int .i64 a0_6] 26 (0, 0)) (by (with_reducible repeat (first | refine blk_drewN ?_ _ | refine blk_drew ?_ | refine blk_alloc ?_ _)); exact BK101.out)) : gb101 ≠ gb102)); have n6_ := Aside0.mk ((by rw [hg]; exact Nat.ne_of_gt (blk_lt (g := gb101) (o := .cells #[.int .i64 a0_0, .int .i64 a0_1, .int .i64 a0_2, .int .i64 a0_3, .int .i64 a0_4, .int .i64 a0_5, .int .i64 a0_6] 26 (0, 0)) (by (with_reducible repeat (first | refine blk_drewN ?_ _ | refine blk_drew ?_ | refine blk_alloc ?_ _)); exact BK101.out)) : gb102 ≠ gb101)); clear BK101; clear HB; have BK101 := n0_; have HB := n1_; have BK102 := n2_; have GW102 := n3_; have GE102 := n4_; have NB101_102 := n5_; have NB102_101 := n6_; clear n0_ n1_ n2_ n3_ n4_ n5_ n6_; clear hb hbox hg))
  go_loopg [5] k (fun kq v5 w' => ∃ (x5_1 : Int) (x102000_1 : Int) (x102006_1 : Int), v5 = .int .i64 x5_1 ∧ Aside0 (spec_l16Ack.l0 kq a1 x5_1 x102000_1 a0_1 a0_2 a0_3 a0_4 a0_5 x102006_1 = some (r1, r2, r3, r4, r5, r6, r7)) ∧ Aside0 (kq ≤ k) ∧ Aside0 (w'.heap[gb101]? = some (.cells #[.int .i64 x102000_1, .int .i64 a0_1, .int .i64 a0_2, .int .i64 a0_3, .int .i64 a0_4, .int .i64 a0_5, .int .i64 x102006_1] 26 (0, 0))) ∧ Aside0 (w'.heap[gb102]? = some (.cells #[.int .i64 0, .int .i64 0, .int .i64 0, .int .i64 0, .int .i64 0, .int .i64 0, .int .i64 0] 26 (0, 0))) ∧ Aside0 (Below w.heap.size w w'))
  case atStart => exact ⟨(0), (a0_0), (a0_6), (by first | rfl | (simp; done) | (simp [*]; done)), H', ⟨Nat.le_refl _⟩, ⟨by (with_reducible repeat (first | refine blk_drewN ?_ _ | refine blk_drew ?_ | refine blk_alloc ?_ _)); exact BK101.out⟩, ⟨by (with_reducible repeat (first | refine blk_drewN ?_ _ | refine blk_drew ?_ | refine blk_alloc ?_ _)); exact BK102.out⟩, ⟨by repeat (first | (with_reducible first | exact HB.out | apply below_alloc | apply pw_below_drewN | apply below_drew1 | refine below_set ?_ GE101.out | refine below_set ?_ GE102.out) | exact HB.out)⟩⟩
  case round =>
    clear H'
    try clear p2
    try clear c3
    obtain ⟨x5_1, x102000_1, x102006_1, rfl, HA, HK1, BK101, BK102, HB⟩ := hrel
    cases gk with
    | zero => exact absurd HA.out (by simp [spec_l16Ack.l0])
    | succ k1 =>
      have H := HA.out
      clear HA
      simp only [spec_l16Ack.l0] at H
      by_cases c5 : x5_1 < a1
      · rw [if_pos c5] at H
        have c5b0 : decide (x5_1 < a1) = true := decide_eq_true c5
        clear c5
        by_cases c6 : x102000_1 < a0_1
        · rw [if_pos c6] at H
          have c6b0 : decide (x102000_1 < a0_1) = true := decide_eq_true c6
          clear c6
          have H' := Aside0.mk H
          clear H
          have hnb7 := NB101_102.out
          have hnc7 := NB102_101.out
          have hcz8_0 : wr.cell? ⟨gb101, 0, none⟩ = some (.int .i64 x102000_1) := (blk_cell BK101.out 0).trans rfl
          have hcz8_1 : wr.cell? ⟨gb101, 1, none⟩ = some (.int .i64 a0_1) := (blk_cell BK101.out 1).trans rfl
          have hcz8_2 : wr.cell? ⟨gb101, 2, none⟩ = some (.int .i64 a0_2) := (blk_cell BK101.out 2).trans rfl
          have hcz8_3 : wr.cell? ⟨gb101, 3, none⟩ = some (.int .i64 a0_3) := (blk_cell BK101.out 3).trans rfl
          have hcz8_4 : wr.cell? ⟨gb101, 4, none⟩ = some (.int .i64 a0_4) := (blk_cell BK101.out 4).trans rfl
          have hcz8_5 : wr.cell? ⟨gb101, 5, none⟩ = some (.int .i64 a0_5) := (blk_cell BK101.out 5).trans rfl
          have hcz8_6 : wr.cell? ⟨gb101, 6, none⟩ = some (.int .i64 x102006_1) := (blk_cell BK101.out 6).trans rfl
          have hfz8_0 := blk_frozen BK101.out 0
          have hfz8_1 := blk_frozen BK101.out 1
          have hfz8_2 := blk_frozen BK101.out 2
          have hfz8_3 := blk_frozen BK101.out 3
          have hfz8_4 := blk_frozen BK101.out 4
          have hfz8_5 := blk_frozen BK101.out 5
          have hfz8_6 := blk_frozen BK101.out 6
          go_wp2
          go_roundg k1
          case measure => have := HK1.out; omega
          case rel => exact ⟨(wrap64 (x5_1 + 1)), (wrap64 (x102000_1 + 1)), (x102006_1), (by first | rfl | (simp; done) | (simp [*]; done)), H', ⟨by have := HK1.out; omega⟩, ⟨by (with_reducible repeat (first | refine blk_drewN ?_ _ | refine blk_drew ?_ | refine blk_alloc ?_ _)); refine blk_put (cs := #[.int .i64 x102000_1, .int .i64 a0_1, .int .i64 a0_2, .int .i64 a0_3, .int .i64 a0_4, .int .i64 a0_5, .int .i64 x102006_1]) ?_ 0 _ rfl; (with_reducible repeat (first | refine blk_drewN ?_ _ | refine blk_drew ?_ | refine blk_alloc ?_ _)); exact BK101.out⟩, ⟨by (with_reducible repeat (first | refine blk_drewN ?_ _ | refine blk_drew ?_ | refine blk_alloc ?_ _)); refine blk_far ?_ NB102_101.out _; (with_reducible repeat (first | refine blk_drewN ?_ _ | refine blk_drew ?_ | refine blk_alloc ?_ _)); exact BK102.out⟩, ⟨by repeat (first | (with_reducible first | exact HB.out | apply below_alloc | apply pw_below_drewN | apply below_drew1 | refine below_set ?_ GE101.out | refine below_set ?_ GE102.out) | exact HB.out)⟩⟩
        · rw [if_neg c6] at H
          have c6b0 : decide (x102000_1 < a0_1) = false := decide_eq_false c6
          clear c6
          replace H := Option.bind_eq_some_iff.mp H
          obtain ⟨t103, A90, H⟩ := H
          replace H : (if t103 > x102000_1 then (if (wrap64 (t103 - x102000_1)) = 0 then (none) else (if (wrap64 (x102006_1 + 1)) > (wrap64 (Int.tdiv x102000_1 (wrap64 (t103 - x102000_1)))) then (spec_l16Ack.l0 k1 a1 (wrap64 (x5_1 + 1)) (mn 100000 (wrap64 (x102000_1 + 1))) a0_1 a0_2 a0_3 a0_4 a0_5 0) else (spec_l16Ack.l0 k1 a1 (wrap64 (x5_1 + 1)) x102000_1 a0_1 a0_2 a0_3 a0_4 a0_5 (mn (wrap64 (x102006_1 + 1)) 100000)))) else (if (wrap64 (x102006_1 + 1)) > (wrap64 (100 * x102000_1)) then (spec_l16Ack.l0 k1 a1 (wrap64 (x5_1 + 1)) (mn 100000 (wrap64 (x102000_1 + 1))) a0_1 a0_2 a0_3 a0_4 a0_5 0) else (spec_l16Ack.l0 k1 a1 (wrap64 (x5_1 + 1)) x102000_1 a0_1 a0_2 a0_3 a0_4 a0_5 (mn (wrap64 (x102006_1 + 1)) 100000)))) = some (r1, r2, r3, r4, r5, r6, r7) := H
          have A9 := Aside0.mk A90
          clear A90
          by_cases c10 : t103 > x102000_1
          · rw [if_pos c10] at H
            have c10b0 : decide (x102000_1 < t103) = true := decide_eq_true c10
            clear c10
            by_cases c11 : (wrap64 (t103 - x102000_1)) = 0
            · rw [if_pos c11] at H
              exact absurd H (by simp)
            · rw [if_neg c11] at H
              have c11b0 : ((wrap64 (t103 - x102000_1)) == 0) = false := beq_eq_false_iff_ne.mpr c11
              have c11b1 : ((wrap64 (t103 - x102000_1)) != 0) = true := bne_iff_ne.mpr c11
              by_cases c12 : (wrap64 (x102006_1 + 1)) > (wrap64 (Int.tdiv x102000_1 (wrap64 (t103 - x102000_1))))
              · rw [if_pos c12] at H
                have c12b0 : decide ((wrap64 (Int.tdiv x102000_1 (wrap64 (t103 - x102000_1)))) < (wrap64 (x102006_1 + 1))) = true := decide_eq_true c12
                clear c12
                obtain ⟨ji13, hji13⟩ : ∃ j_ : Int, (mn 100000 (wrap64 (x102000_1 + 1))) = j_ := ⟨_, rfl⟩
                replace H : (spec_l16Ack.l0 k1 a1 (wrap64 (x5_1 + 1)) ji13 a0_1 a0_2 a0_3 a0_4 a0_5 0) = some (r1, r2, r3, r4, r5, r6, r7) := by first | (rw [hji13] at H; exact H) | (simp only [hji13] at H ⊢; exact H)
                (try rw [hji13] at A9)
                have hji13_ : (if (wrap64 (x102000_1 + 1)) < 100000 then (wrap64 (x102000_1 + 1)) else 100000) = ji13 := hji13
                have H' := Aside0.mk H
                clear H
                have hnb14 := NB101_102.out
                have hnc14 := NB102_101.out
                have hcz15_0 : wr.cell? ⟨gb101, 0, none⟩ = some (.int .i64 x102000_1) := (blk_cell BK101.out 0).trans rfl
                have hcz15_1 : wr.cell? ⟨gb101, 1, none⟩ = some (.int .i64 a0_1) := (blk_cell BK101.out 1).trans rfl
                have hcz15_2 : wr.cell? ⟨gb101, 2, none⟩ = some (.int .i64 a0_2) := (blk_cell BK101.out 2).trans rfl
                have hcz15_3 : wr.cell? ⟨gb101, 3, none⟩ = some (.int .i64 a0_3) := (blk_cell BK101.out 3).trans rfl
                have hcz15_4 : wr.cell? ⟨gb101, 4, none⟩ = some (.int .i64 a0_4) := (blk_cell BK101.out 4).trans rfl
                have hcz15_5 : wr.cell? ⟨gb101, 5, none⟩ = some (.int .i64 a0_5) := (blk_cell BK101.out 5).trans rfl
                have hcz15_6 : wr.cell? ⟨gb101, 6, none⟩ = some (.int .i64 x102006_1) := (blk_cell BK101.out 6).trans rfl
                have hfz15_0 := blk_frozen BK101.out 0
                have hfz15_1 := blk_frozen BK101.out 1
                have hfz15_2 := blk_frozen BK101.out 2
                have hfz15_3 := blk_frozen BK101.out 3
                have hfz15_4 := blk_frozen BK101.out 4
                have hfz15_5 := blk_frozen BK101.out 5
                have hfz15_6 := blk_frozen BK101.out 6
                go_wp2_with (first | ((with_reducible refine gate_callee (f := 40) rfl ?_); refine goesL_ (some 31) rfl rfl Try.func40 (by kernel_rfl) rfl #[.int .i64 a0_2, .int .i64 a0_3, .int .i64 (wrap64 (a0_5 - a0_4))] rfl (by (try simp only [List.map_toArray, List.map_cons, List.map_nil]); first | done | rfl | (simp only [List.length_drop, List.length_take]; rfl)) ?_; (with_reducible refine (spec_l16At.calls a0_2 a0_3 (wrap64 (a0_5 - a0_4)) t103 _ A9.out).mono ?_); rintro e w16 ⟨rfl, hb⟩; refine ⟨_, rfl, ?_⟩; have n0_ := Aside0.mk (blk_below (g := gb101) (o := .cells #[.int .i64 x102000_1, .int .i64 a0_1, .int .i64 a0_2, .int .i64 a0_3, .int .i64 a0_4, .int .i64 a0_5, .int .i64 x102006_1] 26 (0, 0)) (by (with_reducible repeat (first | refine blk_drewN ?_ _ | refine blk_drew ?_ | refine blk_alloc ?_ _)); exact BK101.out) hb); have n1_ := Aside0.mk (blk_below (g := gb102) (o := .cells #[.int .i64 0, .int .i64 0, .int .i64 0, .int .i64 0, .int .i64 0, .int .i64 0, .int .i64 0] 26 (0, 0)) (by (with_reducible repeat (first | refine blk_drewN ?_ _ | refine blk_drew ?_ | refine blk_alloc ?_ _)); exact BK102.out) hb); have n2_ := Aside0.mk (below_step (by repeat (first | (with_reducible first | exact HB.out | apply below_alloc | apply pw_below_drewN | apply below_drew1 | refine below_set ?_ GE101.out | refine below_set ?_ GE102.out) | exact HB.out)) hb); clear BK101; clear BK102; clear HB; have BK101 := n0_; have BK102 := n1_; have HB := n2_; clear n0_ n1_ n2_; (try clear hb); (try clear hb2); (try clear hk); (try clear hi); have hcz17_0 : w16.cell? ⟨gb101, 0, none⟩ = some (.int .i64 x102000_1) := (blk_cell BK101.out 0).trans rfl; have hcz17_1 : w16.cell? ⟨gb101, 1, none⟩ = some (.int .i64 a0_1) := (blk_cell BK101.out 1).trans rfl; have hcz17_2 : w16.cell? ⟨gb101, 2, none⟩ = some (.int .i64 a0_2) := (blk_cell BK101.out 2).trans rfl; have hcz17_3 : w16.cell? ⟨gb101, 3, none⟩ = some (.int .i64 a0_3) := (blk_cell BK101.out 3).trans rfl; have hcz17_4 : w16.cell? ⟨gb101, 4, none⟩ = some (.int .i64 a0_4) := (blk_cell BK101.out 4).trans rfl; have hcz17_5 : w16.cell? ⟨gb101, 5, none⟩ = some (.int .i64 a0_5) := (blk_cell BK101.out 5).trans rfl; have hcz17_6 : w16.cell? ⟨gb101, 6, none⟩ = some (.int .i64 x102006_1) := (blk_cell BK101.out 6).trans rfl; have hfz17_0 := blk_frozen BK101.out 0; have hfz17_1 := blk_frozen BK101.out 1; have hfz17_2 := blk_frozen BK101.out 2; have hfz17_3 := blk_frozen BK101.out 3; have hfz17_4 := blk_frozen BK101.out 4; have hfz17_5 := blk_frozen BK101.out 5; have hfz17_6 := blk_frozen BK101.out 6))
                go_roundg k1
                case measure => have := HK1.out; omega
                case rel => exact ⟨(wrap64 (x5_1 + 1)), (ji13), (0), (by first | rfl | (simp; done) | (simp [*]; done)), H', ⟨by have := HK1.out; omega⟩, ⟨by (with_reducible repeat (first | refine blk_drewN ?_ _ | refine blk_drew ?_ | refine blk_alloc ?_ _)); refine blk_put (cs := #[.int .i64 ji13, .int .i64 a0_1, .int .i64 a0_2, .int .i64 a0_3, .int .i64 a0_4, .int .i64 a0_5, .int .i64 0]) ?_ 6 _ rfl; (with_reducible repeat (first | refine blk_drewN ?_ _ | refine blk_drew ?_ | refine blk_alloc ?_ _)); refine blk_put (cs := #[.int .i64 x102000_1, .int .i64 a0_1, .int .i64 a0_2, .int .i64 a0_3, .int .i64 a0_4, .int .i64 a0_5, .int .i64 0]) ?_ 0 _ rfl; (with_reducible repeat (first | refine blk_drewN ?_ _ | refine blk_drew ?_ | refine blk_alloc ?_ _)); refine blk_put (cs := #[.int .i64 x102000_1, .int .i64 a0_1, .int .i64 a0_2, .int .i64 a0_3, .int .i64 a0_4, .int .i64 a0_5, .int .i64 (wrap64 (x102006_1 + 1))]) ?_ 6 _ rfl; (with_reducible repeat (first | refine blk_drewN ?_ _ | refine blk_drew ?_ | refine blk_alloc ?_ _)); refine blk_put (cs := #[.int .i64 x102000_1, .int .i64 a0_1, .int .i64 a0_2, .int .i64 a0_3, .int .i64 a0_4, .int .i64 a0_5, .int .i64 x102006_1]) ?_ 6 _ rfl; (with_reducible repeat (first | refine blk_drewN ?_ _ | refine blk_drew ?_ | refine blk_alloc ?_ _)); exact BK101.out⟩, ⟨by (with_reducible repeat (first | refine blk_drewN ?_ _ | refine blk_drew ?_ | refine blk_alloc ?_ _)); refine blk_far ?_ NB102_101.out _; (with_reducible repeat (first | refine blk_drewN ?_ _ | refine blk_drew ?_ | refine blk_alloc ?_ _)); refine blk_far ?_ NB102_101.out _; (with_reducible repeat (first | refine blk_drewN ?_ _ | refine blk_drew ?_ | refine blk_alloc ?_ _)); refine blk_far ?_ NB102_101.out _; (with_reducible repeat (first | refine blk_drewN ?_ _ | refine blk_drew ?_ | refine blk_alloc ?_ _)); refine blk_far ?_ NB102_101.out _; (with_reducible repeat (first | refine blk_drewN ?_ _ | refine blk_drew ?_ | refine blk_alloc ?_ _)); exact BK102.out⟩, ⟨by repeat (first | (with_reducible first | exact HB.out | apply below_alloc | apply pw_below_drewN | apply below_drew1 | refine below_set ?_ GE101.out | refine below_set ?_ GE102.out) | exact HB.out)⟩⟩
              · rw [if_neg c12] at H
                have c12b0 : decide ((wrap64 (Int.tdiv x102000_1 (wrap64 (t103 - x102000_1)))) < (wrap64 (x102006_1 + 1))) = false := decide_eq_false c12
                clear c12
                obtain ⟨ji18, hji18⟩ : ∃ j_ : Int, (mn (wrap64 (x102006_1 + 1)) 100000) = j_ := ⟨_, rfl⟩
                replace H : (spec_l16Ack.l0 k1 a1 (wrap64 (x5_1 + 1)) x102000_1 a0_1 a0_2 a0_3 a0_4 a0_5 ji18) = some (r1, r2, r3, r4, r5, r6, r7) := by first | (rw [hji18] at H; exact H) | (simp only [hji18] at H ⊢; exact H)
                (try rw [hji18] at A9)
                have hji18_ : (if 100000 < (wrap64 (x102006_1 + 1)) then 100000 else (wrap64 (x102006_1 + 1))) = ji18 := hji18
                have H' := Aside0.mk H
                clear H
                have hnb19 := NB101_102.out
                have hnc19 := NB102_101.out
                have hcz20_0 : wr.cell? ⟨gb101, 0, none⟩ = some (.int .i64 x102000_1) := (blk_cell BK101.out 0).trans rfl
                have hcz20_1 : wr.cell? ⟨gb101, 1, none⟩ = some (.int .i64 a0_1) := (blk_cell BK101.out 1).trans rfl
                have hcz20_2 : wr.cell? ⟨gb101, 2, none⟩ = some (.int .i64 a0_2) := (blk_cell BK101.out 2).trans rfl
                have hcz20_3 : wr.cell? ⟨gb101, 3, none⟩ = some (.int .i64 a0_3) := (blk_cell BK101.out 3).trans rfl
                have hcz20_4 : wr.cell? ⟨gb101, 4, none⟩ = some (.int .i64 a0_4) := (blk_cell BK101.out 4).trans rfl
                have hcz20_5 : wr.cell? ⟨gb101, 5, none⟩ = some (.int .i64 a0_5) := (blk_cell BK101.out 5).trans rfl
                have hcz20_6 : wr.cell? ⟨gb101, 6, none⟩ = some (.int .i64 x102006_1) := (blk_cell BK101.out 6).trans rfl
                have hfz20_0 := blk_frozen BK101.out 0
                have hfz20_1 := blk_frozen BK101.out 1
                have hfz20_2 := blk_frozen BK101.out 2
                have hfz20_3 := blk_frozen BK101.out 3
                have hfz20_4 := blk_frozen BK101.out 4
                have hfz20_5 := blk_frozen BK101.out 5
                have hfz20_6 := blk_frozen BK101.out 6
                go_wp2_with (first | ((with_reducible refine gate_callee (f := 40) rfl ?_); refine goesL_ (some 31) rfl rfl Try.func40 (by kernel_rfl) rfl #[.int .i64 a0_2, .int .i64 a0_3, .int .i64 (wrap64 (a0_5 - a0_4))] rfl (by (try simp only [List.map_toArray, List.map_cons, List.map_nil]); first | done | rfl | (simp only [List.length_drop, List.length_take]; rfl)) ?_; (with_reducible refine (spec_l16At.calls a0_2 a0_3 (wrap64 (a0_5 - a0_4)) t103 _ A9.out).mono ?_); rintro e w21 ⟨rfl, hb⟩; refine ⟨_, rfl, ?_⟩; have n0_ := Aside0.mk (blk_below (g := gb101) (o := .cells #[.int .i64 x102000_1, .int .i64 a0_1, .int .i64 a0_2, .int .i64 a0_3, .int .i64 a0_4, .int .i64 a0_5, .int .i64 x102006_1] 26 (0, 0)) (by (with_reducible repeat (first | refine blk_drewN ?_ _ | refine blk_drew ?_ | refine blk_alloc ?_ _)); exact BK101.out) hb); have n1_ := Aside0.mk (blk_below (g := gb102) (o := .cells #[.int .i64 0, .int .i64 0, .int .i64 0, .int .i64 0, .int .i64 0, .int .i64 0, .int .i64 0] 26 (0, 0)) (by (with_reducible repeat (first | refine blk_drewN ?_ _ | refine blk_drew ?_ | refine blk_alloc ?_ _)); exact BK102.out) hb); have n2_ := Aside0.mk (below_step (by repeat (first | (with_reducible first | exact HB.out | apply below_alloc | apply pw_below_drewN | apply below_drew1 | refine below_set ?_ GE101.out | refine below_set ?_ GE102.out) | exact HB.out)) hb); clear BK101; clear BK102; clear HB; have BK101 := n0_; have BK102 := n1_; have HB := n2_; clear n0_ n1_ n2_; (try clear hb); (try clear hb2); (try clear hk); (try clear hi); have hcz22_0 : w21.cell? ⟨gb101, 0, none⟩ = some (.int .i64 x102000_1) := (blk_cell BK101.out 0).trans rfl; have hcz22_1 : w21.cell? ⟨gb101, 1, none⟩ = some (.int .i64 a0_1) := (blk_cell BK101.out 1).trans rfl; have hcz22_2 : w21.cell? ⟨gb101, 2, none⟩ = some (.int .i64 a0_2) := (blk_cell BK101.out 2).trans rfl; have hcz22_3 : w21.cell? ⟨gb101, 3, none⟩ = some (.int .i64 a0_3) := (blk_cell BK101.out 3).trans rfl; have hcz22_4 : w21.cell? ⟨gb101, 4, none⟩ = some (.int .i64 a0_4) := (blk_cell BK101.out 4).trans rfl; have hcz22_5 : w21.cell? ⟨gb101, 5, none⟩ = some (.int .i64 a0_5) := (blk_cell BK101.out 5).trans rfl; have hcz22_6 : w21.cell? ⟨gb101, 6, none⟩ = some (.int .i64 x102006_1) := (blk_cell BK101.out 6).trans rfl; have hfz22_0 := blk_frozen BK101.out 0; have hfz22_1 := blk_frozen BK101.out 1; have hfz22_2 := blk_frozen BK101.out 2; have hfz22_3 := blk_frozen BK101.out 3; have hfz22_4 := blk_frozen BK101.out 4; have hfz22_5 := blk_frozen BK101.out 5; have hfz22_6 := blk_frozen BK101.out 6))
                go_roundg k1
                case measure => have := HK1.out; omega
                case rel => exact ⟨(wrap64 (x5_1 + 1)), (x102000_1), (ji18), (by first | rfl | (simp; done) | (simp [*]; done)), H', ⟨by have := HK1.out; omega⟩, ⟨by (with_reducible repeat (first | refine blk_drewN ?_ _ | refine blk_drew ?_ | refine blk_alloc ?_ _)); refine blk_put (cs := #[.int .i64 x102000_1, .int .i64 a0_1, .int .i64 a0_2, .int .i64 a0_3, .int .i64 a0_4, .int .i64 a0_5, .int .i64 (wrap64 (x102006_1 + 1))]) ?_ 6 _ rfl; (with_reducible repeat (first | refine blk_drewN ?_ _ | refine blk_drew ?_ | refine blk_alloc ?_ _)); refine blk_put (cs := #[.int .i64 x102000_1, .int .i64 a0_1, .int .i64 a0_2, .int .i64 a0_3, .int .i64 a0_4, .int .i64 a0_5, .int .i64 x102006_1]) ?_ 6 _ rfl; (with_reducible repeat (first | refine blk_drewN ?_ _ | refine blk_drew ?_ | refine blk_alloc ?_ _)); exact BK101.out⟩, ⟨by (with_reducible repeat (first | refine blk_drewN ?_ _ | refine blk_drew ?_ | refine blk_alloc ?_ _)); refine blk_far ?_ NB102_101.out _; (with_reducible repeat (first | refine blk_drewN ?_ _ | refine blk_drew ?_ | refine blk_alloc ?_ _)); refine blk_far ?_ NB102_101.out _; (with_reducible repeat (first | refine blk_drewN ?_ _ | refine blk_drew ?_ | refine blk_alloc ?_ _)); exact BK102.out⟩, ⟨by repeat (first | (with_reducible first | exact HB.out | apply below_alloc | apply pw_below_drewN | apply below_drew1 | refine below_set ?_ GE101.out | refine below_set ?_ GE102.out) | exact HB.out)⟩⟩
          · rw [if_neg c10] at H
            have c10b0 : decide (x102000_1 < t103) = false := decide_eq_false c10
            clear c10
            by_cases c23 : (wrap64 (x102006_1 + 1)) > (wrap64 (100 * x102000_1))
            · rw [if_pos c23] at H
              have c23b0 : decide ((wrap64 (100 * x102000_1)) < (wrap64 (x102006_1 + 1))) = true := decide_eq_true c23
              clear c23
              obtain ⟨ji24, hji24⟩ : ∃ j_ : Int, (mn 100000 (wrap64 (x102000_1 + 1))) = j_ := ⟨_, rfl⟩
              replace H : (spec_l16Ack.l0 k1 a1 (wrap64 (x5_1 + 1)) ji24 a0_1 a0_2 a0_3 a0_4 a0_5 0) = some (r1, r2, r3, r4, r5, r6, r7) := by first | (rw [hji24] at H; exact H) | (simp only [hji24] at H ⊢; exact H)
              (try rw [hji24] at A9)
              have hji24_ : (if (wrap64 (x102000_1 + 1)) < 100000 then (wrap64 (x102000_1 + 1)) else 100000) = ji24 := hji24
              have H' := Aside0.mk H
              clear H
              have hnb25 := NB101_102.out
              have hnc25 := NB102_101.out
              have hcz26_0 : wr.cell? ⟨gb101, 0, none⟩ = some (.int .i64 x102000_1) := (blk_cell BK101.out 0).trans rfl
              have hcz26_1 : wr.cell? ⟨gb101, 1, none⟩ = some (.int .i64 a0_1) := (blk_cell BK101.out 1).trans rfl
              have hcz26_2 : wr.cell? ⟨gb101, 2, none⟩ = some (.int .i64 a0_2) := (blk_cell BK101.out 2).trans rfl
              have hcz26_3 : wr.cell? ⟨gb101, 3, none⟩ = some (.int .i64 a0_3) := (blk_cell BK101.out 3).trans rfl
              have hcz26_4 : wr.cell? ⟨gb101, 4, none⟩ = some (.int .i64 a0_4) := (blk_cell BK101.out 4).trans rfl
              have hcz26_5 : wr.cell? ⟨gb101, 5, none⟩ = some (.int .i64 a0_5) := (blk_cell BK101.out 5).trans rfl
              have hcz26_6 : wr.cell? ⟨gb101, 6, none⟩ = some (.int .i64 x102006_1) := (blk_cell BK101.out 6).trans rfl
              have hfz26_0 := blk_frozen BK101.out 0
              have hfz26_1 := blk_frozen BK101.out 1
              have hfz26_2 := blk_frozen BK101.out 2
              have hfz26_3 := blk_frozen BK101.out 3
              have hfz26_4 := blk_frozen BK101.out 4
              have hfz26_5 := blk_frozen BK101.out 5
              have hfz26_6 := blk_frozen BK101.out 6
              go_wp2_with (first | ((with_reducible refine gate_callee (f := 40) rfl ?_); refine goesL_ (some 31) rfl rfl Try.func40 (by kernel_rfl) rfl #[.int .i64 a0_2, .int .i64 a0_3, .int .i64 (wrap64 (a0_5 - a0_4))] rfl (by (try simp only [List.map_toArray, List.map_cons, List.map_nil]); first | done | rfl | (simp only [List.length_drop, List.length_take]; rfl)) ?_; (with_reducible refine (spec_l16At.calls a0_2 a0_3 (wrap64 (a0_5 - a0_4)) t103 _ A9.out).mono ?_); rintro e w27 ⟨rfl, hb⟩; refine ⟨_, rfl, ?_⟩; have n0_ := Aside0.mk (blk_below (g := gb101) (o := .cells #[.int .i64 x102000_1, .int .i64 a0_1, .int .i64 a0_2, .int .i64 a0_3, .int .i64 a0_4, .int .i64 a0_5, .int .i64 x102006_1] 26 (0, 0)) (by (with_reducible repeat (first | refine blk_drewN ?_ _ | refine blk_drew ?_ | refine blk_alloc ?_ _)); exact BK101.out) hb); have n1_ := Aside0.mk (blk_below (g := gb102) (o := .cells #[.int .i64 0, .int .i64 0, .int .i64 0, .int .i64 0, .int .i64 0, .int .i64 0, .int .i64 0] 26 (0, 0)) (by (with_reducible repeat (first | refine blk_drewN ?_ _ | refine blk_drew ?_ | refine blk_alloc ?_ _)); exact BK102.out) hb); have n2_ := Aside0.mk (below_step (by repeat (first | (with_reducible first | exact HB.out | apply below_alloc | apply pw_below_drewN | apply below_drew1 | refine below_set ?_ GE101.out | refine below_set ?_ GE102.out) | exact HB.out)) hb); clear BK101; clear BK102; clear HB; have BK101 := n0_; have BK102 := n1_; have HB := n2_; clear n0_ n1_ n2_; (try clear hb); (try clear hb2); (try clear hk); (try clear hi); have hcz28_0 : w27.cell? ⟨gb101, 0, none⟩ = some (.int .i64 x102000_1) := (blk_cell BK101.out 0).trans rfl; have hcz28_1 : w27.cell? ⟨gb101, 1, none⟩ = some (.int .i64 a0_1) := (blk_cell BK101.out 1).trans rfl; have hcz28_2 : w27.cell? ⟨gb101, 2, none⟩ = some (.int .i64 a0_2) := (blk_cell BK101.out 2).trans rfl; have hcz28_3 : w27.cell? ⟨gb101, 3, none⟩ = some (.int .i64 a0_3) := (blk_cell BK101.out 3).trans rfl; have hcz28_4 : w27.cell? ⟨gb101, 4, none⟩ = some (.int .i64 a0_4) := (blk_cell BK101.out 4).trans rfl; have hcz28_5 : w27.cell? ⟨gb101, 5, none⟩ = some (.int .i64 a0_5) := (blk_cell BK101.out 5).trans rfl; have hcz28_6 : w27.cell? ⟨gb101, 6, none⟩ = some (.int .i64 x102006_1) := (blk_cell BK101.out 6).trans rfl; have hfz28_0 := blk_frozen BK101.out 0; have hfz28_1 := blk_frozen BK101.out 1; have hfz28_2 := blk_frozen BK101.out 2; have hfz28_3 := blk_frozen BK101.out 3; have hfz28_4 := blk_frozen BK101.out 4; have hfz28_5 := blk_frozen BK101.out 5; have hfz28_6 := blk_frozen BK101.out 6))
              go_roundg k1
              case measure => have := HK1.out; omega
              case rel => exact ⟨(wrap64 (x5_1 + 1)), (ji24), (0), (by first | rfl | (simp; done) | (simp [*]; done)), H', ⟨by have := HK1.out; omega⟩, ⟨by (with_reducible repeat (first | refine blk_drewN ?_ _ | refine blk_drew ?_ | refine blk_alloc ?_ _)); refine blk_put (cs := #[.int .i64 ji24, .int .i64 a0_1, .int .i64 a0_2, .int .i64 a0_3, .int .i64 a0_4, .int .i64 a0_5, .int .i64 0]) ?_ 6 _ rfl; (with_reducible repeat (first | refine blk_drewN ?_ _ | refine blk_drew ?_ | refine blk_alloc ?_ _)); refine blk_put (cs := #[.int .i64 x102000_1, .int .i64 a0_1, .int .i64 a0_2, .int .i64 a0_3, .int .i64 a0_4, .int .i64 a0_5, .int .i64 0]) ?_ 0 _ rfl; (with_reducible repeat (first | refine blk_drewN ?_ _ | refine blk_drew ?_ | refine blk_alloc ?_ _)); refine blk_put (cs := #[.int .i64 x102000_1, .int .i64 a0_1, .int .i64 a0_2, .int .i64 a0_3, .int .i64 a0_4, .int .i64 a0_5, .int .i64 (wrap64 (x102006_1 + 1))]) ?_ 6 _ rfl; (with_reducible repeat (first | refine blk_drewN ?_ _ | refine blk_drew ?_ | refine blk_alloc ?_ _)); refine blk_put (cs := #[.int .i64 x102000_1, .int .i64 a0_1, .int .i64 a0_2, .int .i64 a0_3, .int .i64 a0_4, .int .i64 a0_5, .int .i64 x102006_1]) ?_ 6 _ rfl; (with_reducible repeat (first | refine blk_drewN ?_ _ | refine blk_drew ?_ | refine blk_alloc ?_ _)); exact BK101.out⟩, ⟨by (with_reducible repeat (first | refine blk_drewN ?_ _ | refine blk_drew ?_ | refine blk_alloc ?_ _)); refine blk_far ?_ NB102_101.out _; (with_reducible repeat (first | refine blk_drewN ?_ _ | refine blk_drew ?_ | refine blk_alloc ?_ _)); refine blk_far ?_ NB102_101.out _; (with_reducible repeat (first | refine blk_drewN ?_ _ | refine blk_drew ?_ | refine blk_alloc ?_ _)); refine blk_far ?_ NB102_101.out _; (with_reducible repeat (first | refine blk_drewN ?_ _ | refine blk_drew ?_ | refine blk_alloc ?_ _)); refine blk_far ?_ NB102_101.out _; (with_reducible repeat (first | refine blk_drewN ?_ _ | refine blk_drew ?_ | refine blk_alloc ?_ _)); exact BK102.out⟩, ⟨by repeat (first | (with_reducible first | exact HB.out | apply below_alloc | apply pw_below_drewN | apply below_drew1 | refine below_set ?_ GE101.out | refine below_set ?_ GE102.out) | exact HB.out)⟩⟩
            · rw [if_neg c23] at H
              have c23b0 : decide ((wrap64 (100 * x102000_1)) < (wrap64 (x102006_1 + 1))) = false := decide_eq_false c23
              clear c23
              obtain ⟨ji29, hji29⟩ : ∃ j_ : Int, (mn (wrap64 (x102006_1 + 1)) 100000) = j_ := ⟨_, rfl⟩
              replace H : (spec_l16Ack.l0 k1 a1 (wrap64 (x5_1 + 1)) x102000_1 a0_1 a0_2 a0_3 a0_4 a0_5 ji29) = some (r1, r2, r3, r4, r5, r6, r7) := by first | (rw [hji29] at H; exact H) | (simp only [hji29] at H ⊢; exact H)
              (try rw [hji29] at A9)
              have hji29_ : (if 100000 < (wrap64 (x102006_1 + 1)) then 100000 else (wrap64 (x102006_1 + 1))) = ji29 := hji29
              have H' := Aside0.mk H
              clear H
              have hnb30 := NB101_102.out
              have hnc30 := NB102_101.out
              have hcz31_0 : wr.cell? ⟨gb101, 0, none⟩ = some (.int .i64 x102000_1) := (blk_cell BK101.out 0).trans rfl
              have hcz31_1 : wr.cell? ⟨gb101, 1, none⟩ = some (.int .i64 a0_1) := (blk_cell BK101.out 1).trans rfl
              have hcz31_2 : wr.cell? ⟨gb101, 2, none⟩ = some (.int .i64 a0_2) := (blk_cell BK101.out 2).trans rfl
              have hcz31_3 : wr.cell? ⟨gb101, 3, none⟩ = some (.int .i64 a0_3) := (blk_cell BK101.out 3).trans rfl
              have hcz31_4 : wr.cell? ⟨gb101, 4, none⟩ = some (.int .i64 a0_4) := (blk_cell BK101.out 4).trans rfl
              have hcz31_5 : wr.cell? ⟨gb101, 5, none⟩ = some (.int .i64 a0_5) := (blk_cell BK101.out 5).trans rfl
              have hcz31_6 : wr.cell? ⟨gb101, 6, none⟩ = some (.int .i64 x102006_1) := (blk_cell BK101.out 6).trans rfl
              have hfz31_0 := blk_frozen BK101.out 0
              have hfz31_1 := blk_frozen BK101.out 1
              have hfz31_2 := blk_frozen BK101.out 2
              have hfz31_3 := blk_frozen BK101.out 3
              have hfz31_4 := blk_frozen BK101.out 4
              have hfz31_5 := blk_frozen BK101.out 5
              have hfz31_6 := blk_frozen BK101.out 6
              go_wp2_with (first | ((with_reducible refine gate_callee (f := 40) rfl ?_); refine goesL_ (some 31) rfl rfl Try.func40 (by kernel_rfl) rfl #[.int .i64 a0_2, .int .i64 a0_3, .int .i64 (wrap64 (a0_5 - a0_4))] rfl (by (try simp only [List.map_toArray, List.map_cons, List.map_nil]); first | done | rfl | (simp only [List.length_drop, List.length_take]; rfl)) ?_; (with_reducible refine (spec_l16At.calls a0_2 a0_3 (wrap64 (a0_5 - a0_4)) t103 _ A9.out).mono ?_); rintro e w32 ⟨rfl, hb⟩; refine ⟨_, rfl, ?_⟩; have n0_ := Aside0.mk (blk_below (g := gb101) (o := .cells #[.int .i64 x102000_1, .int .i64 a0_1, .int .i64 a0_2, .int .i64 a0_3, .int .i64 a0_4, .int .i64 a0_5, .int .i64 x102006_1] 26 (0, 0)) (by (with_reducible repeat (first | refine blk_drewN ?_ _ | refine blk_drew ?_ | refine blk_alloc ?_ _)); exact BK101.out) hb); have n1_ := Aside0.mk (blk_below (g := gb102) (o := .cells #[.int .i64 0, .int .i64 0, .int .i64 0, .int .i64 0, .int .i64 0, .int .i64 0, .int .i64 0] 26 (0, 0)) (by (with_reducible repeat (first | refine blk_drewN ?_ _ | refine blk_drew ?_ | refine blk_alloc ?_ _)); exact BK102.out) hb); have n2_ := Aside0.mk (below_step (by repeat (first | (with_reducible first | exact HB.out | apply below_alloc | apply pw_below_drewN | apply below_drew1 | refine below_set ?_ GE101.out | refine below_set ?_ GE102.out) | exact HB.out)) hb); clear BK101; clear BK102; clear HB; have BK101 := n0_; have BK102 := n1_; have HB := n2_; clear n0_ n1_ n2_; (try clear hb); (try clear hb2); (try clear hk); (try clear hi); have hcz33_0 : w32.cell? ⟨gb101, 0, none⟩ = some (.int .i64 x102000_1) := (blk_cell BK101.out 0).trans rfl; have hcz33_1 : w32.cell? ⟨gb101, 1, none⟩ = some (.int .i64 a0_1) := (blk_cell BK101.out 1).trans rfl; have hcz33_2 : w32.cell? ⟨gb101, 2, none⟩ = some (.int .i64 a0_2) := (blk_cell BK101.out 2).trans rfl; have hcz33_3 : w32.cell? ⟨gb101, 3, none⟩ = some (.int .i64 a0_3) := (blk_cell BK101.out 3).trans rfl; have hcz33_4 : w32.cell? ⟨gb101, 4, none⟩ = some (.int .i64 a0_4) := (blk_cell BK101.out 4).trans rfl; have hcz33_5 : w32.cell? ⟨gb101, 5, none⟩ = some (.int .i64 a0_5) := (blk_cell BK101.out 5).trans rfl; have hcz33_6 : w32.cell? ⟨gb101, 6, none⟩ = some (.int .i64 x102006_1) := (blk_cell BK101.out 6).trans rfl; have hfz33_0 := blk_frozen BK101.out 0; have hfz33_1 := blk_frozen BK101.out 1; have hfz33_2 := blk_frozen BK101.out 2; have hfz33_3 := blk_frozen BK101.out 3; have hfz33_4 := blk_frozen BK101.out 4; have hfz33_5 := blk_frozen BK101.out 5; have hfz33_6 := blk_frozen BK101.out 6))
              go_roundg k1
              case measure => have := HK1.out; omega
              case rel => exact ⟨(wrap64 (x5_1 + 1)), (x102000_1), (ji29), (by first | rfl | (simp; done) | (simp [*]; done)), H', ⟨by have := HK1.out; omega⟩, ⟨by (with_reducible repeat (first | refine blk_drewN ?_ _ | refine blk_drew ?_ | refine blk_alloc ?_ _)); refine blk_put (cs := #[.int .i64 x102000_1, .int .i64 a0_1, .int .i64 a0_2, .int .i64 a0_3, .int .i64 a0_4, .int .i64 a0_5, .int .i64 (wrap64 (x102006_1 + 1))]) ?_ 6 _ rfl; (with_reducible repeat (first | refine blk_drewN ?_ _ | refine blk_drew ?_ | refine blk_alloc ?_ _)); refine blk_put (cs := #[.int .i64 x102000_1, .int .i64 a0_1, .int .i64 a0_2, .int .i64 a0_3, .int .i64 a0_4, .int .i64 a0_5, .int .i64 x102006_1]) ?_ 6 _ rfl; (with_reducible repeat (first | refine blk_drewN ?_ _ | refine blk_drew ?_ | refine blk_alloc ?_ _)); exact BK101.out⟩, ⟨by (with_reducible repeat (first | refine blk_drewN ?_ _ | refine blk_drew ?_ | refine blk_alloc ?_ _)); refine blk_far ?_ NB102_101.out _; (with_reducible repeat (first | refine blk_drewN ?_ _ | refine blk_drew ?_ | refine blk_alloc ?_ _)); refine blk_far ?_ NB102_101.out _; (with_reducible repeat (first | refine blk_drewN ?_ _ | refine blk_drew ?_ | refine blk_alloc ?_ _)); exact BK102.out⟩, ⟨by repeat (first | (with_reducible first | exact HB.out | apply below_alloc | apply pw_below_drewN | apply below_drew1 | refine below_set ?_ GE101.out | refine below_set ?_ GE102.out) | exact HB.out)⟩⟩
      · rw [if_neg c5] at H
        have c5b0 : decide (x5_1 < a1) = false := decide_eq_false c5
        clear c5
        simp only [Option.some.injEq, Prod.mk.injEq] at H
        obtain ⟨rfl, rfl, rfl, rfl, rfl, rfl, rfl⟩ := H
        have hnb34 := NB101_102.out
        have hnc34 := NB102_101.out
        have hcz35_0 : wr.cell? ⟨gb101, 0, none⟩ = some (.int .i64 x102000_1) := (blk_cell BK101.out 0).trans rfl
        have hcz35_1 : wr.cell? ⟨gb101, 1, none⟩ = some (.int .i64 a0_1) := (blk_cell BK101.out 1).trans rfl
        have hcz35_2 : wr.cell? ⟨gb101, 2, none⟩ = some (.int .i64 a0_2) := (blk_cell BK101.out 2).trans rfl
        have hcz35_3 : wr.cell? ⟨gb101, 3, none⟩ = some (.int .i64 a0_3) := (blk_cell BK101.out 3).trans rfl
        have hcz35_4 : wr.cell? ⟨gb101, 4, none⟩ = some (.int .i64 a0_4) := (blk_cell BK101.out 4).trans rfl
        have hcz35_5 : wr.cell? ⟨gb101, 5, none⟩ = some (.int .i64 a0_5) := (blk_cell BK101.out 5).trans rfl
        have hcz35_6 : wr.cell? ⟨gb101, 6, none⟩ = some (.int .i64 x102006_1) := (blk_cell BK101.out 6).trans rfl
        have hfz35_0 := blk_frozen BK101.out 0
        have hfz35_1 := blk_frozen BK101.out 1
        have hfz35_2 := blk_frozen BK101.out 2
        have hfz35_3 := blk_frozen BK101.out 3
        have hfz35_4 := blk_frozen BK101.out 4
        have hfz35_5 := blk_frozen BK101.out 5
        have hfz35_6 := blk_frozen BK101.out 6
        have hcz36_0 : wr.cell? ⟨gb102, 0, none⟩ = some (.int .i64 0) := (blk_cell BK102.out 0).trans rfl
        have hcz36_1 : wr.cell? ⟨gb102, 1, none⟩ = some (.int .i64 0) := (blk_cell BK102.out 1).trans rfl
        have hcz36_2 : wr.cell? ⟨gb102, 2, none⟩ = some (.int .i64 0) := (blk_cell BK102.out 2).trans rfl
        have hcz36_3 : wr.cell? ⟨gb102, 3, none⟩ = some (.int .i64 0) := (blk_cell BK102.out 3).trans rfl
        have hcz36_4 : wr.cell? ⟨gb102, 4, none⟩ = some (.int .i64 0) := (blk_cell BK102.out 4).trans rfl
        have hcz36_5 : wr.cell? ⟨gb102, 5, none⟩ = some (.int .i64 0) := (blk_cell BK102.out 5).trans rfl
        have hcz36_6 : wr.cell? ⟨gb102, 6, none⟩ = some (.int .i64 0) := (blk_cell BK102.out 6).trans rfl
        have hfz36_0 := blk_frozen BK102.out 0
        have hfz36_1 := blk_frozen BK102.out 1
        have hfz36_2 := blk_frozen BK102.out 2
        have hfz36_3 := blk_frozen BK102.out 3
        have hfz36_4 := blk_frozen BK102.out 4
        have hfz36_5 := blk_frozen BK102.out 5
        have hfz36_6 := blk_frozen BK102.out 6
        go_wp2
        refine bodyPost_ret (results_cell_row rfl _ _ gb102 26 #[.int .i64 x102000_1, .int .i64 a0_1, .int .i64 a0_2, .int .i64 a0_3, .int .i64 a0_4, .int .i64 a0_5, .int .i64 x102006_1] (0, 0) _ rfl (by (with_reducible repeat (first | refine blk_drewN ?_ _ | refine blk_drew ?_ | refine blk_alloc ?_ _)); refine blk_put (cs := #[.int .i64 x102000_1, .int .i64 a0_1, .int .i64 a0_2, .int .i64 a0_3, .int .i64 a0_4, .int .i64 a0_5, .int .i64 0]) ?_ 6 _ rfl; (with_reducible repeat (first | refine blk_drewN ?_ _ | refine blk_drew ?_ | refine blk_alloc ?_ _)); refine blk_put (cs := #[.int .i64 x102000_1, .int .i64 a0_1, .int .i64 a0_2, .int .i64 a0_3, .int .i64 a0_4, .int .i64 0, .int .i64 0]) ?_ 5 _ rfl; (with_reducible repeat (first | refine blk_drewN ?_ _ | refine blk_drew ?_ | refine blk_alloc ?_ _)); refine blk_put (cs := #[.int .i64 x102000_1, .int .i64 a0_1, .int .i64 a0_2, .int .i64 a0_3, .int .i64 0, .int .i64 0, .int .i64 0]) ?_ 4 _ rfl; (with_reducible repeat (first | refine blk_drewN ?_ _ | refine blk_drew ?_ | refine blk_alloc ?_ _)); refine blk_put (cs := #[.int .i64 x102000_1, .int .i64 a0_1, .int .i64 a0_2, .int .i64 0, .int .i64 0, .int .i64 0, .int .i64 0]) ?_ 3 _ rfl; (with_reducible repeat (first | refine blk_drewN ?_ _ | refine blk_drew ?_ | refine blk_alloc ?_ _)); refine blk_put (cs := #[.int .i64 x102000_1, .int .i64 a0_1, .int .i64 0, .int .i64 0, .int .i64 0, .int .i64 0, .int .i64 0]) ?_ 2 _ rfl; (with_reducible repeat (first | refine blk_drewN ?_ _ | refine blk_drew ?_ | refine blk_alloc ?_ _)); refine blk_put (cs := #[.int .i64 x102000_1, .int .i64 0, .int .i64 0, .int .i64 0, .int .i64 0, .int .i64 0, .int .i64 0]) ?_ 1 _ rfl; (with_reducible repeat (first | refine blk_drewN ?_ _ | refine blk_drew ?_ | refine blk_alloc ?_ _)); refine blk_put (cs := #[.int .i64 0, .int .i64 0, .int .i64 0, .int .i64 0, .int .i64 0, .int .i64 0, .int .i64 0]) ?_ 0 _ rfl; (with_reducible repeat (first | refine blk_drewN ?_ _ | refine blk_drew ?_ | refine blk_alloc ?_ _)); exact BK102.out) Try.underlying26 rfl (by kernel_rfl)) rfl ?_
        exact ⟨by first | rfl | (simp [errW_none, errW_some] <;> rfl) | (simp [*, errW_none, errW_some] <;> rfl), by repeat (first | (with_reducible first | exact HB.out | apply below_alloc | apply pw_below_drewN | apply below_drew1 | refine below_set ?_ GE101.out | refine below_set ?_ GE102.out) | exact HB.out)⟩

end Go.Proofs.Ytjfbeakmpmjadaa.PWin

namespace Go.Proofs.Ytjfbeakmpmjadaa.PWin
open Go.RowKit Go.Proofs.YtjfbeakmpmjadaaW.PrintWords Go.Proofs.YtjfbeakmpmjadaaW.PrintLast Go.Proofs.YtjfbeakmpmjadaaW.PrintMore
attribute [local go_sem] max2_int min2_int max_two min_two max_three min_three max_four min_four   -- for this text's walks alone
set_option linter.unusedVariables false
set_option linter.unusedSimpArgs false

/-! ### spec_l16Root: function 41 -/
def spec_l16Root.l0 : Nat → Int → Int → Int → Option (Int)
  | 0, _, _, _ => none
  | k + 1, x0, x3, x4 => if x3 < x4 then (if (wrap64 ((wrap64 ((wrap64 (Int.tdiv (wrap64 ((wrap64 (x3 + x4)) + 1)) 2)) * (wrap64 (Int.tdiv (wrap64 ((wrap64 (x3 + x4)) + 1)) 2)))) * (wrap64 (Int.tdiv (wrap64 ((wrap64 (x3 + x4)) + 1)) 2)))) ≤ x0 then (spec_l16Root.l0 k x0 (wrap64 (Int.tdiv (wrap64 ((wrap64 (x3 + x4)) + 1)) 2)) x4) else (spec_l16Root.l0 k x0 x3 (wrap64 ((wrap64 (Int.tdiv (wrap64 ((wrap64 (x3 + x4)) + 1)) 2)) - 1)))) else (some x3)
def spec_l16Root.f (k : Nat) (a0 : Int) : Option (Int) := spec_l16Root.l0 k a0 0 1048576
theorem spec_l16Root.mono_l : ∀ k, (∀ y0 y1 y2, LeO (spec_l16Root.l0 k y0 y1 y2) (spec_l16Root.l0 (k + 1) y0 y1 y2))
  | 0 => fun _ _ _ r h => by simp [spec_l16Root.l0] at h
  | k + 1 => by
    have ih0 := spec_l16Root.mono_l k
    · intro y0 y1 y2
      unfold spec_l16Root.l0
      repeat' first
      | (with_reducible exact ih0 _ _ _)
      | (with_reducible exact LeO.refl _)
      | (with_reducible exact LeO.none _)
      | (with_reducible refine LeO.ite ?_ ?_)
      | (with_reducible refine LeO.bind ?_ (fun _ => ?_))
      | exact ih0 _ _ _
      | exact LeO.none _
      | refine LeO.ite ?_ ?_
      | refine LeO.bind ?_ (fun _ => ?_)
theorem spec_l16Root.mono : ∀ a0 k, LeO (spec_l16Root.f k a0) (spec_l16Root.f (k + 1) a0) := by
  intro a0 k
  have ih0 := spec_l16Root.mono_l k
  unfold spec_l16Root.f
  repeat' first
      | (with_reducible exact ih0 _ _ _)
      | (with_reducible exact LeO.refl _)
      | (with_reducible exact LeO.none _)
      | (with_reducible refine LeO.ite ?_ ?_)
      | (with_reducible refine LeO.bind ?_ (fun _ => ?_))
      | exact ih0 _ _ _
      | exact LeO.none _
      | refine LeO.ite ?_ ?_
      | refine LeO.bind ?_ (fun _ => ?_)
set_option maxHeartbeats 8000000 in
set_option maxRecDepth 100000 in
theorem spec_l16Root.calls (k : Nat) (a0 : Int) (r : Int) (w : World) (h : spec_l16Root.f k a0 = some r) :
    Calls Try.prog 41 #[.int .i64 a0] w fun e w' => e = .returned (.int .i64 r) ∧ Drawn0 w w' := by
  have H : (spec_l16Root.l0 k a0 0 1048576) = some r := h
  clear h
  have H' := Aside0.mk H
  clear H
  go_enter Try.func41, Try.ntmps41
  go_wp2
  go_loopg [3, 4] k (fun kq v3 v4 w' => ∃ (x3_1 : Int) (x4_1 : Int), v3 = .int .i64 x3_1 ∧ v4 = .int .i64 x4_1 ∧ Aside0 (spec_l16Root.l0 kq a0 x3_1 x4_1 = some r) ∧ Aside0 (kq ≤ k) ∧ Drawn0 w w')
  case atStart => exact ⟨(0), (1048576), (by first | rfl | (simp; done) | (simp [*]; done)), (by first | rfl | (simp; done) | (simp [*]; done)), H', ⟨Nat.le_refl _⟩, by repeat (first | exact Drawn0.refl _ | apply Drawn0.step)⟩
  case round =>
    clear H'
    obtain ⟨x3_1, x4_1, rfl, rfl, HA, HK1, ⟨m1, rfl⟩⟩ := hrel
    cases gk with
    | zero => exact absurd HA.out (by simp [spec_l16Root.l0])
    | succ k1 =>
      have H := HA.out
      clear HA
      simp only [spec_l16Root.l0] at H
      by_cases c2 : x3_1 < x4_1
      · rw [if_pos c2] at H
        have c2b0 : decide (x3_1 < x4_1) = true := decide_eq_true c2
        clear c2
        by_cases c3 : (wrap64 ((wrap64 ((wrap64 (Int.tdiv (wrap64 ((wrap64 (x3_1 + x4_1)) + 1)) 2)) * (wrap64 (Int.tdiv (wrap64 ((wrap64 (x3_1 + x4_1)) + 1)) 2)))) * (wrap64 (Int.tdiv (wrap64 ((wrap64 (x3_1 + x4_1)) + 1)) 2)))) ≤ a0
        · rw [if_pos c3] at H
          have c3b0 : decide ((wrap64 ((wrap64 ((wrap64 (Int.tdiv (wrap64 ((wrap64 (x3_1 + x4_1)) + 1)) 2)) * (wrap64 (Int.tdiv (wrap64 ((wrap64 (x3_1 + x4_1)) + 1)) 2)))) * (wrap64 (Int.tdiv (wrap64 ((wrap64 (x3_1 + x4_1)) + 1)) 2)))) ≤ a0) = true := decide_eq_true c3
          clear c3
          have H' := Aside0.mk H
          clear H
          go_wp2
          go_roundg k1
          case measure => have := HK1.out; omega
          case rel => exact ⟨(wrap64 (Int.tdiv (wrap64 ((wrap64 (x3_1 + x4_1)) + 1)) 2)), (x4_1), (by first | rfl | (simp; done) | (simp [*]; done)), (by first | rfl | (simp; done) | (simp [*]; done)), H', ⟨by have := HK1.out; omega⟩, by repeat (first | exact Drawn0.refl _ | apply Drawn0.step)⟩
        · rw [if_neg c3] at H
          have c3b0 : decide ((wrap64 ((wrap64 ((wrap64 (Int.tdiv (wrap64 ((wrap64 (x3_1 + x4_1)) + 1)) 2)) * (wrap64 (Int.tdiv (wrap64 ((wrap64 (x3_1 + x4_1)) + 1)) 2)))) * (wrap64 (Int.tdiv (wrap64 ((wrap64 (x3_1 + x4_1)) + 1)) 2)))) ≤ a0) = false := decide_eq_false c3
          clear c3
          have H' := Aside0.mk H
          clear H
          go_wp2
          go_roundg k1
          case measure => have := HK1.out; omega
          case rel => exact ⟨(x3_1), (wrap64 ((wrap64 (Int.tdiv (wrap64 ((wrap64 (x3_1 + x4_1)) + 1)) 2)) - 1)), (by first | rfl | (simp; done) | (simp [*]; done)), (by first | rfl | (simp; done) | (simp [*]; done)), H', ⟨by have := HK1.out; omega⟩, by repeat (first | exact Drawn0.refl _ | apply Drawn0.step)⟩
      · rw [if_neg c2] at H
        have c2b0 : decide (x3_1 < x4_1) = false := decide_eq_false c2
        clear c2
        obtain rfl := Option.some.inj H
        go_wp2
        go_ret
        exact ⟨by first | rfl | (simp; done) | (simp [*]; done), by repeat (first | exact Drawn0.refl _ | apply Drawn0.step)⟩

end Go.Proofs.Ytjfbeakmpmjadaa.PWin

namespace Go.Proofs.Ytjfbeakmpmjadaa.PWin
open Go.RowKit Go.Proofs.YtjfbeakmpmjadaaW.PrintWords Go.Proofs.YtjfbeakmpmjadaaW.PrintLast Go.Proofs.YtjfbeakmpmjadaaW.PrintMore
attribute [local go_sem] max2_int min2_int max_two min_two max_three min_three max_four min_four   -- for this text's walks alone
set_option linter.unusedVariables false
set_option linter.unusedSimpArgs false

/-! ### spec_l16Loss: function 34 -/
def spec_l16Loss.f (k : Nat) (a0_0 : Int) (a0_1 : Int) (a0_2 : Int) (a0_3 : Int) (a0_4 : Int) (a0_5 : Int) (a0_6 : Int) : Option (Int × Int × Int × Int × Int × Int × Int) :=
  if 1 ≤ a0_0 ∧ a0_0 ≤ 100000 ∧ 0 ≤ a0_2 ∧ a0_2 ≤ 100000 then
    if a0_0 < a0_2 then (spec_l16Root.f k ((if (if 2 < a0_0 * 7 / 10 then a0_0 * 7 / 10 else 2) < a0_0 * 17 / 20 then a0_0 * 17 / 20 - (if 2 < a0_0 * 7 / 10 then a0_0 * 7 / 10 else 2) else 0) * 10 / 4 * 1000000000)).bind fun r =>
      some ((if 2 < a0_0 * 7 / 10 then a0_0 * 7 / 10 else 2), (if 2 < a0_0 * 7 / 10 then a0_0 * 7 / 10 else 2), a0_0 * 17 / 20, r, a0_5, a0_5, 0)
    else (spec_l16Root.f k ((if (if 2 < a0_0 * 7 / 10 then a0_0 * 7 / 10 else 2) < a0_0 then a0_0 - (if 2 < a0_0 * 7 / 10 then a0_0 * 7 / 10 else 2) else 0) * 10 / 4 * 1000000000)).bind fun r =>
      some ((if 2 < a0_0 * 7 / 10 then a0_0 * 7 / 10 else 2), (if 2 < a0_0 * 7 / 10 then a0_0 * 7 / 10 else 2), a0_0, r, a0_5, a0_5, 0)
  else none
theorem spec_l16Loss.mono : ∀ a0 a1 a2 a3 a4 a5 a6 k, LeO (spec_l16Loss.f k a0 a1 a2 a3 a4 a5 a6) (spec_l16Loss.f (k + 1) a0 a1 a2 a3 a4 a5 a6) := by
  intro a0 a1 a2 a3 a4 a5 a6 k
  unfold spec_l16Loss.f
  exact LeO.ite (LeO.ite (LeO.bind (spec_l16Root.mono _ _) (fun _ => LeO.refl _)) (LeO.bind (spec_l16Root.mono _ _) (fun _ => LeO.refl _))) (LeO.none _)

theorem spec_l16Loss.wp_gen {P : Program} {c : Code} {Q : Exit → Act → World → Prop} {a : Act} {w1 : World} (F : World → Prop) (hF : F w1) (h : ∀ W, F W → Code.wp P c Q a W) : Code.wp P c Q a w1 := h _ hF
def spec_l16Loss.B26 (W : World) (g : Nat) (a b c d e f h : Int) : Prop := W.heap[g]? = some (.cells #[.int .i64 a, .int .i64 b, .int .i64 c, .int .i64 d, .int .i64 e, .int .i64 f, .int .i64 h] 26 (0, 0))
structure spec_l16Loss.LS (w W : World) (w_ s m o si n c x0 x1 x2 x3 x4 x5 x6 : Int) : Prop where
  hc : spec_l16Loss.B26 W w.heap.size w_ s m o si n c
  hr : spec_l16Loss.B26 W (w.heap.size + 1) 0 0 0 0 0 0 0
  ho : spec_l16Loss.B26 W (w.heap.size + 2) x0 x1 x2 x3 x4 x5 x6
  hb : Below w.heap.size w W
theorem spec_l16Loss.blk_new_at (w : World) (o : Obj) (n : Nat) (h : n = w.heap.size) : (w.alloc o).heap[n]? = some o := by subst h; exact blk_new w o
set_option maxHeartbeats 2000000 in
set_option maxRecDepth 100000 in
theorem spec_l16Loss.loss_m (k : Nat) (w_ s m o si n c r mw dd : Int) (w : World) (hm : w_ < m) (h1 : 1 ≤ w_) (h2 : w_ ≤ 100000) (h3 : 0 ≤ m) (h4 : m ≤ 100000)
    (hmw : (if 2 < w_ * 7 / 10 then w_ * 7 / 10 else 2) = mw) (hmw1 : 2 ≤ mw) (hmw2 : mw ≤ 100000) (hdd : (if mw < w_ * 17 / 20 then w_ * 17 / 20 - mw else 0) = dd) (hd0 : 0 ≤ dd) (hd1 : dd ≤ 100000)
    (hc : spec_l16Root.f k (dd * 10 / 4 * 1000000000) = some r) :
    Calls Try.prog 34 #[.agg #[.int .i64 w_, .int .i64 s, .int .i64 m, .int .i64 o, .int .i64 si, .int .i64 n, .int .i64 c]] w fun e w' => e = .returned (.agg #[.int .i64 mw, .int .i64 mw, .int .i64 (w_ * 17 / 20), .int .i64 r, .int .i64 n, .int .i64 n, .int .i64 0]) ∧ Below w.heap.size w w' := by
  have hu26 := Try.underlying26
  have HCC := Aside0.mk hc
  clear hc
  go_enter Try.func34, Try.ntmps34
  go_upto_region 2 with (fail)
  refine spec_l16Loss.wp_gen (fun W => spec_l16Loss.LS w W w_ s m o si n c w_ s m o si n c) ⟨?_, ?_, ?_, ?_⟩ ?_
  case refine_1 => exact blk_alloc (blk_alloc (blk_new _ _) _) _
  case refine_2 => exact blk_alloc (spec_l16Loss.blk_new_at _ _ _ (by simp)) _
  case refine_3 => exact spec_l16Loss.blk_new_at _ _ _ (by simp)
  case refine_4 => with_reducible (repeat (first | exact Below.refl _ _ | apply pw_below_drewN | apply below_drew1 | apply below_alloc))
  rintro W ⟨hc, hr, ho, hb⟩
  have HC := Aside0.mk hc; have HR := Aside0.mk hr; have HO := Aside0.mk ho; have HB := Aside0.mk hb
  have c0 := blk_cell hc 0
  have o0 := blk_cell ho 0
  have fo0 := blk_frozen ho 0
  have fr0 := blk_frozen hr 0
  have r0 := blk_cell hr 0
  have c1 := blk_cell hc 1
  have o1 := blk_cell ho 1
  have fo1 := blk_frozen ho 1
  have fr1 := blk_frozen hr 1
  have r1 := blk_cell hr 1
  have c2 := blk_cell hc 2
  have o2 := blk_cell ho 2
  have fo2 := blk_frozen ho 2
  have fr2 := blk_frozen hr 2
  have r2 := blk_cell hr 2
  have c3 := blk_cell hc 3
  have o3 := blk_cell ho 3
  have fo3 := blk_frozen ho 3
  have fr3 := blk_frozen hr 3
  have r3 := blk_cell hr 3
  have c4 := blk_cell hc 4
  have o4 := blk_cell ho 4
  have fo4 := blk_frozen ho 4
  have fr4 := blk_frozen hr 4
  have r4 := blk_cell hr 4
  have c5 := blk_cell hc 5
  have o5 := blk_cell ho 5
  have fo5 := blk_frozen ho 5
  have fr5 := blk_frozen hr 5
  have r5 := blk_cell hr 5
  have c6 := blk_cell hc 6
  have o6 := blk_cell ho 6
  have fo6 := blk_frozen ho 6
  have fr6 := blk_frozen hr 6
  have r6 := blk_cell hr 6
  clear hc hr ho hb

  go_wp2_with (first | (go_at_call 41; ((with_reducible refine (spec_l16Root.calls k _ _ _ HCC.out).mono ?_); rintro e w' ⟨rfl, ⟨nd, rfl⟩⟩)))
  refine bodyPost_ret (results_cell_row rfl _ _ (w.heap.size + 1) 26 #[.int .i64 mw, .int .i64 mw, .int .i64 (w_ * 17 / 20), .int .i64 r, .int .i64 n, .int .i64 n, .int .i64 0] (0, 0) _ rfl (by refine blk_put (cs := #[.int .i64 mw, .int .i64 mw, .int .i64 (w_ * 17 / 20), .int .i64 r, .int .i64 n, .int .i64 n, .int .i64 0]) ?_ 6 _ rfl; refine blk_put (cs := #[.int .i64 mw, .int .i64 mw, .int .i64 (w_ * 17 / 20), .int .i64 r, .int .i64 n, .int .i64 0, .int .i64 0]) ?_ 5 _ rfl; refine blk_put (cs := #[.int .i64 mw, .int .i64 mw, .int .i64 (w_ * 17 / 20), .int .i64 r, .int .i64 0, .int .i64 0, .int .i64 0]) ?_ 4 _ rfl; refine blk_put (cs := #[.int .i64 mw, .int .i64 mw, .int .i64 (w_ * 17 / 20), .int .i64 0, .int .i64 0, .int .i64 0, .int .i64 0]) ?_ 3 _ rfl; refine blk_put (cs := #[.int .i64 mw, .int .i64 mw, .int .i64 0, .int .i64 0, .int .i64 0, .int .i64 0, .int .i64 0]) ?_ 2 _ rfl; refine blk_put (cs := #[.int .i64 mw, .int .i64 0, .int .i64 0, .int .i64 0, .int .i64 0, .int .i64 0, .int .i64 0]) ?_ 1 _ rfl; refine blk_put (cs := #[.int .i64 0, .int .i64 0, .int .i64 0, .int .i64 0, .int .i64 0, .int .i64 0, .int .i64 0]) ?_ 0 _ rfl; (with_reducible (repeat (first | refine blk_drewN ?_ _ | refine blk_drew ?_ | refine blk_far ?_ (by simp) _))); exact HR.out) Try.underlying26 rfl (by kernel_rfl)) rfl ?_
  exact ⟨rfl, by with_reducible (repeat (first | exact HB.out | refine below_set ?_ (by omega) | apply pw_below_drewN | apply below_drew1))⟩
set_option maxHeartbeats 2000000 in
set_option maxRecDepth 100000 in
theorem spec_l16Loss.loss_n (k : Nat) (w_ s m o si n c r mw dd : Int) (w : World) (hm : ¬ w_ < m) (h1 : 1 ≤ w_) (h2 : w_ ≤ 100000) (h3 : 0 ≤ m) (h4 : m ≤ 100000)
    (hmw : (if 2 < w_ * 7 / 10 then w_ * 7 / 10 else 2) = mw) (hmw1 : 2 ≤ mw) (hmw2 : mw ≤ 100000) (hdd : (if mw < w_ then w_ - mw else 0) = dd) (hd0 : 0 ≤ dd) (hd1 : dd ≤ 100000)
    (hc : spec_l16Root.f k (dd * 10 / 4 * 1000000000) = some r) :
    Calls Try.prog 34 #[.agg #[.int .i64 w_, .int .i64 s, .int .i64 m, .int .i64 o, .int .i64 si, .int .i64 n, .int .i64 c]] w fun e w' => e = .returned (.agg #[.int .i64 mw, .int .i64 mw, .int .i64 (w_), .int .i64 r, .int .i64 n, .int .i64 n, .int .i64 0]) ∧ Below w.heap.size w w' := by
  have hu26 := Try.underlying26
  have HCC := Aside0.mk hc
  clear hc
  go_enter Try.func34, Try.ntmps34
  go_upto_region 2 with (fail)
  refine spec_l16Loss.wp_gen (fun W => spec_l16Loss.LS w W w_ s m o si n c w_ s m o si n c) ⟨?_, ?_, ?_, ?_⟩ ?_
  case refine_1 => exact blk_alloc (blk_alloc (blk_new _ _) _) _
  case refine_2 => exact blk_alloc (spec_l16Loss.blk_new_at _ _ _ (by simp)) _
  case refine_3 => exact spec_l16Loss.blk_new_at _ _ _ (by simp)
  case refine_4 => with_reducible (repeat (first | exact Below.refl _ _ | apply pw_below_drewN | apply below_drew1 | apply below_alloc))
  rintro W ⟨hc, hr, ho, hb⟩
  have HC := Aside0.mk hc; have HR := Aside0.mk hr; have HO := Aside0.mk ho; have HB := Aside0.mk hb
  have c0 := blk_cell hc 0
  have o0 := blk_cell ho 0
  have fo0 := blk_frozen ho 0
  have fr0 := blk_frozen hr 0
  have r0 := blk_cell hr 0
  have c1 := blk_cell hc 1
  have o1 := blk_cell ho 1
  have fo1 := blk_frozen ho 1
  have fr1 := blk_frozen hr 1
  have r1 := blk_cell hr 1
  have c2 := blk_cell hc 2
  have o2 := blk_cell ho 2
  have fo2 := blk_frozen ho 2
  have fr2 := blk_frozen hr 2
  have r2 := blk_cell hr 2
  have c3 := blk_cell hc 3
  have o3 := blk_cell ho 3
  have fo3 := blk_frozen ho 3
  have fr3 := blk_frozen hr 3
  have r3 := blk_cell hr 3
  have c4 := blk_cell hc 4
  have o4 := blk_cell ho 4
  have fo4 := blk_frozen ho 4
  have fr4 := blk_frozen hr 4
  have r4 := blk_cell hr 4
  have c5 := blk_cell hc 5
  have o5 := blk_cell ho 5
  have fo5 := blk_frozen ho 5
  have fr5 := blk_frozen hr 5
  have r5 := blk_cell hr 5
  have c6 := blk_cell hc 6
  have o6 := blk_cell ho 6
  have fo6 := blk_frozen ho 6
  have fr6 := blk_frozen hr 6
  have r6 := blk_cell hr 6
  clear hc hr ho hb

  go_wp2_with (first | (go_at_call 41; ((with_reducible refine (spec_l16Root.calls k _ _ _ HCC.out).mono ?_); rintro e w' ⟨rfl, ⟨nd, rfl⟩⟩)))
  refine bodyPost_ret (results_cell_row rfl _ _ (w.heap.size + 1) 26 #[.int .i64 mw, .int .i64 mw, .int .i64 (w_), .int .i64 r, .int .i64 n, .int .i64 n, .int .i64 0] (0, 0) _ rfl (by refine blk_put (cs := #[.int .i64 mw, .int .i64 mw, .int .i64 (w_), .int .i64 r, .int .i64 n, .int .i64 n, .int .i64 0]) ?_ 6 _ rfl; refine blk_put (cs := #[.int .i64 mw, .int .i64 mw, .int .i64 (w_), .int .i64 r, .int .i64 n, .int .i64 0, .int .i64 0]) ?_ 5 _ rfl; refine blk_put (cs := #[.int .i64 mw, .int .i64 mw, .int .i64 (w_), .int .i64 r, .int .i64 0, .int .i64 0, .int .i64 0]) ?_ 4 _ rfl; refine blk_put (cs := #[.int .i64 mw, .int .i64 mw, .int .i64 (w_), .int .i64 0, .int .i64 0, .int .i64 0, .int .i64 0]) ?_ 3 _ rfl; refine blk_put (cs := #[.int .i64 mw, .int .i64 mw, .int .i64 0, .int .i64 0, .int .i64 0, .int .i64 0, .int .i64 0]) ?_ 2 _ rfl; refine blk_put (cs := #[.int .i64 mw, .int .i64 0, .int .i64 0, .int .i64 0, .int .i64 0, .int .i64 0, .int .i64 0]) ?_ 1 _ rfl; refine blk_put (cs := #[.int .i64 0, .int .i64 0, .int .i64 0, .int .i64 0, .int .i64 0, .int .i64 0, .int .i64 0]) ?_ 0 _ rfl; (with_reducible (repeat (first | refine blk_drewN ?_ _ | refine blk_drew ?_ | refine blk_far ?_ (by simp) _))); exact HR.out) Try.underlying26 rfl (by kernel_rfl)) rfl ?_
  exact ⟨rfl, by with_reducible (repeat (first | exact HB.out | refine below_set ?_ (by omega) | apply pw_below_drewN | apply below_drew1))⟩

set_option maxHeartbeats 8000000 in
set_option maxRecDepth 100000 in
theorem spec_l16Loss.calls (k : Nat) (a0_0 : Int) (a0_1 : Int) (a0_2 : Int) (a0_3 : Int) (a0_4 : Int) (a0_5 : Int) (a0_6 : Int) (r1 : Int) (r2 : Int) (r3 : Int) (r4 : Int) (r5 : Int) (r6 : Int) (r7 : Int) (w : World) (h : spec_l16Loss.f k a0_0 a0_1 a0_2 a0_3 a0_4 a0_5 a0_6 = some (r1, r2, r3, r4, r5, r6, r7)) :
    Calls Try.prog 34 #[.agg #[.int .i64 a0_0, .int .i64 a0_1, .int .i64 a0_2, .int .i64 a0_3, .int .i64 a0_4, .int .i64 a0_5, .int .i64 a0_6]] w fun e w' => e = .returned (.agg #[.int .i64 r1, .int .i64 r2, .int .i64 r3, .int .i64 r4, .int .i64 r5, .int .i64 r6, .int .i64 r7]) ∧ Below w.heap.size w w' := by
  unfold spec_l16Loss.f at h
  by_cases hb : 1 ≤ a0_0 ∧ a0_0 ≤ 100000 ∧ 0 ≤ a0_2 ∧ a0_2 ≤ 100000
  case neg => rw [if_neg hb] at h; cases h
  rw [if_pos hb] at h
  obtain ⟨h1, h2, h3, h4⟩ := hb
  by_cases hm : a0_0 < a0_2
  · rw [if_pos hm] at h
    obtain ⟨r, hc, h⟩ := Option.bind_eq_some_iff.mp h
    simp only [Option.some.injEq, Prod.mk.injEq] at h
    obtain ⟨rfl, rfl, rfl, rfl, rfl, rfl, rfl⟩ := h
    exact spec_l16Loss.loss_m k _ _ _ _ _ _ _ _ _ _ w hm h1 h2 h3 h4 rfl (by split <;> omega) (by split <;> omega) rfl (by split <;> omega) (by (repeat' split) <;> omega) hc
  · rw [if_neg hm] at h
    obtain ⟨r, hc, h⟩ := Option.bind_eq_some_iff.mp h
    simp only [Option.some.injEq, Prod.mk.injEq] at h
    obtain ⟨rfl, rfl, rfl, rfl, rfl, rfl, rfl⟩ := h
    exact spec_l16Loss.loss_n k _ _ _ _ _ _ _ _ _ _ w hm h1 h2 h3 h4 rfl (by split <;> omega) (by split <;> omega) rfl (by split <;> omega) (by (repeat' split) <;> omega) hc

end Go.Proofs.Ytjfbeakmpmjadaa.PWin

namespace Go.Proofs.Ytjfbeakmpmjadaa.PWin
open Go.RowKit Go.Proofs.YtjfbeakmpmjadaaW.PrintWords Go.Proofs.YtjfbeakmpmjadaaW.PrintLast Go.Proofs.YtjfbeakmpmjadaaW.PrintMore
attribute [local go_sem] max2_int min2_int max_two min_two max_three min_three max_four min_four   -- for this text's walks alone
set_option linter.unusedVariables false
set_option linter.unusedSimpArgs false

/-! ### spec_l16Step: function 25 -/
def spec_l16Step.f (k : Nat) (a0 a1 a2 a3 a4 a5 a6 b0 b1 : Int) : Option (Int × Int × Int × Int × Int × Int × Int × Int) :=
  if b0 = 1 then (if 0 ≤ b1 ∧ b1 ≤ 1000 then (spec_l16Ack.f k a0 a1 a2 a3 a4 a5 a6 b1).bind fun r => some (r.1, r.2.1, r.2.2.1, r.2.2.2.1, r.2.2.2.2.1, r.2.2.2.2.2.1, r.2.2.2.2.2.2, 0) else some (a0, a1, a2, a3, a4, a5, a6, 4))
  else if b0 = 2 then (spec_l16Loss.f k a0 a1 a2 a3 a4 a5 a6).bind fun r => some (r.1, r.2.1, r.2.2.1, r.2.2.2.1, r.2.2.2.2.1, r.2.2.2.2.2.1, r.2.2.2.2.2.2, 0)
  else if b0 = 3 then (spec_l16Loss.f k a0 a1 a2 a3 a4 a5 a6).bind fun r => some (1, r.2.1, r.2.2.1, r.2.2.2.1, r.2.2.2.2.1, r.2.2.2.2.2.1, r.2.2.2.2.2.2, 0)
  else if b0 = 4 then (if 0 ≤ a5 ∧ a5 ≤ 1000000 then (if 0 ≤ b1 ∧ b1 ≤ 1000000 - a5 then some (a0, a1, a2, a3, a4, a5 + b1, a6, 0) else some (a0, a1, a2, a3, a4, a5, a6, 4)) else none)
  else some (a0, a1, a2, a3, a4, a5, a6, 3)
theorem spec_l16Step.mono : ∀ a0 a1 a2 a3 a4 a5 a6 a7 a8 k, LeO (spec_l16Step.f k a0 a1 a2 a3 a4 a5 a6 a7 a8) (spec_l16Step.f (k + 1) a0 a1 a2 a3 a4 a5 a6 a7 a8) := by
  intro a0 a1 a2 a3 a4 a5 a6 a7 a8 k
  unfold spec_l16Step.f
  exact LeO.ite (LeO.ite (LeO.bind (spec_l16Ack.mono _ _ _ _ _ _ _ _ _) (fun _ => LeO.refl _)) (LeO.refl _)) (LeO.ite (LeO.bind (spec_l16Loss.mono _ _ _ _ _ _ _ _) (fun _ => LeO.refl _)) (LeO.ite (LeO.bind (spec_l16Loss.mono _ _ _ _ _ _ _ _) (fun _ => LeO.refl _)) (LeO.refl _)))

theorem spec_l16Step.wp_gen7 {P : Program} {c : Code} {Q : Exit → Act → World → Prop} {a : Act} {w1 : World} (F : World → Prop) (hF : F w1) (h : ∀ W, F W → Code.wp P c Q a W) : Code.wp P c Q a w1 := h _ hF
theorem spec_l16Step.blk_new_at7 (w : World) (o : Obj) (n : Nat) (h : n = w.heap.size) : (w.alloc o).heap[n]? = some o := by subst h; exact blk_new w o
structure spec_l16Step.SS7 (w W : World) (a0 a1 a2 a3 a4 a5 a6 b0 b1 : Int) : Prop where
  hc : W.heap[w.heap.size]? = some (.cells #[.int .i64 a0, .int .i64 a1, .int .i64 a2, .int .i64 a3, .int .i64 a4, .int .i64 a5, .int .i64 a6] 26 (0, 0))
  ha : W.heap[w.heap.size + 1]? = some (.cells #[.int .i64 b0, .int .i64 b1] 30 (0, 0))
  hr : W.heap[w.heap.size + 2]? = some (.cells #[.int .i64 0, .int .i64 0, .int .i64 0, .int .i64 0, .int .i64 0, .int .i64 0, .int .i64 0] 26 (0, 0))
  hb : Below w.heap.size w W
theorem spec_l16Step.SS7.below {w W W1 : World} {a0 a1 a2 a3 a4 a5 a6 b0 b1 : Int} (h : spec_l16Step.SS7 w W a0 a1 a2 a3 a4 a5 a6 b0 b1) (hb : Below W.heap.size W W1) : spec_l16Step.SS7 w W1 a0 a1 a2 a3 a4 a5 a6 b0 b1 :=
  ⟨blk_below h.hc hb, blk_below h.ha hb, blk_below h.hr hb, below_then h.hb h.hb.size hb⟩
theorem spec_l16Step.SS7.drewN {w W : World} {a0 a1 a2 a3 a4 a5 a6 b0 b1 : Int} (h : spec_l16Step.SS7 w W a0 a1 a2 a3 a4 a5 a6 b0 b1) (n : Nat) : spec_l16Step.SS7 w (W.drewN n) a0 a1 a2 a3 a4 a5 a6 b0 b1 := ⟨blk_drewN h.hc _, blk_drewN h.ha _, blk_drewN h.hr _, pw_below_drewN h.hb _⟩
set_option maxHeartbeats 2000000 in
set_option maxRecDepth 100000 in
theorem spec_l16Step.st_ackbad (k : Nat) (a0 a1 a2 a3 a4 a5 a6 b1 : Int) (w : World) (h : spec_l01In.f b1 0 1000 = some false) :
    Calls Try.prog 25 #[.agg #[.int .i64 a0, .int .i64 a1, .int .i64 a2, .int .i64 a3, .int .i64 a4, .int .i64 a5, .int .i64 a6], .agg #[.int .i64 1, .int .i64 b1]] w fun e w' => e = .returned (.tuple #[.agg #[.int .i64 a0, .int .i64 a1, .int .i64 a2, .int .i64 a3, .int .i64 a4, .int .i64 a5, .int .i64 a6], .int .i64 4]) ∧ Below w.heap.size w w' := by
  have hu26 := Try.underlying26
  have hu30 := Try.underlying30
  have HI := Aside0.mk h
  clear h
  go_enter Try.func25, Try.ntmps25
  go_upto_region 1 with (fail)
  refine spec_l16Step.wp_gen7 (fun W => spec_l16Step.SS7 w W a0 a1 a2 a3 a4 a5 a6 1 b1) ⟨blk_alloc (blk_alloc (blk_new _ _) _) _, blk_alloc (spec_l16Step.blk_new_at7 _ _ _ (by simp)) _, spec_l16Step.blk_new_at7 _ _ _ (by simp), by with_reducible (repeat (first | exact Below.refl _ _ | apply pw_below_drewN | apply below_drew1 | apply below_alloc))⟩ ?_
  rintro W hS
  have HS := Aside0.mk hS
  obtain ⟨hc, ha, hr, hb⟩ := hS
  have hsz := blk_lt hr
  have c0 := blk_cell hc 0
  have c1 := blk_cell hc 1
  have c2 := blk_cell hc 2
  have c3 := blk_cell hc 3
  have c4 := blk_cell hc 4
  have c5 := blk_cell hc 5
  have c6 := blk_cell hc 6
  have g0 := blk_frozen hc 0
  have g1 := blk_frozen hc 1
  have g2 := blk_frozen hc 2
  have g3 := blk_frozen hc 3
  have g4 := blk_frozen hc 4
  have g5 := blk_frozen hc 5
  have g6 := blk_frozen hc 6
  have q0 := blk_cell ha 0
  have q1 := blk_cell ha 1
  have x0 := blk_cell hr 0
  have x1 := blk_cell hr 1
  have x2 := blk_cell hr 2
  have x3 := blk_cell hr 3
  have x4 := blk_cell hr 4
  have x5 := blk_cell hr 5
  have x6 := blk_cell hr 6
  have f0 := blk_frozen hr 0
  have f1 := blk_frozen hr 1
  have f2 := blk_frozen hr 2
  have f3 := blk_frozen hr 3
  have f4 := blk_frozen hr 4
  have f5 := blk_frozen hr 5
  have f6 := blk_frozen hr 6
  clear hc ha hr hb
  go_wp2_with ((go_at_call 32; ((with_reducible refine (spec_l01In.calls _ _ _ false _ HI.out).mono ?_); rintro e w' ⟨rfl, ⟨nd, rfl⟩⟩)))
  refine bodyPost_ret (results_ct rfl _ _ (w.heap.size + 2) 26 #[.int .i64 a0, .int .i64 a1, .int .i64 a2, .int .i64 a3, .int .i64 a4, .int .i64 a5, .int .i64 a6] (0, 0) _ rfl (by (with_reducible repeat (first | refine blk_drewN ?_ _ | refine blk_alloc ?_ _)); refine blk_put (cs := #[.int .i64 a0, .int .i64 a1, .int .i64 a2, .int .i64 a3, .int .i64 a4, .int .i64 a5, .int .i64 0]) ?_ 6 _ rfl; refine blk_put (cs := #[.int .i64 a0, .int .i64 a1, .int .i64 a2, .int .i64 a3, .int .i64 a4, .int .i64 0, .int .i64 0]) ?_ 5 _ rfl; refine blk_put (cs := #[.int .i64 a0, .int .i64 a1, .int .i64 a2, .int .i64 a3, .int .i64 0, .int .i64 0, .int .i64 0]) ?_ 4 _ rfl; refine blk_put (cs := #[.int .i64 a0, .int .i64 a1, .int .i64 a2, .int .i64 0, .int .i64 0, .int .i64 0, .int .i64 0]) ?_ 3 _ rfl; refine blk_put (cs := #[.int .i64 a0, .int .i64 a1, .int .i64 0, .int .i64 0, .int .i64 0, .int .i64 0, .int .i64 0]) ?_ 2 _ rfl; refine blk_put (cs := #[.int .i64 a0, .int .i64 0, .int .i64 0, .int .i64 0, .int .i64 0, .int .i64 0, .int .i64 0]) ?_ 1 _ rfl; refine blk_put (cs := #[.int .i64 0, .int .i64 0, .int .i64 0, .int .i64 0, .int .i64 0, .int .i64 0, .int .i64 0]) ?_ 0 _ rfl; (with_reducible repeat (first | refine blk_drewN ?_ _ | refine blk_drew ?_ | refine blk_alloc ?_ _ | refine blk_far ?_ (by first | (simp; done) | (simp; omega) | omega) _)); exact HS.out.hr) Try.underlying26 rfl (by kernel_rfl)) rfl ?_
  exact ⟨rfl, by with_reducible (repeat (first | exact HS.out.hb | refine below_set ?_ (by omega) | apply below_alloc | apply pw_below_drewN | apply below_drew1))⟩
set_option maxHeartbeats 2000000 in
set_option maxRecDepth 100000 in
theorem spec_l16Step.st_ack (k : Nat) (a0 a1 a2 a3 a4 a5 a6 b1 r1 r2 r3 r4 r5 r6 r7 : Int) (w : World) (h : spec_l01In.f b1 0 1000 = some true) (hc : spec_l16Ack.f k a0 a1 a2 a3 a4 a5 a6 b1 = some (r1, r2, r3, r4, r5, r6, r7)) :
    Calls Try.prog 25 #[.agg #[.int .i64 a0, .int .i64 a1, .int .i64 a2, .int .i64 a3, .int .i64 a4, .int .i64 a5, .int .i64 a6], .agg #[.int .i64 1, .int .i64 b1]] w fun e w' => e = .returned (.tuple #[.agg #[.int .i64 r1, .int .i64 r2, .int .i64 r3, .int .i64 r4, .int .i64 r5, .int .i64 r6, .int .i64 r7], .int .i64 0]) ∧ Below w.heap.size w w' := by
  have hu26 := Try.underlying26
  have hu30 := Try.underlying30
  have HI := Aside0.mk h
  have HC := Aside0.mk hc
  clear h hc
  go_enter Try.func25, Try.ntmps25
  go_upto_region 1 with (fail)
  refine spec_l16Step.wp_gen7 (fun W => spec_l16Step.SS7 w W a0 a1 a2 a3 a4 a5 a6 1 b1) ⟨blk_alloc (blk_alloc (blk_new _ _) _) _, blk_alloc (spec_l16Step.blk_new_at7 _ _ _ (by simp)) _, spec_l16Step.blk_new_at7 _ _ _ (by simp), by with_reducible (repeat (first | exact Below.refl _ _ | apply pw_below_drewN | apply below_drew1 | apply below_alloc))⟩ ?_
  rintro W hS
  have HS := Aside0.mk hS
  obtain ⟨hc, ha, hr, hb⟩ := hS
  have hsz := blk_lt hr
  have c0 := blk_cell hc 0
  have c1 := blk_cell hc 1
  have c2 := blk_cell hc 2
  have c3 := blk_cell hc 3
  have c4 := blk_cell hc 4
  have c5 := blk_cell hc 5
  have c6 := blk_cell hc 6
  have g0 := blk_frozen hc 0
  have g1 := blk_frozen hc 1
  have g2 := blk_frozen hc 2
  have g3 := blk_frozen hc 3
  have g4 := blk_frozen hc 4
  have g5 := blk_frozen hc 5
  have g6 := blk_frozen hc 6
  have q0 := blk_cell ha 0
  have q1 := blk_cell ha 1
  have x0 := blk_cell hr 0
  have x1 := blk_cell hr 1
  have x2 := blk_cell hr 2
  have x3 := blk_cell hr 3
  have x4 := blk_cell hr 4
  have x5 := blk_cell hr 5
  have x6 := blk_cell hr 6
  have f0 := blk_frozen hr 0
  have f1 := blk_frozen hr 1
  have f2 := blk_frozen hr 2
  have f3 := blk_frozen hr 3
  have f4 := blk_frozen hr 4
  have f5 := blk_frozen hr 5
  have f6 := blk_frozen hr 6
  clear hc ha hr hb
  go_wp2_with (first | (go_at_call 32; ((with_reducible refine (spec_l01In.calls _ _ _ true _ HI.out).mono ?_); rintro e w' ⟨rfl, ⟨nd, rfl⟩⟩)) | (go_at_call 33; ((with_reducible refine (spec_l16Ack.calls k _ _ _ _ _ _ _ _ _ _ _ _ _ _ _ _ HC.out).mono ?_); rintro e w1 ⟨rfl, hbel⟩; clear x0 f0 x1 f1 x2 f2 x3 f3 x4 f4 x5 f5 x6 f6; have HS1 := Aside0.mk (spec_l16Step.SS7.below (by first | exact HS.out.drewN _ | exact HS.out) hbel); clear HS; have HS := HS1; clear HS1; have x0_ := blk_cell HS.out.hr 0; have f0_ := blk_frozen HS.out.hr 0; have x1_ := blk_cell HS.out.hr 1; have f1_ := blk_frozen HS.out.hr 1; have x2_ := blk_cell HS.out.hr 2; have f2_ := blk_frozen HS.out.hr 2; have x3_ := blk_cell HS.out.hr 3; have f3_ := blk_frozen HS.out.hr 3; have x4_ := blk_cell HS.out.hr 4; have f4_ := blk_frozen HS.out.hr 4; have x5_ := blk_cell HS.out.hr 5; have f5_ := blk_frozen HS.out.hr 5; have x6_ := blk_cell HS.out.hr 6; have f6_ := blk_frozen HS.out.hr 6; have hsz1 := blk_lt HS.out.hr; clear hbel)))
  refine bodyPost_ret (results_ct rfl _ _ (w.heap.size + 2) 26 #[.int .i64 r1, .int .i64 r2, .int .i64 r3, .int .i64 r4, .int .i64 r5, .int .i64 r6, .int .i64 r7] (0, 0) _ rfl (by (with_reducible repeat (first | refine blk_drewN ?_ _ | refine blk_alloc ?_ _)); refine blk_put (cs := #[.int .i64 r1, .int .i64 r2, .int .i64 r3, .int .i64 r4, .int .i64 r5, .int .i64 r6, .int .i64 0]) ?_ 6 _ rfl; refine blk_put (cs := #[.int .i64 r1, .int .i64 r2, .int .i64 r3, .int .i64 r4, .int .i64 r5, .int .i64 0, .int .i64 0]) ?_ 5 _ rfl; refine blk_put (cs := #[.int .i64 r1, .int .i64 r2, .int .i64 r3, .int .i64 r4, .int .i64 0, .int .i64 0, .int .i64 0]) ?_ 4 _ rfl; refine blk_put (cs := #[.int .i64 r1, .int .i64 r2, .int .i64 r3, .int .i64 0, .int .i64 0, .int .i64 0, .int .i64 0]) ?_ 3 _ rfl; refine blk_put (cs := #[.int .i64 r1, .int .i64 r2, .int .i64 0, .int .i64 0, .int .i64 0, .int .i64 0, .int .i64 0]) ?_ 2 _ rfl; refine blk_put (cs := #[.int .i64 r1, .int .i64 0, .int .i64 0, .int .i64 0, .int .i64 0, .int .i64 0, .int .i64 0]) ?_ 1 _ rfl; refine blk_put (cs := #[.int .i64 0, .int .i64 0, .int .i64 0, .int .i64 0, .int .i64 0, .int .i64 0, .int .i64 0]) ?_ 0 _ rfl; (with_reducible repeat (first | refine blk_drewN ?_ _ | refine blk_drew ?_ | refine blk_alloc ?_ _ | refine blk_far ?_ (by first | (simp; done) | (simp; omega) | omega) _)); exact HS.out.hr) Try.underlying26 rfl (by kernel_rfl)) rfl ?_
  exact ⟨rfl, by with_reducible (repeat (first | exact HS.out.hb | refine below_set ?_ (by omega) | apply below_alloc | apply pw_below_drewN | apply below_drew1))⟩
set_option maxHeartbeats 2000000 in
set_option maxRecDepth 100000 in
theorem spec_l16Step.st_loss (k : Nat) (a0 a1 a2 a3 a4 a5 a6 b1 r1 r2 r3 r4 r5 r6 r7 : Int) (w : World) (hc : spec_l16Loss.f k a0 a1 a2 a3 a4 a5 a6 = some (r1, r2, r3, r4, r5, r6, r7)) :
    Calls Try.prog 25 #[.agg #[.int .i64 a0, .int .i64 a1, .int .i64 a2, .int .i64 a3, .int .i64 a4, .int .i64 a5, .int .i64 a6], .agg #[.int .i64 2, .int .i64 b1]] w fun e w' => e = .returned (.tuple #[.agg #[.int .i64 r1, .int .i64 r2, .int .i64 r3, .int .i64 r4, .int .i64 r5, .int .i64 r6, .int .i64 r7], .int .i64 0]) ∧ Below w.heap.size w w' := by
  have hu26 := Try.underlying26
  have hu30 := Try.underlying30
  have HC := Aside0.mk hc
  clear hc
  go_enter Try.func25, Try.ntmps25
  go_upto_region 1 with (fail)
  refine spec_l16Step.wp_gen7 (fun W => spec_l16Step.SS7 w W a0 a1 a2 a3 a4 a5 a6 2 b1) ⟨blk_alloc (blk_alloc (blk_new _ _) _) _, blk_alloc (spec_l16Step.blk_new_at7 _ _ _ (by simp)) _, spec_l16Step.blk_new_at7 _ _ _ (by simp), by with_reducible (repeat (first | exact Below.refl _ _ | apply pw_below_drewN | apply below_drew1 | apply below_alloc))⟩ ?_
  rintro W hS
  have HS := Aside0.mk hS
  obtain ⟨hc, ha, hr, hb⟩ := hS
  have hsz := blk_lt hr
  have c0 := blk_cell hc 0
  have c1 := blk_cell hc 1
  have c2 := blk_cell hc 2
  have c3 := blk_cell hc 3
  have c4 := blk_cell hc 4
  have c5 := blk_cell hc 5
  have c6 := blk_cell hc 6
  have g0 := blk_frozen hc 0
  have g1 := blk_frozen hc 1
  have g2 := blk_frozen hc 2
  have g3 := blk_frozen hc 3
  have g4 := blk_frozen hc 4
  have g5 := blk_frozen hc 5
  have g6 := blk_frozen hc 6
  have q0 := blk_cell ha 0
  have q1 := blk_cell ha 1
  have x0 := blk_cell hr 0
  have x1 := blk_cell hr 1
  have x2 := blk_cell hr 2
  have x3 := blk_cell hr 3
  have x4 := blk_cell hr 4
  have x5 := blk_cell hr 5
  have x6 := blk_cell hr 6
  have f0 := blk_frozen hr 0
  have f1 := blk_frozen hr 1
  have f2 := blk_frozen hr 2
  have f3 := blk_frozen hr 3
  have f4 := blk_frozen hr 4
  have f5 := blk_frozen hr 5
  have f6 := blk_frozen hr 6
  clear hc ha hr hb
  go_wp2_with ((go_at_call 34; ((with_reducible refine (spec_l16Loss.calls k _ _ _ _ _ _ _ _ _ _ _ _ _ _ _ HC.out).mono ?_); rintro e w1 ⟨rfl, hbel⟩; clear x0 f0 x1 f1 x2 f2 x3 f3 x4 f4 x5 f5 x6 f6; have HS1 := Aside0.mk (spec_l16Step.SS7.below (by first | exact HS.out.drewN _ | exact HS.out) hbel); clear HS; have HS := HS1; clear HS1; have x0_ := blk_cell HS.out.hr 0; have f0_ := blk_frozen HS.out.hr 0; have x1_ := blk_cell HS.out.hr 1; have f1_ := blk_frozen HS.out.hr 1; have x2_ := blk_cell HS.out.hr 2; have f2_ := blk_frozen HS.out.hr 2; have x3_ := blk_cell HS.out.hr 3; have f3_ := blk_frozen HS.out.hr 3; have x4_ := blk_cell HS.out.hr 4; have f4_ := blk_frozen HS.out.hr 4; have x5_ := blk_cell HS.out.hr 5; have f5_ := blk_frozen HS.out.hr 5; have x6_ := blk_cell HS.out.hr 6; have f6_ := blk_frozen HS.out.hr 6; have hsz1 := blk_lt HS.out.hr; clear hbel)))
  refine bodyPost_ret (results_ct rfl _ _ (w.heap.size + 2) 26 #[.int .i64 r1, .int .i64 r2, .int .i64 r3, .int .i64 r4, .int .i64 r5, .int .i64 r6, .int .i64 r7] (0, 0) _ rfl (by (with_reducible repeat (first | refine blk_drewN ?_ _ | refine blk_alloc ?_ _)); refine blk_put (cs := #[.int .i64 r1, .int .i64 r2, .int .i64 r3, .int .i64 r4, .int .i64 r5, .int .i64 r6, .int .i64 0]) ?_ 6 _ rfl; refine blk_put (cs := #[.int .i64 r1, .int .i64 r2, .int .i64 r3, .int .i64 r4, .int .i64 r5, .int .i64 0, .int .i64 0]) ?_ 5 _ rfl; refine blk_put (cs := #[.int .i64 r1, .int .i64 r2, .int .i64 r3, .int .i64 r4, .int .i64 0, .int .i64 0, .int .i64 0]) ?_ 4 _ rfl; refine blk_put (cs := #[.int .i64 r1, .int .i64 r2, .int .i64 r3, .int .i64 0, .int .i64 0, .int .i64 0, .int .i64 0]) ?_ 3 _ rfl; refine blk_put (cs := #[.int .i64 r1, .int .i64 r2, .int .i64 0, .int .i64 0, .int .i64 0, .int .i64 0, .int .i64 0]) ?_ 2 _ rfl; refine blk_put (cs := #[.int .i64 r1, .int .i64 0, .int .i64 0, .int .i64 0, .int .i64 0, .int .i64 0, .int .i64 0]) ?_ 1 _ rfl; refine blk_put (cs := #[.int .i64 0, .int .i64 0, .int .i64 0, .int .i64 0, .int .i64 0, .int .i64 0, .int .i64 0]) ?_ 0 _ rfl; (with_reducible repeat (first | refine blk_drewN ?_ _ | refine blk_drew ?_ | refine blk_alloc ?_ _ | refine blk_far ?_ (by first | (simp; done) | (simp; omega) | omega) _)); exact HS.out.hr) Try.underlying26 rfl (by kernel_rfl)) rfl ?_
  exact ⟨rfl, by with_reducible (repeat (first | exact HS.out.hb | refine below_set ?_ (by omega) | apply below_alloc | apply pw_below_drewN | apply below_drew1))⟩
set_option maxHeartbeats 2000000 in
set_option maxRecDepth 100000 in
theorem spec_l16Step.st_to (k : Nat) (a0 a1 a2 a3 a4 a5 a6 b1 r1 r2 r3 r4 r5 r6 r7 : Int) (w : World) (hc : spec_l16Loss.f k a0 a1 a2 a3 a4 a5 a6 = some (r1, r2, r3, r4, r5, r6, r7)) :
    Calls Try.prog 25 #[.agg #[.int .i64 a0, .int .i64 a1, .int .i64 a2, .int .i64 a3, .int .i64 a4, .int .i64 a5, .int .i64 a6], .agg #[.int .i64 3, .int .i64 b1]] w fun e w' => e = .returned (.tuple #[.agg #[.int .i64 1, .int .i64 r2, .int .i64 r3, .int .i64 r4, .int .i64 r5, .int .i64 r6, .int .i64 r7], .int .i64 0]) ∧ Below w.heap.size w w' := by
  have hu26 := Try.underlying26
  have hu30 := Try.underlying30
  have HC := Aside0.mk hc
  clear hc
  go_enter Try.func25, Try.ntmps25
  go_upto_region 1 with (fail)
  refine spec_l16Step.wp_gen7 (fun W => spec_l16Step.SS7 w W a0 a1 a2 a3 a4 a5 a6 3 b1) ⟨blk_alloc (blk_alloc (blk_new _ _) _) _, blk_alloc (spec_l16Step.blk_new_at7 _ _ _ (by simp)) _, spec_l16Step.blk_new_at7 _ _ _ (by simp), by with_reducible (repeat (first | exact Below.refl _ _ | apply pw_below_drewN | apply below_drew1 | apply below_alloc))⟩ ?_
  rintro W hS
  have HS := Aside0.mk hS
  obtain ⟨hc, ha, hr, hb⟩ := hS
  have hsz := blk_lt hr
  have c0 := blk_cell hc 0
  have c1 := blk_cell hc 1
  have c2 := blk_cell hc 2
  have c3 := blk_cell hc 3
  have c4 := blk_cell hc 4
  have c5 := blk_cell hc 5
  have c6 := blk_cell hc 6
  have g0 := blk_frozen hc 0
  have g1 := blk_frozen hc 1
  have g2 := blk_frozen hc 2
  have g3 := blk_frozen hc 3
  have g4 := blk_frozen hc 4
  have g5 := blk_frozen hc 5
  have g6 := blk_frozen hc 6
  have q0 := blk_cell ha 0
  have q1 := blk_cell ha 1
  have x0 := blk_cell hr 0
  have x1 := blk_cell hr 1
  have x2 := blk_cell hr 2
  have x3 := blk_cell hr 3
  have x4 := blk_cell hr 4
  have x5 := blk_cell hr 5
  have x6 := blk_cell hr 6
  have f0 := blk_frozen hr 0
  have f1 := blk_frozen hr 1
  have f2 := blk_frozen hr 2
  have f3 := blk_frozen hr 3
  have f4 := blk_frozen hr 4
  have f5 := blk_frozen hr 5
  have f6 := blk_frozen hr 6
  clear hc ha hr hb
  go_wp2_with ((go_at_call 34; ((with_reducible refine (spec_l16Loss.calls k _ _ _ _ _ _ _ _ _ _ _ _ _ _ _ HC.out).mono ?_); rintro e w1 ⟨rfl, hbel⟩; clear x0 f0 x1 f1 x2 f2 x3 f3 x4 f4 x5 f5 x6 f6; have HS1 := Aside0.mk (spec_l16Step.SS7.below (by first | exact HS.out.drewN _ | exact HS.out) hbel); clear HS; have HS := HS1; clear HS1; have x0_ := blk_cell HS.out.hr 0; have f0_ := blk_frozen HS.out.hr 0; have x1_ := blk_cell HS.out.hr 1; have f1_ := blk_frozen HS.out.hr 1; have x2_ := blk_cell HS.out.hr 2; have f2_ := blk_frozen HS.out.hr 2; have x3_ := blk_cell HS.out.hr 3; have f3_ := blk_frozen HS.out.hr 3; have x4_ := blk_cell HS.out.hr 4; have f4_ := blk_frozen HS.out.hr 4; have x5_ := blk_cell HS.out.hr 5; have f5_ := blk_frozen HS.out.hr 5; have x6_ := blk_cell HS.out.hr 6; have f6_ := blk_frozen HS.out.hr 6; have hsz1 := blk_lt HS.out.hr; clear hbel)))
  refine bodyPost_ret (results_ct rfl _ _ (w.heap.size + 2) 26 #[.int .i64 1, .int .i64 r2, .int .i64 r3, .int .i64 r4, .int .i64 r5, .int .i64 r6, .int .i64 r7] (0, 0) _ rfl (by (with_reducible repeat (first | refine blk_drewN ?_ _ | refine blk_alloc ?_ _)); refine blk_put (cs := #[.int .i64 1, .int .i64 r2, .int .i64 r3, .int .i64 r4, .int .i64 r5, .int .i64 r6, .int .i64 0]) ?_ 6 _ rfl; refine blk_put (cs := #[.int .i64 1, .int .i64 r2, .int .i64 r3, .int .i64 r4, .int .i64 r5, .int .i64 0, .int .i64 0]) ?_ 5 _ rfl; refine blk_put (cs := #[.int .i64 1, .int .i64 r2, .int .i64 r3, .int .i64 r4, .int .i64 0, .int .i64 0, .int .i64 0]) ?_ 4 _ rfl; refine blk_put (cs := #[.int .i64 1, .int .i64 r2, .int .i64 r3, .int .i64 0, .int .i64 0, .int .i64 0, .int .i64 0]) ?_ 3 _ rfl; refine blk_put (cs := #[.int .i64 1, .int .i64 r2, .int .i64 0, .int .i64 0, .int .i64 0, .int .i64 0, .int .i64 0]) ?_ 2 _ rfl; refine blk_put (cs := #[.int .i64 1, .int .i64 0, .int .i64 0, .int .i64 0, .int .i64 0, .int .i64 0, .int .i64 0]) ?_ 1 _ rfl; refine blk_put (cs := #[.int .i64 0, .int .i64 0, .int .i64 0, .int .i64 0, .int .i64 0, .int .i64 0, .int .i64 0]) ?_ 0 _ rfl; (with_reducible repeat (first | refine blk_drewN ?_ _ | refine blk_drew ?_ | refine blk_alloc ?_ _ | refine blk_far ?_ (by first | (simp; done) | (simp; omega) | omega) _)); exact HS.out.hr) Try.underlying26 rfl (by kernel_rfl)) rfl ?_
  exact ⟨rfl, by with_reducible (repeat (first | exact HS.out.hb | refine below_set ?_ (by omega) | apply below_alloc | apply pw_below_drewN | apply below_drew1))⟩
set_option maxHeartbeats 2000000 in
set_option maxRecDepth 100000 in
theorem spec_l16Step.st_wait (k : Nat) (a0 a1 a2 a3 a4 a5 a6 b1 : Int) (w : World) (h5 : 0 ≤ a5) (h6 : a5 ≤ 1000000) (hb0 : 0 ≤ b1) (hb1 : b1 ≤ 1000000 - a5) (h : spec_l01In.f b1 0 (1000000 - a5) = some true) :
    Calls Try.prog 25 #[.agg #[.int .i64 a0, .int .i64 a1, .int .i64 a2, .int .i64 a3, .int .i64 a4, .int .i64 a5, .int .i64 a6], .agg #[.int .i64 4, .int .i64 b1]] w fun e w' => e = .returned (.tuple #[.agg #[.int .i64 a0, .int .i64 a1, .int .i64 a2, .int .i64 a3, .int .i64 a4, .int .i64 (a5 + b1), .int .i64 a6], .int .i64 0]) ∧ Below w.heap.size w w' := by
  have hu26 := Try.underlying26
  have hu30 := Try.underlying30
  have HI := Aside0.mk h
  clear h
  go_enter Try.func25, Try.ntmps25
  go_upto_region 1 with (fail)
  refine spec_l16Step.wp_gen7 (fun W => spec_l16Step.SS7 w W a0 a1 a2 a3 a4 a5 a6 4 b1) ⟨blk_alloc (blk_alloc (blk_new _ _) _) _, blk_alloc (spec_l16Step.blk_new_at7 _ _ _ (by simp)) _, spec_l16Step.blk_new_at7 _ _ _ (by simp), by with_reducible (repeat (first | exact Below.refl _ _ | apply pw_below_drewN | apply below_drew1 | apply below_alloc))⟩ ?_
  rintro W hS
  have HS := Aside0.mk hS
  obtain ⟨hc, ha, hr, hb⟩ := hS
  have hsz := blk_lt hr
  have c0 := blk_cell hc 0
  have c1 := blk_cell hc 1
  have c2 := blk_cell hc 2
  have c3 := blk_cell hc 3
  have c4 := blk_cell hc 4
  have c5 := blk_cell hc 5
  have c6 := blk_cell hc 6
  have g0 := blk_frozen hc 0
  have g1 := blk_frozen hc 1
  have g2 := blk_frozen hc 2
  have g3 := blk_frozen hc 3
  have g4 := blk_frozen hc 4
  have g5 := blk_frozen hc 5
  have g6 := blk_frozen hc 6
  have q0 := blk_cell ha 0
  have q1 := blk_cell ha 1
  have x0 := blk_cell hr 0
  have x1 := blk_cell hr 1
  have x2 := blk_cell hr 2
  have x3 := blk_cell hr 3
  have x4 := blk_cell hr 4
  have x5 := blk_cell hr 5
  have x6 := blk_cell hr 6
  have f0 := blk_frozen hr 0
  have f1 := blk_frozen hr 1
  have f2 := blk_frozen hr 2
  have f3 := blk_frozen hr 3
  have f4 := blk_frozen hr 4
  have f5 := blk_frozen hr 5
  have f6 := blk_frozen hr 6
  clear hc ha hr hb
  go_wp2_with ((go_at_call 32; ((with_reducible refine (spec_l01In.calls _ _ _ true _ HI.out).mono ?_); rintro e w' ⟨rfl, ⟨nd, rfl⟩⟩)))
  refine bodyPost_ret (results_ct rfl _ _ (w.heap.size + 2) 26 #[.int .i64 a0, .int .i64 a1, .int .i64 a2, .int .i64 a3, .int .i64 a4, .int .i64 (a5 + b1), .int .i64 a6] (0, 0) _ rfl (by (with_reducible repeat (first | refine blk_drewN ?_ _ | refine blk_alloc ?_ _)); refine blk_put (cs := #[.int .i64 a0, .int .i64 a1, .int .i64 a2, .int .i64 a3, .int .i64 a4, .int .i64 (a5 + b1), .int .i64 0]) ?_ 6 _ rfl; refine blk_put (cs := #[.int .i64 a0, .int .i64 a1, .int .i64 a2, .int .i64 a3, .int .i64 a4, .int .i64 0, .int .i64 0]) ?_ 5 _ rfl; refine blk_put (cs := #[.int .i64 a0, .int .i64 a1, .int .i64 a2, .int .i64 a3, .int .i64 0, .int .i64 0, .int .i64 0]) ?_ 4 _ rfl; refine blk_put (cs := #[.int .i64 a0, .int .i64 a1, .int .i64 a2, .int .i64 0, .int .i64 0, .int .i64 0, .int .i64 0]) ?_ 3 _ rfl; refine blk_put (cs := #[.int .i64 a0, .int .i64 a1, .int .i64 0, .int .i64 0, .int .i64 0, .int .i64 0, .int .i64 0]) ?_ 2 _ rfl; refine blk_put (cs := #[.int .i64 a0, .int .i64 0, .int .i64 0, .int .i64 0, .int .i64 0, .int .i64 0, .int .i64 0]) ?_ 1 _ rfl; refine blk_put (cs := #[.int .i64 0, .int .i64 0, .int .i64 0, .int .i64 0, .int .i64 0, .int .i64 0, .int .i64 0]) ?_ 0 _ rfl; (with_reducible repeat (first | refine blk_drewN ?_ _ | refine blk_drew ?_ | refine blk_alloc ?_ _ | refine blk_far ?_ (by first | (simp; done) | (simp; omega) | omega) _)); exact HS.out.hr) Try.underlying26 rfl (by kernel_rfl)) rfl ?_
  exact ⟨rfl, by with_reducible (repeat (first | exact HS.out.hb | refine below_set ?_ (by omega) | apply below_alloc | apply pw_below_drewN | apply below_drew1))⟩
set_option maxHeartbeats 2000000 in
set_option maxRecDepth 100000 in
theorem spec_l16Step.st_waitbad (k : Nat) (a0 a1 a2 a3 a4 a5 a6 b1 : Int) (w : World) (h5 : 0 ≤ a5) (h6 : a5 ≤ 1000000) (h : spec_l01In.f b1 0 (1000000 - a5) = some false) :
    Calls Try.prog 25 #[.agg #[.int .i64 a0, .int .i64 a1, .int .i64 a2, .int .i64 a3, .int .i64 a4, .int .i64 a5, .int .i64 a6], .agg #[.int .i64 4, .int .i64 b1]] w fun e w' => e = .returned (.tuple #[.agg #[.int .i64 a0, .int .i64 a1, .int .i64 a2, .int .i64 a3, .int .i64 a4, .int .i64 a5, .int .i64 a6], .int .i64 4]) ∧ Below w.heap.size w w' := by
  have hu26 := Try.underlying26
  have hu30 := Try.underlying30
  have HI := Aside0.mk h
  clear h
  go_enter Try.func25, Try.ntmps25
  go_upto_region 1 with (fail)
  refine spec_l16Step.wp_gen7 (fun W => spec_l16Step.SS7 w W a0 a1 a2 a3 a4 a5 a6 4 b1) ⟨blk_alloc (blk_alloc (blk_new _ _) _) _, blk_alloc (spec_l16Step.blk_new_at7 _ _ _ (by simp)) _, spec_l16Step.blk_new_at7 _ _ _ (by simp), by with_reducible (repeat (first | exact Below.refl _ _ | apply pw_below_drewN | apply below_drew1 | apply below_alloc))⟩ ?_
  rintro W hS
  have HS := Aside0.mk hS
  obtain ⟨hc, ha, hr, hb⟩ := hS
  have hsz := blk_lt hr
  have c0 := blk_cell hc 0
  have c1 := blk_cell hc 1
  have c2 := blk_cell hc 2
  have c3 := blk_cell hc 3
  have c4 := blk_cell hc 4
  have c5 := blk_cell hc 5
  have c6 := blk_cell hc 6
  have g0 := blk_frozen hc 0
  have g1 := blk_frozen hc 1
  have g2 := blk_frozen hc 2
  have g3 := blk_frozen hc 3
  have g4 := blk_frozen hc 4
  have g5 := blk_frozen hc 5
  have g6 := blk_frozen hc 6
  have q0 := blk_cell ha 0
  have q1 := blk_cell ha 1
  have x0 := blk_cell hr 0
  have x1 := blk_cell hr 1
  have x2 := blk_cell hr 2
  have x3 := blk_cell hr 3
  have x4 := blk_cell hr 4
  have x5 := blk_cell hr 5
  have x6 := blk_cell hr 6
  have f0 := blk_frozen hr 0
  have f1 := blk_frozen hr 1
  have f2 := blk_frozen hr 2
  have f3 := blk_frozen hr 3
  have f4 := blk_frozen hr 4
  have f5 := blk_frozen hr 5
  have f6 := blk_frozen hr 6
  clear hc ha hr hb
  go_wp2_with ((go_at_call 32; ((with_reducible refine (spec_l01In.calls _ _ _ false _ HI.out).mono ?_); rintro e w' ⟨rfl, ⟨nd, rfl⟩⟩)))
  refine bodyPost_ret (results_ct rfl _ _ (w.heap.size + 2) 26 #[.int .i64 a0, .int .i64 a1, .int .i64 a2, .int .i64 a3, .int .i64 a4, .int .i64 a5, .int .i64 a6] (0, 0) _ rfl (by (with_reducible repeat (first | refine blk_drewN ?_ _ | refine blk_alloc ?_ _)); refine blk_put (cs := #[.int .i64 a0, .int .i64 a1, .int .i64 a2, .int .i64 a3, .int .i64 a4, .int .i64 a5, .int .i64 0]) ?_ 6 _ rfl; refine blk_put (cs := #[.int .i64 a0, .int .i64 a1, .int .i64 a2, .int .i64 a3, .int .i64 a4, .int .i64 0, .int .i64 0]) ?_ 5 _ rfl; refine blk_put (cs := #[.int .i64 a0, .int .i64 a1, .int .i64 a2, .int .i64 a3, .int .i64 0, .int .i64 0, .int .i64 0]) ?_ 4 _ rfl; refine blk_put (cs := #[.int .i64 a0, .int .i64 a1, .int .i64 a2, .int .i64 0, .int .i64 0, .int .i64 0, .int .i64 0]) ?_ 3 _ rfl; refine blk_put (cs := #[.int .i64 a0, .int .i64 a1, .int .i64 0, .int .i64 0, .int .i64 0, .int .i64 0, .int .i64 0]) ?_ 2 _ rfl; refine blk_put (cs := #[.int .i64 a0, .int .i64 0, .int .i64 0, .int .i64 0, .int .i64 0, .int .i64 0, .int .i64 0]) ?_ 1 _ rfl; refine blk_put (cs := #[.int .i64 0, .int .i64 0, .int .i64 0, .int .i64 0, .int .i64 0, .int .i64 0, .int .i64 0]) ?_ 0 _ rfl; (with_reducible repeat (first | refine blk_drewN ?_ _ | refine blk_drew ?_ | refine blk_alloc ?_ _ | refine blk_far ?_ (by first | (simp; done) | (simp; omega) | omega) _)); exact HS.out.hr) Try.underlying26 rfl (by kernel_rfl)) rfl ?_
  exact ⟨rfl, by with_reducible (repeat (first | exact HS.out.hb | refine below_set ?_ (by omega) | apply below_alloc | apply pw_below_drewN | apply below_drew1))⟩
set_option maxHeartbeats 2000000 in
set_option maxRecDepth 100000 in
theorem spec_l16Step.st_form (k : Nat) (b0 : Int) (a0 a1 a2 a3 a4 a5 a6 b1 : Int) (w : World) (n1 : (b0 == 1) = false) (n2 : (b0 == 2) = false) (n3 : (b0 == 3) = false) (n4 : (b0 == 4) = false) :
    Calls Try.prog 25 #[.agg #[.int .i64 a0, .int .i64 a1, .int .i64 a2, .int .i64 a3, .int .i64 a4, .int .i64 a5, .int .i64 a6], .agg #[.int .i64 b0, .int .i64 b1]] w fun e w' => e = .returned (.tuple #[.agg #[.int .i64 a0, .int .i64 a1, .int .i64 a2, .int .i64 a3, .int .i64 a4, .int .i64 a5, .int .i64 a6], .int .i64 3]) ∧ Below w.heap.size w w' := by
  have hu26 := Try.underlying26
  have hu30 := Try.underlying30
  go_enter Try.func25, Try.ntmps25
  go_upto_region 1 with (fail)
  refine spec_l16Step.wp_gen7 (fun W => spec_l16Step.SS7 w W a0 a1 a2 a3 a4 a5 a6 b0 b1) ⟨blk_alloc (blk_alloc (blk_new _ _) _) _, blk_alloc (spec_l16Step.blk_new_at7 _ _ _ (by simp)) _, spec_l16Step.blk_new_at7 _ _ _ (by simp), by with_reducible (repeat (first | exact Below.refl _ _ | apply pw_below_drewN | apply below_drew1 | apply below_alloc))⟩ ?_
  rintro W hS
  have HS := Aside0.mk hS
  obtain ⟨hc, ha, hr, hb⟩ := hS
  have hsz := blk_lt hr
  have c0 := blk_cell hc 0
  have c1 := blk_cell hc 1
  have c2 := blk_cell hc 2
  have c3 := blk_cell hc 3
  have c4 := blk_cell hc 4
  have c5 := blk_cell hc 5
  have c6 := blk_cell hc 6
  have g0 := blk_frozen hc 0
  have g1 := blk_frozen hc 1
  have g2 := blk_frozen hc 2
  have g3 := blk_frozen hc 3
  have g4 := blk_frozen hc 4
  have g5 := blk_frozen hc 5
  have g6 := blk_frozen hc 6
  have q0 := blk_cell ha 0
  have q1 := blk_cell ha 1
  have x0 := blk_cell hr 0
  have x1 := blk_cell hr 1
  have x2 := blk_cell hr 2
  have x3 := blk_cell hr 3
  have x4 := blk_cell hr 4
  have x5 := blk_cell hr 5
  have x6 := blk_cell hr 6
  have f0 := blk_frozen hr 0
  have f1 := blk_frozen hr 1
  have f2 := blk_frozen hr 2
  have f3 := blk_frozen hr 3
  have f4 := blk_frozen hr 4
  have f5 := blk_frozen hr 5
  have f6 := blk_frozen hr 6
  clear hc ha hr hb
  go_wp2_with (fail)
  refine bodyPost_ret (results_ct rfl _ _ (w.heap.size + 2) 26 #[.int .i64 a0, .int .i64 a1, .int .i64 a2, .int .i64 a3, .int .i64 a4, .int .i64 a5, .int .i64 a6] (0, 0) _ rfl (by (with_reducible repeat (first | refine blk_drewN ?_ _ | refine blk_alloc ?_ _)); refine blk_put (cs := #[.int .i64 a0, .int .i64 a1, .int .i64 a2, .int .i64 a3, .int .i64 a4, .int .i64 a5, .int .i64 0]) ?_ 6 _ rfl; refine blk_put (cs := #[.int .i64 a0, .int .i64 a1, .int .i64 a2, .int .i64 a3, .int .i64 a4, .int .i64 0, .int .i64 0]) ?_ 5 _ rfl; refine blk_put (cs := #[.int .i64 a0, .int .i64 a1, .int .i64 a2, .int .i64 a3, .int .i64 0, .int .i64 0, .int .i64 0]) ?_ 4 _ rfl; refine blk_put (cs := #[.int .i64 a0, .int .i64 a1, .int .i64 a2, .int .i64 0, .int .i64 0, .int .i64 0, .int .i64 0]) ?_ 3 _ rfl; refine blk_put (cs := #[.int .i64 a0, .int .i64 a1, .int .i64 0, .int .i64 0, .int .i64 0, .int .i64 0, .int .i64 0]) ?_ 2 _ rfl; refine blk_put (cs := #[.int .i64 a0, .int .i64 0, .int .i64 0, .int .i64 0, .int .i64 0, .int .i64 0, .int .i64 0]) ?_ 1 _ rfl; refine blk_put (cs := #[.int .i64 0, .int .i64 0, .int .i64 0, .int .i64 0, .int .i64 0, .int .i64 0, .int .i64 0]) ?_ 0 _ rfl; (with_reducible repeat (first | refine blk_drewN ?_ _ | refine blk_drew ?_ | refine blk_alloc ?_ _ | refine blk_far ?_ (by first | (simp; done) | (simp; omega) | omega) _)); exact HS.out.hr) Try.underlying26 rfl (by kernel_rfl)) rfl ?_
  exact ⟨rfl, by with_reducible (repeat (first | exact HS.out.hb | refine below_set ?_ (by omega) | apply below_alloc | apply pw_below_drewN | apply below_drew1))⟩

set_option maxHeartbeats 8000000 in
set_option maxRecDepth 100000 in
theorem spec_l16Step.calls (k : Nat) (a0_0 : Int) (a0_1 : Int) (a0_2 : Int) (a0_3 : Int) (a0_4 : Int) (a0_5 : Int) (a0_6 : Int) (a1_0 : Int) (a1_1 : Int) (r1 : Int) (r2 : Int) (r3 : Int) (r4 : Int) (r5 : Int) (r6 : Int) (r7 : Int) (r8 : Int) (w : World) (h : spec_l16Step.f k a0_0 a0_1 a0_2 a0_3 a0_4 a0_5 a0_6 a1_0 a1_1 = some (r1, r2, r3, r4, r5, r6, r7, r8)) :
    Calls Try.prog 25 #[.agg #[.int .i64 a0_0, .int .i64 a0_1, .int .i64 a0_2, .int .i64 a0_3, .int .i64 a0_4, .int .i64 a0_5, .int .i64 a0_6], .agg #[.int .i64 a1_0, .int .i64 a1_1]] w fun e w' => e = .returned (.tuple #[.agg #[.int .i64 r1, .int .i64 r2, .int .i64 r3, .int .i64 r4, .int .i64 r5, .int .i64 r6, .int .i64 r7], .int .i64 r8]) ∧ Below w.heap.size w w' := by
  have inr : ∀ a b c : Int, spec_l01In.f a b c = some (decide (b ≤ a ∧ a ≤ c)) := by
    intro a b c
    unfold spec_l01In.f
    by_cases h : a ≥ b <;> simp [h]
  unfold spec_l16Step.f at h
  by_cases n1 : a1_0 = 1
  · rw [if_pos n1] at h
    subst n1
    by_cases hr : 0 ≤ a1_1 ∧ a1_1 ≤ 1000
    · rw [if_pos hr] at h
      obtain ⟨⟨q1, q2, q3, q4, q5, q6, q7⟩, ha, h⟩ := Option.bind_eq_some_iff.mp h
      simp only [Option.some.injEq, Prod.mk.injEq] at h
      obtain ⟨rfl, rfl, rfl, rfl, rfl, rfl, rfl, rfl⟩ := h
      exact spec_l16Step.st_ack k _ _ _ _ _ _ _ _ _ _ _ _ _ _ _ w (by rw [inr, decide_eq_true hr]) ha
    · rw [if_neg hr] at h
      simp only [Option.some.injEq, Prod.mk.injEq] at h
      obtain ⟨rfl, rfl, rfl, rfl, rfl, rfl, rfl, rfl⟩ := h
      exact spec_l16Step.st_ackbad k _ _ _ _ _ _ _ _ w (by rw [inr, decide_eq_false hr])
  rw [if_neg n1] at h
  by_cases n2 : a1_0 = 2
  · rw [if_pos n2] at h
    subst n2
    obtain ⟨⟨q1, q2, q3, q4, q5, q6, q7⟩, ha, h⟩ := Option.bind_eq_some_iff.mp h
    simp only [Option.some.injEq, Prod.mk.injEq] at h
    obtain ⟨rfl, rfl, rfl, rfl, rfl, rfl, rfl, rfl⟩ := h
    exact spec_l16Step.st_loss k _ _ _ _ _ _ _ _ _ _ _ _ _ _ _ w ha
  rw [if_neg n2] at h
  by_cases n3 : a1_0 = 3
  · rw [if_pos n3] at h
    subst n3
    obtain ⟨⟨q1, q2, q3, q4, q5, q6, q7⟩, ha, h⟩ := Option.bind_eq_some_iff.mp h
    simp only [Option.some.injEq, Prod.mk.injEq] at h
    obtain ⟨rfl, rfl, rfl, rfl, rfl, rfl, rfl, rfl⟩ := h
    exact spec_l16Step.st_to k _ _ _ _ _ _ _ _ _ _ _ _ _ _ _ w ha
  rw [if_neg n3] at h
  by_cases n4 : a1_0 = 4
  · rw [if_pos n4] at h
    subst n4
    by_cases h5 : 0 ≤ a0_5 ∧ a0_5 ≤ 1000000
    case neg => rw [if_neg h5] at h; cases h
    rw [if_pos h5] at h
    by_cases hr : 0 ≤ a1_1 ∧ a1_1 ≤ 1000000 - a0_5
    · rw [if_pos hr] at h
      simp only [Option.some.injEq, Prod.mk.injEq] at h
      obtain ⟨rfl, rfl, rfl, rfl, rfl, rfl, rfl, rfl⟩ := h
      exact spec_l16Step.st_wait k _ _ _ _ _ _ _ _ w h5.1 h5.2 hr.1 hr.2 (by rw [inr, decide_eq_true hr])
    · rw [if_neg hr] at h
      simp only [Option.some.injEq, Prod.mk.injEq] at h
      obtain ⟨rfl, rfl, rfl, rfl, rfl, rfl, rfl, rfl⟩ := h
      exact spec_l16Step.st_waitbad k _ _ _ _ _ _ _ _ w h5.1 h5.2 (by rw [inr, decide_eq_false hr])
  · rw [if_neg n4] at h
    simp only [Option.some.injEq, Prod.mk.injEq] at h
    obtain ⟨rfl, rfl, rfl, rfl, rfl, rfl, rfl, rfl⟩ := h
    exact spec_l16Step.st_form k _ _ _ _ _ _ _ _ _ w (by simpa using n1) (by simpa using n2) (by simpa using n3) (by simpa using n4)

end Go.Proofs.Ytjfbeakmpmjadaa.PWin

namespace Go.Proofs.Ytjfbeakmpmjadaa.PWin
open Go.RowKit Go.Proofs.YtjfbeakmpmjadaaW.PrintWords Go.Proofs.YtjfbeakmpmjadaaW.PrintLast Go.Proofs.YtjfbeakmpmjadaaW.PrintMore
attribute [local go_sem] max2_int min2_int max_two min_two max_three min_three max_four min_four   -- for this text's walks alone
set_option linter.unusedVariables false
set_option linter.unusedSimpArgs false

/-! ### spec_NewCubic: function 27 -/
def spec_NewCubic.f  : Option (Int × Int × Int × Int × Int × Int × Int) := some (10, 100000, 0, 0, 0, 0, 0)
set_option maxHeartbeats 8000000 in
set_option maxRecDepth 100000 in
theorem spec_NewCubic.calls  (r1 : Int) (r2 : Int) (r3 : Int) (r4 : Int) (r5 : Int) (r6 : Int) (r7 : Int) (w : World) (h : spec_NewCubic.f  = some (r1, r2, r3, r4, r5, r6, r7)) :
    Calls Try.prog 27 #[] w fun e w' => e = .returned (.agg #[.int .i64 r1, .int .i64 r2, .int .i64 r3, .int .i64 r4, .int .i64 r5, .int .i64 r6, .int .i64 r7]) ∧ Below w.heap.size w w' := by
  have hu26 := Try.underlying26
  have HB := Aside0.mk (Below.refl w.heap.size w)
  have H : (some (10, 100000, 0, 0, 0, 0, 0)) = some (r1, r2, r3, r4, r5, r6, r7) := h
  clear h
  simp only [Option.some.injEq, Prod.mk.injEq] at H
  obtain ⟨rfl, rfl, rfl, rfl, rfl, rfl, rfl⟩ := H
  go_enter Try.func27, Try.ntmps27
  go_wp2_with (first | ((with_reducible refine gate_dst (N := 0) rfl ?_); refine box_event ?hg (N := 0) ?hd (cs := #[.int .i64 0, .int .i64 0, .int .i64 0, .int .i64 0, .int .i64 0, .int .i64 0, .int .i64 0]) (t := 26) ?hr ?_; (case hd => rfl); (case hg => rfl); (case hr => first | (go_simp; done) | (go_simp; rfl)); intro gb104 hg w1 hbox hb; have n0_ := Aside0.mk (below_step (by repeat (first | (with_reducible first | exact HB.out | apply below_alloc | apply pw_below_drewN | apply below_drew1) | exact HB.out)) hb); have n1_ := Aside0.mk (hbox); have n2_ := Aside0.mk ((by rw [hg]; exact (below_size (by repeat (first | (with_reducible first | exact HB.out | apply below_alloc | apply pw_below_drewN | apply below_drew1) | exact HB.out))) : w.heap.size ≤ gb104)); have n3_ := Aside0.mk ((by rw [hg]; exact (below_size (by repeat (first | (with_reducible first | exact HB.out | apply below_alloc | apply pw_below_drewN | apply below_drew1) | exact HB.out))) : w.heap.size ≤ gb104)); clear HB; have HB := n0_; have BK104 := n1_; have GW104 := n2_; have GE104 := n3_; clear n0_ n1_ n2_ n3_; clear hb hbox hg; have hcz2_0 : w1.cell? ⟨gb104, 0, none⟩ = some (.int .i64 0) := (blk_cell BK104.out 0).trans rfl; have hcz2_1 : w1.cell? ⟨gb104, 1, none⟩ = some (.int .i64 0) := (blk_cell BK104.out 1).trans rfl; have hcz2_2 : w1.cell? ⟨gb104, 2, none⟩ = some (.int .i64 0) := (blk_cell BK104.out 2).trans rfl; have hcz2_3 : w1.cell? ⟨gb104, 3, none⟩ = some (.int .i64 0) := (blk_cell BK104.out 3).trans rfl; have hcz2_4 : w1.cell? ⟨gb104, 4, none⟩ = some (.int .i64 0) := (blk_cell BK104.out 4).trans rfl; have hcz2_5 : w1.cell? ⟨gb104, 5, none⟩ = some (.int .i64 0) := (blk_cell BK104.out 5).trans rfl; have hcz2_6 : w1.cell? ⟨gb104, 6, none⟩ = some (.int .i64 0) := (blk_cell BK104.out 6).trans rfl; have hfz2_0 := blk_frozen BK104.out 0; have hfz2_1 := blk_frozen BK104.out 1; have hfz2_2 := blk_frozen BK104.out 2; have hfz2_3 := blk_frozen BK104.out 3; have hfz2_4 := blk_frozen BK104.out 4; have hfz2_5 := blk_frozen BK104.out 5; have hfz2_6 := blk_frozen BK104.out 6))
  refine bodyPost_ret (results_cell_row rfl _ _ gb104 26 #[.int .i64 10, .int .i64 100000, .int .i64 0, .int .i64 0, .int .i64 0, .int .i64 0, .int .i64 0] (0, 0) _ rfl (by (with_reducible repeat (first | refine blk_drewN ?_ _ | refine blk_drew ?_ | refine blk_alloc ?_ _)); refine blk_put (cs := #[.int .i64 10, .int .i64 100000, .int .i64 0, .int .i64 0, .int .i64 0, .int .i64 0, .int .i64 0]) ?_ 6 _ rfl; (with_reducible repeat (first | refine blk_drewN ?_ _ | refine blk_drew ?_ | refine blk_alloc ?_ _)); refine blk_put (cs := #[.int .i64 10, .int .i64 100000, .int .i64 0, .int .i64 0, .int .i64 0, .int .i64 0, .int .i64 0]) ?_ 5 _ rfl; (with_reducible repeat (first | refine blk_drewN ?_ _ | refine blk_drew ?_ | refine blk_alloc ?_ _)); refine blk_put (cs := #[.int .i64 10, .int .i64 100000, .int .i64 0, .int .i64 0, .int .i64 0, .int .i64 0, .int .i64 0]) ?_ 4 _ rfl; (with_reducible repeat (first | refine blk_drewN ?_ _ | refine blk_drew ?_ | refine blk_alloc ?_ _)); refine blk_put (cs := #[.int .i64 10, .int .i64 100000, .int .i64 0, .int .i64 0, .int .i64 0, .int .i64 0, .int .i64 0]) ?_ 3 _ rfl; (with_reducible repeat (first | refine blk_drewN ?_ _ | refine blk_drew ?_ | refine blk_alloc ?_ _)); refine blk_put (cs := #[.int .i64 10, .int .i64 100000, .int .i64 0, .int .i64 0, .int .i64 0, .int .i64 0, .int .i64 0]) ?_ 2 _ rfl; (with_reducible repeat (first | refine blk_drewN ?_ _ | refine blk_drew ?_ | refine blk_alloc ?_ _)); refine blk_put (cs := #[.int .i64 10, .int .i64 0, .int .i64 0, .int .i64 0, .int .i64 0, .int .i64 0, .int .i64 0]) ?_ 1 _ rfl; (with_reducible repeat (first | refine blk_drewN ?_ _ | refine blk_drew ?_ | refine blk_alloc ?_ _)); refine blk_put (cs := #[.int .i64 0, .int .i64 0, .int .i64 0, .int .i64 0, .int .i64 0, .int .i64 0, .int .i64 0]) ?_ 0 _ rfl; (with_reducible repeat (first | refine blk_drewN ?_ _ | refine blk_drew ?_ | refine blk_alloc ?_ _)); exact BK104.out) Try.underlying26 rfl (by kernel_rfl)) rfl ?_
  exact ⟨by first | rfl | (simp [errW_none, errW_some] <;> rfl) | (simp [*, errW_none, errW_some] <;> rfl), by repeat (first | (with_reducible first | exact HB.out | apply below_alloc | apply pw_below_drewN | apply below_drew1 | refine below_set ?_ GE104.out) | exact HB.out)⟩

end Go.Proofs.Ytjfbeakmpmjadaa.PWin

namespace Go.Proofs.Ytjfbeakmpmjadaa.PWin
open Go.RowKit Go.Proofs.YtjfbeakmpmjadaaW.PrintWords Go.Proofs.YtjfbeakmpmjadaaW.PrintLast Go.Proofs.YtjfbeakmpmjadaaW.PrintMore
attribute [local go_sem] max2_int min2_int max_two min_two max_three min_three max_four min_four   -- for this text's walks alone
set_option linter.unusedVariables false
set_option linter.unusedSimpArgs false

/-! ### spec_CubicRun: function 12 -/
def spec_CubicRun.l0 : Nat → List (S30) → List Int → Int → Int → Int → Int → Int → Int → Int → Int → Option (Int × Int × Int × Int × Int × Int × Int × List Int × Int)
  | 0, _, _, _, _, _, _, _, _, _, _ => none
  | k + 1, x0, x6, x7, x120000, x120001, x120002, x120003, x120004, x120005, x120006 => if x7 < (x0.length : Int) then (if 0 ≤ x7 then ((spec_l16Step.f k x120000 x120001 x120002 x120003 x120004 x120005 x120006 ((rd_T30 x0 x7).f0) ((rd_T30 x0 x7).f1)).bind fun bt124 => (if x6.length < 17592186044416 then (spec_CubicRun.l0 k x0 (x6 ++ [bt124.1]) (wrap64 (x7 + 1)) bt124.1 bt124.2.1 bt124.2.2.1 bt124.2.2.2.1 bt124.2.2.2.2.1 bt124.2.2.2.2.2.1 bt124.2.2.2.2.2.2.1) else (none))) else (none)) else (some (x120000, x120001, x120002, x120003, x120004, x120005, x120006, x6, 0))
def spec_CubicRun.f (k : Nat) (l0 : List (S30)) : Option (Int × Int × Int × Int × Int × Int × Int × List Int × Int) := if (l0.length : Int) > 4096 then (some (0, 0, 0, 0, 0, 0, 0, (([] : List Int)), 2)) else (if (l0.length : Int) > 300 then (some (0, 0, 0, 0, 0, 0, 0, (([] : List Int)), 6)) else ((spec_NewCubic.f).bind fun bt112 => (spec_CubicRun.l0 k l0 (([] : List Int)) 0 bt112.1 bt112.2.1 bt112.2.2.1 bt112.2.2.2.1 bt112.2.2.2.2.1 bt112.2.2.2.2.2.1 bt112.2.2.2.2.2.2)))
theorem spec_CubicRun.mono_l : ∀ k, (∀ y0 y1 y2 y3 y4 y5 y6 y7 y8 y9, LeO (spec_CubicRun.l0 k y0 y1 y2 y3 y4 y5 y6 y7 y8 y9) (spec_CubicRun.l0 (k + 1) y0 y1 y2 y3 y4 y5 y6 y7 y8 y9))
  | 0 => fun _ _ _ _ _ _ _ _ _ _ r h => by simp [spec_CubicRun.l0] at h
  | k + 1 => by
    have ih0 := spec_CubicRun.mono_l k
    · intro y0 y1 y2 y3 y4 y5 y6 y7 y8 y9
      unfold spec_CubicRun.l0
      repeat' first
      | (with_reducible exact ih0 _ _ _ _ _ _ _ _ _ _)
      | (with_reducible exact spec_l16Step.mono _ _ _ _ _ _ _ _ _ _)
      | (with_reducible exact LeO.refl _)
      | (with_reducible exact LeO.none _)
      | (with_reducible refine LeO.ite ?_ ?_)
      | (with_reducible refine LeO.bind ?_ (fun _ => ?_))
      | exact ih0 _ _ _ _ _ _ _ _ _ _
      | exact spec_l16Step.mono _ _ _ _ _ _ _ _ _ _
      | exact LeO.none _
      | refine LeO.ite ?_ ?_
      | refine LeO.bind ?_ (fun _ => ?_)
theorem spec_CubicRun.mono : ∀ a0 k, LeO (spec_CubicRun.f k a0) (spec_CubicRun.f (k + 1) a0) := by
  intro a0 k
  have ih0 := spec_CubicRun.mono_l k
  unfold spec_CubicRun.f
  repeat' first
      | (with_reducible exact ih0 _ _ _ _ _ _ _ _ _ _)
      | (with_reducible exact spec_l16Step.mono _ _ _ _ _ _ _ _ _ _)
      | (with_reducible exact LeO.refl _)
      | (with_reducible exact LeO.none _)
      | (with_reducible refine LeO.ite ?_ ?_)
      | (with_reducible refine LeO.bind ?_ (fun _ => ?_))
      | exact ih0 _ _ _ _ _ _ _ _ _ _
      | exact spec_l16Step.mono _ _ _ _ _ _ _ _ _ _
      | exact LeO.none _
      | refine LeO.ite ?_ ?_
      | refine LeO.bind ?_ (fun _ => ?_)
def spec_CubicRun.T10 : Bool × List (List Nat × List Nat) := (true, [([], []), ([], []), ([], []), ([1, 2], [1, 2]), ([3], [3]), ([0, 4], [0, 4]), ([5], [5]), ([6], [6]), ([6], [6]), ([7, 5, 0, 1, 2, 3, 4, 5, 6, 7], [7])])
def spec_CubicRun.B10 : List Nat := [0, 0, 0, 6, 14, 31, 63, 127, 127, 255]
theorem spec_CubicRun.tab10 : rtab .any (opsOf Try.f12 10) = spec_CubicRun.T10 := by kernel_rfl
theorem spec_CubicRun.bits10 : waitsOk spec_CubicRun.T10.2 spec_CubicRun.B10 = true := by kernel_rfl
set_option maxHeartbeats 8000000 in
set_option maxRecDepth 100000 in
theorem spec_CubicRun.calls (k : Nat) (A0 : Option Addr) (c0 : Nat) (l0 : List (S30)) (r1 : Int) (r2 : Int) (r3 : Int) (r4 : Int) (r5 : Int) (r6 : Int) (r7 : Int) (r8 : List Int) (r9 : Int) (w : World) (hr0 : Kd.C k30 w A0 l0.length l0) (hc0 : l0.length ≤ c0) (h : spec_CubicRun.f k l0 = some (r1, r2, r3, r4, r5, r6, r7, r8, r9)) :
    Calls Try.prog 12 #[.slice A0 l0.length c0] w fun e w' => ∃ v7_ : Value, e = .returned (.tuple #[.agg #[.int .i64 r1, .int .i64 r2, .int .i64 r3, .int .i64 r4, .int .i64 r5, .int .i64 r6, .int .i64 r7], v7_, .int .i64 r9]) ∧ Kd.R (Kd.int .i64) 3 w' w.heap.size (fun _ => True) v7_ r8 ∧ Below w.heap.size w w' := by
  have hu26 := Try.underlying26
  have hu30 := Try.underlying30
  have HR0 := Aside0.mk hr0
  have HC0 := Aside0.mk hc0
  clear hr0 hc0
  have HB := Aside0.mk (Below.refl w.heap.size w)
  have H : (if (l0.length : Int) > 4096 then (some (0, 0, 0, 0, 0, 0, 0, (([] : List Int)), 2)) else (if (l0.length : Int) > 300 then (some (0, 0, 0, 0, 0, 0, 0, (([] : List Int)), 6)) else ((spec_NewCubic.f).bind fun bt112 => (spec_CubicRun.l0 k l0 (([] : List Int)) 0 bt112.1 bt112.2.1 bt112.2.2.1 bt112.2.2.2.1 bt112.2.2.2.2.1 bt112.2.2.2.2.2.1 bt112.2.2.2.2.2.2)))) = some (r1, r2, r3, r4, r5, r6, r7, r8, r9) := h
  clear h
  by_cases c2 : (l0.length : Int) > 4096
  · rw [if_pos c2] at H
    have c2b0 : decide (4096 < (l0.length : Int)) = true := decide_eq_true c2
    have c2b1 : decide (4096 < l0.length) = true := decide_eq_true (by omega)
    clear c2
    obtain ⟨y106, hy106⟩ : ∃ y_ : List Int, y_ = (([] : List Int)) := ⟨_, rfl⟩
    replace H : (some (0, 0, 0, 0, 0, 0, 0, y106, 2)) = some (r1, r2, r3, r4, r5, r6, r7, r8, r9) := by first | (rw [hy106]; with_reducible exact H) | (have H2_ := (Option.bind_some _ _).symm.trans H; rw [hy106]; with_reducible exact H2_) | (have H2_ := (Option.bind_some _ _).symm.trans H; with_reducible exact H2_) | with_reducible exact H | (rw [hy106]; exact H) | exact H
    have Ny106 := Aside0.mk hy106
    clear hy106
    simp only [Option.some.injEq, Prod.mk.injEq] at H
    obtain ⟨rfl, rfl, rfl, rfl, rfl, rfl, rfl, rfl, rfl⟩ := H
    go_enter Try.func12, Try.ntmps12
    go_wp2_with (first | ((with_reducible refine gate_dst (N := 2) rfl ?_); refine box_event ?hg (N := 2) ?hd (cs := #[.int .i64 0, .int .i64 0, .int .i64 0, .int .i64 0, .int .i64 0, .int .i64 0, .int .i64 0]) (t := 26) ?hr ?_; (case hd => rfl); (case hg => rfl); (case hr => first | (go_simp; done) | (go_simp; rfl)); intro gb105 hg w3 hbox hb; have n0_ := Aside0.mk (below_step (by repeat (first | (with_reducible first | exact HB.out | apply below_alloc | apply pw_below_drewN | apply below_drew1) | exact HB.out)) hb); have n1_ := Aside0.mk (hbox); have n2_ := Aside0.mk ((by rw [hg]; exact (below_size (by repeat (first | (with_reducible first | exact HB.out | apply below_alloc | apply pw_below_drewN | apply below_drew1) | exact HB.out))) : w.heap.size ≤ gb105)); have n3_ := Aside0.mk ((by rw [hg]; exact (below_size (by repeat (first | (with_reducible first | exact HB.out | apply below_alloc | apply pw_below_drewN | apply below_drew1) | exact HB.out))) : w.heap.size ≤ gb105)); clear HB; have HB := n0_; have BK105 := n1_; have GW105 := n2_; have GE105 := n3_; clear n0_ n1_ n2_ n3_; clear hb hbox hg) | ((with_reducible refine gate_dst (N := 12) rfl ?_); refine Kd.R_lit (Kd.int .i64) _ 3 ?hg (N := 12) ?hd (xs := ([] : List Int)) (inner := []) (ok := fun _ => True) (okp := fun _ => True) ?hr ?hp (fun _ hk => hk) trivial (Below.refl _ _) (Nat.le_refl _) (by simp) ?_; (case hd => rfl); (case hg => rfl); (case hr => first | (go_simp; done) | (go_simp; rfl)); (case hp => exact (Reps.none _ _)); intro v107 w4 ho5 hb hg_ hnew_; clear hg_ hnew_; (first | rw [← Ny106.out] at ho5 | (simp only [Int.reduceToNat] at ho5; rw [← Ny106.out] at ho5)); have n0_ := Aside0.mk (Kd.R_lower ho5 (below_size (by repeat (first | (with_reducible first | exact HB.out | apply below_alloc | apply pw_below_drewN | apply below_drew1 | refine below_set ?_ GE105.out) | exact HB.out)))); have n1_ := Aside0.mk (blk_below (g := gb105) (o := .cells #[.int .i64 0, .int .i64 0, .int .i64 0, .int .i64 0, .int .i64 0, .int .i64 0, .int .i64 0] 26 (0, 0)) (by (with_reducible repeat (first | refine blk_drewN ?_ _ | refine blk_drew ?_ | refine blk_alloc ?_ _)); exact BK105.out) hb); have n2_ := Aside0.mk (below_step (by repeat (first | (with_reducible first | exact HB.out | apply below_alloc | apply pw_below_drewN | apply below_drew1 | refine below_set ?_ GE105.out) | exact HB.out)) hb); clear BK105; clear HB; have HO108 := n0_; have BK105 := n1_; have HB := n2_; clear n0_ n1_ n2_; clear hb ho5; have hcz6_0 : w4.cell? ⟨gb105, 0, none⟩ = some (.int .i64 0) := (blk_cell BK105.out 0).trans rfl; have hcz6_1 : w4.cell? ⟨gb105, 1, none⟩ = some (.int .i64 0) := (blk_cell BK105.out 1).trans rfl; have hcz6_2 : w4.cell? ⟨gb105, 2, none⟩ = some (.int .i64 0) := (blk_cell BK105.out 2).trans rfl; have hcz6_3 : w4.cell? ⟨gb105, 3, none⟩ = some (.int .i64 0) := (blk_cell BK105.out 3).trans rfl; have hcz6_4 : w4.cell? ⟨gb105, 4, none⟩ = some (.int .i64 0) := (blk_cell BK105.out 4).trans rfl; have hcz6_5 : w4.cell? ⟨gb105, 5, none⟩ = some (.int .i64 0) := (blk_cell BK105.out 5).trans rfl; have hcz6_6 : w4.cell? ⟨gb105, 6, none⟩ = some (.int .i64 0) := (blk_cell BK105.out 6).trans rfl; have hfz6_0 := blk_frozen BK105.out 0; have hfz6_1 := blk_frozen BK105.out 1; have hfz6_2 := blk_frozen BK105.out 2; have hfz6_3 := blk_frozen BK105.out 3; have hfz6_4 := blk_frozen BK105.out 4; have hfz6_5 := blk_frozen BK105.out 5; have hfz6_6 := blk_frozen BK105.out 6))
    refine bodyPost_ret (results_ctt rfl _ _ gb105 26 #[.int .i64 0, .int .i64 0, .int .i64 0, .int .i64 0, .int .i64 0, .int .i64 0, .int .i64 0] (0, 0) _ rfl (by (with_reducible repeat (first | refine blk_drewN ?_ _ | refine blk_drew ?_ | refine blk_alloc ?_ _)); refine blk_put (cs := #[.int .i64 0, .int .i64 0, .int .i64 0, .int .i64 0, .int .i64 0, .int .i64 0, .int .i64 0]) ?_ 6 _ rfl; (with_reducible repeat (first | refine blk_drewN ?_ _ | refine blk_drew ?_ | refine blk_alloc ?_ _)); refine blk_put (cs := #[.int .i64 0, .int .i64 0, .int .i64 0, .int .i64 0, .int .i64 0, .int .i64 0, .int .i64 0]) ?_ 5 _ rfl; (with_reducible repeat (first | refine blk_drewN ?_ _ | refine blk_drew ?_ | refine blk_alloc ?_ _)); refine blk_put (cs := #[.int .i64 0, .int .i64 0, .int .i64 0, .int .i64 0, .int .i64 0, .int .i64 0, .int .i64 0]) ?_ 4 _ rfl; (with_reducible repeat (first | refine blk_drewN ?_ _ | refine blk_drew ?_ | refine blk_alloc ?_ _)); refine blk_put (cs := #[.int .i64 0, .int .i64 0, .int .i64 0, .int .i64 0, .int .i64 0, .int .i64 0, .int .i64 0]) ?_ 3 _ rfl; (with_reducible repeat (first | refine blk_drewN ?_ _ | refine blk_drew ?_ | refine blk_alloc ?_ _)); refine blk_put (cs := #[.int .i64 0, .int .i64 0, .int .i64 0, .int .i64 0, .int .i64 0, .int .i64 0, .int .i64 0]) ?_ 2 _ rfl; (with_reducible repeat (first | refine blk_drewN ?_ _ | refine blk_drew ?_ | refine blk_alloc ?_ _)); refine blk_put (cs := #[.int .i64 0, .int .i64 0, .int .i64 0, .int .i64 0, .int .i64 0, .int .i64 0, .int .i64 0]) ?_ 1 _ rfl; (with_reducible repeat (first | refine blk_drewN ?_ _ | refine blk_drew ?_ | refine blk_alloc ?_ _)); refine blk_put (cs := #[.int .i64 0, .int .i64 0, .int .i64 0, .int .i64 0, .int .i64 0, .int .i64 0, .int .i64 0]) ?_ 0 _ rfl; (with_reducible repeat (first | refine blk_drewN ?_ _ | refine blk_drew ?_ | refine blk_alloc ?_ _)); exact BK105.out) Try.underlying26 rfl (by kernel_rfl)) rfl ?_
    exact ⟨_, by first | rfl | (simp [errW_none, errW_some] <;> rfl) | (simp [*, errW_none, errW_some] <;> rfl), by (with_reducible repeat (first | apply Kd.R_alloc | apply Kd.R_drewN | apply Kd.R_drew)); exact Kd.R_mono (Kd.R_far (p := ⟨gb105, 6, none⟩) (Kd.R_far (p := ⟨gb105, 5, none⟩) (Kd.R_far (p := ⟨gb105, 4, none⟩) (Kd.R_far (p := ⟨gb105, 3, none⟩) (Kd.R_far (p := ⟨gb105, 2, none⟩) (Kd.R_far (p := ⟨gb105, 1, none⟩) (Kd.R_far (p := ⟨gb105, 0, none⟩) (Kd.R_types HO108.out BK105.out (by decide)) (fun _ hk => hk.2) (.int .i64 0)) (fun _ hk => hk.2) (.int .i64 0)) (fun _ hk => hk.2) (.int .i64 0)) (fun _ hk => hk.2) (.int .i64 0)) (fun _ hk => hk.2) (.int .i64 0)) (fun _ hk => hk.2) (.int .i64 0)) (fun _ hk => hk.2) (.int .i64 0)) (fun _ hk => trivial), by repeat (first | (with_reducible first | exact HB.out | apply below_alloc | apply pw_below_drewN | apply below_drew1 | refine below_set ?_ GE105.out) | exact HB.out)⟩
  · rw [if_neg c2] at H
    have c2b0 : decide (4096 < (l0.length : Int)) = false := decide_eq_false c2
    have c2b1 : decide (4096 < l0.length) = false := decide_eq_false (by omega)
    clear c2
    by_cases c7 : (l0.length : Int) > 300
    · rw [if_pos c7] at H
      have c7b0 : decide (300 < (l0.length : Int)) = true := decide_eq_true c7
      have c7b1 : decide (300 < l0.length) = true := decide_eq_true (by omega)
      clear c7
      obtain ⟨y109, hy109⟩ : ∃ y_ : List Int, y_ = (([] : List Int)) := ⟨_, rfl⟩
      replace H : (some (0, 0, 0, 0, 0, 0, 0, y109, 6)) = some (r1, r2, r3, r4, r5, r6, r7, r8, r9) := by first | (rw [hy109]; with_reducible exact H) | (have H2_ := (Option.bind_some _ _).symm.trans H; rw [hy109]; with_reducible exact H2_) | (have H2_ := (Option.bind_some _ _).symm.trans H; with_reducible exact H2_) | with_reducible exact H | (rw [hy109]; exact H) | exact H
      have Ny109 := Aside0.mk hy109
      clear hy109
      simp only [Option.some.injEq, Prod.mk.injEq] at H
      obtain ⟨rfl, rfl, rfl, rfl, rfl, rfl, rfl, rfl, rfl⟩ := H
      go_enter Try.func12, Try.ntmps12
      go_wp2_with (first | ((with_reducible refine gate_dst (N := 2) rfl ?_); refine box_event ?hg (N := 2) ?hd (cs := #[.int .i64 0, .int .i64 0, .int .i64 0, .int .i64 0, .int .i64 0, .int .i64 0, .int .i64 0]) (t := 26) ?hr ?_; (case hd => rfl); (case hg => rfl); (case hr => first | (go_simp; done) | (go_simp; rfl)); intro gb105 hg w8 hbox hb; have n0_ := Aside0.mk (below_step (by repeat (first | (with_reducible first | exact HB.out | apply below_alloc | apply pw_below_drewN | apply below_drew1) | exact HB.out)) hb); have n1_ := Aside0.mk (hbox); have n2_ := Aside0.mk ((by rw [hg]; exact (below_size (by repeat (first | (with_reducible first | exact HB.out | apply below_alloc | apply pw_below_drewN | apply below_drew1) | exact HB.out))) : w.heap.size ≤ gb105)); have n3_ := Aside0.mk ((by rw [hg]; exact (below_size (by repeat (first | (with_reducible first | exact HB.out | apply below_alloc | apply pw_below_drewN | apply below_drew1) | exact HB.out))) : w.heap.size ≤ gb105)); clear HB; have HB := n0_; have BK105 := n1_; have GW105 := n2_; have GE105 := n3_; clear n0_ n1_ n2_ n3_; clear hb hbox hg) | ((with_reducible refine gate_dst (N := 17) rfl ?_); refine Kd.R_lit (Kd.int .i64) _ 3 ?hg (N := 17) ?hd (xs := ([] : List Int)) (inner := []) (ok := fun _ => True) (okp := fun _ => True) ?hr ?hp (fun _ hk => hk) trivial (Below.refl _ _) (Nat.le_refl _) (by simp) ?_; (case hd => rfl); (case hg => rfl); (case hr => first | (go_simp; done) | (go_simp; rfl)); (case hp => exact (Reps.none _ _)); intro v110 w9 ho10 hb hg_ hnew_; clear hg_ hnew_; (first | rw [← Ny109.out] at ho10 | (simp only [Int.reduceToNat] at ho10; rw [← Ny109.out] at ho10)); have n0_ := Aside0.mk (Kd.R_lower ho10 (below_size (by repeat (first | (with_reducible first | exact HB.out | apply below_alloc | apply pw_below_drewN | apply below_drew1 | refine below_set ?_ GE105.out) | exact HB.out)))); have n1_ := Aside0.mk (blk_below (g := gb105) (o := .cells #[.int .i64 0, .int .i64 0, .int .i64 0, .int .i64 0, .int .i64 0, .int .i64 0, .int .i64 0] 26 (0, 0)) (by (with_reducible repeat (first | refine blk_drewN ?_ _ | refine blk_drew ?_ | refine blk_alloc ?_ _)); exact BK105.out) hb); have n2_ := Aside0.mk (below_step (by repeat (first | (with_reducible first | exact HB.out | apply below_alloc | apply pw_below_drewN | apply below_drew1 | refine below_set ?_ GE105.out) | exact HB.out)) hb); clear BK105; clear HB; have HO111 := n0_; have BK105 := n1_; have HB := n2_; clear n0_ n1_ n2_; clear hb ho10; have hcz11_0 : w9.cell? ⟨gb105, 0, none⟩ = some (.int .i64 0) := (blk_cell BK105.out 0).trans rfl; have hcz11_1 : w9.cell? ⟨gb105, 1, none⟩ = some (.int .i64 0) := (blk_cell BK105.out 1).trans rfl; have hcz11_2 : w9.cell? ⟨gb105, 2, none⟩ = some (.int .i64 0) := (blk_cell BK105.out 2).trans rfl; have hcz11_3 : w9.cell? ⟨gb105, 3, none⟩ = some (.int .i64 0) := (blk_cell BK105.out 3).trans rfl; have hcz11_4 : w9.cell? ⟨gb105, 4, none⟩ = some (.int .i64 0) := (blk_cell BK105.out 4).trans rfl; have hcz11_5 : w9.cell? ⟨gb105, 5, none⟩ = some (.int .i64 0) := (blk_cell BK105.out 5).trans rfl; have hcz11_6 : w9.cell? ⟨gb105, 6, none⟩ = some (.int .i64 0) := (blk_cell BK105.out 6).trans rfl; have hfz11_0 := blk_frozen BK105.out 0; have hfz11_1 := blk_frozen BK105.out 1; have hfz11_2 := blk_frozen BK105.out 2; have hfz11_3 := blk_frozen BK105.out 3; have hfz11_4 := blk_frozen BK105.out 4; have hfz11_5 := blk_frozen BK105.out 5; have hfz11_6 := blk_frozen BK105.out 6))
      refine bodyPost_ret (results_ctt rfl _ _ gb105 26 #[.int .i64 0, .int .i64 0, .int .i64 0, .int .i64 0, .int .i64 0, .int .i64 0, .int .i64 0] (0, 0) _ rfl (by (with_reducible repeat (first | refine blk_drewN ?_ _ | refine blk_drew ?_ | refine blk_alloc ?_ _)); refine blk_put (cs := #[.int .i64 0, .int .i64 0, .int .i64 0, .int .i64 0, .int .i64 0, .int .i64 0, .int .i64 0]) ?_ 6 _ rfl; (with_reducible repeat (first | refine blk_drewN ?_ _ | refine blk_drew ?_ | refine blk_alloc ?_ _)); refine blk_put (cs := #[.int .i64 0, .int .i64 0, .int .i64 0, .int .i64 0, .int .i64 0, .int .i64 0, .int .i64 0]) ?_ 5 _ rfl; (with_reducible repeat (first | refine blk_drewN ?_ _ | refine blk_drew ?_ | refine blk_alloc ?_ _)); refine blk_put (cs := #[.int .i64 0, .int .i64 0, .int .i64 0, .int .i64 0, .int .i64 0, .int .i64 0, .int .i64 0]) ?_ 4 _ rfl; (with_reducible repeat (first | refine blk_drewN ?_ _ | refine blk_drew ?_ | refine blk_alloc ?_ _)); refine blk_put (cs := #[.int .i64 0, .int .i64 0, .int .i64 0, .int .i64 0, .int .i64 0, .int .i64 0, .int .i64 0]) ?_ 3 _ rfl; (with_reducible repeat (first | refine blk_drewN ?_ _ | refine blk_drew ?_ | refine blk_alloc ?_ _)); refine blk_put (cs := #[.int .i64 0, .int .i64 0, .int .i64 0, .int .i64 0, .int .i64 0, .int .i64 0, .int .i64 0]) ?_ 2 _ rfl; (with_reducible repeat (first | refine blk_drewN ?_ _ | refine blk_drew ?_ | refine blk_alloc ?_ _)); refine blk_put (cs := #[.int .i64 0, .int .i64 0, .int .i64 0, .int .i64 0, .int .i64 0, .int .i64 0, .int .i64 0]) ?_ 1 _ rfl; (with_reducible repeat (first | refine blk_drewN ?_ _ | refine blk_drew ?_ | refine blk_alloc ?_ _)); refine blk_put (cs := #[.int .i64 0, .int .i64 0, .int .i64 0, .int .i64 0, .int .i64 0, .int .i64 0, .int .i64 0]) ?_ 0 _ rfl; (with_reducible repeat (first | refine blk_drewN ?_ _ | refine blk_drew ?_ | refine blk_alloc ?_ _)); exact BK105.out) Try.underlying26 rfl (by kernel_rfl)) rfl ?_
      exact ⟨_, by first | rfl | (simp [errW_none, errW_some] <;> rfl) | (simp [*, errW_none, errW_some] <;> rfl), by (with_reducible repeat (first | apply Kd.R_alloc | apply Kd.R_drewN | apply Kd.R_drew)); exact Kd.R_mono (Kd.R_far (p := ⟨gb105, 6, none⟩) (Kd.R_far (p := ⟨gb105, 5, none⟩) (Kd.R_far (p := ⟨gb105, 4, none⟩) (Kd.R_far (p := ⟨gb105, 3, none⟩) (Kd.R_far (p := ⟨gb105, 2, none⟩) (Kd.R_far (p := ⟨gb105, 1, none⟩) (Kd.R_far (p := ⟨gb105, 0, none⟩) (Kd.R_types HO111.out BK105.out (by decide)) (fun _ hk => hk.2) (.int .i64 0)) (fun _ hk => hk.2) (.int .i64 0)) (fun _ hk => hk.2) (.int .i64 0)) (fun _ hk => hk.2) (.int .i64 0)) (fun _ hk => hk.2) (.int .i64 0)) (fun _ hk => hk.2) (.int .i64 0)) (fun _ hk => hk.2) (.int .i64 0)) (fun _ hk => trivial), by repeat (first | (with_reducible first | exact HB.out | apply below_alloc | apply pw_below_drewN | apply below_drew1 | refine below_set ?_ GE105.out) | exact HB.out)⟩
    · rw [if_neg c7] at H
      have c7b0 : decide (300 < (l0.length : Int)) = false := decide_eq_false c7
      have c7b1 : decide (300 < l0.length) = false := decide_eq_false (by omega)
      clear c7
      replace H := Option.bind_eq_some_iff.mp H
      obtain ⟨⟨t112, t113, t114, t115, t116, t117, t118⟩, A120, H⟩ := H
      replace H : (spec_CubicRun.l0 k l0 (([] : List Int)) 0 t112 t113 t114 t115 t116 t117 t118) = some (r1, r2, r3, r4, r5, r6, r7, r8, r9) := H
      have A12 := Aside0.mk A120
      clear A120
      obtain ⟨y120, hy120⟩ : ∃ y_ : List Int, y_ = (([] : List Int)) := ⟨_, rfl⟩
      replace H : (spec_CubicRun.l0 k l0 y120 0 t112 t113 t114 t115 t116 t117 t118) = some (r1, r2, r3, r4, r5, r6, r7, r8, r9) := by first | (rw [hy120]; with_reducible exact H) | (have H2_ := (Option.bind_some _ _).symm.trans H; rw [hy120]; with_reducible exact H2_) | (have H2_ := (Option.bind_some _ _).symm.trans H; with_reducible exact H2_) | with_reducible exact H | (rw [hy120]; exact H) | exact H
      have Ny120 := Aside0.mk hy120
      clear hy120
      have H' := Aside0.mk H
      clear H
      go_enter Try.func12, Try.ntmps12
      go_wp2_with (first | ((with_reducible refine gate_dst (N := 2) rfl ?_); refine box_event ?hg (N := 2) ?hd (cs := #[.int .i64 0, .int .i64 0, .int .i64 0, .int .i64 0, .int .i64 0, .int .i64 0, .int .i64 0]) (t := 26) ?hr ?_; (case hd => rfl); (case hg => rfl); (case hr => first | (go_simp; done) | (go_simp; rfl)); intro gb105 hg w13 hbox hb; have n0_ := Aside0.mk (below_step (by repeat (first | (with_reducible first | exact HB.out | apply below_alloc | apply pw_below_drewN | apply below_drew1) | exact HB.out)) hb); have n1_ := Aside0.mk (hbox); have n2_ := Aside0.mk ((by rw [hg]; exact (below_size (by repeat (first | (with_reducible first | exact HB.out | apply below_alloc | apply pw_below_drewN | apply below_drew1) | exact HB.out))) : w.heap.size ≤ gb105)); have n3_ := Aside0.mk ((by rw [hg]; exact (below_size (by repeat (first | (with_reducible first | exact HB.out | apply below_alloc | apply pw_below_drewN | apply below_drew1) | exact HB.out))) : w.heap.size ≤ gb105)); clear HB; have HB := n0_; have BK105 := n1_; have GW105 := n2_; have GE105 := n3_; clear n0_ n1_ n2_ n3_; clear hb hbox hg) | ((with_reducible refine gate_callee (f := 27) rfl ?_); refine goesL_ (some 18) rfl rfl Try.func27 (by kernel_rfl) rfl #[] rfl (by (try simp only [List.map_toArray, List.map_cons, List.map_nil]); first | done | rfl | (simp only [List.length_drop, List.length_take]; rfl)) ?_; (with_reducible refine (spec_NewCubic.calls  t112 t113 t114 t115 t116 t117 t118 _ A12.out).mono ?_); rintro e w14 ⟨rfl, hb⟩; refine ⟨_, rfl, ?_⟩; have n0_ := Aside0.mk (blk_below (g := gb105) (o := .cells #[.int .i64 0, .int .i64 0, .int .i64 0, .int .i64 0, .int .i64 0, .int .i64 0, .int .i64 0] 26 (0, 0)) (by (with_reducible repeat (first | refine blk_drewN ?_ _ | refine blk_drew ?_ | refine blk_alloc ?_ _)); exact BK105.out) hb); have n1_ := Aside0.mk (below_step (by repeat (first | (with_reducible first | exact HB.out | apply below_alloc | apply pw_below_drewN | apply below_drew1 | refine below_set ?_ GE105.out) | exact HB.out)) hb); clear BK105; clear HB; have BK105 := n0_; have HB := n1_; clear n0_ n1_; (try clear hb); (try clear hb2); (try clear hk); (try clear hi)) | ((with_reducible refine gate_dst (N := 5) rfl ?_); refine box_event ?hg (N := 5) ?hd (cs := #[.int .i64 0, .int .i64 0, .int .i64 0, .int .i64 0, .int .i64 0, .int .i64 0, .int .i64 0]) (t := 26) ?hr ?_; (case hd => rfl); (case hg => rfl); (case hr => first | (go_simp; done) | (go_simp; rfl)); intro gb119 hg w15 hbox hb; have n0_ := Aside0.mk (blk_below (g := gb105) (o := .cells #[.int .i64 0, .int .i64 0, .int .i64 0, .int .i64 0, .int .i64 0, .int .i64 0, .int .i64 0] 26 (0, 0)) (by (with_reducible repeat (first | refine blk_drewN ?_ _ | refine blk_drew ?_ | refine blk_alloc ?_ _)); exact BK105.out) hb); have n1_ := Aside0.mk (below_step (by repeat (first | (with_reducible first | exact HB.out | apply below_alloc | apply pw_below_drewN | apply below_drew1 | refine below_set ?_ GE105.out) | exact HB.out)) hb); have n2_ := Aside0.mk (hbox); have n3_ := Aside0.mk ((by rw [hg]; exact (below_size (by repeat (first | (with_reducible first | exact HB.out | apply below_alloc | apply pw_below_drewN | apply below_drew1 | refine below_set ?_ GE105.out) | exact HB.out))) : w.heap.size ≤ gb119)); have n4_ := Aside0.mk ((by rw [hg]; exact (below_size (by repeat (first | (with_reducible first | exact HB.out | apply below_alloc | apply pw_below_drewN | apply below_drew1 | refine below_set ?_ GE105.out) | exact HB.out))) : w.heap.size ≤ gb119)); have n5_ := Aside0.mk ((by rw [hg]; exact Nat.ne_of_lt (blk_lt (g := gb105) (o := .cells #[.int .i64 0, .int .i64 0, .int .i64 0, .int .i64 0, .int .i64 0, .int .i64 0, .int .i64 0] 26 (0, 0)) (by (with_reducible repeat (first | refine blk_drewN ?_ _ | refine blk_drew ?_ | refine blk_alloc ?_ _)); exact BK105.out)) : gb105 ≠ gb119)); have n6_ := Aside0.mk ((by rw [hg]; exact Nat.ne_of_gt (blk_lt (g := gb105) (o := .cells #[.int .i64 0, .int .i64 0, .int .i64 0, .int .i64 0, .int .i64 0, .int .i64 0, .int .i64 0] 26 (0, 0)) (by (with_reducible repeat (first | refine blk_drewN ?_ _ | refine blk_drew ?_ | refine blk_alloc ?_ _)); exact BK105.out)) : gb119 ≠ gb105)); clear BK105; clear HB; have BK105 := n0_; have HB := n1_; have BK119 := n2_; have GW119 := n3_; have GE119 := n4_; have NB105_119 := n5_; have NB119_105 := n6_; clear n0_ n1_ n2_ n3_ n4_ n5_ n6_; clear hb hbox hg; have hnb16 := NB119_105.out; have hnc16 := NB105_119.out; have hcz17_0 : w15.cell? ⟨gb119, 0, none⟩ = some (.int .i64 0) := (blk_cell BK119.out 0).trans rfl; have hcz17_1 : w15.cell? ⟨gb119, 1, none⟩ = some (.int .i64 0) := (blk_cell BK119.out 1).trans rfl; have hcz17_2 : w15.cell? ⟨gb119, 2, none⟩ = some (.int .i64 0) := (blk_cell BK119.out 2).trans rfl; have hcz17_3 : w15.cell? ⟨gb119, 3, none⟩ = some (.int .i64 0) := (blk_cell BK119.out 3).trans rfl; have hcz17_4 : w15.cell? ⟨gb119, 4, none⟩ = some (.int .i64 0) := (blk_cell BK119.out 4).trans rfl; have hcz17_5 : w15.cell? ⟨gb119, 5, none⟩ = some (.int .i64 0) := (blk_cell BK119.out 5).trans rfl; have hcz17_6 : w15.cell? ⟨gb119, 6, none⟩ = some (.int .i64 0) := (blk_cell BK119.out 6).trans rfl; have hfz17_0 := blk_frozen BK119.out 0; have hfz17_1 := blk_frozen BK119.out 1; have hfz17_2 := blk_frozen BK119.out 2; have hfz17_3 := blk_frozen BK119.out 3; have hfz17_4 := blk_frozen BK119.out 4; have hfz17_5 := blk_frozen BK119.out 5; have hfz17_6 := blk_frozen BK119.out 6) | ((with_reducible refine gate_dst (N := 19) rfl ?_); refine Kd.R_lit (Kd.int .i64) _ 3 ?hg (N := 19) ?hd (xs := ([] : List Int)) (inner := []) (ok := fun _ => True) (okp := fun _ => True) ?hr ?hp (fun _ hk => hk) trivial (Below.refl _ _) (Nat.le_refl _) (by simp) ?_; (case hd => rfl); (case hg => rfl); (case hr => first | (go_simp; done) | (go_simp; rfl)); (case hp => exact (Reps.none _ _)); intro v121 w18 ho19 hb hg_ hnew_; clear hg_ hnew_; (first | rw [← Ny120.out] at ho19 | (simp only [Int.reduceToNat] at ho19; rw [← Ny120.out] at ho19)); have n0_ := Aside0.mk (Kd.R_lower ho19 (below_size (by repeat (first | (with_reducible first | exact HB.out | apply below_alloc | apply pw_below_drewN | apply below_drew1 | refine below_set ?_ GE105.out | refine below_set ?_ GE119.out) | exact HB.out)))); have n1_ := Aside0.mk (blk_below (g := gb105) (o := .cells #[.int .i64 0, .int .i64 0, .int .i64 0, .int .i64 0, .int .i64 0, .int .i64 0, .int .i64 0] 26 (0, 0)) (by (with_reducible repeat (first | refine blk_drewN ?_ _ | refine blk_drew ?_ | refine blk_alloc ?_ _)); refine blk_far ?_ NB105_119.out _; (with_reducible repeat (first | refine blk_drewN ?_ _ | refine blk_drew ?_ | refine blk_alloc ?_ _)); refine blk_far ?_ NB105_119.out _; (with_reducible repeat (first | refine blk_drewN ?_ _ | refine blk_drew ?_ | refine blk_alloc ?_ _)); refine blk_far ?_ NB105_119.out _; (with_reducible repeat (first | refine blk_drewN ?_ _ | refine blk_drew ?_ | refine blk_alloc ?_ _)); refine blk_far ?_ NB105_119.out _; (with_reducible repeat (first | refine blk_drewN ?_ _ | refine blk_drew ?_ | refine blk_alloc ?_ _)); refine blk_far ?_ NB105_119.out _; (with_reducible repeat (first | refine blk_drewN ?_ _ | refine blk_drew ?_ | refine blk_alloc ?_ _)); refine blk_far ?_ NB105_119.out _; (with_reducible repeat (first | refine blk_drewN ?_ _ | refine blk_drew ?_ | refine blk_alloc ?_ _)); refine blk_far ?_ NB105_119.out _; (with_reducible repeat (first | refine blk_drewN ?_ _ | refine blk_drew ?_ | refine blk_alloc ?_ _)); exact BK105.out) hb); have n2_ := Aside0.mk (blk_below (g := gb119) (o := .cells #[.int .i64 t112, .int .i64 t113, .int .i64 t114, .int .i64 t115, .int .i64 t116, .int .i64 t117, .int .i64 t118] 26 (0, 0)) (by (with_reducible repeat (first | refine blk_drewN ?_ _ | refine blk_drew ?_ | refine blk_alloc ?_ _)); refine blk_put (cs := #[.int .i64 t112, .int .i64 t113, .int .i64 t114, .int .i64 t115, .int .i64 t116, .int .i64 t117, .int .i64 0]) ?_ 6 _ rfl; (with_reducible repeat (first | refine blk_drewN ?_ _ | refine blk_drew ?_ | refine blk_alloc ?_ _)); refine blk_put (cs := #[.int .i64 t112, .int .i64 t113, .int .i64 t114, .int .i64 t115, .int .i64 t116, .int .i64 0, .int .i64 0]) ?_ 5 _ rfl; (with_reducible repeat (first | refine blk_drewN ?_ _ | refine blk_drew ?_ | refine blk_alloc ?_ _)); refine blk_put (cs := #[.int .i64 t112, .int .i64 t113, .int .i64 t114, .int .i64 t115, .int .i64 0, .int .i64 0, .int .i64 0]) ?_ 4 _ rfl; (with_reducible repeat (first | refine blk_drewN ?_ _ | refine blk_drew ?_ | refine blk_alloc ?_ _)); refine blk_put (cs := #[.int .i64 t112, .int .i64 t113, .int .i64 t114, .int .i64 0, .int .i64 0, .int .i64 0, .int .i64 0]) ?_ 3 _ rfl; (with_reducible repeat (first | refine blk_drewN ?_ _ | refine blk_drew ?_ | refine blk_alloc ?_ _)); refine blk_put (cs := #[.int .i64 t112, .int .i64 t113, .int .i64 0, .int .i64 0, .int .i64 0, .int .i64 0, .int .i64 0]) ?_ 2 _ rfl; (with_reducible repeat (first | refine blk_drewN ?_ _ | refine blk_drew ?_ | refine blk_alloc ?_ _)); refine blk_put (cs := #[.int .i64 t112, .int .i64 0, .int .i64 0, .int .i64 0, .int .i64 0, .int .i64 0, .int .i64 0]) ?_ 1 _ rfl; (with_reducible repeat (first | refine blk_drewN ?_ _ | refine blk_drew ?_ | refine blk_alloc ?_ _)); refine blk_put (cs := #[.int .i64 0, .int .i64 0, .int .i64 0, .int .i64 0, .int .i64 0, .int .i64 0, .int .i64 0]) ?_ 0 _ rfl; (with_reducible repeat (first | refine blk_drewN ?_ _ | refine blk_drew ?_ | refine blk_alloc ?_ _)); exact BK119.out) hb); have n3_ := Aside0.mk (below_step (by repeat (first | (with_reducible first | exact HB.out | apply below_alloc | apply pw_below_drewN | apply below_drew1 | refine below_set ?_ GE105.out | refine below_set ?_ GE119.out) | exact HB.out)) hb); clear BK105; clear BK119; clear HB; have HO122 := n0_; have BK105 := n1_; have BK119 := n2_; have HB := n3_; clear n0_ n1_ n2_ n3_; clear hb ho19))
      go_loopg [6, 7] k (fun kq v6 v7 w' => ∃ (x6_1 : List Int) (x7_1 : Int) (x120000_1 : Int) (x120001_1 : Int) (x120002_1 : Int) (x120003_1 : Int) (x120004_1 : Int) (x120005_1 : Int) (x120006_1 : Int), v7 = .int .i64 x7_1 ∧ Aside0 (spec_CubicRun.l0 kq l0 x6_1 x7_1 x120000_1 x120001_1 x120002_1 x120003_1 x120004_1 x120005_1 x120006_1 = some (r1, r2, r3, r4, r5, r6, r7, r8, r9)) ∧ Aside0 (kq ≤ k) ∧ Aside0 (Kd.R (Kd.int .i64) 3 w' w.heap.size (fun _ => True) v6 x6_1) ∧ Aside0 (w'.heap[gb105]? = some (.cells #[.int .i64 0, .int .i64 0, .int .i64 0, .int .i64 0, .int .i64 0, .int .i64 0, .int .i64 0] 26 (0, 0))) ∧ Aside0 (w'.heap[gb119]? = some (.cells #[.int .i64 x120000_1, .int .i64 x120001_1, .int .i64 x120002_1, .int .i64 x120003_1, .int .i64 x120004_1, .int .i64 x120005_1, .int .i64 x120006_1] 26 (0, 0))) ∧ Aside0 (Below w.heap.size w w'))
      case atStart => exact ⟨(y120), (0), (t112), (t113), (t114), (t115), (t116), (t117), (t118), (by first | rfl | (simp; done) | (simp [*]; done)), H', ⟨Nat.le_refl _⟩, ⟨by (with_reducible repeat (first | apply Kd.R_alloc | apply Kd.R_drewN | apply Kd.R_drew)); exact HO122.out⟩, ⟨by (with_reducible repeat (first | refine blk_drewN ?_ _ | refine blk_drew ?_ | refine blk_alloc ?_ _)); exact BK105.out⟩, ⟨by (with_reducible repeat (first | refine blk_drewN ?_ _ | refine blk_drew ?_ | refine blk_alloc ?_ _)); exact BK119.out⟩, ⟨by repeat (first | (with_reducible first | exact HB.out | apply below_alloc | apply pw_below_drewN | apply below_drew1 | refine below_set ?_ GE105.out | refine below_set ?_ GE119.out) | exact HB.out)⟩⟩
      case round =>
        clear H'
        try clear c1
        try clear c2
        try clear c2b0
        try clear c2b1
        try clear p2
        try clear c7
        try clear c7b0
        try clear c7b1
        try clear c12
        try clear c16
        try clear hcz11_0
        try clear hcz11_1
        try clear hcz11_2
        try clear hcz11_3
        try clear hcz11_4
        try clear hcz11_5
        try clear hcz11_6
        try clear hcz17_0
        try clear hcz17_1
        try clear hcz17_2
        try clear hcz17_3
        try clear hcz17_4
        try clear hcz17_5
        try clear hcz17_6
        try clear hcz6_0
        try clear hcz6_1
        try clear hcz6_2
        try clear hcz6_3
        try clear hcz6_4
        try clear hcz6_5
        try clear hcz6_6
        try clear hfz11_0
        try clear hfz11_1
        try clear hfz11_2
        try clear hfz11_3
        try clear hfz11_4
        try clear hfz11_5
        try clear hfz11_6
        try clear hfz17_0
        try clear hfz17_1
        try clear hfz17_2
        try clear hfz17_3
        try clear hfz17_4
        try clear hfz17_5
        try clear hfz17_6
        try clear hfz6_0
        try clear hfz6_1
        try clear hfz6_2
        try clear hfz6_3
        try clear hfz6_4
        try clear hfz6_5
        try clear hfz6_6
        obtain ⟨x6_1, x7_1, x120000_1, x120001_1, x120002_1, x120003_1, x120004_1, x120005_1, x120006_1, rfl, HA, HK1, HO_6, BK105, BK119, HB⟩ := hrel
        cases gk with
        | zero => exact absurd HA.out (by simp [spec_CubicRun.l0])
        | succ k1 =>
          have H := HA.out
          clear HA
          simp only [spec_CubicRun.l0] at H
          by_cases c20 : x7_1 < (l0.length : Int)
          · rw [if_pos c20] at H
            have c20b0 : decide (x7_1 < (l0.length : Int)) = true := decide_eq_true c20
            clear c20
            by_cases c21 : 0 ≤ x7_1
            · rw [if_pos c21] at H
              have c21b0 : decide (0 ≤ x7_1) = true := decide_eq_true c21
              clear c21
              replace H := Option.bind_eq_some_iff.mp H
              obtain ⟨⟨t124, t125, t126, t127, t128, t129, t130, t131⟩, A220, H⟩ := H
              replace H : (if x6_1.length < 17592186044416 then (spec_CubicRun.l0 k1 l0 (x6_1 ++ [t124]) (wrap64 (x7_1 + 1)) t124 t125 t126 t127 t128 t129 t130) else (none)) = some (r1, r2, r3, r4, r5, r6, r7, r8, r9) := H
              have A22 := Aside0.mk A220
              clear A220
              by_cases c23 : x6_1.length < 17592186044416
              · rw [if_pos c23] at H
                have LMc23 := Aside0.mk c23
                clear c23
                obtain ⟨y132, hy132⟩ : ∃ y_ : List Int, y_ = (x6_1 ++ [t124]) := ⟨_, rfl⟩
                replace H : (spec_CubicRun.l0 k1 l0 y132 (wrap64 (x7_1 + 1)) t124 t125 t126 t127 t128 t129 t130) = some (r1, r2, r3, r4, r5, r6, r7, r8, r9) := by first | (rw [hy132]; with_reducible exact H) | (have H2_ := (Option.bind_some _ _).symm.trans H; rw [hy132]; with_reducible exact H2_) | (have H2_ := (Option.bind_some _ _).symm.trans H; with_reducible exact H2_) | with_reducible exact H | (rw [hy132]; exact H) | exact H
                have Ny132 := Aside0.mk hy132
                clear hy132
                have H' := Aside0.mk H
                clear H
                try go_wp2
                have n0_ := Aside0.mk (Kd.R_drew HO_6.out)
                have n1_ := Aside0.mk (blk_drew BK105.out)
                have n2_ := Aside0.mk (blk_drew BK119.out)
                have n3_ := Aside0.mk (below_drew1 HB.out)
                clear HO_6
                clear BK105
                clear BK119
                clear HB
                have HO_6 := n0_
                have BK105 := n1_
                have BK119 := n2_
                have HB := n3_
                clear n0_ n1_ n2_ n3_
                have p123 : 0 ≤ (x7_1 : Int) := of_decide_eq_true (by first | (with_reducible assumption) | assumption)
                have q123 : x7_1 < (l0.length : Int) := of_decide_eq_true (by first | (with_reducible assumption) | assumption)
                obtain ⟨ad123, e123, hx123_0, hx123_1⟩ := at_T30 HR0.out x7_1 p123 q123
                have hw123_1 := hx123_1
                have hw123_0 := hx123_0
                cases e123
                replace hx123_0 := (HB.out.cell (World.block_lt_of_cell? w _ hx123_0)).trans hx123_0
                replace hx123_1 := (HB.out.cell (World.block_lt_of_cell? w _ hx123_1)).trans hx123_1
                replace p123 := eq_true p123
                replace q123 := eq_true q123
                refine start_ (n := 10) (S := fun w' => w'.cell? ⟨gb119, 0, none⟩ = some (.int .i64 x120000_1) ∧ w'.cell? ⟨gb119, 1, none⟩ = some (.int .i64 x120001_1) ∧ w'.cell? ⟨gb119, 2, none⟩ = some (.int .i64 x120002_1) ∧ w'.cell? ⟨gb119, 3, none⟩ = some (.int .i64 x120003_1) ∧ w'.cell? ⟨gb119, 4, none⟩ = some (.int .i64 x120004_1) ∧ w'.cell? ⟨gb119, 5, none⟩ = some (.int .i64 x120005_1) ∧ w'.cell? ⟨gb119, 6, none⟩ = some (.int .i64 x120006_1) ∧ w'.cell? (ad123.add ((x7_1).toNat * 2)) = some (.int .i64 ((rd_T30 l0 x7_1).f0)) ∧ w'.cell? ⟨(ad123.add ((x7_1).toNat * 2)).block, (ad123.add ((x7_1).toNat * 2)).off + 1, none⟩ = some (.int .i64 ((rd_T30 l0 x7_1).f1))) (ds := [9]) #[false, false, false, false, false, false, false, false, false, false] (by kernel_rfl) rfl rfl ⟨(blk_cell BK119.out 0).trans rfl, (blk_cell BK119.out 1).trans rfl, (blk_cell BK119.out 2).trans rfl, (blk_cell BK119.out 3).trans rfl, (blk_cell BK119.out 4).trans rfl, (blk_cell BK119.out 5).trans rfl, (blk_cell BK119.out 6).trans rfl, ((HB.out.cell (World.block_lt_of_cell? w _ hw123_0)).trans hw123_0), ((HB.out.cell (World.block_lt_of_cell? w _ hw123_1)).trans hw123_1)⟩ (fun hHeld => ?_); refine with_tabW spec_CubicRun.tab10 spec_CubicRun.bits10 (fun HT_ HW_ => ?_)
                generalize wr.drew = w24 at HO_6 BK105 BK119 HB hx123_0 hx123_1 hHeld ⊢
                refine pure_ (i := 1) (N := some 28) (v := ?_) (a' := ?_) #[false, true, false, false, false, false, false, false, false, false] rfl rfl (any_of HT_.out (by kernel_rfl)) (fun _ _ _ h => h) (Or.inl ⟨by rfl, ?_⟩) ?_ ?_
                rotate_left
                · intro w'
                  go_simp
                  with_reducible rfl
                rotate_left
                · simp only [Act.put, List.setIfInBounds_toArray, List.set_cons_zero, List.set_cons_succ, i64_w, i32_w]
                  rfl
                refine pure_ (i := 2) (N := some 29) (v := ?_) (a' := ?_) #[false, true, true, false, false, false, false, false, false, false] rfl rfl (any_of HT_.out (by kernel_rfl)) (fun _ _ _ h => h) (Or.inl ⟨by rfl, ?_⟩) ?_ ?_
                rotate_left
                · intro w'
                  go_simp
                  with_reducible rfl
                rotate_left
                · simp only [Act.put, List.setIfInBounds_toArray, List.set_cons_zero, List.set_cons_succ, i64_w, i32_w]
                  rfl
                refine pure_ (i := 3) (N := some 30) (v := ?_) (a' := ?_) #[false, true, true, true, false, false, false, false, false, false] rfl rfl (any_of HT_.out (by kernel_rfl)) (fun _ _ _ h => h) (Or.inl ⟨by rfl, ?_⟩) ?_ ?_
                rotate_left
                · intro w'
                  go_simp
                  with_reducible rfl
                rotate_left
                · simp only [Act.put, List.setIfInBounds_toArray, List.set_cons_zero, List.set_cons_succ, i64_w, i32_w]
                  rfl
                refine take_ (i := 0) (N := some 27) (v := ?_) (a' := ?_) #[true, true, true, true, false, false, false, false, false, false] rfl rfl (take_ofW HT_.out HW_.out (by kernel_rfl)) (fun _ _ _ h => h) (Or.inl ⟨by rfl, ?_⟩) hHeld ?_ ?_
                rotate_left
                · rintro w' ⟨s0, s1, s2, s3, s4, s5, s6, s7, s8⟩
                  go_simp
                  with_reducible rfl
                rotate_left
                · simp only [Act.put, List.setIfInBounds_toArray, List.set_cons_zero, List.set_cons_succ, i64_w, i32_w]
                  rfl
                refine take_ (i := 4) (N := some 31) (v := ?_) (a' := ?_) #[true, true, true, true, true, false, false, false, false, false] rfl rfl (take_ofW HT_.out HW_.out (by kernel_rfl)) (fun _ _ _ h => h) (Or.inl ⟨by rfl, ?_⟩) hHeld ?_ ?_
                rotate_left
                · rintro w' ⟨s0, s1, s2, s3, s4, s5, s6, s7, s8⟩
                  go_simp
                  with_reducible rfl
                rotate_left
                · simp only [Act.put, List.setIfInBounds_toArray, List.set_cons_zero, List.set_cons_succ, i64_w, i32_w]
                  rfl
                refine one_ (i := 5) (N := some 32) #[true, true, true, true, true, true, false, false, false, false] rfl rfl (one_of HT_.out (by kernel_rfl)) (by decide) (fun K hK => ?_)
                refine goes_ Try.func25 (by kernel_rfl) rfl #[.agg #[.int .i64 x120000_1, .int .i64 x120001_1, .int .i64 x120002_1, .int .i64 x120003_1, .int .i64 x120004_1, .int .i64 x120005_1, .int .i64 x120006_1], .agg #[.int .i64 ((rd_T30 l0 x7_1).f0), .int .i64 ((rd_T30 l0 x7_1).f1)]] (by rfl) rfl rfl (by (try simp only [List.map_toArray, List.map_cons, List.map_nil]); first | done | rfl | (simp only [List.length_drop, List.length_take]; rfl)) ?_
                with_reducible refine (spec_l16Step.calls k1 x120000_1 x120001_1 x120002_1 x120003_1 x120004_1 x120005_1 x120006_1 ((rd_T30 l0 x7_1).f0) ((rd_T30 l0 x7_1).f1) t124 t125 t126 t127 t128 t129 t130 t131 _ A22.out).mono ?_
                rintro e w25 ⟨rfl, hb⟩
                refine ⟨_, rfl, ?_⟩
                have n0_ := Aside0.mk (Kd.R_below (by (with_reducible repeat (first | apply Kd.R_alloc | apply Kd.R_drewN | apply Kd.R_drew)); exact HO_6.out) hb)
                have n1_ := Aside0.mk (blk_below (g := gb105) (o := .cells #[.int .i64 0, .int .i64 0, .int .i64 0, .int .i64 0, .int .i64 0, .int .i64 0, .int .i64 0] 26 (0, 0)) (by (with_reducible repeat (first | refine blk_drewN ?_ _ | refine blk_drew ?_ | refine blk_alloc ?_ _)); exact BK105.out) hb)
                have n2_ := Aside0.mk (blk_below (g := gb119) (o := .cells #[.int .i64 x120000_1, .int .i64 x120001_1, .int .i64 x120002_1, .int .i64 x120003_1, .int .i64 x120004_1, .int .i64 x120005_1, .int .i64 x120006_1] 26 (0, 0)) (by (with_reducible repeat (first | refine blk_drewN ?_ _ | refine blk_drew ?_ | refine blk_alloc ?_ _)); exact BK119.out) hb)
                have n3_ := Aside0.mk (below_step (by repeat (first | (with_reducible first | exact HB.out | apply below_alloc | apply pw_below_drewN | apply below_drew1 | refine below_set ?_ GE105.out | refine below_set ?_ GE119.out) | exact HB.out)) hb)
                clear HO_6
                clear BK105
                clear BK119
                clear HB
                have HO_6 := n0_
                have BK105 := n1_
                have BK119 := n2_
                have HB := n3_
                clear n0_ n1_ n2_ n3_
                (try clear hb)
                (try clear hb2)
                (try clear hk)
                (try clear hi)
                refine hK.out _ _ ⟨(blk_cell BK119.out 0).trans rfl, (blk_cell BK119.out 1).trans rfl, (blk_cell BK119.out 2).trans rfl, (blk_cell BK119.out 3).trans rfl, (blk_cell BK119.out 4).trans rfl, (blk_cell BK119.out 5).trans rfl, (blk_cell BK119.out 6).trans rfl, ((HB.out.cell (World.block_lt_of_cell? w _ hw123_0)).trans hw123_0), ((HB.out.cell (World.block_lt_of_cell? w _ hw123_1)).trans hw123_1)⟩ (fun hHeld => ?_)
                clear hK K
                refine norm_ (a' := ?_) ?_ ?_
                rotate_left
                · show Act.put _ (some 32) _ = _
                  simp only [Act.put, List.setIfInBounds_toArray, List.set_cons_zero, List.set_cons_succ, i64_w, i32_w]
                  rfl
                refine pure_ (i := 6) (N := some 26) (v := ?_) (a' := ?_) #[true, true, true, true, true, true, true, false, false, false] rfl rfl (any_of HT_.out (by kernel_rfl)) (fun _ _ _ h => h) (Or.inl ⟨by rfl, ?_⟩) ?_ ?_
                rotate_left
                · intro w'
                  go_simp
                  with_reducible rfl
                rotate_left
                · simp only [Act.put, List.setIfInBounds_toArray, List.set_cons_zero, List.set_cons_succ, i64_w, i32_w]
                  rfl
                refine pure_ (i := 7) (N := some 33) (v := ?_) (a' := ?_) #[true, true, true, true, true, true, true, true, false, false] rfl rfl (any_of HT_.out (by kernel_rfl)) (fun _ _ _ h => h) (Or.inl ⟨by rfl, ?_⟩) ?_ ?_
                rotate_left
                · intro w'
                  go_simp
                  with_reducible rfl
                rotate_left
                · simp only [Act.put, List.setIfInBounds_toArray, List.set_cons_zero, List.set_cons_succ, i64_w, i32_w]
                  rfl
                refine pure_ (i := 8) (N := some 34) (v := ?_) (a' := ?_) #[true, true, true, true, true, true, true, true, true, false] rfl rfl (any_of HT_.out (by kernel_rfl)) (fun _ _ _ h => h) (Or.inl ⟨by rfl, ?_⟩) ?_ ?_
                rotate_left
                · intro w'
                  go_simp
                  with_reducible rfl
                rotate_left
                · simp only [Act.put, List.setIfInBounds_toArray, List.set_cons_zero, List.set_cons_succ, i64_w, i32_w]
                  rfl
                refine last_ (i := 9) (N := none) #[true, true, true, true, true, true, true, true, true, true] rfl rfl (one_of HT_.out (by kernel_rfl)) (by decide) (fun K hK => ?_)
                have hs26 : w25.cell? ⟨gb119, 0, none⟩ = some (.int .i64 x120000_1) := (blk_cell BK119.out 0).trans rfl
                have hfs26 := blk_frozen BK119.out 0
                have hns26_0 := NB105_119.out
                have hms26_0 := NB119_105.out
                have hs27 : w25.cell? ⟨gb119, 1, none⟩ = some (.int .i64 x120001_1) := (blk_cell BK119.out 1).trans rfl
                have hfs27 := blk_frozen BK119.out 1
                have hns27_0 := NB105_119.out
                have hms27_0 := NB119_105.out
                have hs28 : w25.cell? ⟨gb119, 2, none⟩ = some (.int .i64 x120002_1) := (blk_cell BK119.out 2).trans rfl
                have hfs28 := blk_frozen BK119.out 2
                have hns28_0 := NB105_119.out
                have hms28_0 := NB119_105.out
                have hs29 : w25.cell? ⟨gb119, 3, none⟩ = some (.int .i64 x120003_1) := (blk_cell BK119.out 3).trans rfl
                have hfs29 := blk_frozen BK119.out 3
                have hns29_0 := NB105_119.out
                have hms29_0 := NB119_105.out
                have hs30 : w25.cell? ⟨gb119, 4, none⟩ = some (.int .i64 x120004_1) := (blk_cell BK119.out 4).trans rfl
                have hfs30 := blk_frozen BK119.out 4
                have hns30_0 := NB105_119.out
                have hms30_0 := NB119_105.out
                have hs31 : w25.cell? ⟨gb119, 5, none⟩ = some (.int .i64 x120005_1) := (blk_cell BK119.out 5).trans rfl
                have hfs31 := blk_frozen BK119.out 5
                have hns31_0 := NB105_119.out
                have hms31_0 := NB119_105.out
                have hs32 : w25.cell? ⟨gb119, 6, none⟩ = some (.int .i64 x120006_1) := (blk_cell BK119.out 6).trans rfl
                have hfs32 := blk_frozen BK119.out 6
                have hns32_0 := NB105_119.out
                have hms32_0 := NB119_105.out
                refine skip_ (w1 := ?_) (by rfl) rfl ?_ ?_
                rotate_left
                · go_simp
                  rfl
                refine hK.out _ _ ?_
                clear hK K
                refine done_ (done_of HT_.out (by kernel_rfl)) ?_
                have hnb33 := NB119_105.out
                have hnc33 := NB105_119.out
                have hcz34_0 : w25.cell? ⟨gb119, 0, none⟩ = some (.int .i64 x120000_1) := (blk_cell BK119.out 0).trans rfl
                have hcz34_1 : w25.cell? ⟨gb119, 1, none⟩ = some (.int .i64 x120001_1) := (blk_cell BK119.out 1).trans rfl
                have hcz34_2 : w25.cell? ⟨gb119, 2, none⟩ = some (.int .i64 x120002_1) := (blk_cell BK119.out 2).trans rfl
                have hcz34_3 : w25.cell? ⟨gb119, 3, none⟩ = some (.int .i64 x120003_1) := (blk_cell BK119.out 3).trans rfl
                have hcz34_4 : w25.cell? ⟨gb119, 4, none⟩ = some (.int .i64 x120004_1) := (blk_cell BK119.out 4).trans rfl
                have hcz34_5 : w25.cell? ⟨gb119, 5, none⟩ = some (.int .i64 x120005_1) := (blk_cell BK119.out 5).trans rfl
                have hcz34_6 : w25.cell? ⟨gb119, 6, none⟩ = some (.int .i64 x120006_1) := (blk_cell BK119.out 6).trans rfl
                have hfz34_0 := blk_frozen BK119.out 0
                have hfz34_1 := blk_frozen BK119.out 1
                have hfz34_2 := blk_frozen BK119.out 2
                have hfz34_3 := blk_frozen BK119.out 3
                have hfz34_4 := blk_frozen BK119.out 4
                have hfz34_5 := blk_frozen BK119.out 5
                have hfz34_6 := blk_frozen BK119.out 6
                try go_wp2_with (first | ((with_reducible refine gate_builtin (b := .append) (xs := #[.tmp 35, .tmp 38]) rfl ?_); at_builtin; refine Kd.R_append (Kd.int .i64) (w0 := w) w.heap.size rfl (.tmp 35) (.tmp 38) 36 3 (.int .i64 0) 8 rfl Try.underlying36 info3 rfl (by decide) (by omega) u6 x6_1 t124 [.int .i64 t124] (fun _ => True) (fun _ => False) rfl (by first | (go_simp; done) | (go_simp; rfl)) ?aP (fun _ hk => hk.elim) ?aF ?aO ?aB ?aS ?aL ?_; (case aP => exact rfl); (case aB => exact (by repeat (first | (with_reducible first | exact HB.out | apply below_alloc | apply pw_below_drewN | apply below_drew1 | refine below_set ?_ GE105.out | refine below_set ?_ GE119.out) | exact HB.out))); (case aF => exact (fun _ _ => trivial)); (case aO => exact (by (with_reducible repeat (first | apply Kd.R_alloc | apply Kd.R_drewN | apply Kd.R_drew)); exact Kd.R_mono (Kd.R_far (p := ⟨gb119, 6, none⟩) (Kd.R_far (p := ⟨gb119, 5, none⟩) (Kd.R_far (p := ⟨gb119, 4, none⟩) (Kd.R_far (p := ⟨gb119, 3, none⟩) (Kd.R_far (p := ⟨gb119, 2, none⟩) (Kd.R_far (p := ⟨gb119, 1, none⟩) (Kd.R_far (p := ⟨gb119, 0, none⟩) (Kd.R_types HO_6.out BK119.out (by decide)) (fun _ hk => hk.2) (.int .i64 t124)) (fun _ hk => hk.2) (.int .i64 t125)) (fun _ hk => hk.2) (.int .i64 t126)) (fun _ hk => hk.2) (.int .i64 t127)) (fun _ hk => hk.2) (.int .i64 t128)) (fun _ hk => hk.2) (.int .i64 t129)) (fun _ hk => hk.2) (.int .i64 t130)) (fun _ hk => trivial))); (case aS => exact (below_size (by repeat (first | (with_reducible first | exact HB.out | apply below_alloc | apply pw_below_drewN | apply below_drew1 | refine below_set ?_ GE105.out | refine below_set ?_ GE119.out) | exact HB.out)))); (case aL => have := LMc23.out; omega); intro v133 w35 ho hb hg hat; rw [← Ny132.out] at ho; have n0_ := Aside0.mk (blk_grown (g := gb105) (o := .cells #[.int .i64 0, .int .i64 0, .int .i64 0, .int .i64 0, .int .i64 0, .int .i64 0, .int .i64 0] 26 (0, 0)) (by (with_reducible repeat (first | refine blk_drewN ?_ _ | refine blk_drew ?_ | refine blk_alloc ?_ _)); refine blk_far ?_ NB105_119.out _; (with_reducible repeat (first | refine blk_drewN ?_ _ | refine blk_drew ?_ | refine blk_alloc ?_ _)); refine blk_far ?_ NB105_119.out _; (with_reducible repeat (first | refine blk_drewN ?_ _ | refine blk_drew ?_ | refine blk_alloc ?_ _)); refine blk_far ?_ NB105_119.out _; (with_reducible repeat (first | refine blk_drewN ?_ _ | refine blk_drew ?_ | refine blk_alloc ?_ _)); refine blk_far ?_ NB105_119.out _; (with_reducible repeat (first | refine blk_drewN ?_ _ | refine blk_drew ?_ | refine blk_alloc ?_ _)); refine blk_far ?_ NB105_119.out _; (with_reducible repeat (first | refine blk_drewN ?_ _ | refine blk_drew ?_ | refine blk_alloc ?_ _)); refine blk_far ?_ NB105_119.out _; (with_reducible repeat (first | refine blk_drewN ?_ _ | refine blk_drew ?_ | refine blk_alloc ?_ _)); refine blk_far ?_ NB105_119.out _; (with_reducible repeat (first | refine blk_drewN ?_ _ | refine blk_drew ?_ | refine blk_alloc ?_ _)); exact BK105.out) hg (Kd.R_ne HO_6.out BK105.out (by decide))); have n1_ := Aside0.mk (blk_grown (g := gb119) (o := .cells #[.int .i64 t124, .int .i64 t125, .int .i64 t126, .int .i64 t127, .int .i64 t128, .int .i64 t129, .int .i64 t130] 26 (0, 0)) (by (with_reducible repeat (first | refine blk_drewN ?_ _ | refine blk_drew ?_ | refine blk_alloc ?_ _)); refine blk_put (cs := #[.int .i64 t124, .int .i64 t125, .int .i64 t126, .int .i64 t127, .int .i64 t128, .int .i64 t129, .int .i64 x120006_1]) ?_ 6 _ rfl; (with_reducible repeat (first | refine blk_drewN ?_ _ | refine blk_drew ?_ | refine blk_alloc ?_ _)); refine blk_put (cs := #[.int .i64 t124, .int .i64 t125, .int .i64 t126, .int .i64 t127, .int .i64 t128, .int .i64 x120005_1, .int .i64 x120006_1]) ?_ 5 _ rfl; (with_reducible repeat (first | refine blk_drewN ?_ _ | refine blk_drew ?_ | refine blk_alloc ?_ _)); refine blk_put (cs := #[.int .i64 t124, .int .i64 t125, .int .i64 t126, .int .i64 t127, .int .i64 x120004_1, .int .i64 x120005_1, .int .i64 x120006_1]) ?_ 4 _ rfl; (with_reducible repeat (first | refine blk_drewN ?_ _ | refine blk_drew ?_ | refine blk_alloc ?_ _)); refine blk_put (cs := #[.int .i64 t124, .int .i64 t125, .int .i64 t126, .int .i64 x120003_1, .int .i64 x120004_1, .int .i64 x120005_1, .int .i64 x120006_1]) ?_ 3 _ rfl; (with_reducible repeat (first | refine blk_drewN ?_ _ | refine blk_drew ?_ | refine blk_alloc ?_ _)); refine blk_put (cs := #[.int .i64 t124, .int .i64 t125, .int .i64 x120002_1, .int .i64 x120003_1, .int .i64 x120004_1, .int .i64 x120005_1, .int .i64 x120006_1]) ?_ 2 _ rfl; (with_reducible repeat (first | refine blk_drewN ?_ _ | refine blk_drew ?_ | refine blk_alloc ?_ _)); refine blk_put (cs := #[.int .i64 t124, .int .i64 x120001_1, .int .i64 x120002_1, .int .i64 x120003_1, .int .i64 x120004_1, .int .i64 x120005_1, .int .i64 x120006_1]) ?_ 1 _ rfl; (with_reducible repeat (first | refine blk_drewN ?_ _ | refine blk_drew ?_ | refine blk_alloc ?_ _)); refine blk_put (cs := #[.int .i64 x120000_1, .int .i64 x120001_1, .int .i64 x120002_1, .int .i64 x120003_1, .int .i64 x120004_1, .int .i64 x120005_1, .int .i64 x120006_1]) ?_ 0 _ rfl; (with_reducible repeat (first | refine blk_drewN ?_ _ | refine blk_drew ?_ | refine blk_alloc ?_ _)); exact BK119.out) hg (Kd.R_ne HO_6.out BK119.out (by decide))); have n2_ := Aside0.mk (hb); have n3_ := Aside0.mk (ho); clear BK105; clear BK119; clear HB; clear HO_6; have BK105 := n0_; have BK119 := n1_; have HB := n2_; have HO134 := n3_; clear n0_ n1_ n2_ n3_; clear ho hb hg hat))
                go_roundg k1
                case measure => have := HK1.out; omega
                case rel => exact ⟨(y132), (wrap64 (x7_1 + 1)), (t124), (t125), (t126), (t127), (t128), (t129), (t130), (by first | rfl | (simp; done) | (simp [*]; done)), H', ⟨by have := HK1.out; omega⟩, ⟨by (with_reducible repeat (first | apply Kd.R_alloc | apply Kd.R_drewN | apply Kd.R_drew)); exact HO134.out⟩, ⟨by (with_reducible repeat (first | refine blk_drewN ?_ _ | refine blk_drew ?_ | refine blk_alloc ?_ _)); exact BK105.out⟩, ⟨by (with_reducible repeat (first | refine blk_drewN ?_ _ | refine blk_drew ?_ | refine blk_alloc ?_ _)); exact BK119.out⟩, ⟨by repeat (first | (with_reducible first | exact HB.out | apply below_alloc | apply pw_below_drewN | apply below_drew1 | refine below_set ?_ GE105.out | refine below_set ?_ GE119.out) | exact HB.out)⟩⟩
              · rw [if_neg c23] at H
                exact absurd H (by simp)
            · rw [if_neg c21] at H
              exact absurd H (by simp)
          · rw [if_neg c20] at H
            have c20b0 : decide (x7_1 < (l0.length : Int)) = false := decide_eq_false c20
            clear c20
            simp only [Option.some.injEq, Prod.mk.injEq] at H
            obtain ⟨rfl, rfl, rfl, rfl, rfl, rfl, rfl, rfl, rfl⟩ := H
            have hnb36 := NB119_105.out
            have hnc36 := NB105_119.out
            have hcz37_0 : wr.cell? ⟨gb119, 0, none⟩ = some (.int .i64 x120000_1) := (blk_cell BK119.out 0).trans rfl
            have hcz37_1 : wr.cell? ⟨gb119, 1, none⟩ = some (.int .i64 x120001_1) := (blk_cell BK119.out 1).trans rfl
            have hcz37_2 : wr.cell? ⟨gb119, 2, none⟩ = some (.int .i64 x120002_1) := (blk_cell BK119.out 2).trans rfl
            have hcz37_3 : wr.cell? ⟨gb119, 3, none⟩ = some (.int .i64 x120003_1) := (blk_cell BK119.out 3).trans rfl
            have hcz37_4 : wr.cell? ⟨gb119, 4, none⟩ = some (.int .i64 x120004_1) := (blk_cell BK119.out 4).trans rfl
            have hcz37_5 : wr.cell? ⟨gb119, 5, none⟩ = some (.int .i64 x120005_1) := (blk_cell BK119.out 5).trans rfl
            have hcz37_6 : wr.cell? ⟨gb119, 6, none⟩ = some (.int .i64 x120006_1) := (blk_cell BK119.out 6).trans rfl
            have hfz37_0 := blk_frozen BK119.out 0
            have hfz37_1 := blk_frozen BK119.out 1
            have hfz37_2 := blk_frozen BK119.out 2
            have hfz37_3 := blk_frozen BK119.out 3
            have hfz37_4 := blk_frozen BK119.out 4
            have hfz37_5 := blk_frozen BK119.out 5
            have hfz37_6 := blk_frozen BK119.out 6
            have hcz38_0 : wr.cell? ⟨gb105, 0, none⟩ = some (.int .i64 0) := (blk_cell BK105.out 0).trans rfl
            have hcz38_1 : wr.cell? ⟨gb105, 1, none⟩ = some (.int .i64 0) := (blk_cell BK105.out 1).trans rfl
            have hcz38_2 : wr.cell? ⟨gb105, 2, none⟩ = some (.int .i64 0) := (blk_cell BK105.out 2).trans rfl
            have hcz38_3 : wr.cell? ⟨gb105, 3, none⟩ = some (.int .i64 0) := (blk_cell BK105.out 3).trans rfl
            have hcz38_4 : wr.cell? ⟨gb105, 4, none⟩ = some (.int .i64 0) := (blk_cell BK105.out 4).trans rfl
            have hcz38_5 : wr.cell? ⟨gb105, 5, none⟩ = some (.int .i64 0) := (blk_cell BK105.out 5).trans rfl
            have hcz38_6 : wr.cell? ⟨gb105, 6, none⟩ = some (.int .i64 0) := (blk_cell BK105.out 6).trans rfl
            have hfz38_0 := blk_frozen BK105.out 0
            have hfz38_1 := blk_frozen BK105.out 1
            have hfz38_2 := blk_frozen BK105.out 2
            have hfz38_3 := blk_frozen BK105.out 3
            have hfz38_4 := blk_frozen BK105.out 4
            have hfz38_5 := blk_frozen BK105.out 5
            have hfz38_6 := blk_frozen BK105.out 6
            go_wp2
            refine bodyPost_ret (results_ctt rfl _ _ gb105 26 #[.int .i64 x120000_1, .int .i64 x120001_1, .int .i64 x120002_1, .int .i64 x120003_1, .int .i64 x120004_1, .int .i64 x120005_1, .int .i64 x120006_1] (0, 0) _ rfl (by (with_reducible repeat (first | refine blk_drewN ?_ _ | refine blk_drew ?_ | refine blk_alloc ?_ _)); refine blk_put (cs := #[.int .i64 x120000_1, .int .i64 x120001_1, .int .i64 x120002_1, .int .i64 x120003_1, .int .i64 x120004_1, .int .i64 x120005_1, .int .i64 0]) ?_ 6 _ rfl; (with_reducible repeat (first | refine blk_drewN ?_ _ | refine blk_drew ?_ | refine blk_alloc ?_ _)); refine blk_put (cs := #[.int .i64 x120000_1, .int .i64 x120001_1, .int .i64 x120002_1, .int .i64 x120003_1, .int .i64 x120004_1, .int .i64 0, .int .i64 0]) ?_ 5 _ rfl; (with_reducible repeat (first | refine blk_drewN ?_ _ | refine blk_drew ?_ | refine blk_alloc ?_ _)); refine blk_put (cs := #[.int .i64 x120000_1, .int .i64 x120001_1, .int .i64 x120002_1, .int .i64 x120003_1, .int .i64 0, .int .i64 0, .int .i64 0]) ?_ 4 _ rfl; (with_reducible repeat (first | refine blk_drewN ?_ _ | refine blk_drew ?_ | refine blk_alloc ?_ _)); refine blk_put (cs := #[.int .i64 x120000_1, .int .i64 x120001_1, .int .i64 x120002_1, .int .i64 0, .int .i64 0, .int .i64 0, .int .i64 0]) ?_ 3 _ rfl; (with_reducible repeat (first | refine blk_drewN ?_ _ | refine blk_drew ?_ | refine blk_alloc ?_ _)); refine blk_put (cs := #[.int .i64 x120000_1, .int .i64 x120001_1, .int .i64 0, .int .i64 0, .int .i64 0, .int .i64 0, .int .i64 0]) ?_ 2 _ rfl; (with_reducible repeat (first | refine blk_drewN ?_ _ | refine blk_drew ?_ | refine blk_alloc ?_ _)); refine blk_put (cs := #[.int .i64 x120000_1, .int .i64 0, .int .i64 0, .int .i64 0, .int .i64 0, .int .i64 0, .int .i64 0]) ?_ 1 _ rfl; (with_reducible repeat (first | refine blk_drewN ?_ _ | refine blk_drew ?_ | refine blk_alloc ?_ _)); refine blk_put (cs := #[.int .i64 0, .int .i64 0, .int .i64 0, .int .i64 0, .int .i64 0, .int .i64 0, .int .i64 0]) ?_ 0 _ rfl; (with_reducible repeat (first | refine blk_drewN ?_ _ | refine blk_drew ?_ | refine blk_alloc ?_ _)); exact BK105.out) Try.underlying26 rfl (by kernel_rfl)) rfl ?_
            exact ⟨_, by first | rfl | (simp [errW_none, errW_some] <;> rfl) | (simp [*, errW_none, errW_some] <;> rfl), by (with_reducible repeat (first | apply Kd.R_alloc | apply Kd.R_drewN | apply Kd.R_drew)); exact Kd.R_mono (Kd.R_far (p := ⟨gb105, 6, none⟩) (Kd.R_far (p := ⟨gb105, 5, none⟩) (Kd.R_far (p := ⟨gb105, 4, none⟩) (Kd.R_far (p := ⟨gb105, 3, none⟩) (Kd.R_far (p := ⟨gb105, 2, none⟩) (Kd.R_far (p := ⟨gb105, 1, none⟩) (Kd.R_far (p := ⟨gb105, 0, none⟩) (Kd.R_types HO_6.out BK105.out (by decide)) (fun _ hk => hk.2) (.int .i64 x120000_1)) (fun _ hk => hk.2) (.int .i64 x120001_1)) (fun _ hk => hk.2) (.int .i64 x120002_1)) (fun _ hk => hk.2) (.int .i64 x120003_1)) (fun _ hk => hk.2) (.int .i64 x120004_1)) (fun _ hk => hk.2) (.int .i64 x120005_1)) (fun _ hk => hk.2) (.int .i64 x120006_1)) (fun _ hk => trivial), by repeat (first | (with_reducible first | exact HB.out | apply below_alloc | apply pw_below_drewN | apply below_drew1 | refine below_set ?_ GE105.out | refine below_set ?_ GE119.out) | exact HB.out)⟩

end Go.Proofs.Ytjfbeakmpmjadaa.PWin

namespace Go.Proofs.Ytjfbeakmpmjadaa.PWin
open Go.RowKit Go.Proofs.YtjfbeakmpmjadaaW.PrintWords Go.Proofs.YtjfbeakmpmjadaaW.PrintLast Go.Proofs.YtjfbeakmpmjadaaW.PrintMore
attribute [local go_sem] max2_int min2_int max_two min_two max_three min_three max_four min_four   -- for this text's walks alone
set_option linter.unusedVariables false
set_option linter.unusedSimpArgs false

/-! ### impl_NewCubic: function 23 -/
def impl_NewCubic.f  : Option (Int × Int × Int × Int × Int × Int × Int) := some (10, 100000, 0, 0, 0, 0, 0)
set_option maxHeartbeats 8000000 in
set_option maxRecDepth 100000 in
theorem impl_NewCubic.calls  (r1 : Int) (r2 : Int) (r3 : Int) (r4 : Int) (r5 : Int) (r6 : Int) (r7 : Int) (w : World) (h : impl_NewCubic.f  = some (r1, r2, r3, r4, r5, r6, r7)) :
    Calls Try.prog 23 #[] w fun e w' => e = .returned (.agg #[.int .i64 r1, .int .i64 r2, .int .i64 r3, .int .i64 r4, .int .i64 r5, .int .i64 r6, .int .i64 r7]) ∧ Below w.heap.size w w' := by
  have hu26 := Try.underlying26
  have HB := Aside0.mk (Below.refl w.heap.size w)
  have H : (some (10, 100000, 0, 0, 0, 0, 0)) = some (r1, r2, r3, r4, r5, r6, r7) := h
  clear h
  simp only [Option.some.injEq, Prod.mk.injEq] at H
  obtain ⟨rfl, rfl, rfl, rfl, rfl, rfl, rfl⟩ := H
  go_enter Try.func23, Try.ntmps23
  go_wp2_with (first | ((with_reducible refine gate_dst (N := 0) rfl ?_); refine box_event ?hg (N := 0) ?hd (cs := #[.int .i64 0, .int .i64 0, .int .i64 0, .int .i64 0, .int .i64 0, .int .i64 0, .int .i64 0]) (t := 26) ?hr ?_; (case hd => rfl); (case hg => rfl); (case hr => first | (go_simp; done) | (go_simp; rfl)); intro gb135 hg w1 hbox hb; have n0_ := Aside0.mk (below_step (by repeat (first | (with_reducible first | exact HB.out | apply below_alloc | apply pw_below_drewN | apply below_drew1) | exact HB.out)) hb); have n1_ := Aside0.mk (hbox); have n2_ := Aside0.mk ((by rw [hg]; exact (below_size (by repeat (first | (with_reducible first | exact HB.out | apply below_alloc | apply pw_below_drewN | apply below_drew1) | exact HB.out))) : w.heap.size ≤ gb135)); have n3_ := Aside0.mk ((by rw [hg]; exact (below_size (by repeat (first | (with_reducible first | exact HB.out | apply below_alloc | apply pw_below_drewN | apply below_drew1) | exact HB.out))) : w.heap.size ≤ gb135)); clear HB; have HB := n0_; have BK135 := n1_; have GW135 := n2_; have GE135 := n3_; clear n0_ n1_ n2_ n3_; clear hb hbox hg; have hcz2_0 : w1.cell? ⟨gb135, 0, none⟩ = some (.int .i64 0) := (blk_cell BK135.out 0).trans rfl; have hcz2_1 : w1.cell? ⟨gb135, 1, none⟩ = some (.int .i64 0) := (blk_cell BK135.out 1).trans rfl; have hcz2_2 : w1.cell? ⟨gb135, 2, none⟩ = some (.int .i64 0) := (blk_cell BK135.out 2).trans rfl; have hcz2_3 : w1.cell? ⟨gb135, 3, none⟩ = some (.int .i64 0) := (blk_cell BK135.out 3).trans rfl; have hcz2_4 : w1.cell? ⟨gb135, 4, none⟩ = some (.int .i64 0) := (blk_cell BK135.out 4).trans rfl; have hcz2_5 : w1.cell? ⟨gb135, 5, none⟩ = some (.int .i64 0) := (blk_cell BK135.out 5).trans rfl; have hcz2_6 : w1.cell? ⟨gb135, 6, none⟩ = some (.int .i64 0) := (blk_cell BK135.out 6).trans rfl; have hfz2_0 := blk_frozen BK135.out 0; have hfz2_1 := blk_frozen BK135.out 1; have hfz2_2 := blk_frozen BK135.out 2; have hfz2_3 := blk_frozen BK135.out 3; have hfz2_4 := blk_frozen BK135.out 4; have hfz2_5 := blk_frozen BK135.out 5; have hfz2_6 := blk_frozen BK135.out 6))
  refine bodyPost_ret (results_cell_row rfl _ _ gb135 26 #[.int .i64 10, .int .i64 100000, .int .i64 0, .int .i64 0, .int .i64 0, .int .i64 0, .int .i64 0] (0, 0) _ rfl (by (with_reducible repeat (first | refine blk_drewN ?_ _ | refine blk_drew ?_ | refine blk_alloc ?_ _)); refine blk_put (cs := #[.int .i64 10, .int .i64 100000, .int .i64 0, .int .i64 0, .int .i64 0, .int .i64 0, .int .i64 0]) ?_ 6 _ rfl; (with_reducible repeat (first | refine blk_drewN ?_ _ | refine blk_drew ?_ | refine blk_alloc ?_ _)); refine blk_put (cs := #[.int .i64 10, .int .i64 100000, .int .i64 0, .int .i64 0, .int .i64 0, .int .i64 0, .int .i64 0]) ?_ 5 _ rfl; (with_reducible repeat (first | refine blk_drewN ?_ _ | refine blk_drew ?_ | refine blk_alloc ?_ _)); refine blk_put (cs := #[.int .i64 10, .int .i64 100000, .int .i64 0, .int .i64 0, .int .i64 0, .int .i64 0, .int .i64 0]) ?_ 4 _ rfl; (with_reducible repeat (first | refine blk_drewN ?_ _ | refine blk_drew ?_ | refine blk_alloc ?_ _)); refine blk_put (cs := #[.int .i64 10, .int .i64 100000, .int .i64 0, .int .i64 0, .int .i64 0, .int .i64 0, .int .i64 0]) ?_ 3 _ rfl; (with_reducible repeat (first | refine blk_drewN ?_ _ | refine blk_drew ?_ | refine blk_alloc ?_ _)); refine blk_put (cs := #[.int .i64 10, .int .i64 100000, .int .i64 0, .int .i64 0, .int .i64 0, .int .i64 0, .int .i64 0]) ?_ 2 _ rfl; (with_reducible repeat (first | refine blk_drewN ?_ _ | refine blk_drew ?_ | refine blk_alloc ?_ _)); refine blk_put (cs := #[.int .i64 10, .int .i64 0, .int .i64 0, .int .i64 0, .int .i64 0, .int .i64 0, .int .i64 0]) ?_ 1 _ rfl; (with_reducible repeat (first | refine blk_drewN ?_ _ | refine blk_drew ?_ | refine blk_alloc ?_ _)); refine blk_put (cs := #[.int .i64 0, .int .i64 0, .int .i64 0, .int .i64 0, .int .i64 0, .int .i64 0, .int .i64 0]) ?_ 0 _ rfl; (with_reducible repeat (first | refine blk_drewN ?_ _ | refine blk_drew ?_ | refine blk_alloc ?_ _)); exact BK135.out) Try.underlying26 rfl (by kernel_rfl)) rfl ?_
  exact ⟨by first | rfl | (simp [errW_none, errW_some] <;> rfl) | (simp [*, errW_none, errW_some] <;> rfl), by repeat (first | (with_reducible first | exact HB.out | apply below_alloc | apply pw_below_drewN | apply below_drew1 | refine below_set ?_ GE135.out) | exact HB.out)⟩

/-! ### impl_inRange: function 31 -/
def impl_inRange.f (a0 : Int) (a1 : Int) (a2 : Int) : Option (Bool) := if a0 ≥ a1 then (some (decide (a0 ≤ a2))) else (some false)
set_option maxHeartbeats 8000000 in
set_option maxRecDepth 100000 in
theorem impl_inRange.calls (a0 : Int) (a1 : Int) (a2 : Int) (r : Bool) (w : World) (h : impl_inRange.f a0 a1 a2 = some r) :
    Calls Try.prog 31 #[.int .i64 a0, .int .i64 a1, .int .i64 a2] w fun e w' => e = .returned (.bool r) ∧ Drawn0 w w' := by
  have H : (if a0 ≥ a1 then (some (decide (a0 ≤ a2))) else (some false)) = some r := h
  clear h
  by_cases c4 : a0 ≥ a1
  · rw [if_pos c4] at H
    have c4b0 : decide (a1 ≤ a0) = true := decide_eq_true c4
    clear c4
    obtain rfl := Option.some.inj H
    go_enter Try.func31, Try.ntmps31
    go_wp2
    go_ret
    exact ⟨by first | rfl | (simp; done) | (simp [*]; done), by repeat (first | exact Drawn0.refl _ | apply Drawn0.step)⟩
  · rw [if_neg c4] at H
    have c4b0 : decide (a1 ≤ a0) = false := decide_eq_false c4
    clear c4
    obtain rfl := Option.some.inj H
    go_enter Try.func31, Try.ntmps31
    go_wp2
    go_ret
    exact ⟨by first | rfl | (simp; done) | (simp [*]; done), by repeat (first | exact Drawn0.refl _ | apply Drawn0.step)⟩

/-! ### impl_curve: function 42 -/
def impl_curve.f (a0 : Int) (a1 : Int) (a2 : Int) : Option (Int) := some (mn (mx (wrap64 ((wrap64 (Int.tdiv (wrap64 ((wrap64 (Int.tdiv (wrap64 ((wrap64 ((mn (wrap64 (a2 - a1)) 100000) * (mn (wrap64 (a2 - a1)) 100000))) * (mn (wrap64 (a2 - a1)) 100000))) 1000000)) * 4)) 10000)) + a0)) 1) 100000)
set_option maxHeartbeats 8000000 in
set_option maxRecDepth 100000 in
theorem impl_curve.calls (a0 : Int) (a1 : Int) (a2 : Int) (r : Int) (w : World) (h : impl_curve.f a0 a1 a2 = some r) :
    Calls Try.prog 42 #[.int .i64 a0, .int .i64 a1, .int .i64 a2] w fun e w' => e = .returned (.int .i64 r) ∧ Below w.heap.size w w' := by
  have HB := Aside0.mk (Below.refl w.heap.size w)
  have H : (some (mn (mx (wrap64 ((wrap64 (Int.tdiv (wrap64 ((wrap64 (Int.tdiv (wrap64 ((wrap64 ((mn (wrap64 (a2 - a1)) 100000) * (mn (wrap64 (a2 - a1)) 100000))) * (mn (wrap64 (a2 - a1)) 100000))) 1000000)) * 4)) 10000)) + a0)) 1) 100000)) = some r := h
  clear h
  obtain ⟨ji4, hji4⟩ : ∃ j_ : Int, (mn (wrap64 (a2 - a1)) 100000) = j_ := ⟨_, rfl⟩
  replace H : (some (mn (mx (wrap64 ((wrap64 (Int.tdiv (wrap64 ((wrap64 (Int.tdiv (wrap64 ((wrap64 ((ji4) * (ji4))) * (ji4))) 1000000)) * 4)) 10000)) + a0)) 1) 100000)) = some r := by first | (rw [hji4] at H; exact H) | (simp only [hji4] at H ⊢; exact H)
  (try (have hji4h : ji4 ≤ 100000 := by (rw [← hji4]; unfold mn; (repeat' split) <;> omega)))
  (try (have hji4g : ji4 ≤ 64 := by omega))
  have hji4_ : (if 100000 < (wrap64 (a2 - a1)) then 100000 else (wrap64 (a2 - a1))) = ji4 := hji4
  obtain ⟨ji5, hji5⟩ : ∃ j_ : Int, (mx (wrap64 ((wrap64 (Int.tdiv (wrap64 ((wrap64 (Int.tdiv (wrap64 ((wrap64 ((ji4) * (ji4))) * (ji4))) 1000000)) * 4)) 10000)) + a0)) 1) = j_ := ⟨_, rfl⟩
  replace H : (some (mn (ji5) 100000)) = some r := by first | (rw [hji5] at H; exact H) | (simp only [hji5] at H ⊢; exact H)
  have hji5_ : (if (wrap64 ((wrap64 (Int.tdiv (wrap64 ((wrap64 (Int.tdiv (wrap64 ((wrap64 ((ji4) * (ji4))) * (ji4))) 1000000)) * 4)) 10000)) + a0)) < 1 then 1 else (wrap64 ((wrap64 (Int.tdiv (wrap64 ((wrap64 (Int.tdiv (wrap64 ((wrap64 ((ji4) * (ji4))) * (ji4))) 1000000)) * 4)) 10000)) + a0))) = ji5 := hji5
  obtain ⟨ji6, hji6⟩ : ∃ j_ : Int, (mn (ji5) 100000) = j_ := ⟨_, rfl⟩
  replace H : (some ji6) = some r := by first | (rw [hji6] at H; exact H) | (simp only [hji6] at H ⊢; exact H)
  have hji6_ : (if 100000 < (ji5) then 100000 else (ji5)) = ji6 := hji6
  obtain rfl := Option.some.inj H
  go_enter Try.func42, Try.ntmps42
  go_wp2
  go_ret
  exact ⟨by first | rfl | (simp [errW_none, errW_some] <;> rfl) | (simp only [← hji4, ← hji5, ← hji6]; first | rfl | (simp [errW_none, errW_some] <;> rfl)) | (simp [*, errW_none, errW_some] <;> rfl), by repeat (first | (with_reducible first | exact HB.out | apply below_alloc | apply pw_below_drewN | apply below_drew1) | exact HB.out)⟩

end Go.Proofs.Ytjfbeakmpmjadaa.PWin

namespace Go.Proofs.Ytjfbeakmpmjadaa.PWin
open Go.RowKit Go.Proofs.YtjfbeakmpmjadaaW.PrintWords Go.Proofs.YtjfbeakmpmjadaaW.PrintLast Go.Proofs.YtjfbeakmpmjadaaW.PrintMore
attribute [local go_sem] max2_int min2_int max_two min_two max_three min_three max_four min_four   -- for this text's walks alone
set_option linter.unusedVariables false
set_option linter.unusedSimpArgs false

/-- A state of type 26 at block g of W; what its slices lead to came in by w0. -/
def IsS26 (w0 W : World) (g : Nat) (f0 : Int) (f1 : Int) (f2 : Int) (f3 : Int) (f4 : Int) (f5 : Int) (f6 : Int) : Prop := W.heap[g]? = some (.cells #[.int .i64 f0, .int .i64 f1, .int .i64 f2, .int .i64 f3, .int .i64 f4, .int .i64 f5, .int .i64 f6] 26 (0, 0)) ∧ w0.heap.size ≤ g
theorem IsS26.grown {w0 W : World} {g : Nat} {f0 : Int} {f1 : Int} {f2 : Int} {f3 : Int} {f4 : Int} {f5 : Int} {f6 : Int} {W1 : World} {row : Option Nat} (h : IsS26 w0 W g f0 f1 f2 f3 f4 f5 f6) (hw : W.grownBy W1 row) (hne : some g ≠ row) : IsS26 w0 W1 g f0 f1 f2 f3 f4 f5 f6 := by
  obtain ⟨hb, hg⟩ := h
  exact ⟨blk_grown hb hw hne, hg⟩
theorem IsS26.own_neN {w0 W : World} {g : Nat} {f0 : Int} {f1 : Int} {f2 : Int} {f3 : Int} {f4 : Int} {f5 : Int} {f6 : Int} {α : Type} {d : Kd α} {e : Nat} {base : Nat} {ok : Nat → Prop} {v : Value} {xs : List α} (h : IsS26 w0 W g f0 f1 f2 f3 f4 f5 f6) (ho : Kd.N d e W base ok v xs) (ht : e ≠ 26) : some g ≠ v.ownBlock := by
  obtain ⟨hb, hg⟩ := h
  exact Kd.N_ne ho hb ht
theorem IsS26.fresh {w0 W : World} {g : Nat} {f0 : Int} {f1 : Int} {f2 : Int} {f3 : Int} {f4 : Int} {f5 : Int} {f6 : Int} (h : IsS26 w0 W g f0 f1 f2 f3 f4 f5 f6) : ∀ k, W.heap.size ≤ k → k ≠ g := by
  obtain ⟨hb, hg⟩ := h
  exact Kd.freshB hb
theorem IsS26.kept {w0 W : World} {g : Nat} {f0 : Int} {f1 : Int} {f2 : Int} {f3 : Int} {f4 : Int} {f5 : Int} {f6 : Int} {W1 : World} {S : Nat → Prop} (h : IsS26 w0 W g f0 f1 f2 f3 f4 f5 f6) (hk : Kept W W1 S) (hne : ¬ S g) : IsS26 w0 W1 g f0 f1 f2 f3 f4 f5 f6 := by
  obtain ⟨hb, hg⟩ := h
  exact ⟨blk_kept hb hk hne, hg⟩
theorem IsS26.below {w0 W : World} {g : Nat} {f0 : Int} {f1 : Int} {f2 : Int} {f3 : Int} {f4 : Int} {f5 : Int} {f6 : Int} {W1 : World} (h : IsS26 w0 W g f0 f1 f2 f3 f4 f5 f6) (hw : Below W.heap.size W W1) : IsS26 w0 W1 g f0 f1 f2 f3 f4 f5 f6 := h.grown (grown_of_below hw none) (by simp)
theorem IsS26.alloc {w0 W : World} {g : Nat} {f0 : Int} {f1 : Int} {f2 : Int} {f3 : Int} {f4 : Int} {f5 : Int} {f6 : Int} (h : IsS26 w0 W g f0 f1 f2 f3 f4 f5 f6) (o : Obj) : IsS26 w0 (W.alloc o) g f0 f1 f2 f3 f4 f5 f6 := h.below (below_alloc (Below.refl _ _) o)
theorem IsS26.drewN {w0 W : World} {g : Nat} {f0 : Int} {f1 : Int} {f2 : Int} {f3 : Int} {f4 : Int} {f5 : Int} {f6 : Int} (h : IsS26 w0 W g f0 f1 f2 f3 f4 f5 f6) (m : Nat) : IsS26 w0 (W.drewN m) g f0 f1 f2 f3 f4 f5 f6 := h
theorem IsS26.drew {w0 W : World} {g : Nat} {f0 : Int} {f1 : Int} {f2 : Int} {f3 : Int} {f4 : Int} {f5 : Int} {f6 : Int} (h : IsS26 w0 W g f0 f1 f2 f3 f4 f5 f6) : IsS26 w0 W.drew g f0 f1 f2 f3 f4 f5 f6 := h
theorem IsS26.at_ {w0 W : World} {g : Nat} {f0 : Int} {f1 : Int} {f2 : Int} {f3 : Int} {f4 : Int} {f5 : Int} {f6 : Int} {w' : World} {m : Nat} (hq : W.drewN m = w') (h : IsS26 w0 W g f0 f1 f2 f3 f4 f5 f6) : IsS26 w0 w' g f0 f1 f2 f3 f4 f5 f6 := by subst hq; exact IsS26.drewN h m
theorem IsS26.apart {w0 W : World} {g : Nat} {f0 : Int} {f1 : Int} {f2 : Int} {f3 : Int} {f4 : Int} {f5 : Int} {f6 : Int} {α : Type} {d : Kd α} {e : Nat} {base : Nat} {ok : Nat → Prop} {v : Value} {xs : List α} (h : IsS26 w0 W g f0 f1 f2 f3 f4 f5 f6) (ho : d.R e W base ok v xs) (ht : ∀ q, q ∈ e :: d.E → q ≠ 26) : d.R e W base (fun k => ok k ∧ k ≠ g) v xs := by
  obtain ⟨hb, hg⟩ := h
  exact Kd.R_types ho hb ht
theorem IsS26.own_ne {w0 W : World} {g : Nat} {f0 : Int} {f1 : Int} {f2 : Int} {f3 : Int} {f4 : Int} {f5 : Int} {f6 : Int} {α : Type} {d : Kd α} {e : Nat} {base : Nat} {ok : Nat → Prop} {v : Value} {xs : List α} (h : IsS26 w0 W g f0 f1 f2 f3 f4 f5 f6) (ho : d.R e W base ok v xs) (ht : e ≠ 26) : some g ≠ v.ownBlock := by
  obtain ⟨hb, hg⟩ := h
  exact Kd.R_ne ho hb ht
theorem IsS26.apartQ {w0 W : World} {g : Nat} {f0 : Int} {f1 : Int} {f2 : Int} {f3 : Int} {f4 : Int} {f5 : Int} {f6 : Int} {α : Type} {d : Kd α} {e : Nat} {base : Nat} {ok : Nat → Prop} {v : Value} {xs : List α} (h : IsS26 w0 W g f0 f1 f2 f3 f4 f5 f6) (ho : d.Q e W base ok v xs) (ht : ∀ q, q ∈ e :: d.E → q ≠ 26) : d.Q e W base (fun k => ok k ∧ k ≠ g) v xs := by
  obtain ⟨hb, hg⟩ := h
  exact Kd.Q_types ho hb ht
theorem IsS26.own_neQ {w0 W : World} {g : Nat} {f0 : Int} {f1 : Int} {f2 : Int} {f3 : Int} {f4 : Int} {f5 : Int} {f6 : Int} {α : Type} {d : Kd α} {e : Nat} {base : Nat} {ok : Nat → Prop} {v : Value} {xs : List α} (h : IsS26 w0 W g f0 f1 f2 f3 f4 f5 f6) (ho : d.Q e W base ok v xs) (ht : e ≠ 26) : some g ≠ v.ownBlock := by
  obtain ⟨hb, hg⟩ := h
  exact Kd.Q_ne ho hb ht
theorem IsS26.apartS {w0 W : World} {g : Nat} {f0 : Int} {f1 : Int} {f2 : Int} {f3 : Int} {f4 : Int} {f5 : Int} {f6 : Int} {α : Type} {d : Kd α} {e : Nat} {base : Nat} {ok : Nat → Prop} {v : Value} {xs : List α} (h : IsS26 w0 W g f0 f1 f2 f3 f4 f5 f6) (ho : d.S e W base ok v xs) (ht : ∀ q, q ∈ e :: d.E → q ≠ 26) : d.S e W base (fun k => ok k ∧ k ≠ g) v xs := by
  obtain ⟨hb, hg⟩ := h
  exact Kd.S_types ho hb ht
theorem IsS26.own_neS {w0 W : World} {g : Nat} {f0 : Int} {f1 : Int} {f2 : Int} {f3 : Int} {f4 : Int} {f5 : Int} {f6 : Int} {α : Type} {d : Kd α} {e : Nat} {base : Nat} {ok : Nat → Prop} {v : Value} {xs : List α} (h : IsS26 w0 W g f0 f1 f2 f3 f4 f5 f6) (ho : d.S e W base ok v xs) (ht : e ≠ 26) : some g ≠ v.ownBlock := by
  obtain ⟨hb, hg⟩ := h
  exact Kd.S_ne ho hb ht
theorem IsS26.lt {w0 W : World} {g : Nat} {f0 : Int} {f1 : Int} {f2 : Int} {f3 : Int} {f4 : Int} {f5 : Int} {f6 : Int} (h : IsS26 w0 W g f0 f1 f2 f3 f4 f5 f6) : g < W.heap.size := by
  obtain ⟨hb, hg⟩ := h
  exact blk_lt hb
theorem IsS26.ge {w0 W : World} {g : Nat} {f0 : Int} {f1 : Int} {f2 : Int} {f3 : Int} {f4 : Int} {f5 : Int} {f6 : Int} (h : IsS26 w0 W g f0 f1 f2 f3 f4 f5 f6) : w0.heap.size ≤ g := by
  obtain ⟨hb, hg⟩ := h
  exact hg
theorem IsS26.ne_blk {w0 W : World} {g : Nat} {f0 : Int} {f1 : Int} {f2 : Int} {f3 : Int} {f4 : Int} {f5 : Int} {f6 : Int} {a : Nat} {cs : Array Value} {t : TypeId} {fr : Nat × Nat} (h : IsS26 w0 W g f0 f1 f2 f3 f4 f5 f6) (hb2 : W.heap[a]? = some (.cells cs t fr)) (ht : t ≠ 26) : g ≠ a := by
  obtain ⟨hb, hg⟩ := h
  rintro rfl
  rw [hb] at hb2
  injection hb2 with hb2
  injection hb2 with _ ht2
  exact ht ht2.symm
theorem IsS26.far {w0 W : World} {g : Nat} {f0 : Int} {f1 : Int} {f2 : Int} {f3 : Int} {f4 : Int} {f5 : Int} {f6 : Int} {p : Addr} (h : IsS26 w0 W g f0 f1 f2 f3 f4 f5 f6) (hne : g ≠ p.block) (u : Value) : IsS26 w0 (W.setCell p u) g f0 f1 f2 f3 f4 f5 f6 := by
  obtain ⟨hb, hg⟩ := h
  exact ⟨blk_far hb hne u, hg⟩
theorem cellS26_0 {W : World} {g : Nat} {f0 : Int} {f1 : Int} {f2 : Int} {f3 : Int} {f4 : Int} {f5 : Int} {f6 : Int} (h : W.heap[g]? = some (.cells #[.int .i64 f0, .int .i64 f1, .int .i64 f2, .int .i64 f3, .int .i64 f4, .int .i64 f5, .int .i64 f6] 26 (0, 0))) : W.cell? ⟨g, 0, none⟩ = some (.int .i64 f0) := (blk_cell h 0).trans rfl
theorem IsS26.set_0 {w0 W : World} {g : Nat} {f0 : Int} {f1 : Int} {f2 : Int} {f3 : Int} {f4 : Int} {f5 : Int} {f6 : Int} (h : IsS26 w0 W g f0 f1 f2 f3 f4 f5 f6) (x : Int) : IsS26 w0 (W.setCell ⟨g, 0, none⟩ (.int .i64 x)) g x f1 f2 f3 f4 f5 f6 := by
  obtain ⟨hb, hg⟩ := h
  exact ⟨by simpa using blk_set hb 0 (.int .i64 x), hg⟩
theorem cellS26_1 {W : World} {g : Nat} {f0 : Int} {f1 : Int} {f2 : Int} {f3 : Int} {f4 : Int} {f5 : Int} {f6 : Int} (h : W.heap[g]? = some (.cells #[.int .i64 f0, .int .i64 f1, .int .i64 f2, .int .i64 f3, .int .i64 f4, .int .i64 f5, .int .i64 f6] 26 (0, 0))) : W.cell? ⟨g, 1, none⟩ = some (.int .i64 f1) := (blk_cell h 1).trans rfl
theorem IsS26.set_1 {w0 W : World} {g : Nat} {f0 : Int} {f1 : Int} {f2 : Int} {f3 : Int} {f4 : Int} {f5 : Int} {f6 : Int} (h : IsS26 w0 W g f0 f1 f2 f3 f4 f5 f6) (x : Int) : IsS26 w0 (W.setCell ⟨g, 1, none⟩ (.int .i64 x)) g f0 x f2 f3 f4 f5 f6 := by
  obtain ⟨hb, hg⟩ := h
  exact ⟨by simpa using blk_set hb 1 (.int .i64 x), hg⟩
theorem cellS26_2 {W : World} {g : Nat} {f0 : Int} {f1 : Int} {f2 : Int} {f3 : Int} {f4 : Int} {f5 : Int} {f6 : Int} (h : W.heap[g]? = some (.cells #[.int .i64 f0, .int .i64 f1, .int .i64 f2, .int .i64 f3, .int .i64 f4, .int .i64 f5, .int .i64 f6] 26 (0, 0))) : W.cell? ⟨g, 2, none⟩ = some (.int .i64 f2) := (blk_cell h 2).trans rfl
theorem IsS26.set_2 {w0 W : World} {g : Nat} {f0 : Int} {f1 : Int} {f2 : Int} {f3 : Int} {f4 : Int} {f5 : Int} {f6 : Int} (h : IsS26 w0 W g f0 f1 f2 f3 f4 f5 f6) (x : Int) : IsS26 w0 (W.setCell ⟨g, 2, none⟩ (.int .i64 x)) g f0 f1 x f3 f4 f5 f6 := by
  obtain ⟨hb, hg⟩ := h
  exact ⟨by simpa using blk_set hb 2 (.int .i64 x), hg⟩
theorem cellS26_3 {W : World} {g : Nat} {f0 : Int} {f1 : Int} {f2 : Int} {f3 : Int} {f4 : Int} {f5 : Int} {f6 : Int} (h : W.heap[g]? = some (.cells #[.int .i64 f0, .int .i64 f1, .int .i64 f2, .int .i64 f3, .int .i64 f4, .int .i64 f5, .int .i64 f6] 26 (0, 0))) : W.cell? ⟨g, 3, none⟩ = some (.int .i64 f3) := (blk_cell h 3).trans rfl
theorem IsS26.set_3 {w0 W : World} {g : Nat} {f0 : Int} {f1 : Int} {f2 : Int} {f3 : Int} {f4 : Int} {f5 : Int} {f6 : Int} (h : IsS26 w0 W g f0 f1 f2 f3 f4 f5 f6) (x : Int) : IsS26 w0 (W.setCell ⟨g, 3, none⟩ (.int .i64 x)) g f0 f1 f2 x f4 f5 f6 := by
  obtain ⟨hb, hg⟩ := h
  exact ⟨by simpa using blk_set hb 3 (.int .i64 x), hg⟩
theorem cellS26_4 {W : World} {g : Nat} {f0 : Int} {f1 : Int} {f2 : Int} {f3 : Int} {f4 : Int} {f5 : Int} {f6 : Int} (h : W.heap[g]? = some (.cells #[.int .i64 f0, .int .i64 f1, .int .i64 f2, .int .i64 f3, .int .i64 f4, .int .i64 f5, .int .i64 f6] 26 (0, 0))) : W.cell? ⟨g, 4, none⟩ = some (.int .i64 f4) := (blk_cell h 4).trans rfl
theorem IsS26.set_4 {w0 W : World} {g : Nat} {f0 : Int} {f1 : Int} {f2 : Int} {f3 : Int} {f4 : Int} {f5 : Int} {f6 : Int} (h : IsS26 w0 W g f0 f1 f2 f3 f4 f5 f6) (x : Int) : IsS26 w0 (W.setCell ⟨g, 4, none⟩ (.int .i64 x)) g f0 f1 f2 f3 x f5 f6 := by
  obtain ⟨hb, hg⟩ := h
  exact ⟨by simpa using blk_set hb 4 (.int .i64 x), hg⟩
theorem cellS26_5 {W : World} {g : Nat} {f0 : Int} {f1 : Int} {f2 : Int} {f3 : Int} {f4 : Int} {f5 : Int} {f6 : Int} (h : W.heap[g]? = some (.cells #[.int .i64 f0, .int .i64 f1, .int .i64 f2, .int .i64 f3, .int .i64 f4, .int .i64 f5, .int .i64 f6] 26 (0, 0))) : W.cell? ⟨g, 5, none⟩ = some (.int .i64 f5) := (blk_cell h 5).trans rfl
theorem IsS26.set_5 {w0 W : World} {g : Nat} {f0 : Int} {f1 : Int} {f2 : Int} {f3 : Int} {f4 : Int} {f5 : Int} {f6 : Int} (h : IsS26 w0 W g f0 f1 f2 f3 f4 f5 f6) (x : Int) : IsS26 w0 (W.setCell ⟨g, 5, none⟩ (.int .i64 x)) g f0 f1 f2 f3 f4 x f6 := by
  obtain ⟨hb, hg⟩ := h
  exact ⟨by simpa using blk_set hb 5 (.int .i64 x), hg⟩
theorem cellS26_6 {W : World} {g : Nat} {f0 : Int} {f1 : Int} {f2 : Int} {f3 : Int} {f4 : Int} {f5 : Int} {f6 : Int} (h : W.heap[g]? = some (.cells #[.int .i64 f0, .int .i64 f1, .int .i64 f2, .int .i64 f3, .int .i64 f4, .int .i64 f5, .int .i64 f6] 26 (0, 0))) : W.cell? ⟨g, 6, none⟩ = some (.int .i64 f6) := (blk_cell h 6).trans rfl
theorem IsS26.set_6 {w0 W : World} {g : Nat} {f0 : Int} {f1 : Int} {f2 : Int} {f3 : Int} {f4 : Int} {f5 : Int} {f6 : Int} (h : IsS26 w0 W g f0 f1 f2 f3 f4 f5 f6) (x : Int) : IsS26 w0 (W.setCell ⟨g, 6, none⟩ (.int .i64 x)) g f0 f1 f2 f3 f4 f5 x := by
  obtain ⟨hb, hg⟩ := h
  exact ⟨by simpa using blk_set hb 6 (.int .i64 x), hg⟩
theorem IsS26.new (w0 W : World) (f0 : Int) (f1 : Int) (f2 : Int) (f3 : Int) (f4 : Int) (f5 : Int) (f6 : Int) (hB : Below w0.heap.size w0 W) : IsS26 w0 (W.alloc (.cells #[.int .i64 f0, .int .i64 f1, .int .i64 f2, .int .i64 f3, .int .i64 f4, .int .i64 f5, .int .i64 f6] 26)) W.heap.size f0 f1 f2 f3 f4 f5 f6 := ⟨by simpa using heap_alloc_new W _, hB.size⟩

/-! ### impl_Cubic_ack: function 35 -/
def impl_Cubic_ack.f (s0_0 : Int) (s0_1 : Int) (s0_2 : Int) (s0_3 : Int) (s0_4 : Int) (s0_5 : Int) (s0_6 : Int) : Option (Int × Int × Int × Int × Int × Int × Int) :=
  if 1 ≤ s0_0 ∧ s0_0 ≤ 100000 ∧ 0 ≤ s0_6 ∧ s0_6 ≤ 100000 ∧ 0 ≤ s0_4 ∧ s0_4 ≤ s0_5 ∧ s0_5 ≤ 1000000 then
    if s0_0 < s0_1 then some (s0_0 + 1, s0_1, s0_2, s0_3, s0_4, s0_5, s0_6)
    else (impl_curve.f s0_2 s0_3 (s0_5 - s0_4)).bind fun aim =>
      if -1000000 ≤ aim ∧ aim ≤ 1000000 then
        if s0_0 < aim then
          (if s0_0 / (aim - s0_0) < s0_6 + 1 then some (mn (s0_0 + 1) 100000, s0_1, s0_2, s0_3, s0_4, s0_5, 0)
           else some (s0_0, s0_1, s0_2, s0_3, s0_4, s0_5, mn (s0_6 + 1) 100000))
        else
          (if 100 * s0_0 < s0_6 + 1 then some (mn (s0_0 + 1) 100000, s0_1, s0_2, s0_3, s0_4, s0_5, 0)
           else some (s0_0, s0_1, s0_2, s0_3, s0_4, s0_5, mn (s0_6 + 1) 100000))
      else none
  else none

set_option maxHeartbeats 2000000 in
set_option maxRecDepth 100000 in
theorem impl_Cubic_ack.curve_q (a0 : Int) (a1 : Int) (a2 : Int) (r : Int) (w : World) (h : impl_curve.f a0 a1 a2 = some r) :
    Calls Try.prog 42 #[.int .i64 a0, .int .i64 a1, .int .i64 a2] w fun e w' => e = .returned (.int .i64 r) ∧ w = w' := by
  have H : (some (mn (mx (wrap64 ((wrap64 (Int.tdiv (wrap64 ((wrap64 (Int.tdiv (wrap64 ((wrap64 ((mn (wrap64 (a2 - a1)) 100000) * (mn (wrap64 (a2 - a1)) 100000))) * (mn (wrap64 (a2 - a1)) 100000))) 1000000)) * 4)) 10000)) + a0)) 1) 100000)) = some r := h
  clear h
  obtain ⟨ji4, hji4⟩ : ∃ j_ : Int, (mn (wrap64 (a2 - a1)) 100000) = j_ := ⟨_, rfl⟩
  replace H : (some (mn (mx (wrap64 ((wrap64 (Int.tdiv (wrap64 ((wrap64 (Int.tdiv (wrap64 ((wrap64 ((ji4) * (ji4))) * (ji4))) 1000000)) * 4)) 10000)) + a0)) 1) 100000)) = some r := by first | (rw [hji4] at H; exact H) | (simp only [hji4] at H ⊢; exact H)
  (try (have hji4h : ji4 ≤ 100000 := by (rw [← hji4]; unfold mn; (repeat' split) <;> omega)))
  (try (have hji4g : ji4 ≤ 64 := by omega))
  have hji4_ : (if 100000 < (wrap64 (a2 - a1)) then 100000 else (wrap64 (a2 - a1))) = ji4 := hji4
  obtain ⟨ji5, hji5⟩ : ∃ j_ : Int, (mx (wrap64 ((wrap64 (Int.tdiv (wrap64 ((wrap64 (Int.tdiv (wrap64 ((wrap64 ((ji4) * (ji4))) * (ji4))) 1000000)) * 4)) 10000)) + a0)) 1) = j_ := ⟨_, rfl⟩
  replace H : (some (mn (ji5) 100000)) = some r := by first | (rw [hji5] at H; exact H) | (simp only [hji5] at H ⊢; exact H)
  have hji5_ : (if (wrap64 ((wrap64 (Int.tdiv (wrap64 ((wrap64 (Int.tdiv (wrap64 ((wrap64 ((ji4) * (ji4))) * (ji4))) 1000000)) * 4)) 10000)) + a0)) < 1 then 1 else (wrap64 ((wrap64 (Int.tdiv (wrap64 ((wrap64 (Int.tdiv (wrap64 ((wrap64 ((ji4) * (ji4))) * (ji4))) 1000000)) * 4)) 10000)) + a0))) = ji5 := hji5
  obtain ⟨ji6, hji6⟩ : ∃ j_ : Int, (mn (ji5) 100000) = j_ := ⟨_, rfl⟩
  replace H : (some ji6) = some r := by first | (rw [hji6] at H; exact H) | (simp only [hji6] at H ⊢; exact H)
  have hji6_ : (if 100000 < (ji5) then 100000 else (ji5)) = ji6 := hji6
  obtain rfl := Option.some.inj H
  go_enter Try.func42, Try.ntmps42
  go_wp2
  go_ret
  exact ⟨by first | rfl | (simp [errW_none, errW_some] <;> rfl) | (simp only [← hji4, ← hji5, ← hji6]; first | rfl | (simp [errW_none, errW_some] <;> rfl)) | (simp [*, errW_none, errW_some] <;> rfl), rfl⟩

def impl_Cubic_ack.CPost (w0 w : World) (g : Nat) (f0 f1 f2 f3 f4 f5 f6 : Int) (e : Ending) (w' : World) : Prop :=
  e = .returned (.tuple #[]) ∧ IsS26 w0 w' g f0 f1 f2 f3 f4 f5 f6 ∧ Below w0.heap.size w0 w' ∧ KeepBut w w' g none
set_option maxHeartbeats 2000000 in
set_option maxRecDepth 100000 in
theorem impl_Cubic_ack.ack_slow (g : Nat) (w_ s m o si n c : Int) (w0 w : World) (hI : IsS26 w0 w g w_ s m o si n c) (hB : Below w0.heap.size w0 w) (h1 : 1 ≤ w_) (h2 : w_ ≤ 100000) (hlt : w_ < s) :
    Calls Try.prog 35 #[.pointer (some ⟨g, 0, none⟩)] w (impl_Cubic_ack.CPost w0 w g (w_ + 1) s m o si n c) := by
  have HI := Aside0.mk hI
  have HB := Aside0.mk hB
  have HK := Aside0.mk (KeepBut.refl w g none)
  obtain ⟨hb, hg⟩ := hI
  have k0 := cellS26_0 hb
  have k1 := cellS26_1 hb
  have f0 := blk_frozen hb 0
  have HG := Aside0.mk hg
  clear hb hg hB
  go_enter Try.func35, Try.ntmps35
  go_wp2
  go_quiet (fail)
  go_wp2
  go_end0
  exact ⟨rfl, by repeat (first | exact HI.out | apply IsS26.drewN | apply IsS26.drew | apply IsS26.set_0), by repeat (first | exact HB.out | apply pw_below_drewN | apply below_drew1 | refine below_set ?_ HG.out), by repeat (first | exact HK.out | apply KeepBut.set_ | apply keep_drewN | apply keep_drew)⟩

theorem impl_Cubic_ack.q_addl {P : Program} {f : FuncId} {args : Array Value} {w : World} {a n : Nat} {v : Value} (h : Calls P f args (w.drewN (a + n)) fun e w' => e = .returned v ∧ w.drewN (a + n) = w') :
    Calls P f args (w.drewN (a + n)) fun e w'' => e = .returned v ∧ ∃ m, w'' = w.drewN (a + m) := h.mono fun _ _ ⟨he, hm⟩ => ⟨he, n, hm.symm⟩

set_option maxHeartbeats 4000000 in
set_option maxRecDepth 100000 in
theorem impl_Cubic_ack.ack_a1 (g : Nat) (w_ s m o si n c aim need : Int) (w0 w : World) (hI : IsS26 w0 w g w_ s m o si n c) (hB : Below w0.heap.size w0 w) (h1 : 1 ≤ w_) (h2 : w_ ≤ 100000) (hlt : ¬ w_ < s) (h3 : 0 ≤ c) (h4 : c ≤ 100000) (h5 : 0 ≤ si) (h6 : si ≤ n) (h7 : n ≤ 1000000) (hc : impl_curve.f m o (n - si) = some aim) (ha : -1000000 ≤ aim ∧ aim ≤ 1000000) (hw : w_ < aim) (hne : aim - w_ ≠ 0) (hnd : Int.tdiv w_ (aim - w_) = need) (hgt : need < c + 1) (hn0 : 0 ≤ need) (hn1 : need ≤ 10000000) :
    Calls Try.prog 35 #[.pointer (some ⟨g, 0, none⟩)] w fun e w' => e = .returned (.tuple #[]) ∧ IsS26 w0 w' g (mn (w_ + 1) 100000) s m o si n 0 ∧ Below w0.heap.size w0 w' ∧ KeepBut w w' g none := by
  have HI := Aside0.mk hI
  have HB := Aside0.mk hB
  have HK := Aside0.mk (KeepBut.refl w g none)
  obtain ⟨hb, hg⟩ := hI
  have k0 := cellS26_0 hb
  have k1 := cellS26_1 hb
  have k2 := cellS26_2 hb
  have k3 := cellS26_3 hb
  have k4 := cellS26_4 hb
  have k5 := cellS26_5 hb
  have k6 := cellS26_6 hb
  have f0 := blk_frozen hb 0
  have f6 := blk_frozen hb 6
  have HG := Aside0.mk hg
  clear hb hg hB
  go_enter Try.func35, Try.ntmps35
  go_wp2
  go_quiet (fail)
  go_wp2
  go_quiet ((go_at_call 42; exact impl_Cubic_ack.q_addl (impl_Cubic_ack.curve_q _ _ _ _ _ hc)))
  go_wp2
  go_quiet (fail)
  go_wp2
  all_goals go_end0
  all_goals first | rw [mn, if_pos h] | rw [mn, if_neg (by omega)]
  all_goals exact ⟨rfl, (by apply IsS26.set_6; apply IsS26.set_0; apply IsS26.set_6; apply IsS26.set_6; apply IsS26.drewN; exact HI.out), below_set (below_set (below_set (below_set (pw_below_drewN HB.out _) HG.out) HG.out) HG.out) HG.out, by apply KeepBut.set_; apply KeepBut.set_; apply KeepBut.set_; apply KeepBut.set_; apply keep_drewN; exact HK.out⟩

set_option maxHeartbeats 4000000 in
set_option maxRecDepth 100000 in
theorem impl_Cubic_ack.ack_a0 (g : Nat) (w_ s m o si n c aim need : Int) (w0 w : World) (hI : IsS26 w0 w g w_ s m o si n c) (hB : Below w0.heap.size w0 w) (h1 : 1 ≤ w_) (h2 : w_ ≤ 100000) (hlt : ¬ w_ < s) (h3 : 0 ≤ c) (h4 : c ≤ 100000) (h5 : 0 ≤ si) (h6 : si ≤ n) (h7 : n ≤ 1000000) (hc : impl_curve.f m o (n - si) = some aim) (ha : -1000000 ≤ aim ∧ aim ≤ 1000000) (hw : w_ < aim) (hne : aim - w_ ≠ 0) (hnd : Int.tdiv w_ (aim - w_) = need) (hgt : ¬ need < c + 1) (hn0 : 0 ≤ need) (hn1 : need ≤ 10000000) :
    Calls Try.prog 35 #[.pointer (some ⟨g, 0, none⟩)] w fun e w' => e = .returned (.tuple #[]) ∧ IsS26 w0 w' g w_ s m o si n (mn (c + 1) 100000) ∧ Below w0.heap.size w0 w' ∧ KeepBut w w' g none := by
  have HI := Aside0.mk hI
  have HB := Aside0.mk hB
  have HK := Aside0.mk (KeepBut.refl w g none)
  obtain ⟨hb, hg⟩ := hI
  have k0 := cellS26_0 hb
  have k1 := cellS26_1 hb
  have k2 := cellS26_2 hb
  have k3 := cellS26_3 hb
  have k4 := cellS26_4 hb
  have k5 := cellS26_5 hb
  have k6 := cellS26_6 hb
  have f0 := blk_frozen hb 0
  have f6 := blk_frozen hb 6
  have HG := Aside0.mk hg
  clear hb hg hB
  go_enter Try.func35, Try.ntmps35
  go_wp2
  go_quiet (fail)
  go_wp2
  go_quiet ((go_at_call 42; exact impl_Cubic_ack.q_addl (impl_Cubic_ack.curve_q _ _ _ _ _ hc)))
  go_wp2
  go_quiet (fail)
  go_wp2
  all_goals go_end0
  all_goals first | rw [mn, if_pos h] | rw [mn, if_neg (by omega)]
  all_goals exact ⟨rfl, (by apply IsS26.set_6; apply IsS26.set_6; apply IsS26.drewN; exact HI.out), below_set (below_set (pw_below_drewN HB.out _) HG.out) HG.out, by apply KeepBut.set_; apply KeepBut.set_; apply keep_drewN; exact HK.out⟩

set_option maxHeartbeats 4000000 in
set_option maxRecDepth 100000 in
theorem impl_Cubic_ack.ack_b1 (g : Nat) (w_ s m o si n c aim need : Int) (w0 w : World) (hI : IsS26 w0 w g w_ s m o si n c) (hB : Below w0.heap.size w0 w) (h1 : 1 ≤ w_) (h2 : w_ ≤ 100000) (hlt : ¬ w_ < s) (h3 : 0 ≤ c) (h4 : c ≤ 100000) (h5 : 0 ≤ si) (h6 : si ≤ n) (h7 : n ≤ 1000000) (hc : impl_curve.f m o (n - si) = some aim) (ha : -1000000 ≤ aim ∧ aim ≤ 1000000) (hw : ¬ w_ < aim) (hnd : 100 * w_ = need) (hgt : need < c + 1) (hn0 : 0 ≤ need) (hn1 : need ≤ 10000000) :
    Calls Try.prog 35 #[.pointer (some ⟨g, 0, none⟩)] w fun e w' => e = .returned (.tuple #[]) ∧ IsS26 w0 w' g (mn (w_ + 1) 100000) s m o si n 0 ∧ Below w0.heap.size w0 w' ∧ KeepBut w w' g none := by
  have HI := Aside0.mk hI
  have HB := Aside0.mk hB
  have HK := Aside0.mk (KeepBut.refl w g none)
  obtain ⟨hb, hg⟩ := hI
  have k0 := cellS26_0 hb
  have k1 := cellS26_1 hb
  have k2 := cellS26_2 hb
  have k3 := cellS26_3 hb
  have k4 := cellS26_4 hb
  have k5 := cellS26_5 hb
  have k6 := cellS26_6 hb
  have f0 := blk_frozen hb 0
  have f6 := blk_frozen hb 6
  have HG := Aside0.mk hg
  clear hb hg hB
  go_enter Try.func35, Try.ntmps35
  go_wp2
  go_quiet (fail)
  go_wp2
  go_quiet ((go_at_call 42; exact impl_Cubic_ack.q_addl (impl_Cubic_ack.curve_q _ _ _ _ _ hc)))
  go_wp2
  all_goals go_end0
  all_goals first | rw [mn, if_pos h] | rw [mn, if_neg (by omega)]
  all_goals exact ⟨rfl, (by apply IsS26.set_6; apply IsS26.set_0; apply IsS26.set_6; apply IsS26.set_6; apply IsS26.drewN; exact HI.out), below_set (below_set (below_set (below_set (pw_below_drewN HB.out _) HG.out) HG.out) HG.out) HG.out, by apply KeepBut.set_; apply KeepBut.set_; apply KeepBut.set_; apply KeepBut.set_; apply keep_drewN; exact HK.out⟩

set_option maxHeartbeats 4000000 in
set_option maxRecDepth 100000 in
theorem impl_Cubic_ack.ack_b0 (g : Nat) (w_ s m o si n c aim need : Int) (w0 w : World) (hI : IsS26 w0 w g w_ s m o si n c) (hB : Below w0.heap.size w0 w) (h1 : 1 ≤ w_) (h2 : w_ ≤ 100000) (hlt : ¬ w_ < s) (h3 : 0 ≤ c) (h4 : c ≤ 100000) (h5 : 0 ≤ si) (h6 : si ≤ n) (h7 : n ≤ 1000000) (hc : impl_curve.f m o (n - si) = some aim) (ha : -1000000 ≤ aim ∧ aim ≤ 1000000) (hw : ¬ w_ < aim) (hnd : 100 * w_ = need) (hgt : ¬ need < c + 1) (hn0 : 0 ≤ need) (hn1 : need ≤ 10000000) :
    Calls Try.prog 35 #[.pointer (some ⟨g, 0, none⟩)] w fun e w' => e = .returned (.tuple #[]) ∧ IsS26 w0 w' g w_ s m o si n (mn (c + 1) 100000) ∧ Below w0.heap.size w0 w' ∧ KeepBut w w' g none := by
  have HI := Aside0.mk hI
  have HB := Aside0.mk hB
  have HK := Aside0.mk (KeepBut.refl w g none)
  obtain ⟨hb, hg⟩ := hI
  have k0 := cellS26_0 hb
  have k1 := cellS26_1 hb
  have k2 := cellS26_2 hb
  have k3 := cellS26_3 hb
  have k4 := cellS26_4 hb
  have k5 := cellS26_5 hb
  have k6 := cellS26_6 hb
  have f0 := blk_frozen hb 0
  have f6 := blk_frozen hb 6
  have HG := Aside0.mk hg
  clear hb hg hB
  go_enter Try.func35, Try.ntmps35
  go_wp2
  go_quiet (fail)
  go_wp2
  go_quiet ((go_at_call 42; exact impl_Cubic_ack.q_addl (impl_Cubic_ack.curve_q _ _ _ _ _ hc)))
  go_wp2
  all_goals go_end0
  all_goals first | rw [mn, if_pos h] | rw [mn, if_neg (by omega)]
  all_goals exact ⟨rfl, (by apply IsS26.set_6; apply IsS26.set_6; apply IsS26.drewN; exact HI.out), below_set (below_set (pw_below_drewN HB.out _) HG.out) HG.out, by apply KeepBut.set_; apply KeepBut.set_; apply keep_drewN; exact HK.out⟩


set_option maxHeartbeats 8000000 in
set_option maxRecDepth 100000 in
theorem impl_Cubic_ack.calls (g : Nat) (s0_0 : Int) (s0_1 : Int) (s0_2 : Int) (s0_3 : Int) (s0_4 : Int) (s0_5 : Int) (s0_6 : Int) (r1 : Int) (r2 : Int) (r3 : Int) (r4 : Int) (r5 : Int) (r6 : Int) (r7 : Int) (w0 w : World) (hI : IsS26 w0 w g s0_0 s0_1 s0_2 s0_3 s0_4 s0_5 s0_6) (hB : Below w0.heap.size w0 w) (h : impl_Cubic_ack.f s0_0 s0_1 s0_2 s0_3 s0_4 s0_5 s0_6 = some (r1, r2, r3, r4, r5, r6, r7)) :
    Calls Try.prog 35 #[.pointer (some ⟨g, 0, none⟩)] w fun e w' => e = .returned (.tuple #[]) ∧ IsS26 w0 w' g r1 r2 r3 r4 r5 r6 r7 ∧ Below w0.heap.size w0 w' ∧ KeepBut w w' g none := by
  unfold impl_Cubic_ack.f at h
  by_cases hb : 1 ≤ s0_0 ∧ s0_0 ≤ 100000 ∧ 0 ≤ s0_6 ∧ s0_6 ≤ 100000 ∧ 0 ≤ s0_4 ∧ s0_4 ≤ s0_5 ∧ s0_5 ≤ 1000000
  case neg => rw [if_neg hb] at h; cases h
  rw [if_pos hb] at h
  obtain ⟨h1, h2, h3, h4, h5, h6, h7⟩ := hb
  by_cases hlt : s0_0 < s0_1
  case pos =>
    rw [if_pos hlt] at h
    simp only [Option.some.injEq, Prod.mk.injEq] at h
    obtain ⟨rfl, rfl, rfl, rfl, rfl, rfl, rfl⟩ := h
    exact impl_Cubic_ack.ack_slow g _ _ _ _ _ _ _ w0 w hI hB h1 h2 hlt
  rw [if_neg hlt] at h
  obtain ⟨aim, hc, h⟩ := Option.bind_eq_some_iff.mp h
  by_cases ha : -1000000 ≤ aim ∧ aim ≤ 1000000
  case neg => rw [if_neg ha] at h; cases h
  rw [if_pos ha] at h
  by_cases hw : s0_0 < aim
  · rw [if_pos hw] at h
    have hdiv : Int.tdiv s0_0 (aim - s0_0) = s0_0 / (aim - s0_0) := Int.tdiv_eq_ediv_of_nonneg (by omega)
    have hd0 : 0 ≤ s0_0 / (aim - s0_0) := Int.ediv_nonneg (by omega) (by omega)
    have hd1 : s0_0 / (aim - s0_0) ≤ s0_0 := Int.ediv_le_self _ (by omega)
    by_cases hgt : s0_0 / (aim - s0_0) < s0_6 + 1
    · rw [if_pos hgt] at h
      simp only [Option.some.injEq, Prod.mk.injEq] at h
      obtain ⟨rfl, rfl, rfl, rfl, rfl, rfl, rfl⟩ := h
      exact impl_Cubic_ack.ack_a1 g _ _ _ _ _ _ _ aim _ w0 w hI hB h1 h2 hlt h3 h4 h5 h6 h7 hc ha hw (by omega) hdiv hgt hd0 (by omega)
    · rw [if_neg hgt] at h
      simp only [Option.some.injEq, Prod.mk.injEq] at h
      obtain ⟨rfl, rfl, rfl, rfl, rfl, rfl, rfl⟩ := h
      exact impl_Cubic_ack.ack_a0 g _ _ _ _ _ _ _ aim _ w0 w hI hB h1 h2 hlt h3 h4 h5 h6 h7 hc ha hw (by omega) hdiv hgt hd0 (by omega)
  · rw [if_neg hw] at h
    by_cases hgt : 100 * s0_0 < s0_6 + 1
    · rw [if_pos hgt] at h
      simp only [Option.some.injEq, Prod.mk.injEq] at h
      obtain ⟨rfl, rfl, rfl, rfl, rfl, rfl, rfl⟩ := h
      exact impl_Cubic_ack.ack_b1 g _ _ _ _ _ _ _ aim _ w0 w hI hB h1 h2 hlt h3 h4 h5 h6 h7 hc ha hw rfl hgt (by omega) (by omega)
    · rw [if_neg hgt] at h
      simp only [Option.some.injEq, Prod.mk.injEq] at h
      obtain ⟨rfl, rfl, rfl, rfl, rfl, rfl, rfl⟩ := h
      exact impl_Cubic_ack.ack_b0 g _ _ _ _ _ _ _ aim _ w0 w hI hB h1 h2 hlt h3 h4 h5 h6 h7 hc ha hw rfl hgt (by omega) (by omega)

end Go.Proofs.Ytjfbeakmpmjadaa.PWin

namespace Go.Proofs.Ytjfbeakmpmjadaa.PWin
open Go.RowKit Go.Proofs.YtjfbeakmpmjadaaW.PrintWords Go.Proofs.YtjfbeakmpmjadaaW.PrintLast Go.Proofs.YtjfbeakmpmjadaaW.PrintMore
attribute [local go_sem] max2_int min2_int max_two min_two max_three min_three max_four min_four   -- for this text's walks alone
set_option linter.unusedVariables false
set_option linter.unusedSimpArgs false

/-! ### impl_cubeRoot: function 43 -/
def impl_cubeRoot.l0 : Nat → Int → Int → Int → Option (Int)
  | 0, _, _, _ => none
  | k + 1, x0, x3, x4 => if x4 > 0 then (if (wrap64 (x3 + x4)) ≤ 1048576 then (if (wrap64 ((wrap64 ((wrap64 (x3 + x4)) * (wrap64 (x3 + x4)))) * (wrap64 (x3 + x4)))) ≤ x0 then (impl_cubeRoot.l0 k x0 (wrap64 (x3 + x4)) (x4 / 2)) else (impl_cubeRoot.l0 k x0 x3 (x4 / 2))) else (impl_cubeRoot.l0 k x0 x3 (x4 / 2))) else (some x3)
def impl_cubeRoot.f (k : Nat) (a0 : Int) : Option (Int) := impl_cubeRoot.l0 k a0 0 1048576
theorem impl_cubeRoot.mono_l : ∀ k, (∀ y0 y1 y2, LeO (impl_cubeRoot.l0 k y0 y1 y2) (impl_cubeRoot.l0 (k + 1) y0 y1 y2))
  | 0 => fun _ _ _ r h => by simp [impl_cubeRoot.l0] at h
  | k + 1 => by
    have ih0 := impl_cubeRoot.mono_l k
    · intro y0 y1 y2
      unfold impl_cubeRoot.l0
      repeat' first
      | (with_reducible exact ih0 _ _ _)
      | (with_reducible exact LeO.refl _)
      | (with_reducible exact LeO.none _)
      | (with_reducible refine LeO.ite ?_ ?_)
      | (with_reducible refine LeO.bind ?_ (fun _ => ?_))
      | exact ih0 _ _ _
      | exact LeO.none _
      | refine LeO.ite ?_ ?_
      | refine LeO.bind ?_ (fun _ => ?_)
theorem impl_cubeRoot.mono : ∀ a0 k, LeO (impl_cubeRoot.f k a0) (impl_cubeRoot.f (k + 1) a0) := by
  intro a0 k
  have ih0 := impl_cubeRoot.mono_l k
  unfold impl_cubeRoot.f
  repeat' first
      | (with_reducible exact ih0 _ _ _)
      | (with_reducible exact LeO.refl _)
      | (with_reducible exact LeO.none _)
      | (with_reducible refine LeO.ite ?_ ?_)
      | (with_reducible refine LeO.bind ?_ (fun _ => ?_))
      | exact ih0 _ _ _
      | exact LeO.none _
      | refine LeO.ite ?_ ?_
      | refine LeO.bind ?_ (fun _ => ?_)
set_option maxHeartbeats 8000000 in
set_option maxRecDepth 100000 in
theorem impl_cubeRoot.calls (k : Nat) (a0 : Int) (r : Int) (w : World) (h : impl_cubeRoot.f k a0 = some r) :
    Calls Try.prog 43 #[.int .i64 a0] w fun e w' => e = .returned (.int .i64 r) ∧ Drawn0 w w' := by
  have H : (impl_cubeRoot.l0 k a0 0 1048576) = some r := h
  clear h
  have H' := Aside0.mk H
  clear H
  go_enter Try.func43, Try.ntmps43
  go_wp2
  go_loopg [3, 4] k (fun kq v3 v4 w' => ∃ (x3_1 : Int) (x4_1 : Int), v3 = .int .i64 x3_1 ∧ v4 = .int .i64 x4_1 ∧ Aside0 (impl_cubeRoot.l0 kq a0 x3_1 x4_1 = some r) ∧ Aside0 (kq ≤ k) ∧ Drawn0 w w')
  case atStart => exact ⟨(0), (1048576), (by first | rfl | (simp; done) | (simp [*]; done)), (by first | rfl | (simp; done) | (simp [*]; done)), H', ⟨Nat.le_refl _⟩, by repeat (first | exact Drawn0.refl _ | apply Drawn0.step)⟩
  case round =>
    clear H'
    obtain ⟨x3_1, x4_1, rfl, rfl, HA, HK1, ⟨m1, rfl⟩⟩ := hrel
    cases gk with
    | zero => exact absurd HA.out (by simp [impl_cubeRoot.l0])
    | succ k1 =>
      have H := HA.out
      clear HA
      simp only [impl_cubeRoot.l0] at H
      by_cases c2 : x4_1 > 0
      · rw [if_pos c2] at H
        have c2b0 : decide (0 < x4_1) = true := decide_eq_true c2
        clear c2
        by_cases c3 : (wrap64 (x3_1 + x4_1)) ≤ 1048576
        · rw [if_pos c3] at H
          have c3b0 : decide ((wrap64 (x3_1 + x4_1)) ≤ 1048576) = true := decide_eq_true c3
          clear c3
          by_cases c4 : (wrap64 ((wrap64 ((wrap64 (x3_1 + x4_1)) * (wrap64 (x3_1 + x4_1)))) * (wrap64 (x3_1 + x4_1)))) ≤ a0
          · rw [if_pos c4] at H
            have c4b0 : decide ((wrap64 ((wrap64 ((wrap64 (x3_1 + x4_1)) * (wrap64 (x3_1 + x4_1)))) * (wrap64 (x3_1 + x4_1)))) ≤ a0) = true := decide_eq_true c4
            clear c4
            have H' := Aside0.mk H
            clear H
            go_wp2
            go_roundg k1
            case measure => have := HK1.out; omega
            case rel => exact ⟨(wrap64 (x3_1 + x4_1)), (x4_1 / 2), (by first | rfl | (simp; done) | (simp [*]; done)), (by first | rfl | (simp; done) | (simp [*]; done)), H', ⟨by have := HK1.out; omega⟩, by repeat (first | exact Drawn0.refl _ | apply Drawn0.step)⟩
          · rw [if_neg c4] at H
            have c4b0 : decide ((wrap64 ((wrap64 ((wrap64 (x3_1 + x4_1)) * (wrap64 (x3_1 + x4_1)))) * (wrap64 (x3_1 + x4_1)))) ≤ a0) = false := decide_eq_false c4
            clear c4
            have H' := Aside0.mk H
            clear H
            go_wp2
            go_roundg k1
            case measure => have := HK1.out; omega
            case rel => exact ⟨(x3_1), (x4_1 / 2), (by first | rfl | (simp; done) | (simp [*]; done)), (by first | rfl | (simp; done) | (simp [*]; done)), H', ⟨by have := HK1.out; omega⟩, by repeat (first | exact Drawn0.refl _ | apply Drawn0.step)⟩
        · rw [if_neg c3] at H
          have c3b0 : decide ((wrap64 (x3_1 + x4_1)) ≤ 1048576) = false := decide_eq_false c3
          clear c3
          have H' := Aside0.mk H
          clear H
          go_wp2
          go_roundg k1
          case measure => have := HK1.out; omega
          case rel => exact ⟨(x3_1), (x4_1 / 2), (by first | rfl | (simp; done) | (simp [*]; done)), (by first | rfl | (simp; done) | (simp [*]; done)), H', ⟨by have := HK1.out; omega⟩, by repeat (first | exact Drawn0.refl _ | apply Drawn0.step)⟩
      · rw [if_neg c2] at H
        have c2b0 : decide (0 < x4_1) = false := decide_eq_false c2
        clear c2
        obtain rfl := Option.some.inj H
        go_wp2
        go_ret
        exact ⟨by first | rfl | (simp; done) | (simp [*]; done), by repeat (first | exact Drawn0.refl _ | apply Drawn0.step)⟩

end Go.Proofs.Ytjfbeakmpmjadaa.PWin

namespace Go.Proofs.Ytjfbeakmpmjadaa.PWin
open Go.RowKit Go.Proofs.YtjfbeakmpmjadaaW.PrintWords Go.Proofs.YtjfbeakmpmjadaaW.PrintLast Go.Proofs.YtjfbeakmpmjadaaW.PrintMore
attribute [local go_sem] max2_int min2_int max_two min_two max_three min_three max_four min_four   -- for this text's walks alone
set_option linter.unusedVariables false
set_option linter.unusedSimpArgs false

/-! ### impl_Cubic_loss: function 36 -/
def impl_Cubic_loss.f (k : Nat) (s0_0 : Int) (s0_1 : Int) (s0_2 : Int) (s0_3 : Int) (s0_4 : Int) (s0_5 : Int) (s0_6 : Int) : Option (Int × Int × Int × Int × Int × Int × Int) :=
  if 1 ≤ s0_0 ∧ s0_0 ≤ 100000 ∧ 0 ≤ s0_2 ∧ s0_2 ≤ 100000 then
    (impl_cubeRoot.f k (1000000000 * (10 * (mx ((if s0_0 < s0_2 then 17 * s0_0 / 20 else s0_0) - mx (7 * s0_0 / 10) 2) 0) / 4))).bind fun r =>
      some (mx (7 * s0_0 / 10) 2, mx (7 * s0_0 / 10) 2, (if s0_0 < s0_2 then 17 * s0_0 / 20 else s0_0), r, s0_5, s0_5, 0)
  else none
theorem impl_Cubic_loss.mono : ∀ a0 a1 a2 a3 a4 a5 a6 k, LeO (impl_Cubic_loss.f k a0 a1 a2 a3 a4 a5 a6) (impl_Cubic_loss.f (k + 1) a0 a1 a2 a3 a4 a5 a6) := by
  intro a0 a1 a2 a3 a4 a5 a6 k
  unfold impl_Cubic_loss.f
  exact LeO.ite (LeO.bind (impl_cubeRoot.mono _ _) (fun _ => LeO.refl _)) (LeO.none _)

theorem impl_Cubic_loss.wp_gen {P : Program} {c : Code} {Q : Exit → Act → World → Prop} {a : Act} {w1 : World} (F : World → Prop) (hF : F w1) (h : ∀ W, F W → Code.wp P c Q a W) : Code.wp P c Q a w1 := h _ hF
set_option maxHeartbeats 8000000 in
set_option maxRecDepth 100000 in
theorem impl_Cubic_loss.root_q (k : Nat) (a0 : Int) (r : Int) (w : World) (h : impl_cubeRoot.f k a0 = some r) :
    Calls Try.prog 43 #[.int .i64 a0] w fun e w' => e = .returned (.int .i64 r) ∧ w = w' := by
  have H : (impl_cubeRoot.l0 k a0 0 1048576) = some r := h
  clear h
  have H' := Aside0.mk H
  clear H
  go_enter Try.func43, Try.ntmps43
  go_wp2
  go_loopg [3, 4] k (fun kq v3 v4 w' => ∃ (x3_1 : Int) (x4_1 : Int), v3 = .int .i64 x3_1 ∧ v4 = .int .i64 x4_1 ∧ Aside0 (impl_cubeRoot.l0 kq a0 x3_1 x4_1 = some r) ∧ Aside0 (kq ≤ k) ∧ w = w')
  case atStart => exact ⟨(0), (1048576), (by first | rfl | (simp; done) | (simp [*]; done)), (by first | rfl | (simp; done) | (simp [*]; done)), H', ⟨Nat.le_refl _⟩, by rfl⟩
  case round =>
    clear H'
    obtain ⟨x3_1, x4_1, rfl, rfl, HA, HK1, rfl⟩ := hrel
    cases gk with
    | zero => exact absurd HA.out (by simp [impl_cubeRoot.l0])
    | succ k1 =>
      have H := HA.out
      clear HA
      simp only [impl_cubeRoot.l0] at H
      by_cases c2 : x4_1 > 0
      · rw [if_pos c2] at H
        have c2b0 : decide (0 < x4_1) = true := decide_eq_true c2
        clear c2
        by_cases c3 : (wrap64 (x3_1 + x4_1)) ≤ 1048576
        · rw [if_pos c3] at H
          have c3b0 : decide ((wrap64 (x3_1 + x4_1)) ≤ 1048576) = true := decide_eq_true c3
          clear c3
          by_cases c4 : (wrap64 ((wrap64 ((wrap64 (x3_1 + x4_1)) * (wrap64 (x3_1 + x4_1)))) * (wrap64 (x3_1 + x4_1)))) ≤ a0
          · rw [if_pos c4] at H
            have c4b0 : decide ((wrap64 ((wrap64 ((wrap64 (x3_1 + x4_1)) * (wrap64 (x3_1 + x4_1)))) * (wrap64 (x3_1 + x4_1)))) ≤ a0) = true := decide_eq_true c4
            clear c4
            have H' := Aside0.mk H
            clear H
            go_wp2
            go_roundg k1
            case measure => have := HK1.out; omega
            case rel => exact ⟨(wrap64 (x3_1 + x4_1)), (x4_1 / 2), (by first | rfl | (simp; done) | (simp [*]; done)), (by first | rfl | (simp; done) | (simp [*]; done)), H', ⟨by have := HK1.out; omega⟩, by rfl⟩
          · rw [if_neg c4] at H
            have c4b0 : decide ((wrap64 ((wrap64 ((wrap64 (x3_1 + x4_1)) * (wrap64 (x3_1 + x4_1)))) * (wrap64 (x3_1 + x4_1)))) ≤ a0) = false := decide_eq_false c4
            clear c4
            have H' := Aside0.mk H
            clear H
            go_wp2
            go_roundg k1
            case measure => have := HK1.out; omega
            case rel => exact ⟨(x3_1), (x4_1 / 2), (by first | rfl | (simp; done) | (simp [*]; done)), (by first | rfl | (simp; done) | (simp [*]; done)), H', ⟨by have := HK1.out; omega⟩, by rfl⟩
        · rw [if_neg c3] at H
          have c3b0 : decide ((wrap64 (x3_1 + x4_1)) ≤ 1048576) = false := decide_eq_false c3
          clear c3
          have H' := Aside0.mk H
          clear H
          go_wp2
          go_roundg k1
          case measure => have := HK1.out; omega
          case rel => exact ⟨(x3_1), (x4_1 / 2), (by first | rfl | (simp; done) | (simp [*]; done)), (by first | rfl | (simp; done) | (simp [*]; done)), H', ⟨by have := HK1.out; omega⟩, by rfl⟩
      · rw [if_neg c2] at H
        have c2b0 : decide (0 < x4_1) = false := decide_eq_false c2
        clear c2
        obtain rfl := Option.some.inj H
        go_wp2
        go_ret
        exact ⟨by first | rfl | (simp; done) | (simp [*]; done), by rfl⟩


set_option maxHeartbeats 2000000 in
set_option maxRecDepth 100000 in
theorem impl_Cubic_loss.loss_00 (k g : Nat) (w_ s m o si n c q1 q2 q3 dd r : Int) (w0 w : World) (hI : IsS26 w0 w g w_ s m o si n c) (hB : Below w0.heap.size w0 w) (h1 : 1 ≤ w_) (h2 : w_ ≤ 100000) (h3 : 0 ≤ m) (h4 : m ≤ 100000) (e1 : Int.tdiv (17 * w_) 20 = q1) (b1 : 0 ≤ q1) (b2 : q1 ≤ 100000) (e2 : Int.tdiv (7 * w_) 10 = q2) (b3 : 0 ≤ q2) (b4 : q2 ≤ 100000) (e0 : (if w_ - q2 < 0 then 0 else w_ - q2) = dd) (b7 : 0 ≤ dd) (b8 : dd ≤ 100000) (e3 : Int.tdiv (10 * dd) 4 = q3) (b5 : 0 ≤ q3) (b6 : q3 ≤ 1000000) (d1 : ¬ w_ < m) (d2 : ¬ q2 < 2) (hc : impl_cubeRoot.f k (1000000000 * q3) = some r) :
    Calls Try.prog 36 #[.pointer (some ⟨g, 0, none⟩)] w fun e w' => e = .returned (.tuple #[]) ∧ IsS26 w0 w' g (q2) (q2) w_ r n n 0 ∧ Below w0.heap.size w0 w' ∧ KeepBut w w' g none := by
  have HV : IntKind.i64.wrap (1000000000 * IntKind.i64.wrap ((IntKind.i64.wrap (10 * if IntKind.i64.wrap (w_ - q2) < 0 then 0 else IntKind.i64.wrap (w_ - q2))).tdiv 4)) = 1000000000 * q3 := by
    rw [show IntKind.i64.wrap (w_ - q2) = w_ - q2 from IntWalk.i64_in _ (by omega), e0, show IntKind.i64.wrap (10 * dd) = 10 * dd from IntWalk.i64_in _ (by omega), e3, show IntKind.i64.wrap q3 = q3 from IntWalk.i64_in _ (by omega)]
    exact IntWalk.i64_in _ (by omega)
  replace HV := Aside0.mk HV
  have HI := Aside0.mk hI
  have HB := Aside0.mk hB
  have HK := Aside0.mk (KeepBut.refl w g none)
  have HC := Aside0.mk hc
  obtain ⟨hb, hg⟩ := hI
  have k0 := cellS26_0 hb
  have k1 := cellS26_1 hb
  have k2 := cellS26_2 hb
  have k3 := cellS26_3 hb
  have k4 := cellS26_4 hb
  have k5 := cellS26_5 hb
  have k6 := cellS26_6 hb
  have f0 := blk_frozen hb 0
  have f1 := blk_frozen hb 1
  have f2 := blk_frozen hb 2
  have f3 := blk_frozen hb 3
  have f4 := blk_frozen hb 4
  have f6 := blk_frozen hb 6
  have HG := Aside0.mk hg
  clear hb hg hB hc e0 e3 b5 b6 b7 b8
  go_enter Try.func36, Try.ntmps36
  go_wp2
  go_quiet (fail)
  go_wp2
  go_region
  all_goals go_wp2
  refine impl_Cubic_loss.wp_gen (fun W => IsS26 w0 W g (q2) (q2) w_ o n n 0 ∧ Below w0.heap.size w0 W ∧ KeepBut w W g none) ⟨?_, ?_, ?_⟩ ?_
  case refine_1 => with_reducible (repeat (first | exact HI.out | apply IsS26.drewN | apply IsS26.drew | apply IsS26.set_0 | apply IsS26.set_1 | apply IsS26.set_2 | apply IsS26.set_4 | apply IsS26.set_6))
  case refine_2 => with_reducible (repeat (first | exact HB.out | apply pw_below_drewN | apply below_drew1 | refine below_set ?_ HG.out))
  case refine_3 => with_reducible (repeat (first | exact HK.out | apply KeepBut.set_ | apply keep_drewN | apply keep_drew))
  rintro W ⟨hI2, hB2, hK2⟩
  clear k0 k1 k2 k3 k4 k5 k6 f0 f1 f2 f3 f4 f6 HI HB HK
  have HI := Aside0.mk hI2
  have HB := Aside0.mk hB2
  have HK := Aside0.mk hK2
  obtain ⟨hb, hg⟩ := hI2
  have k0 := cellS26_0 hb
  have k2 := cellS26_2 hb
  have k3 := cellS26_3 hb
  have f3 := blk_frozen hb 3
  clear hb hg hB2 hK2
  have HC1 := HC.out
  refine wp_region_still_tail 15 (by kernel_rfl) (by kernel_rfl) ?_
  simp only [List.take_succ_cons, List.take_zero, List.drop_succ_cons, List.drop_zero]
  clear h1 h2 h3 h4 b1 b2 b3 b4
  iterate 14 still_step
  refine wpStill_step (fun K hK => ?_)
  go_simp
  rw [HV.out]
  refine ⟨_, (impl_Cubic_loss.root_q _ _ _ _ HC1).mono fun e w' h => ⟨h.1, h.2.symm⟩, hK _ ?_⟩
  clear hK K
  refine wpStill_nil ?_
  change wpList _ _ _ _ _ W.drew
  go_wp2
  all_goals go_end0
  all_goals exact ⟨rfl, by with_reducible (repeat (first | exact HI.out | apply IsS26.drewN | apply IsS26.drew | apply IsS26.set_3)), by with_reducible (repeat (first | exact HB.out | apply pw_below_drewN | apply below_drew1 | refine below_set ?_ HG.out)), by with_reducible (repeat (first | exact HK.out | apply KeepBut.set_ | apply keep_drewN | apply keep_drew))⟩

set_option maxHeartbeats 2000000 in
set_option maxRecDepth 100000 in
theorem impl_Cubic_loss.loss_01 (k g : Nat) (w_ s m o si n c q1 q2 q3 dd r : Int) (w0 w : World) (hI : IsS26 w0 w g w_ s m o si n c) (hB : Below w0.heap.size w0 w) (h1 : 1 ≤ w_) (h2 : w_ ≤ 100000) (h3 : 0 ≤ m) (h4 : m ≤ 100000) (e1 : Int.tdiv (17 * w_) 20 = q1) (b1 : 0 ≤ q1) (b2 : q1 ≤ 100000) (e2 : Int.tdiv (7 * w_) 10 = q2) (b3 : 0 ≤ q2) (b4 : q2 ≤ 100000) (e0 : (if w_ - 2 < 0 then 0 else w_ - 2) = dd) (b7 : 0 ≤ dd) (b8 : dd ≤ 100000) (e3 : Int.tdiv (10 * dd) 4 = q3) (b5 : 0 ≤ q3) (b6 : q3 ≤ 1000000) (d1 : ¬ w_ < m) (d2 : q2 < 2) (hc : impl_cubeRoot.f k (1000000000 * q3) = some r) :
    Calls Try.prog 36 #[.pointer (some ⟨g, 0, none⟩)] w fun e w' => e = .returned (.tuple #[]) ∧ IsS26 w0 w' g (2) (2) w_ r n n 0 ∧ Below w0.heap.size w0 w' ∧ KeepBut w w' g none := by
  have HV : IntKind.i64.wrap (1000000000 * IntKind.i64.wrap ((IntKind.i64.wrap (10 * if IntKind.i64.wrap (w_ - 2) < 0 then 0 else IntKind.i64.wrap (w_ - 2))).tdiv 4)) = 1000000000 * q3 := by
    rw [show IntKind.i64.wrap (w_ - 2) = w_ - 2 from IntWalk.i64_in _ (by omega), e0, show IntKind.i64.wrap (10 * dd) = 10 * dd from IntWalk.i64_in _ (by omega), e3, show IntKind.i64.wrap q3 = q3 from IntWalk.i64_in _ (by omega)]
    exact IntWalk.i64_in _ (by omega)
  replace HV := Aside0.mk HV
  have HI := Aside0.mk hI
  have HB := Aside0.mk hB
  have HK := Aside0.mk (KeepBut.refl w g none)
  have HC := Aside0.mk hc
  obtain ⟨hb, hg⟩ := hI
  have k0 := cellS26_0 hb
  have k1 := cellS26_1 hb
  have k2 := cellS26_2 hb
  have k3 := cellS26_3 hb
  have k4 := cellS26_4 hb
  have k5 := cellS26_5 hb
  have k6 := cellS26_6 hb
  have f0 := blk_frozen hb 0
  have f1 := blk_frozen hb 1
  have f2 := blk_frozen hb 2
  have f3 := blk_frozen hb 3
  have f4 := blk_frozen hb 4
  have f6 := blk_frozen hb 6
  have HG := Aside0.mk hg
  clear hb hg hB hc e0 e3 b5 b6 b7 b8
  go_enter Try.func36, Try.ntmps36
  go_wp2
  go_quiet (fail)
  go_wp2
  go_region
  all_goals go_wp2
  refine impl_Cubic_loss.wp_gen (fun W => IsS26 w0 W g (2) (2) w_ o n n 0 ∧ Below w0.heap.size w0 W ∧ KeepBut w W g none) ⟨?_, ?_, ?_⟩ ?_
  case refine_1 => with_reducible (repeat (first | exact HI.out | apply IsS26.drewN | apply IsS26.drew | apply IsS26.set_0 | apply IsS26.set_1 | apply IsS26.set_2 | apply IsS26.set_4 | apply IsS26.set_6))
  case refine_2 => with_reducible (repeat (first | exact HB.out | apply pw_below_drewN | apply below_drew1 | refine below_set ?_ HG.out))
  case refine_3 => with_reducible (repeat (first | exact HK.out | apply KeepBut.set_ | apply keep_drewN | apply keep_drew))
  rintro W ⟨hI2, hB2, hK2⟩
  clear k0 k1 k2 k3 k4 k5 k6 f0 f1 f2 f3 f4 f6 HI HB HK
  have HI := Aside0.mk hI2
  have HB := Aside0.mk hB2
  have HK := Aside0.mk hK2
  obtain ⟨hb, hg⟩ := hI2
  have k0 := cellS26_0 hb
  have k2 := cellS26_2 hb
  have k3 := cellS26_3 hb
  have f3 := blk_frozen hb 3
  clear hb hg hB2 hK2
  have HC1 := HC.out
  refine wp_region_still_tail 15 (by kernel_rfl) (by kernel_rfl) ?_
  simp only [List.take_succ_cons, List.take_zero, List.drop_succ_cons, List.drop_zero]
  clear h1 h2 h3 h4 b1 b2 b3 b4
  iterate 14 still_step
  refine wpStill_step (fun K hK => ?_)
  go_simp
  rw [HV.out]
  refine ⟨_, (impl_Cubic_loss.root_q _ _ _ _ HC1).mono fun e w' h => ⟨h.1, h.2.symm⟩, hK _ ?_⟩
  clear hK K
  refine wpStill_nil ?_
  change wpList _ _ _ _ _ W.drew
  go_wp2
  all_goals go_end0
  all_goals exact ⟨rfl, by with_reducible (repeat (first | exact HI.out | apply IsS26.drewN | apply IsS26.drew | apply IsS26.set_3)), by with_reducible (repeat (first | exact HB.out | apply pw_below_drewN | apply below_drew1 | refine below_set ?_ HG.out)), by with_reducible (repeat (first | exact HK.out | apply KeepBut.set_ | apply keep_drewN | apply keep_drew))⟩

set_option maxHeartbeats 2000000 in
set_option maxRecDepth 100000 in
theorem impl_Cubic_loss.loss_10 (k g : Nat) (w_ s m o si n c q1 q2 q3 dd r : Int) (w0 w : World) (hI : IsS26 w0 w g w_ s m o si n c) (hB : Below w0.heap.size w0 w) (h1 : 1 ≤ w_) (h2 : w_ ≤ 100000) (h3 : 0 ≤ m) (h4 : m ≤ 100000) (e1 : Int.tdiv (17 * w_) 20 = q1) (b1 : 0 ≤ q1) (b2 : q1 ≤ 100000) (e2 : Int.tdiv (7 * w_) 10 = q2) (b3 : 0 ≤ q2) (b4 : q2 ≤ 100000) (e0 : (if q1 - q2 < 0 then 0 else q1 - q2) = dd) (b7 : 0 ≤ dd) (b8 : dd ≤ 100000) (e3 : Int.tdiv (10 * dd) 4 = q3) (b5 : 0 ≤ q3) (b6 : q3 ≤ 1000000) (d1 : w_ < m) (d2 : ¬ q2 < 2) (hc : impl_cubeRoot.f k (1000000000 * q3) = some r) :
    Calls Try.prog 36 #[.pointer (some ⟨g, 0, none⟩)] w fun e w' => e = .returned (.tuple #[]) ∧ IsS26 w0 w' g (q2) (q2) q1 r n n 0 ∧ Below w0.heap.size w0 w' ∧ KeepBut w w' g none := by
  have HV : IntKind.i64.wrap (1000000000 * IntKind.i64.wrap ((IntKind.i64.wrap (10 * if IntKind.i64.wrap (q1 - q2) < 0 then 0 else IntKind.i64.wrap (q1 - q2))).tdiv 4)) = 1000000000 * q3 := by
    rw [show IntKind.i64.wrap (q1 - q2) = q1 - q2 from IntWalk.i64_in _ (by omega), e0, show IntKind.i64.wrap (10 * dd) = 10 * dd from IntWalk.i64_in _ (by omega), e3, show IntKind.i64.wrap q3 = q3 from IntWalk.i64_in _ (by omega)]
    exact IntWalk.i64_in _ (by omega)
  replace HV := Aside0.mk HV
  have HI := Aside0.mk hI
  have HB := Aside0.mk hB
  have HK := Aside0.mk (KeepBut.refl w g none)
  have HC := Aside0.mk hc
  obtain ⟨hb, hg⟩ := hI
  have k0 := cellS26_0 hb
  have k1 := cellS26_1 hb
  have k2 := cellS26_2 hb
  have k3 := cellS26_3 hb
  have k4 := cellS26_4 hb
  have k5 := cellS26_5 hb
  have k6 := cellS26_6 hb
  have f0 := blk_frozen hb 0
  have f1 := blk_frozen hb 1
  have f2 := blk_frozen hb 2
  have f3 := blk_frozen hb 3
  have f4 := blk_frozen hb 4
  have f6 := blk_frozen hb 6
  have HG := Aside0.mk hg
  clear hb hg hB hc e0 e3 b5 b6 b7 b8
  go_enter Try.func36, Try.ntmps36
  go_wp2
  go_quiet (fail)
  go_wp2
  go_region
  all_goals go_wp2
  refine impl_Cubic_loss.wp_gen (fun W => IsS26 w0 W g (q2) (q2) q1 o n n 0 ∧ Below w0.heap.size w0 W ∧ KeepBut w W g none) ⟨?_, ?_, ?_⟩ ?_
  case refine_1 => with_reducible (repeat (first | exact HI.out | apply IsS26.drewN | apply IsS26.drew | apply IsS26.set_0 | apply IsS26.set_1 | apply IsS26.set_2 | apply IsS26.set_4 | apply IsS26.set_6))
  case refine_2 => with_reducible (repeat (first | exact HB.out | apply pw_below_drewN | apply below_drew1 | refine below_set ?_ HG.out))
  case refine_3 => with_reducible (repeat (first | exact HK.out | apply KeepBut.set_ | apply keep_drewN | apply keep_drew))
  rintro W ⟨hI2, hB2, hK2⟩
  clear k0 k1 k2 k3 k4 k5 k6 f0 f1 f2 f3 f4 f6 HI HB HK
  have HI := Aside0.mk hI2
  have HB := Aside0.mk hB2
  have HK := Aside0.mk hK2
  obtain ⟨hb, hg⟩ := hI2
  have k0 := cellS26_0 hb
  have k2 := cellS26_2 hb
  have k3 := cellS26_3 hb
  have f3 := blk_frozen hb 3
  clear hb hg hB2 hK2
  have HC1 := HC.out
  refine wp_region_still_tail 15 (by kernel_rfl) (by kernel_rfl) ?_
  simp only [List.take_succ_cons, List.take_zero, List.drop_succ_cons, List.drop_zero]
  clear h1 h2 h3 h4 b1 b2 b3 b4
  iterate 14 still_step
  refine wpStill_step (fun K hK => ?_)
  go_simp
  rw [HV.out]
  refine ⟨_, (impl_Cubic_loss.root_q _ _ _ _ HC1).mono fun e w' h => ⟨h.1, h.2.symm⟩, hK _ ?_⟩
  clear hK K
  refine wpStill_nil ?_
  change wpList _ _ _ _ _ W.drew
  go_wp2
  all_goals go_end0
  all_goals exact ⟨rfl, by with_reducible (repeat (first | exact HI.out | apply IsS26.drewN | apply IsS26.drew | apply IsS26.set_3)), by with_reducible (repeat (first | exact HB.out | apply pw_below_drewN | apply below_drew1 | refine below_set ?_ HG.out)), by with_reducible (repeat (first | exact HK.out | apply KeepBut.set_ | apply keep_drewN | apply keep_drew))⟩

set_option maxHeartbeats 2000000 in
set_option maxRecDepth 100000 in
theorem impl_Cubic_loss.loss_11 (k g : Nat) (w_ s m o si n c q1 q2 q3 dd r : Int) (w0 w : World) (hI : IsS26 w0 w g w_ s m o si n c) (hB : Below w0.heap.size w0 w) (h1 : 1 ≤ w_) (h2 : w_ ≤ 100000) (h3 : 0 ≤ m) (h4 : m ≤ 100000) (e1 : Int.tdiv (17 * w_) 20 = q1) (b1 : 0 ≤ q1) (b2 : q1 ≤ 100000) (e2 : Int.tdiv (7 * w_) 10 = q2) (b3 : 0 ≤ q2) (b4 : q2 ≤ 100000) (e0 : (if q1 - 2 < 0 then 0 else q1 - 2) = dd) (b7 : 0 ≤ dd) (b8 : dd ≤ 100000) (e3 : Int.tdiv (10 * dd) 4 = q3) (b5 : 0 ≤ q3) (b6 : q3 ≤ 1000000) (d1 : w_ < m) (d2 : q2 < 2) (hc : impl_cubeRoot.f k (1000000000 * q3) = some r) :
    Calls Try.prog 36 #[.pointer (some ⟨g, 0, none⟩)] w fun e w' => e = .returned (.tuple #[]) ∧ IsS26 w0 w' g (2) (2) q1 r n n 0 ∧ Below w0.heap.size w0 w' ∧ KeepBut w w' g none := by
  have HV : IntKind.i64.wrap (1000000000 * IntKind.i64.wrap ((IntKind.i64.wrap (10 * if IntKind.i64.wrap (q1 - 2) < 0 then 0 else IntKind.i64.wrap (q1 - 2))).tdiv 4)) = 1000000000 * q3 := by
    rw [show IntKind.i64.wrap (q1 - 2) = q1 - 2 from IntWalk.i64_in _ (by omega), e0, show IntKind.i64.wrap (10 * dd) = 10 * dd from IntWalk.i64_in _ (by omega), e3, show IntKind.i64.wrap q3 = q3 from IntWalk.i64_in _ (by omega)]
    exact IntWalk.i64_in _ (by omega)
  replace HV := Aside0.mk HV
  have HI := Aside0.mk hI
  have HB := Aside0.mk hB
  have HK := Aside0.mk (KeepBut.refl w g none)
  have HC := Aside0.mk hc
  obtain ⟨hb, hg⟩ := hI
  have k0 := cellS26_0 hb
  have k1 := cellS26_1 hb
  have k2 := cellS26_2 hb
  have k3 := cellS26_3 hb
  have k4 := cellS26_4 hb
  have k5 := cellS26_5 hb
  have k6 := cellS26_6 hb
  have f0 := blk_frozen hb 0
  have f1 := blk_frozen hb 1
  have f2 := blk_frozen hb 2
  have f3 := blk_frozen hb 3
  have f4 := blk_frozen hb 4
  have f6 := blk_frozen hb 6
  have HG := Aside0.mk hg
  clear hb hg hB hc e0 e3 b5 b6 b7 b8
  go_enter Try.func36, Try.ntmps36
  go_wp2
  go_quiet (fail)
  go_wp2
  go_region
  all_goals go_wp2
  refine impl_Cubic_loss.wp_gen (fun W => IsS26 w0 W g (2) (2) q1 o n n 0 ∧ Below w0.heap.size w0 W ∧ KeepBut w W g none) ⟨?_, ?_, ?_⟩ ?_
  case refine_1 => with_reducible (repeat (first | exact HI.out | apply IsS26.drewN | apply IsS26.drew | apply IsS26.set_0 | apply IsS26.set_1 | apply IsS26.set_2 | apply IsS26.set_4 | apply IsS26.set_6))
  case refine_2 => with_reducible (repeat (first | exact HB.out | apply pw_below_drewN | apply below_drew1 | refine below_set ?_ HG.out))
  case refine_3 => with_reducible (repeat (first | exact HK.out | apply KeepBut.set_ | apply keep_drewN | apply keep_drew))
  rintro W ⟨hI2, hB2, hK2⟩
  clear k0 k1 k2 k3 k4 k5 k6 f0 f1 f2 f3 f4 f6 HI HB HK
  have HI := Aside0.mk hI2
  have HB := Aside0.mk hB2
  have HK := Aside0.mk hK2
  obtain ⟨hb, hg⟩ := hI2
  have k0 := cellS26_0 hb
  have k2 := cellS26_2 hb
  have k3 := cellS26_3 hb
  have f3 := blk_frozen hb 3
  clear hb hg hB2 hK2
  have HC1 := HC.out
  refine wp_region_still_tail 15 (by kernel_rfl) (by kernel_rfl) ?_
  simp only [List.take_succ_cons, List.take_zero, List.drop_succ_cons, List.drop_zero]
  clear h1 h2 h3 h4 b1 b2 b3 b4
  iterate 14 still_step
  refine wpStill_step (fun K hK => ?_)
  go_simp
  rw [HV.out]
  refine ⟨_, (impl_Cubic_loss.root_q _ _ _ _ HC1).mono fun e w' h => ⟨h.1, h.2.symm⟩, hK _ ?_⟩
  clear hK K
  refine wpStill_nil ?_
  change wpList _ _ _ _ _ W.drew
  go_wp2
  all_goals go_end0
  all_goals exact ⟨rfl, by with_reducible (repeat (first | exact HI.out | apply IsS26.drewN | apply IsS26.drew | apply IsS26.set_3)), by with_reducible (repeat (first | exact HB.out | apply pw_below_drewN | apply below_drew1 | refine below_set ?_ HG.out)), by with_reducible (repeat (first | exact HK.out | apply KeepBut.set_ | apply keep_drewN | apply keep_drew))⟩


set_option maxHeartbeats 8000000 in
set_option maxRecDepth 100000 in
theorem impl_Cubic_loss.calls (k : Nat) (g : Nat) (s0_0 : Int) (s0_1 : Int) (s0_2 : Int) (s0_3 : Int) (s0_4 : Int) (s0_5 : Int) (s0_6 : Int) (r1 : Int) (r2 : Int) (r3 : Int) (r4 : Int) (r5 : Int) (r6 : Int) (r7 : Int) (w0 w : World) (hI : IsS26 w0 w g s0_0 s0_1 s0_2 s0_3 s0_4 s0_5 s0_6) (hB : Below w0.heap.size w0 w) (h : impl_Cubic_loss.f k s0_0 s0_1 s0_2 s0_3 s0_4 s0_5 s0_6 = some (r1, r2, r3, r4, r5, r6, r7)) :
    Calls Try.prog 36 #[.pointer (some ⟨g, 0, none⟩)] w fun e w' => e = .returned (.tuple #[]) ∧ IsS26 w0 w' g r1 r2 r3 r4 r5 r6 r7 ∧ Below w0.heap.size w0 w' ∧ KeepBut w w' g none := by
  unfold impl_Cubic_loss.f at h
  by_cases hb : 1 ≤ s0_0 ∧ s0_0 ≤ 100000 ∧ 0 ≤ s0_2 ∧ s0_2 ≤ 100000
  case neg => rw [if_neg hb] at h; cases h
  rw [if_pos hb] at h
  obtain ⟨h1, h2, h3, h4⟩ := hb
  obtain ⟨r, hc, h⟩ := Option.bind_eq_some_iff.mp h
  simp only [Option.some.injEq, Prod.mk.injEq] at h
  obtain ⟨rfl, rfl, rfl, rfl, rfl, rfl, rfl⟩ := h
  have e1 : Int.tdiv (17 * s0_0) 20 = 17 * s0_0 / 20 := Int.tdiv_eq_ediv_of_nonneg (by omega)
  have e2 : Int.tdiv (7 * s0_0) 10 = 7 * s0_0 / 10 := Int.tdiv_eq_ediv_of_nonneg (by omega)
  have e3 : ∀ d : Int, 0 ≤ d → Int.tdiv (10 * d) 4 = 10 * d / 4 := fun d hd => Int.tdiv_eq_ediv_of_nonneg (by omega)
  have em : ∀ d : Int, (if d < 0 then 0 else d) = mx d 0 := fun d => by unfold mx; rfl
  have m0 : ∀ d : Int, 0 ≤ mx d 0 := fun d => by unfold mx; split <;> omega
  have m1 : ∀ d : Int, d ≤ 100000 → mx d 0 ≤ 100000 := fun d hd => by unfold mx; split <;> omega
  by_cases d1 : s0_0 < s0_2
  · rw [if_pos d1] at hc ⊢
    by_cases d2 : 7 * s0_0 / 10 < 2
    · have hm : mx (7 * s0_0 / 10) 2 = 2 := by unfold mx; rw [if_pos d2]
      rw [hm] at hc ⊢
      have v0 := m0 (17 * s0_0 / 20 - 2); have v1 := m1 (17 * s0_0 / 20 - 2) (by omega)
      exact impl_Cubic_loss.loss_11 k g _ _ _ _ _ _ _ _ _ _ _ _ w0 w hI hB h1 h2 h3 h4 e1 (by omega) (by omega) e2 (by omega) (by omega) (em _) v0 v1 (e3 _ v0) (by omega) (by omega) d1 d2 hc
    · have hm : mx (7 * s0_0 / 10) 2 = 7 * s0_0 / 10 := by unfold mx; rw [if_neg d2]
      rw [hm] at hc ⊢
      have v0 := m0 (17 * s0_0 / 20 - 7 * s0_0 / 10); have v1 := m1 (17 * s0_0 / 20 - 7 * s0_0 / 10) (by omega)
      exact impl_Cubic_loss.loss_10 k g _ _ _ _ _ _ _ _ _ _ _ _ w0 w hI hB h1 h2 h3 h4 e1 (by omega) (by omega) e2 (by omega) (by omega) (em _) v0 v1 (e3 _ v0) (by omega) (by omega) d1 d2 hc
  · rw [if_neg d1] at hc ⊢
    by_cases d2 : 7 * s0_0 / 10 < 2
    · have hm : mx (7 * s0_0 / 10) 2 = 2 := by unfold mx; rw [if_pos d2]
      rw [hm] at hc ⊢
      have v0 := m0 (s0_0 - 2); have v1 := m1 (s0_0 - 2) (by omega)
      exact impl_Cubic_loss.loss_01 k g _ _ _ _ _ _ _ _ _ _ _ _ w0 w hI hB h1 h2 h3 h4 e1 (by omega) (by omega) e2 (by omega) (by omega) (em _) v0 v1 (e3 _ v0) (by omega) (by omega) d1 d2 hc
    · have hm : mx (7 * s0_0 / 10) 2 = 7 * s0_0 / 10 := by unfold mx; rw [if_neg d2]
      rw [hm] at hc ⊢
      have v0 := m0 (s0_0 - 7 * s0_0 / 10); have v1 := m1 (s0_0 - 7 * s0_0 / 10) (by omega)
      exact impl_Cubic_loss.loss_00 k g _ _ _ _ _ _ _ _ _ _ _ _ w0 w hI hB h1 h2 h3 h4 e1 (by omega) (by omega) e2 (by omega) (by omega) (em _) v0 v1 (e3 _ v0) (by omega) (by omega) d1 d2 hc

end Go.Proofs.Ytjfbeakmpmjadaa.PWin
