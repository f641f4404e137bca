-- Written by plug.py, a program of this work, over the kit's printing program: the functions that it prints, and this work's own proofs of those that it does not.
import Derived.Test.YtnceiegngfpmkaaPStax0
namespace Go.Proofs.Ytnceiegngfpmkaa.PSta
open Go.RowKit Go.Proofs.YtnceiegngfpmkaaW.PrintWords Go.Proofs.YtnceiegngfpmkaaW.PrintLast Go.Proofs.YtnceiegngfpmkaaW.PrintMore
attribute [local go_sem] max2_int min2_int max_two min_two max_three min_three max_four min_four   -- for this text's walks alone
set_option linter.unusedVariables false
set_option linter.unusedSimpArgs false

/-! ### impl_inRange: function 37 -/
def impl_inRange.f (a0 : Int) (a1 : Int) (a2 : Int) : Option (Bool) := if a0 ≥ a1 then (some (decide (a0 ≤ a2))) else (some false)
set_option maxHeartbeats 8000000 in
set_option maxRecDepth 100000 in
theorem impl_inRange.calls (a0 : Int) (a1 : Int) (a2 : Int) (r : Bool) (w : World) (h : impl_inRange.f a0 a1 a2 = some r) :
  Calls Try.prog 37 #[.int .i64 a0, .int .i64 a1, .int .i64 a2] w fun e w' => e = .returned (.bool r) ∧ Drawn0 w w' := by
 have H : (if a0 ≥ a1 then (some (decide (a0 ≤ a2))) else (some false)) = some r := h
 clear h
 by_cases c4 : a0 ≥ a1
 ·rw [if_pos c4] at H
  have c4b0 : decide (a1 ≤ a0) = true := decide_eq_true c4
  clear c4
  obtain rfl := Option.some.inj H
  go_enter Try.func37, Try.ntmps37
  go_wp2
  go_ret
  exact ⟨by first | rfl | (simp; done) | (simp [*]; done), by repeat (first | exact Drawn0.refl _ | apply Drawn0.step)⟩
 ·rw [if_neg c4] at H
  have c4b0 : decide (a1 ≤ a0) = false := decide_eq_false c4
  clear c4
  obtain rfl := Option.some.inj H
  go_enter Try.func37, Try.ntmps37
  go_wp2
  go_ret
  exact ⟨by first | rfl | (simp; done) | (simp [*]; done), by repeat (first | exact Drawn0.refl _ | apply Drawn0.step)⟩

-- NOT PRINTED: function 59 (slices_IndexFunc_int_int)

-- NOT PRINTED: function 55 (slices_ContainsFunc_int_int)

/-! ### impl_wayOK: function 46 -/
def impl_wayOK.f (l0 : List Int) : Option Bool := some (decide ((l0.length : Int) ≤ 200) && l0.all fun x => decide (1 ≤ x ∧ x ≤ 31))

theorem impl_wayOK.inR_eq (a b c : Int) : impl_inRange.f a b c = some (decide (b ≤ a ∧ a ≤ c)) := by
 unfold impl_inRange.f
 by_cases h : a ≥ b <;> simp [h]
theorem impl_wayOK.c56 (x : Int) (W : World) : Calls Try.prog 56 #[.int .i64 x] W fun e w' => e = .returned (.bool (!decide (1 ≤ x ∧ x ≤ 31))) ∧ Drawn0 W w' := by
 have HR := Aside0.mk (impl_wayOK.inR_eq x 1 31)
 generalize hq : decide (1 ≤ x ∧ x ≤ 31) = q at HR ⊢
 clear hq
 go_enter Try.func56, Try.ntmps56
 go_wp2_with (first | (go_at_call 37; refine (impl_inRange.calls x 1 31 q _ HR.out).mono ?_; rintro e w' ⟨rfl, ⟨nd, rfl⟩⟩))
 go_ret
 exact ⟨rfl, ⟨_, rfl⟩⟩
def impl_wayOK.IdxPost (l : List Int) (W : World) (e : Ending) (w' : World) : Prop := ∃ r : Int, e = .returned (.int .i64 r) ∧ (0 ≤ r ↔ l.all (fun x => decide (1 ≤ x ∧ x ≤ 31)) = false) ∧ Drawn0 W w'
theorem impl_wayOK.IdxPost.hit {l : List Int} {W w' : World} {j : Nat} (hj : j < l.length) (hb : decide (1 ≤ rd l j ∧ rd l j ≤ 31) = false) (hd : Drawn0 W w') : impl_wayOK.IdxPost l W (.returned (.int .i64 j)) w' := by
 refine ⟨j, rfl, ⟨fun _ => ?_, fun _ => by omega⟩, hd⟩
 rw [List.all_eq_false]
 refine ⟨rd l j, ?_, by simpa using hb⟩
 unfold rd
 have : l.getD ((j : Int).toNat) 0 = l[j] := by simp [List.getD, hj]
 rw [this]; exact List.getElem_mem hj
theorem impl_wayOK.IdxPost.miss {l : List Int} {W w' : World} (hg : ∀ m : Nat, m < l.length → decide (1 ≤ rd l m ∧ rd l m ≤ 31) = true) (hd : Drawn0 W w') : impl_wayOK.IdxPost l W (.returned (.int .i64 (-1))) w' := by
 refine ⟨-1, rfl, ⟨fun h => by omega, fun h => ?_⟩, hd⟩
 exfalso
 rw [List.all_eq_false] at h
 obtain ⟨x, hx, hb⟩ := h
 obtain ⟨i, hi, rfl⟩ := List.getElem_of_mem hx
 have := hg i hi
 unfold rd at this
 have e : l.getD ((i : Int).toNat) 0 = l[i] := by simp [List.getD, hi]
 rw [e] at this
 exact hb this
set_option maxHeartbeats 1000000 in
theorem impl_wayOK.idx_any (l : List Int) (A : Option Addr) (c : Nat) (W : World) (hr : Kd.C (Kd.int .i64) W A l.length l) (hc : l.length ≤ c) :
  Calls Try.prog 59 #[.slice A l.length c, .func (.func 56) #[] #[]] W (impl_wayOK.IdxPost l W) := by
 have HR := Aside0.mk hr
 have HM : l.length ≤ 9223372036854775807 := hr.2.1
 clear hr
 go_enter Try.func59, Try.ntmps59
 go_wp2
 go_loopg [8] l.length (fun gk v8 w' => ∃ j : Nat, j ≤ l.length ∧ gk = l.length - j ∧ v8 = .int .i64 j ∧ Aside0 (∀ m : Nat, m < j → decide (1 ≤ rd l m ∧ rd l m ≤ 31) = true) ∧ Aside0 (Drawn0 W w'))
 case atStart => exact ⟨0, by omega, by omega, rfl, Aside0.mk (fun m hm => absurd hm (by omega)), Aside0.mk (Drawn0.refl W)⟩
 case round =>
  obtain ⟨j, hj, hgk, rfl, HG, HD⟩ := hrel
  have HGK := Aside0.mk hgk
  clear hgk
  by_cases hlt : j < l.length
  ·obtain ⟨ad, e_, hcell⟩ := Kd.at_int (Kd.C_below HR.out HD.out.below) (j : Int) (by omega) (by omega)
   subst e_
   have hcell2 : wr.cell? (ad.add j) = some (.int .i64 (rd l j)) := by simpa using hcell
   clear hcell
   cases hb : decide (1 ≤ rd l j ∧ rd l j ≤ 31)
   ·have impl_wayOK.c56' : ∀ w, Calls Try.prog 56 #[.int .i64 (rd l j)] w fun e w' => e = .returned (.bool true) ∧ Drawn0 w w' := fun w => by have := impl_wayOK.c56 (rd l j) w; rw [hb] at this; exact this
    have HBB := Aside0.mk hb
    clear hb
    go_wp2_with (first | (go_at_call 56; refine (impl_wayOK.c56' _).mono ?_; rintro e w' ⟨rfl, ⟨nd, rfl⟩⟩))
    go_ret
    exact impl_wayOK.IdxPost.hit hlt HBB.out (HD.out.step _)
   ·have impl_wayOK.c56' : ∀ w, Calls Try.prog 56 #[.int .i64 (rd l j)] w fun e w' => e = .returned (.bool false) ∧ Drawn0 w w' := fun w => by have := impl_wayOK.c56 (rd l j) w; rw [hb] at this; exact this
    have HBB := Aside0.mk hb
    clear hb
    go_wp2_with (first | (go_at_call 56; refine (impl_wayOK.c56' _).mono ?_; rintro e w' ⟨rfl, ⟨nd, rfl⟩⟩))
    go_roundg (l.length - (j + 1))
    case rel => exact ⟨j + 1, by omega, rfl, by go_num, Aside0.mk (fun m hm => by
     by_cases h : m < j
     ·exact HG.out m h
     ·obtain rfl : m = j := by omega
      exact HBB.out), Aside0.mk (HD.out.step _)⟩
    case measure => have := HGK.out; omega
  ·go_wp2
   go_ret
   exact impl_wayOK.IdxPost.miss (fun m hm => HG.out m (by omega)) HD.out
set_option maxHeartbeats 1000000 in
theorem impl_wayOK.cont_any (l : List Int) (A : Option Addr) (c : Nat) (W : World) (hr : Kd.C (Kd.int .i64) W A l.length l) (hc : l.length ≤ c) :
  Calls Try.prog 55 #[.slice A l.length c, .func (.func 56) #[] #[]] W fun e w' => e = .returned (.bool (!l.all fun x => decide (1 ≤ x ∧ x ≤ 31))) ∧ Drawn0 W w' := by
 have HI := impl_wayOK.idx_any l A c W hr hc
 cases ha : l.all fun x => decide (1 ≤ x ∧ x ≤ 31)
 ·have HA := Aside0.mk ha
  clear hr ha
  go_enter Try.func55, Try.ntmps55
  go_wp2_with (first | (go_at_call 59; refine HI.mono ?_; rintro e w' ⟨r, rfl, hiff, ⟨nd, rfl⟩⟩; have hr0 := hiff.2 HA.out; clear hiff))
  go_ret
  exact ⟨rfl, ⟨_, rfl⟩⟩
 ·have HA := Aside0.mk ha
  clear hr ha
  go_enter Try.func55, Try.ntmps55
  go_wp2_with (first | (go_at_call 59; refine HI.mono ?_; rintro e w' ⟨r, rfl, hiff, ⟨nd, rfl⟩⟩; have hr0 : decide (0 ≤ r) = false := decide_eq_false (fun h => by have := hiff.1 h; rw [HA.out] at this; cases this); clear hiff))
  go_ret
  exact ⟨rfl, ⟨_, rfl⟩⟩

set_option maxHeartbeats 8000000 in
set_option maxRecDepth 100000 in
theorem impl_wayOK.calls (A0 : Option Addr) (c0 : Nat) (l0 : List Int) (r : Bool) (w : World) (hr0 : Kd.C (Kd.int .i64) w A0 l0.length l0) (hc0 : l0.length ≤ c0) (h : impl_wayOK.f l0 = some r) :
  Calls Try.prog 46 #[.slice A0 l0.length c0] w fun e w' => e = .returned (.bool r) ∧ Drawn0 w w' := by
 injection h with h
 subst h
 have HC := impl_wayOK.cont_any l0 A0 c0
 have HR := Aside0.mk hr0
 have HC0 := Aside0.mk hc0
 clear hr0 hc0
 by_cases hl : (l0.length : Int) ≤ 200
 ·cases ha : l0.all fun x => decide (1 ≤ x ∧ x ≤ 31)
  all_goals
   rw [decide_eq_true hl]
   rw [ha] at HC
   have hl2 : decide (l0.length ≤ 200) = true := by simp; omega
   have hl3 : l0.length ≤ 200 := by omega
   go_enter Try.func46, Try.ntmps46
   go_wp2_with (first | (go_at_call 55; refine (HC _ (Kd.C_below HR.out (Drawn0.refl w).below) HC0.out).mono ?_; rintro e w' ⟨rfl, ⟨nd, rfl⟩⟩))
   go_ret
   exact ⟨rfl, ⟨_, rfl⟩⟩
 ·rw [decide_eq_false hl]
  have hl2 : decide (l0.length ≤ 200) = false := by simp; omega
  go_enter Try.func46, Try.ntmps46
  go_wp2
  go_ret
  exact ⟨rfl, Drawn0.refl w⟩

end Go.Proofs.Ytnceiegngfpmkaa.PSta
