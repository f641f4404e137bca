-- Written by plug.py, a program of this work, over the kit's printing program: the functions that it prints, and this work's own proofs of those that it does not.
import Derived.Test.YtdoonajbbfnnfaaPSeqx0
import Derived.Test.YtdoonajbbfnnfaaPSeqx1
namespace Go.Proofs.Ytdoonajbbfnnfaa.PSeq
open Go.RowKit Go.Proofs.YtdoonajbbfnnfaaW.PrintWords Go.Proofs.YtdoonajbbfnnfaaW.PrintLast Go.Proofs.YtdoonajbbfnnfaaW.PrintMore
attribute [local go_sem] max2_int min2_int max_two min_two max_three min_three max_four min_four   -- for this text's walks alone
set_option linter.unusedVariables false
set_option linter.unusedSimpArgs false

/-! ### spec_l00Src_byte: function 76 -/
def spec_l00Src_byte.f (s0_0 : List Int) (s0_1 : Int) (s0_2 : Int) : Option (Int × Int × Int) :=
  if 0 ≤ s0_1 ∧ s0_1 < 1099511627776 ∧ 0 ≤ s0_2 ∧ s0_2 < 2147483648 ∧ s0_0.length < 1099511627776 then
    (if s0_1 + 1 ≤ (s0_0.length : Int) then
      (if 0 ≤ rd s0_0 s0_1 ∧ rd s0_0 s0_1 ≤ 255 then some (rd s0_0 s0_1, s0_1 + 1, (s0_2 * 31 + rd s0_0 s0_1 + 7) % 2147483648) else none)
    else if 3000 < s0_1 + 1 then some (0, s0_1 + 1, s0_2)
    else some ((s0_2 * 1103515245 + 12345) % 2147483648 / 65536 % 256, s0_1 + 1, (s0_2 * 1103515245 + 12345) % 2147483648))
  else none

set_option maxHeartbeats 8000000 in
set_option maxRecDepth 100000 in
theorem spec_l00Src_byte.calls (g : Nat) (s0_0 : List Int) (s0_1 : Int) (s0_2 : Int) (r1 : Int) (r2 : Int) (r3 : Int) (w0 w : World) (hI : IsS84 w0 w g s0_0 s0_1 s0_2) (hB : Below w0.heap.size w0 w) (h : spec_l00Src_byte.f s0_0 s0_1 s0_2 = some (r1, r2, r3)) :
    Calls Try.prog 76 #[.pointer (some ⟨g, 0, none⟩)] w fun e w' => e = .returned (.int .i64 r1) ∧ IsS84 w0 w' g s0_0 r2 r3 ∧ Below w0.heap.size w0 w' ∧ KeepBut w w' g none := by
  unfold spec_l00Src_byte.f at h
  split at h
  case isFalse => cases h
  rename_i hr
  obtain ⟨h0, h1, h2, h3, h4⟩ := hr
  have HI := Aside0.mk hI
  have HK := Aside0.mk (KeepBut.refl w g none)
  obtain ⟨A0, c0, hb, hg, hr0⟩ := hI
  have k0 := cellS84_0 hb
  have k1 := cellS84_1 hb
  have k2 := cellS84_2 hb
  have f1 := blk_frozen hb 1
  have f2 := blk_frozen hb 2
  have HBK := Aside0.mk hb
  have HG := Aside0.mk hg
  have HR := Aside0.mk hr0
  have HB := Aside0.mk hB
  clear hb hg hr0 hB
  split at h
  · rename_i hlt
    split at h
    case isFalse => cases h
    rename_i hbt
    obtain ⟨hb0, hb1⟩ := hbt
    have H := Aside0.mk h
    clear h
    obtain ⟨ad, e_, hc_⟩ := Kd.at_int HR.out s0_1 h0 (by omega)
    subst e_
    have hlt2 : (ad.add s0_1.toNat).block < w0.heap.size := World.block_lt_of_cell? _ _ hc_
    have hne : g ≠ (ad.add s0_1.toNat).block := fun e => by have := HG.out; omega
    have hcw := pw_cell_below HB.out hc_
    have kc : ∀ v n, ((w.setCell ⟨g, 1, none⟩ v).drewN n).cell? (ad.add s0_1.toNat) = some (.int .u8 (rd s0_0 s0_1)) := fun v n => by
      rw [World.cell?_drewN, World.cell?_setCell_far _ _ _ _ hne]; exact hcw
    have kc2 : ∀ v n u m, ((((w.setCell ⟨g, 1, none⟩ v).drewN n).setCell ⟨g, 2, none⟩ u).drewN m).cell? (ad.add s0_1.toNat) = some (.int .u8 (rd s0_0 s0_1)) := fun v n u m => by
      rw [World.cell?_drewN, World.cell?_setCell_far _ _ _ _ hne]; exact kc v n
    clear hc_ hcw
    have KN := Aside0.mk hne
    have KL := Aside0.mk hlt2
    clear hne hlt2
    go_enter Try.func76, Try.ntmps76
    go_wp2
    go_quiet (fail)
    go_wp2
    go_region
    go_wp2
    go_quiet (fail)
    go_wp2
    go_ret
    have H := H.out
    simp only [Option.some.injEq, Prod.mk.injEq] at H
    obtain ⟨rfl, rfl, rfl⟩ := H
    exact ⟨rfl, by repeat (first | exact HI.out | apply IsS84.drewN | apply IsS84.drew | apply IsS84.set_1 | apply IsS84.set_2), by repeat (first | exact HB.out | apply pw_below_drewN | apply below_drew1 | refine below_set ?_ HG.out), by repeat (first | exact HK.out | apply KeepBut.set_ | apply keep_drewN | apply keep_drew)⟩
  · rename_i hnlt
    by_cases h3k : 3000 < s0_1 + 1
    · rw [if_pos h3k] at h
      have H := Aside0.mk h
      clear h
      go_enter Try.func76, Try.ntmps76
      go_wp2
      go_quiet (fail)
      go_wp2
      go_ret
      have H := H.out
      simp only [Option.some.injEq, Prod.mk.injEq] at H
      obtain ⟨rfl, rfl, rfl⟩ := H
      exact ⟨rfl, by repeat (first | exact HI.out | apply IsS84.drewN | apply IsS84.drew | apply IsS84.set_1 | apply IsS84.set_2), by repeat (first | exact HB.out | apply pw_below_drewN | apply below_drew1 | refine below_set ?_ HG.out), by repeat (first | exact HK.out | apply KeepBut.set_ | apply keep_drewN | apply keep_drew)⟩
    · rw [if_neg h3k] at h
      have H := Aside0.mk h
      clear h
      go_enter Try.func76, Try.ntmps76
      go_wp2
      go_quiet (fail)
      go_wp2
      go_ret
      have H := H.out
      simp only [Option.some.injEq, Prod.mk.injEq] at H
      obtain ⟨rfl, rfl, rfl⟩ := H
      exact ⟨rfl, by repeat (first | exact HI.out | apply IsS84.drewN | apply IsS84.drew | apply IsS84.set_1 | apply IsS84.set_2), by repeat (first | exact HB.out | apply pw_below_drewN | apply below_drew1 | refine below_set ?_ HG.out), by repeat (first | exact HK.out | apply KeepBut.set_ | apply keep_drewN | apply keep_drew)⟩


end Go.Proofs.Ytdoonajbbfnnfaa.PSeq
