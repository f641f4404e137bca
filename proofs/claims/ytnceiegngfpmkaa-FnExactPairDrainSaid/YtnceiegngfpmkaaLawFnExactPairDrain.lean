/- The row of FnExactPairDrain: for every input the law returns true and leaves what came in as it was; over what its function comes to. -/
import Derived.Test.YtnceiegngfpmkaaRows
import Derived.Test.YtnceiegngfpmkaaP8
import Derived.WalkKit
import Derived.ProofKit
import Derived.OpenShut
import Derived.ShutString
import Derived.ChangeOld
import Derived.Below
import Derived.SizedLaws
namespace Go.Proofs.Ytnceiegngfpmkaa.fnExactPairDrain
open Go.ChangeShapes Go.WideShapes Go.ChangeAt Go.RowKit Go.Proofs.YtnceiegngfpmkaaAm
set_option linter.unusedVariables false
set_option linter.unusedSimpArgs false
theorem own : ownKnob Try.prog.godebug = none := by kernel_rfl
theorem laidOut : laidOutB Try.prog = true := by kernel_rfl
set_option maxRecDepth 100000 in
theorem lifted (os : Os) (started : os.Started) (H : Type) (enc : TypeId × Value → H) :
    ReturnsInHanded {} Try.checked os 8 .any (Rows.fnExactPairDrainSpec.pre6 enc Try.prog Try.f8 Rows.fnExactPairDrainRow.domain false) (Rows.fnExactPairDrainSpec.post enc Try.prog Try.f8 false true false false) := by
  refine returnsInHanded_of_change_sized (C := Try.checked) own started (by kernel_rfl) Try.func8
    (ChangeSpec.witness6 (enc := enc) (C := Try.checked) false ⟨#[], #[.agg #[.int .i64 0, .int .i64 0, .slice none 0 0, .slice none 0 0, .int .i64 0]], []⟩ 8 (by kernel_rfl) (by kernel_rfl) (by kernel_rfl) (by kernel_rfl)) ?_
  intro W base args ds gs before hval0 hW hcnd hsz0 _
  have hval : ∀ (j : Nat) t v, Try.f8.params[j]? = some t → args[j]? = some v → Value.okWide Try.prog W .any base t v := hval0
  have hW' := hW
  obtain ⟨p, q, hA0, hV, rfl, hfz, hnd⟩ := hW
  have hA : DataW.TrodAll enc Try.prog W 0 (fun _ => true) true Try.f8.params.toList args.toList ds p := hA0
  rw [Try.params8] at hA hval
  obtain ⟨v0, vs0, d0, ds0, p0, q0, hargs, rfl, rfl, h0, r0⟩ := trodAll_cons hA
  obtain ⟨rfl, rfl, rfl⟩ := trodAll_nil r0
  obtain rfl : args = #[v0] := by cases args; simp_all
  obtain ⟨rfl, rfl⟩ := trodVars_none hV
  have k0 := h0
  have lt0 : ∀ x ∈ p0, x.block < W.heap.size := by obtain ⟨m, hm⟩ := k0; exact DataW.trod_lt m _ _ _ hm
  clear hA0 hval0 hsz0 hA
  obtain ⟨y0, hk0, ok0⟩ : ∃ y : Interp (.pair (.int .i64) (.pair (.int .i64) (.pair (.sl (.int .i64)) (.pair (.sl (.int .i64)) (.int .i64))))), Shown W (.pair (.int .i64) (.pair (.int .i64) (.pair (.sl (.int .i64)) (.pair (.sl (.int .i64)) (.int .i64))))) y v0.cells.toList ∧ Wf (.pair (.int .i64) (.pair (.int .i64) (.pair (.sl (.int .i64)) (.pair (.sl (.int .i64)) (.int .i64))))) y := by
    obtain ⟨fuel, hf⟩ := h0
    exact tsOk_ok (n := 30) (by kernel_rfl) enc W fuel _ _ hf
  obtain ⟨cs0, rfl⟩ : ∃ cs, v0 = .agg cs := by
    have hv := hval 0 55 v0 rfl rfl
    unfold Value.okWide at hv
    rw [Try.underlying55] at hv
    exact ⟨hv.choose, hv.choose_spec.1⟩
  have e0 : ParIs W (true, ⟨(.pair (.int .i64) (.pair (.int .i64) (.pair (.sl (.int .i64)) (.pair (.sl (.int .i64)) (.int .i64))))), y0⟩) (.agg cs0) := ⟨cs0, rfl, hk0⟩
  refine (law_calls (Go.Proofs.YtnceiegngfpmkaaAm.W.f8.ok y0.1 y0.2.1 y0.2.2.1 y0.2.2.2.1 y0.2.2.2.2 (Go.Proofs.YtnceiegngfpmkaaAm.W.law_FnExactPairDrain y0.1 y0.2.1 y0.2.2.1 y0.2.2.2.1 y0.2.2.2.2 ok0)) (ps := [(true, ⟨(.pair (.int .i64) (.pair (.int .i64) (.pair (.sl (.int .i64)) (.pair (.sl (.int .i64)) (.int .i64))))), y0⟩)]) rfl rfl rfl (.cons e0 .nil)).mono fun e W' ⟨he, bel⟩ => ?_
  subst he
  exact ⟨_, rfl, _, _, _, [], _, [], hW', trodAll_mk1 (shut_bool Try.underlying4 _), (trodAll_cons_mk (Below.trod laidOut (by kernel_rfl) (of_decide_eq_true (by kernel_rfl)) k0 bel lt0) trodAll_mk0), rfl, bel.frame _, fun h => by cases h⟩
theorem over : Rows.fnExactPairDrainRow.holds Try.pinned (OpenSpec.ofChange Rows.fnExactPairDrainSpec) :=
  OpenClaim.holds_of_wide 8 Try.f8 rfl rfl rfl rfl rfl rfl rfl ⟨rfl, rfl, rfl, rfl, rfl⟩ rfl rfl rfl rfl rfl (by kernel_rfl) Try.func8 (by kernel_rfl)
    (of_decide_eq_true (by kernel_rfl)) (by unfold Func.isWrapper; first | (rw [if_pos (by decide +kernel)]; kernel_rfl) | (rw [if_neg (by decide +kernel)]; exact ⟨rfl, rfl⟩))
    (fun os started H enc _ => lifted os started H enc)
theorem proved : Rows.FnExactPairDrainSaid := over
#print axioms proved
end Go.Proofs.Ytnceiegngfpmkaa.fnExactPairDrain
namespace Go.Proofs.Ytnceiegngfpmkaa
/-- The row, under a short name, for the claim. -/
theorem fnExactPairDrain_holds : Rows.FnExactPairDrainSaid := fnExactPairDrain.proved
end Go.Proofs.Ytnceiegngfpmkaa
