/- The row of FnExactPairRun: for every input the law returns true and leaves what came in as it was; over what its function comes to. -/
import Derived.Test.YtnceiegngfpmkaaRows
import Derived.Test.YtnceiegngfpmkaaP6
import Derived.WalkKit
import Derived.ProofKit
import Derived.OpenShut
import Derived.ShutString
import Derived.ChangeOld
import Derived.Below
import Derived.SizedLaws
namespace Go.Proofs.Ytnceiegngfpmkaa.fnExactPairRun
open Go.ChangeShapes Go.WideShapes Go.ChangeAt Go.RowKit Go.Proofs.YtnceiegngfpmkaaAm
set_option linter.unusedVariables false
set_option linter.unusedSimpArgs false
theorem own : ownKnob Try.prog.godebug = none := by kernel_rfl
theorem laidOut : laidOutB Try.prog = true := by kernel_rfl
set_option maxRecDepth 100000 in
theorem lifted (os : Os) (started : os.Started) (H : Type) (enc : TypeId × Value → H) :
    ReturnsInHanded {} Try.checked os 6 .any (Rows.fnExactPairRunSpec.pre6 enc Try.prog Try.f6 Rows.fnExactPairRunRow.domain false) (Rows.fnExactPairRunSpec.post enc Try.prog Try.f6 false true false false) := by
  refine returnsInHanded_of_change_sized (C := Try.checked) own started (by kernel_rfl) Try.func6
    (ChangeSpec.witness6 (enc := enc) (C := Try.checked) false ⟨#[], #[.slice none 0 0], []⟩ 8 (by kernel_rfl) (by kernel_rfl) (by kernel_rfl) (by kernel_rfl)) ?_
  intro W base args ds gs before hval0 hW hcnd hsz0 _
  have hval : ∀ (j : Nat) t v, Try.f6.params[j]? = some t → args[j]? = some v → Value.okWide Try.prog W .any base t v := hval0
  have hW' := hW
  obtain ⟨p, q, hA0, hV, rfl, hfz, hnd⟩ := hW
  have hA : DataW.TrodAll enc Try.prog W 0 (fun _ => true) true Try.f6.params.toList args.toList ds p := hA0
  rw [Try.params6] at hA hval
  obtain ⟨v0, vs0, d0, ds0, p0, q0, hargs, rfl, rfl, h0, r0⟩ := trodAll_cons hA
  obtain ⟨rfl, rfl, rfl⟩ := trodAll_nil r0
  obtain rfl : args = #[v0] := by cases args; simp_all
  obtain ⟨rfl, rfl⟩ := trodVars_none hV
  have k0 := h0
  have lt0 : ∀ x ∈ p0, x.block < W.heap.size := by obtain ⟨m, hm⟩ := k0; exact DataW.trod_lt m _ _ _ hm
  clear hA0 hval0 hsz0 hA
  obtain ⟨y0, hk0, ok0⟩ : ∃ y : Interp (.sl (.pair (.int .i64) (.int .i64))), Shown W (.sl (.pair (.int .i64) (.int .i64))) y v0.cells.toList ∧ Wf (.sl (.pair (.int .i64) (.int .i64))) y := by
    obtain ⟨fuel, hf⟩ := h0
    exact tsOk_ok (n := 30) (by kernel_rfl) enc W fuel _ _ hf
  have e0 : ParIs W (false, ⟨(.sl (.pair (.int .i64) (.int .i64))), y0⟩) v0 := by
    obtain ⟨a, b, c, rfl⟩ := okWide_slice Try.underlying46 (hval 0 46 v0 rfl rfl)
    exact hk0
  refine (law_calls (Go.Proofs.YtnceiegngfpmkaaAm.W.f6.ok y0 (Go.Proofs.YtnceiegngfpmkaaAm.W.law_FnExactPairRun y0 ok0)) (ps := [(false, ⟨(.sl (.pair (.int .i64) (.int .i64))), y0⟩)]) rfl rfl rfl (.cons e0 .nil)).mono fun e W' ⟨he, bel⟩ => ?_
  subst he
  exact ⟨_, rfl, _, _, _, [], _, [], hW', trodAll_mk1 (shut_bool Try.underlying4 _), (trodAll_cons_mk (Below.trod laidOut (by kernel_rfl) (of_decide_eq_true (by kernel_rfl)) k0 bel lt0) trodAll_mk0), rfl, bel.frame _, fun h => by cases h⟩
theorem over : Rows.fnExactPairRunRow.holds Try.pinned (OpenSpec.ofChange Rows.fnExactPairRunSpec) :=
  OpenClaim.holds_of_wide 6 Try.f6 rfl rfl rfl rfl rfl rfl rfl ⟨rfl, rfl, rfl, rfl, rfl⟩ rfl rfl rfl rfl rfl (by kernel_rfl) Try.func6 (by kernel_rfl)
    (of_decide_eq_true (by kernel_rfl)) (by unfold Func.isWrapper; first | (rw [if_pos (by decide +kernel)]; kernel_rfl) | (rw [if_neg (by decide +kernel)]; exact ⟨rfl, rfl⟩))
    (fun os started H enc _ => lifted os started H enc)
theorem proved : Rows.FnExactPairRunSaid := over
#print axioms proved
end Go.Proofs.Ytnceiegngfpmkaa.fnExactPairRun
namespace Go.Proofs.Ytnceiegngfpmkaa
/-- The row, under a short name, for the claim. -/
theorem fnExactPairRun_holds : Rows.FnExactPairRunSaid := fnExactPairRun.proved
end Go.Proofs.Ytnceiegngfpmkaa
