/- The row of FnExactRingRun: for every input the law returns true and leaves what came in as it was; over what its function comes to. -/
import Derived.Test.YteiigocdefjijaaRows
import Derived.Test.YteiigocdefjijaaP5
import Derived.WalkKit
import Derived.ProofKit
import Derived.OpenShut
import Derived.ShutString
import Derived.ChangeOld
import Derived.Below
import Derived.SizedLaws
namespace Go.Proofs.Yteiigocdefjijaa.fnExactRingRun
open Go.ChangeShapes Go.WideShapes Go.ChangeAt Go.RowKit Go.Proofs.YteiigocdefjijaaAm
set_option linter.unusedVariables false
set_option linter.unusedSimpArgs false
theorem own : ownKnob Try.prog.godebug = none := by kernel_rfl
theorem laidOut : laidOutB Try.prog = true := by kernel_rfl
set_option maxRecDepth 100000 in
theorem lifted (os : Os) (started : os.Started) (H : Type) (enc : TypeId × Value → H) :
    ReturnsInHanded {} Try.checked os 5 .any (Rows.fnExactRingRunSpec.pre6 enc Try.prog Try.f5 Rows.fnExactRingRunRow.domain false) (Rows.fnExactRingRunSpec.post enc Try.prog Try.f5 false true false false) := by
  refine returnsInHanded_of_change_sized (C := Try.checked) own started (by kernel_rfl) Try.func5
    (ChangeSpec.witness6 (enc := enc) (C := Try.checked) false ⟨#[], #[.int .i64 0, .int .i64 0, .slice none 0 0], []⟩ 8 (by kernel_rfl) (by kernel_rfl) (by kernel_rfl) (by kernel_rfl)) ?_
  intro W base args ds gs before hval0 hW hcnd hsz0 _
  have hval : ∀ (j : Nat) t v, Try.f5.params[j]? = some t → args[j]? = some v → Value.okWide Try.prog W .any base t v := hval0
  have hW' := hW
  obtain ⟨p, q, hA0, hV, rfl, hfz, hnd⟩ := hW
  have hA : DataW.TrodAll enc Try.prog W 0 (fun _ => true) true Try.f5.params.toList args.toList ds p := hA0
  rw [Try.params5] at hA hval
  obtain ⟨v0, vs0, d0, ds0, p0, q0, hargs, rfl, rfl, h0, r0⟩ := trodAll_cons hA
  obtain ⟨v1, vs1, d1, ds1, p1, q1, ha1, rfl, rfl, h1, r1⟩ := trodAll_cons r0
  subst ha1
  obtain ⟨v2, vs2, d2, ds2, p2, q2, ha2, rfl, rfl, h2, r2⟩ := trodAll_cons r1
  subst ha2
  obtain ⟨rfl, rfl, rfl⟩ := trodAll_nil r2
  obtain rfl : args = #[v0, v1, v2] := by cases args; simp_all
  obtain ⟨rfl, rfl⟩ := trodVars_none hV
  have k0 := h0
  have lt0 : ∀ x ∈ p0, x.block < W.heap.size := by obtain ⟨m, hm⟩ := k0; exact DataW.trod_lt m _ _ _ hm
  have k1 := h1
  have lt1 : ∀ x ∈ p1, x.block < W.heap.size := by obtain ⟨m, hm⟩ := k1; exact DataW.trod_lt m _ _ _ hm
  have k2 := h2
  have lt2 : ∀ x ∈ p2, x.block < W.heap.size := by obtain ⟨m, hm⟩ := k2; exact DataW.trod_lt m _ _ _ hm
  clear hA0 hval0 hsz0 hA
  obtain ⟨y0, hk0, ok0⟩ : ∃ y : Interp (.int .i64), Shown W (.int .i64) y v0.cells.toList ∧ Wf (.int .i64) y := by
    obtain ⟨fuel, hf⟩ := h0
    exact tsOk_ok (n := 30) (by kernel_rfl) enc W fuel _ _ hf
  have e0 : ParIs W (false, ⟨(.int .i64), y0⟩) v0 := by
    obtain ⟨a, rfl⟩ := okWide_int Try.underlying3 (hval 0 3 v0 rfl rfl)
    exact hk0
  obtain ⟨y1, hk1, ok1⟩ : ∃ y : Interp (.int .i64), Shown W (.int .i64) y v1.cells.toList ∧ Wf (.int .i64) y := by
    obtain ⟨fuel, hf⟩ := h1
    exact tsOk_ok (n := 30) (by kernel_rfl) enc W fuel _ _ hf
  have e1 : ParIs W (false, ⟨(.int .i64), y1⟩) v1 := by
    obtain ⟨a, rfl⟩ := okWide_int Try.underlying3 (hval 1 3 v1 rfl rfl)
    exact hk1
  obtain ⟨y2, hk2, ok2⟩ : ∃ y : Interp (.sl (.pair (.int .i64) (.int .i64))), Shown W (.sl (.pair (.int .i64) (.int .i64))) y v2.cells.toList ∧ Wf (.sl (.pair (.int .i64) (.int .i64))) y := by
    obtain ⟨fuel, hf⟩ := h2
    exact tsOk_ok (n := 30) (by kernel_rfl) enc W fuel _ _ hf
  have e2 : ParIs W (false, ⟨(.sl (.pair (.int .i64) (.int .i64))), y2⟩) v2 := by
    obtain ⟨a, b, c, rfl⟩ := okWide_slice Try.underlying51 (hval 2 51 v2 rfl rfl)
    exact hk2
  refine (law_calls (Go.Proofs.YteiigocdefjijaaAm.W.f5.ok y0 y1 y2 (Go.Proofs.YteiigocdefjijaaAm.W.law_FnExactRingRun y0 y1 y2 ok0 ok1 ok2)) (ps := [(false, ⟨(.int .i64), y0⟩), (false, ⟨(.int .i64), y1⟩), (false, ⟨(.sl (.pair (.int .i64) (.int .i64))), y2⟩)]) rfl rfl rfl (.cons e0 (.cons e1 (.cons e2 .nil)))).mono fun e W' ⟨he, bel⟩ => ?_
  subst he
  exact ⟨_, rfl, _, _, _, [], _, [], hW', trodAll_mk1 (shut_bool Try.underlying4 _), (trodAll_cons_mk (Below.trod laidOut (by kernel_rfl) (of_decide_eq_true (by kernel_rfl)) k0 bel lt0) (trodAll_cons_mk (Below.trod laidOut (by kernel_rfl) (of_decide_eq_true (by kernel_rfl)) k1 bel lt1) (trodAll_cons_mk (Below.trod laidOut (by kernel_rfl) (of_decide_eq_true (by kernel_rfl)) k2 bel lt2) trodAll_mk0))), rfl, bel.frame _, fun h => by cases h⟩
theorem over : Rows.fnExactRingRunRow.holds Try.pinned (OpenSpec.ofChange Rows.fnExactRingRunSpec) :=
  OpenClaim.holds_of_wide 5 Try.f5 rfl rfl rfl rfl rfl rfl rfl ⟨rfl, rfl, rfl, rfl, rfl⟩ rfl rfl rfl rfl rfl (by kernel_rfl) Try.func5 (by kernel_rfl)
    (of_decide_eq_true (by kernel_rfl)) (by unfold Func.isWrapper; first | (rw [if_pos (by decide +kernel)]; kernel_rfl) | (rw [if_neg (by decide +kernel)]; exact ⟨rfl, rfl⟩))
    (fun os started H enc _ => lifted os started H enc)
theorem proved : Rows.FnExactRingRunSaid := over
#print axioms proved
end Go.Proofs.Yteiigocdefjijaa.fnExactRingRun
namespace Go.Proofs.Yteiigocdefjijaa
/-- The row, under a short name, for the claim. -/
theorem fnExactRingRun_holds : Rows.FnExactRingRunSaid := fnExactRingRun.proved
end Go.Proofs.Yteiigocdefjijaa
