/- The law FnExactCubicRun over what its arguments read as. -/
import Derived.Test.YtjfbeakmpmjadaaCub4
namespace Go.Proofs.Ytjfbeakmpmjadaa
open Go.RowKit Go.Proofs.YtjfbeakmpmjadaaW.PrintWords
set_option linter.unusedVariables false
theorem PWin.walk_FnExactCubicRun (W : World) (A0 : Option Addr) (c0 : Nat) (l0 : List (PWin.S25)) (hr0 : Kd.C PWin.k25 W A0 l0.length l0) (hc0 : l0.length ≤ c0) (ok0 : (l0.length ≤ maxLen ∧ ∀ q0 ∈ l0, ((Lit.int .i64 q0.f0).wf = true ∧ (Lit.int .i64 q0.f1).wf = true))) :
    Calls Try.prog 4 #[.slice A0 l0.length c0] W fun e w' => e = .returned (.bool true) ∧ Below W.heap.size W w' := by
  obtain ⟨k, h⟩ := Pure.runLaw l0 ok0.1
  exact PWin.laws_FnExactCubicRun.calls k A0 c0 l0 true W hr0 hc0 h
end Go.Proofs.Ytjfbeakmpmjadaa
