/-
  No cell of these rows narrows 'for every input' (looked for: loops, veiled, ifaces, maps, wideKeys, modest, calm, conditions, laid).
  DERIVED. THE GIVEN ROWS OF THIS SEAT. 3 by the template 'for every input the law returns true; each argument reads behind the call as it read before'; 0 by the template 'total and deterministic' (their statements: YtjfbeakmpmjadaaTotals.lean).
  GIVEN WITH THE SEED: the statements are not yours to turn. If you find one false, say at which input.
  Laid BY PROGRAM, IN A SANDBOX (cutbox-rows.mjs): the forced cells as the released guide's own fill.sh prints them over the translation 5865489ebb2e0dc2… (all of the seat's roots in one cut). By AI agents, Wed Nov 11 2026. No macro, syntax, notation, axiom, sorry.
-/
import Derived.Test.YtjfbeakmpmjadaaChecked
import GoSem.Claim
import GoSem.ClaimJoined
import GoSem.ClaimMapViews
import Derived.JoinedTies
import Derived.KernelRfl
namespace Go.Proofs.Ytjfbeakmpmjadaa
/- THE CELL 'sum', in the pinned program and in every row, IS THE sha256 OF THE DUMP (.gsa) THAT YtjfbeakmpmjadaaProg.lean LOADS. Nothing in Lean hashes anything: it is a label: what it is worth is what the hold of that sum in a sandbox is worth. -/
noncomputable def Try.pinned : Pinned := { name := "ytjfbeakmpmjadaa", sum := "5865489ebb2e0dc25ec280609360814bc04d4fd7cf402b7de908f01d19e9eb37", checked := Try.checked }
namespace Rows
def none {H : Type} : Left H := { results := [], args := [] }

/-- 'laws.FnExactCubicStep': WHATEVER THE INPUT: true; the input reads as it did. -/
def fnExactCubicStepSpec : ChangeSpec := { name := "fnExactCubicStep", fn := fun _ => fun
  | [d1, d2] => { results := [.lit (.bool true)], args := [d1, d2] }
  | _ => none }
def fnExactCubicStepRow : OpenClaim := { program := "ytjfbeakmpmjadaa", sum := "5865489ebb2e0dc25ec280609360814bc04d4fd7cf402b7de908f01d19e9eb37", func := "loop.example/g00202/laws.FnExactCubicStep", spec := "fnExactCubicStep", apart := false }
def FnExactCubicStepSaid : Prop := fnExactCubicStepRow.holds Try.pinned (OpenSpec.ofChange fnExactCubicStepSpec)

/-- ITS FALSE NEIGHBOUR: 'it returns false'. Refute it at one input. -/
def fnExactCubicStepWrong : ChangeSpec := { name := "fnExactCubicStep", fn := fun _ => fun
  | [d1, d2] => { results := [.lit (.bool false)], args := [d1, d2] }
  | _ => none }
def FnExactCubicStepWrongFalsely : Prop := fnExactCubicStepRow.holds Try.pinned (OpenSpec.ofChange fnExactCubicStepWrong)

/-- 'laws.FnExactCubicRun': WHATEVER THE INPUT: true; the input reads as it did. -/
def fnExactCubicRunSpec : ChangeSpec := { name := "fnExactCubicRun", fn := fun _ => fun
  | [d] => { results := [.lit (.bool true)], args := [d] }
  | _ => none }
def fnExactCubicRunRow : OpenClaim := { program := "ytjfbeakmpmjadaa", sum := "5865489ebb2e0dc25ec280609360814bc04d4fd7cf402b7de908f01d19e9eb37", func := "loop.example/g00202/laws.FnExactCubicRun", spec := "fnExactCubicRun", apart := false }
def FnExactCubicRunSaid : Prop := fnExactCubicRunRow.holds Try.pinned (OpenSpec.ofChange fnExactCubicRunSpec)

/-- ITS FALSE NEIGHBOUR: 'it returns false'. Refute it at one input. -/
def fnExactCubicRunWrong : ChangeSpec := { name := "fnExactCubicRun", fn := fun _ => fun
  | [d] => { results := [.lit (.bool false)], args := [d] }
  | _ => none }
def FnExactCubicRunWrongFalsely : Prop := fnExactCubicRunRow.holds Try.pinned (OpenSpec.ofChange fnExactCubicRunWrong)

/-- 'laws.FnWindow': WHATEVER THE INPUT: true; the input reads as it did. -/
def fnWindowSpec : ChangeSpec := { name := "fnWindow", fn := fun _ => fun
  | [d] => { results := [.lit (.bool true)], args := [d] }
  | _ => none }
def fnWindowRow : OpenClaim := { program := "ytjfbeakmpmjadaa", sum := "5865489ebb2e0dc25ec280609360814bc04d4fd7cf402b7de908f01d19e9eb37", func := "loop.example/g00202/laws.FnWindow", spec := "fnWindow", apart := false }
def FnWindowSaid : Prop := fnWindowRow.holds Try.pinned (OpenSpec.ofChange fnWindowSpec)

/-- ITS FALSE NEIGHBOUR: 'it returns false'. Refute it at one input. -/
def fnWindowWrong : ChangeSpec := { name := "fnWindow", fn := fun _ => fun
  | [d] => { results := [.lit (.bool false)], args := [d] }
  | _ => none }
def FnWindowWrongFalsely : Prop := fnWindowRow.holds Try.pinned (OpenSpec.ofChange fnWindowWrong)

/- THE SECOND FORM. 'bulk': how many values and letters a reading holds, each counted each time it is reached (what is shared counts as often as it is met; a slice's spare places count too). A statement '..UptoSaid' is the law's where the arguments, and the package variables that the reading takes, are together of bulk at most 1048576: NARROWER than '..Said'. Prove '..Said' where nothing that the law and all that it calls make is longer than what came in: it says more and counts as full. Else prove '..UptoSaid'. A law counts once. -/
mutual
def uptoBulk {H : Type} : DataW H → Nat
  | .lit (.string bytes) => bytes.length + 1
  | .lit _ => 1
  | .nil => 1
  | .ptr d => uptoBulk d + 1
  | .slice elems spare => uptoBulkAll elems + uptoBulkAll spare + 1
  | .agg parts => uptoBulkAll parts + 1
  | .iface _ d => uptoBulk d + 1
  | .map entries => uptoBulkEntries entries + 1
  | .held _ => 1
def uptoBulkAll {H : Type} : List (DataW H) → Nat
  | [] => 0
  | d :: r => uptoBulk d + uptoBulkAll r
def uptoBulkEntries {H : Type} : List (Lit × DataW H) → Nat
  | [] => 0
  | x :: r => uptoBulkEntry x + uptoBulkEntries r
def uptoBulkEntry {H : Type} : Lit × DataW H → Nat
  | (.string bytes, d) => bytes.length + uptoBulk d + 1
  | (_, d) => uptoBulk d + 1
 end
def uptoSmall : (H : Type) → List (DataW H) → Bool := fun _ ds => decide (uptoBulkAll ds ≤ 1048576)
def OpenSpec.upto (s : _root_.Go.ChangeSpec) : _root_.Go.OpenSpec := { _root_.Go.OpenSpec.ofChange s with cond := some uptoSmall }

/-- 'laws.FnExactCubicStep', WHERE WHAT IT READS IS OF BULK AT MOST 1048576: true; the input reads as it did. -/
def fnExactCubicStepUptoRow : OpenClaim := { program := "ytjfbeakmpmjadaa", sum := "5865489ebb2e0dc25ec280609360814bc04d4fd7cf402b7de908f01d19e9eb37", func := "loop.example/g00202/laws.FnExactCubicStep", spec := "fnExactCubicStep", apart := false, narrowed := true }
def FnExactCubicStepUptoSaid : Prop := fnExactCubicStepUptoRow.holds Try.pinned (OpenSpec.upto fnExactCubicStepSpec)

/-- 'laws.FnExactCubicRun', WHERE WHAT IT READS IS OF BULK AT MOST 1048576: true; the input reads as it did. -/
def fnExactCubicRunUptoRow : OpenClaim := { program := "ytjfbeakmpmjadaa", sum := "5865489ebb2e0dc25ec280609360814bc04d4fd7cf402b7de908f01d19e9eb37", func := "loop.example/g00202/laws.FnExactCubicRun", spec := "fnExactCubicRun", apart := false, narrowed := true }
def FnExactCubicRunUptoSaid : Prop := fnExactCubicRunUptoRow.holds Try.pinned (OpenSpec.upto fnExactCubicRunSpec)

/-- 'laws.FnWindow', WHERE WHAT IT READS IS OF BULK AT MOST 1048576: true; the input reads as it did. -/
def fnWindowUptoRow : OpenClaim := { program := "ytjfbeakmpmjadaa", sum := "5865489ebb2e0dc25ec280609360814bc04d4fd7cf402b7de908f01d19e9eb37", func := "loop.example/g00202/laws.FnWindow", spec := "fnWindow", apart := false, narrowed := true }
def FnWindowUptoSaid : Prop := fnWindowUptoRow.holds Try.pinned (OpenSpec.upto fnWindowSpec)

end Rows
end Go.Proofs.Ytjfbeakmpmjadaa
