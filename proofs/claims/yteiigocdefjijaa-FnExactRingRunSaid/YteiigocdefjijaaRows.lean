/-
  No cell of these rows narrows 'for every input' (looked for: loops, veiled, ifaces, maps, wideKeys, modest, calm, conditions, laid).
  DERIVED. THE GIVEN ROWS OF THIS SEAT. 3 by the template 'for every input the law returns true; each argument reads behind the call as it read before'; 0 by the template 'total and deterministic' (their statements: YteiigocdefjijaaTotals.lean).
  GIVEN WITH THE SEED: the statements are not yours to turn. If you find one false, say at which input.
  Laid BY PROGRAM, IN A SANDBOX (cutbox-rows.mjs): the forced cells as the released guide's own fill.sh prints them over the translation aac5c8dc9bccf2c6… (all of the seat's roots in one cut). By AI agents, Wed Nov 11 2026. No macro, syntax, notation, axiom, sorry.
-/
import Derived.Test.YteiigocdefjijaaChecked
import GoSem.Claim
import GoSem.ClaimJoined
import GoSem.ClaimMapViews
import Derived.JoinedTies
import Derived.KernelRfl
namespace Go.Proofs.Yteiigocdefjijaa
/- THE CELL 'sum', in the pinned program and in every row, IS THE sha256 OF THE DUMP (.gsa) THAT YteiigocdefjijaaProg.lean LOADS. Nothing in Lean hashes anything: it is a label: what it is worth is what the hold of that sum in a sandbox is worth. -/
noncomputable def Try.pinned : Pinned := { name := "yteiigocdefjijaa", sum := "aac5c8dc9bccf2c64b25ecb76dba1ee32058ebc729893d04f0a5236e5157f4b7", checked := Try.checked }
namespace Rows
def none {H : Type} : Left H := { results := [], args := [] }

/-- 'laws.FnRing': WHATEVER THE INPUT: true; the input reads as it did. -/
def fnRingSpec : ChangeSpec := { name := "fnRing", fn := fun _ => fun
  | [d1, d2] => { results := [.lit (.bool true)], args := [d1, d2] }
  | _ => none }
def fnRingRow : OpenClaim := { program := "yteiigocdefjijaa", sum := "aac5c8dc9bccf2c64b25ecb76dba1ee32058ebc729893d04f0a5236e5157f4b7", func := "loop.example/g00202/laws.FnRing", spec := "fnRing", apart := false }
def FnRingSaid : Prop := fnRingRow.holds Try.pinned (OpenSpec.ofChange fnRingSpec)

/-- ITS FALSE NEIGHBOUR: 'it returns false'. Refute it at one input. -/
def fnRingWrong : ChangeSpec := { name := "fnRing", fn := fun _ => fun
  | [d1, d2] => { results := [.lit (.bool false)], args := [d1, d2] }
  | _ => none }
def FnRingWrongFalsely : Prop := fnRingRow.holds Try.pinned (OpenSpec.ofChange fnRingWrong)

/-- 'laws.FnExactRingStep': WHATEVER THE INPUT: true; the input reads as it did. -/
def fnExactRingStepSpec : ChangeSpec := { name := "fnExactRingStep", fn := fun _ => fun
  | [d1, d2] => { results := [.lit (.bool true)], args := [d1, d2] }
  | _ => none }
def fnExactRingStepRow : OpenClaim := { program := "yteiigocdefjijaa", sum := "aac5c8dc9bccf2c64b25ecb76dba1ee32058ebc729893d04f0a5236e5157f4b7", func := "loop.example/g00202/laws.FnExactRingStep", spec := "fnExactRingStep", apart := false }
def FnExactRingStepSaid : Prop := fnExactRingStepRow.holds Try.pinned (OpenSpec.ofChange fnExactRingStepSpec)

/-- ITS FALSE NEIGHBOUR: 'it returns false'. Refute it at one input. -/
def fnExactRingStepWrong : ChangeSpec := { name := "fnExactRingStep", fn := fun _ => fun
  | [d1, d2] => { results := [.lit (.bool false)], args := [d1, d2] }
  | _ => none }
def FnExactRingStepWrongFalsely : Prop := fnExactRingStepRow.holds Try.pinned (OpenSpec.ofChange fnExactRingStepWrong)

/-- 'laws.FnExactRingRun': WHATEVER THE INPUT: true; the input reads as it did. -/
def fnExactRingRunSpec : ChangeSpec := { name := "fnExactRingRun", fn := fun _ => fun
  | [d1, d2, d3] => { results := [.lit (.bool true)], args := [d1, d2, d3] }
  | _ => none }
def fnExactRingRunRow : OpenClaim := { program := "yteiigocdefjijaa", sum := "aac5c8dc9bccf2c64b25ecb76dba1ee32058ebc729893d04f0a5236e5157f4b7", func := "loop.example/g00202/laws.FnExactRingRun", spec := "fnExactRingRun", apart := false }
def FnExactRingRunSaid : Prop := fnExactRingRunRow.holds Try.pinned (OpenSpec.ofChange fnExactRingRunSpec)

/-- ITS FALSE NEIGHBOUR: 'it returns false'. Refute it at one input. -/
def fnExactRingRunWrong : ChangeSpec := { name := "fnExactRingRun", fn := fun _ => fun
  | [d1, d2, d3] => { results := [.lit (.bool false)], args := [d1, d2, d3] }
  | _ => none }
def FnExactRingRunWrongFalsely : Prop := fnExactRingRunRow.holds Try.pinned (OpenSpec.ofChange fnExactRingRunWrong)

/- THE SECOND FORM. 'bulk': how many values and letters a reading holds, each counted each time it is reached (what is shared counts as often as it is met; a slice's spare places count too). A statement '..UptoSaid' is the law's where the arguments, and the package variables that the reading takes, are together of bulk at most 1048576: NARROWER than '..Said'. Prove '..Said' where nothing that the law and all that it calls make is longer than what came in: it says more and counts as full. Else prove '..UptoSaid'. A law counts once. -/
mutual
def uptoBulk {H : Type} : DataW H → Nat
  | .lit (.string bytes) => bytes.length + 1
  | .lit _ => 1
  | .nil => 1
  | .ptr d => uptoBulk d + 1
  | .slice elems spare => uptoBulkAll elems + uptoBulkAll spare + 1
  | .agg parts => uptoBulkAll parts + 1
  | .iface _ d => uptoBulk d + 1
  | .map entries => uptoBulkEntries entries + 1
  | .held _ => 1
def uptoBulkAll {H : Type} : List (DataW H) → Nat
  | [] => 0
  | d :: r => uptoBulk d + uptoBulkAll r
def uptoBulkEntries {H : Type} : List (Lit × DataW H) → Nat
  | [] => 0
  | x :: r => uptoBulkEntry x + uptoBulkEntries r
def uptoBulkEntry {H : Type} : Lit × DataW H → Nat
  | (.string bytes, d) => bytes.length + uptoBulk d + 1
  | (_, d) => uptoBulk d + 1
 end
def uptoSmall : (H : Type) → List (DataW H) → Bool := fun _ ds => decide (uptoBulkAll ds ≤ 1048576)
def OpenSpec.upto (s : _root_.Go.ChangeSpec) : _root_.Go.OpenSpec := { _root_.Go.OpenSpec.ofChange s with cond := some uptoSmall }

/-- 'laws.FnRing', WHERE WHAT IT READS IS OF BULK AT MOST 1048576: true; the input reads as it did. -/
def fnRingUptoRow : OpenClaim := { program := "yteiigocdefjijaa", sum := "aac5c8dc9bccf2c64b25ecb76dba1ee32058ebc729893d04f0a5236e5157f4b7", func := "loop.example/g00202/laws.FnRing", spec := "fnRing", apart := false, narrowed := true }
def FnRingUptoSaid : Prop := fnRingUptoRow.holds Try.pinned (OpenSpec.upto fnRingSpec)

/-- 'laws.FnExactRingStep', WHERE WHAT IT READS IS OF BULK AT MOST 1048576: true; the input reads as it did. -/
def fnExactRingStepUptoRow : OpenClaim := { program := "yteiigocdefjijaa", sum := "aac5c8dc9bccf2c64b25ecb76dba1ee32058ebc729893d04f0a5236e5157f4b7", func := "loop.example/g00202/laws.FnExactRingStep", spec := "fnExactRingStep", apart := false, narrowed := true }
def FnExactRingStepUptoSaid : Prop := fnExactRingStepUptoRow.holds Try.pinned (OpenSpec.upto fnExactRingStepSpec)

/-- 'laws.FnExactRingRun', WHERE WHAT IT READS IS OF BULK AT MOST 1048576: true; the input reads as it did. -/
def fnExactRingRunUptoRow : OpenClaim := { program := "yteiigocdefjijaa", sum := "aac5c8dc9bccf2c64b25ecb76dba1ee32058ebc729893d04f0a5236e5157f4b7", func := "loop.example/g00202/laws.FnExactRingRun", spec := "fnExactRingRun", apart := false, narrowed := true }
def FnExactRingRunUptoSaid : Prop := fnExactRingRunUptoRow.holds Try.pinned (OpenSpec.upto fnExactRingRunSpec)

end Rows
end Go.Proofs.Yteiigocdefjijaa
