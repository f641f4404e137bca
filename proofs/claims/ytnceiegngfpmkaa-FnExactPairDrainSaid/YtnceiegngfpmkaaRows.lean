/-
  No cell of these rows narrows 'for every input' (looked for: loops, veiled, ifaces, maps, wideKeys, modest, calm, conditions, laid).
  DERIVED. THE GIVEN ROWS OF THIS SEAT. 6 by the template 'for every input the law returns true; each argument reads behind the call as it read before'; 0 by the template 'total and deterministic' (their statements: YtnceiegngfpmkaaTotals.lean).
  GIVEN WITH THE SEED: the statements are not yours to turn. If you find one false, say at which input.
  Laid BY PROGRAM, IN A SANDBOX (cutbox-rows.mjs): the forced cells as the released guide's own fill.sh prints them over the translation ce29677f5d9af6ee… (all of the seat's roots in one cut). By AI agents, Wed Nov 11 2026. No macro, syntax, notation, axiom, sorry.
-/
import Derived.Test.YtnceiegngfpmkaaChecked
import GoSem.Claim
import GoSem.ClaimJoined
import GoSem.ClaimMapViews
import Derived.JoinedTies
import Derived.KernelRfl
namespace Go.Proofs.Ytnceiegngfpmkaa
/- THE CELL 'sum', in the pinned program and in every row, IS THE sha256 OF THE DUMP (.gsa) THAT YtnceiegngfpmkaaProg.lean LOADS. Nothing in Lean hashes anything: it is a label: what it is worth is what the hold of that sum in a sandbox is worth. -/
noncomputable def Try.pinned : Pinned := { name := "ytnceiegngfpmkaa", sum := "ce29677f5d9af6ee5f0b436e241944afd4b2eaa4a889e8b0617b6864b29c0112", checked := Try.checked }
namespace Rows
def none {H : Type} : Left H := { results := [], args := [] }

/-- 'laws.FnStates': WHATEVER THE INPUT: true; the input reads as it did. -/
def fnStatesSpec : ChangeSpec := { name := "fnStates", fn := fun _ => fun
  | [d1, d2] => { results := [.lit (.bool true)], args := [d1, d2] }
  | _ => none }
def fnStatesRow : OpenClaim := { program := "ytnceiegngfpmkaa", sum := "ce29677f5d9af6ee5f0b436e241944afd4b2eaa4a889e8b0617b6864b29c0112", func := "loop.example/g00202/laws.FnStates", spec := "fnStates", unfollowed := true, recurses := true, apart := false }
def FnStatesSaid : Prop := fnStatesRow.holds Try.pinned (OpenSpec.ofChange fnStatesSpec)

/-- ITS FALSE NEIGHBOUR: 'it returns false'. Refute it at one input. -/
def fnStatesWrong : ChangeSpec := { name := "fnStates", fn := fun _ => fun
  | [d1, d2] => { results := [.lit (.bool false)], args := [d1, d2] }
  | _ => none }
def FnStatesWrongFalsely : Prop := fnStatesRow.holds Try.pinned (OpenSpec.ofChange fnStatesWrong)

/-- 'laws.FnOpens': WHATEVER THE INPUT: true; the input reads as it did. -/
def fnOpensSpec : ChangeSpec := { name := "fnOpens", fn := fun _ => fun
  | [d1, d2] => { results := [.lit (.bool true)], args := [d1, d2] }
  | _ => none }
def fnOpensRow : OpenClaim := { program := "ytnceiegngfpmkaa", sum := "ce29677f5d9af6ee5f0b436e241944afd4b2eaa4a889e8b0617b6864b29c0112", func := "loop.example/g00202/laws.FnOpens", spec := "fnOpens", unfollowed := true, recurses := true, apart := false }
def FnOpensSaid : Prop := fnOpensRow.holds Try.pinned (OpenSpec.ofChange fnOpensSpec)

/-- ITS FALSE NEIGHBOUR: 'it returns false'. Refute it at one input. -/
def fnOpensWrong : ChangeSpec := { name := "fnOpens", fn := fun _ => fun
  | [d1, d2] => { results := [.lit (.bool false)], args := [d1, d2] }
  | _ => none }
def FnOpensWrongFalsely : Prop := fnOpensRow.holds Try.pinned (OpenSpec.ofChange fnOpensWrong)

/-- 'laws.FnCloses': WHATEVER THE INPUT: true; the input reads as it did. -/
def fnClosesSpec : ChangeSpec := { name := "fnCloses", fn := fun _ => fun
  | [d1, d2] => { results := [.lit (.bool true)], args := [d1, d2] }
  | _ => none }
def fnClosesRow : OpenClaim := { program := "ytnceiegngfpmkaa", sum := "ce29677f5d9af6ee5f0b436e241944afd4b2eaa4a889e8b0617b6864b29c0112", func := "loop.example/g00202/laws.FnCloses", spec := "fnCloses", unfollowed := true, recurses := true, apart := false }
def FnClosesSaid : Prop := fnClosesRow.holds Try.pinned (OpenSpec.ofChange fnClosesSpec)

/-- ITS FALSE NEIGHBOUR: 'it returns false'. Refute it at one input. -/
def fnClosesWrong : ChangeSpec := { name := "fnCloses", fn := fun _ => fun
  | [d1, d2] => { results := [.lit (.bool false)], args := [d1, d2] }
  | _ => none }
def FnClosesWrongFalsely : Prop := fnClosesRow.holds Try.pinned (OpenSpec.ofChange fnClosesWrong)

/-- 'laws.FnExactPairRun': WHATEVER THE INPUT: true; the input reads as it did. -/
def fnExactPairRunSpec : ChangeSpec := { name := "fnExactPairRun", fn := fun _ => fun
  | [d] => { results := [.lit (.bool true)], args := [d] }
  | _ => none }
def fnExactPairRunRow : OpenClaim := { program := "ytnceiegngfpmkaa", sum := "ce29677f5d9af6ee5f0b436e241944afd4b2eaa4a889e8b0617b6864b29c0112", func := "loop.example/g00202/laws.FnExactPairRun", spec := "fnExactPairRun", unfollowed := true, recurses := true, apart := false }
def FnExactPairRunSaid : Prop := fnExactPairRunRow.holds Try.pinned (OpenSpec.ofChange fnExactPairRunSpec)

/-- ITS FALSE NEIGHBOUR: 'it returns false'. Refute it at one input. -/
def fnExactPairRunWrong : ChangeSpec := { name := "fnExactPairRun", fn := fun _ => fun
  | [d] => { results := [.lit (.bool false)], args := [d] }
  | _ => none }
def FnExactPairRunWrongFalsely : Prop := fnExactPairRunRow.holds Try.pinned (OpenSpec.ofChange fnExactPairRunWrong)

/-- 'laws.FnExactPairStep': WHATEVER THE INPUT: true; the input reads as it did. -/
def fnExactPairStepSpec : ChangeSpec := { name := "fnExactPairStep", fn := fun _ => fun
  | [d1, d2] => { results := [.lit (.bool true)], args := [d1, d2] }
  | _ => none }
def fnExactPairStepRow : OpenClaim := { program := "ytnceiegngfpmkaa", sum := "ce29677f5d9af6ee5f0b436e241944afd4b2eaa4a889e8b0617b6864b29c0112", func := "loop.example/g00202/laws.FnExactPairStep", spec := "fnExactPairStep", unfollowed := true, recurses := true, apart := false }
def FnExactPairStepSaid : Prop := fnExactPairStepRow.holds Try.pinned (OpenSpec.ofChange fnExactPairStepSpec)

/-- ITS FALSE NEIGHBOUR: 'it returns false'. Refute it at one input. -/
def fnExactPairStepWrong : ChangeSpec := { name := "fnExactPairStep", fn := fun _ => fun
  | [d1, d2] => { results := [.lit (.bool false)], args := [d1, d2] }
  | _ => none }
def FnExactPairStepWrongFalsely : Prop := fnExactPairStepRow.holds Try.pinned (OpenSpec.ofChange fnExactPairStepWrong)

/-- 'laws.FnExactPairDrain': WHATEVER THE INPUT: true; the input reads as it did. -/
def fnExactPairDrainSpec : ChangeSpec := { name := "fnExactPairDrain", fn := fun _ => fun
  | [d] => { results := [.lit (.bool true)], args := [d] }
  | _ => none }
def fnExactPairDrainRow : OpenClaim := { program := "ytnceiegngfpmkaa", sum := "ce29677f5d9af6ee5f0b436e241944afd4b2eaa4a889e8b0617b6864b29c0112", func := "loop.example/g00202/laws.FnExactPairDrain", spec := "fnExactPairDrain", unfollowed := true, recurses := true, apart := false }
def FnExactPairDrainSaid : Prop := fnExactPairDrainRow.holds Try.pinned (OpenSpec.ofChange fnExactPairDrainSpec)

/-- ITS FALSE NEIGHBOUR: 'it returns false'. Refute it at one input. -/
def fnExactPairDrainWrong : ChangeSpec := { name := "fnExactPairDrain", fn := fun _ => fun
  | [d] => { results := [.lit (.bool false)], args := [d] }
  | _ => none }
def FnExactPairDrainWrongFalsely : Prop := fnExactPairDrainRow.holds Try.pinned (OpenSpec.ofChange fnExactPairDrainWrong)

/- THE SECOND FORM. 'bulk': how many values and letters a reading holds, each counted each time it is reached (what is shared counts as often as it is met; a slice's spare places count too). A statement '..UptoSaid' is the law's where the arguments, and the package variables that the reading takes, are together of bulk at most 1048576: NARROWER than '..Said'. Prove '..Said' where nothing that the law and all that it calls make is longer than what came in: it says more and counts as full. Else prove '..UptoSaid'. A law counts once. -/
mutual
def uptoBulk {H : Type} : DataW H → Nat
  | .lit (.string bytes) => bytes.length + 1
  | .lit _ => 1
  | .nil => 1
  | .ptr d => uptoBulk d + 1
  | .slice elems spare => uptoBulkAll elems + uptoBulkAll spare + 1
  | .agg parts => uptoBulkAll parts + 1
  | .iface _ d => uptoBulk d + 1
  | .map entries => uptoBulkEntries entries + 1
  | .held _ => 1
def uptoBulkAll {H : Type} : List (DataW H) → Nat
  | [] => 0
  | d :: r => uptoBulk d + uptoBulkAll r
def uptoBulkEntries {H : Type} : List (Lit × DataW H) → Nat
  | [] => 0
  | x :: r => uptoBulkEntry x + uptoBulkEntries r
def uptoBulkEntry {H : Type} : Lit × DataW H → Nat
  | (.string bytes, d) => bytes.length + uptoBulk d + 1
  | (_, d) => uptoBulk d + 1
 end
def uptoSmall : (H : Type) → List (DataW H) → Bool := fun _ ds => decide (uptoBulkAll ds ≤ 1048576)
def OpenSpec.upto (s : _root_.Go.ChangeSpec) : _root_.Go.OpenSpec := { _root_.Go.OpenSpec.ofChange s with cond := some uptoSmall }

/-- 'laws.FnStates', WHERE WHAT IT READS IS OF BULK AT MOST 1048576: true; the input reads as it did. -/
def fnStatesUptoRow : OpenClaim := { program := "ytnceiegngfpmkaa", sum := "ce29677f5d9af6ee5f0b436e241944afd4b2eaa4a889e8b0617b6864b29c0112", func := "loop.example/g00202/laws.FnStates", spec := "fnStates", unfollowed := true, recurses := true, apart := false, narrowed := true }
def FnStatesUptoSaid : Prop := fnStatesUptoRow.holds Try.pinned (OpenSpec.upto fnStatesSpec)

/-- 'laws.FnOpens', WHERE WHAT IT READS IS OF BULK AT MOST 1048576: true; the input reads as it did. -/
def fnOpensUptoRow : OpenClaim := { program := "ytnceiegngfpmkaa", sum := "ce29677f5d9af6ee5f0b436e241944afd4b2eaa4a889e8b0617b6864b29c0112", func := "loop.example/g00202/laws.FnOpens", spec := "fnOpens", unfollowed := true, recurses := true, apart := false, narrowed := true }
def FnOpensUptoSaid : Prop := fnOpensUptoRow.holds Try.pinned (OpenSpec.upto fnOpensSpec)

/-- 'laws.FnCloses', WHERE WHAT IT READS IS OF BULK AT MOST 1048576: true; the input reads as it did. -/
def fnClosesUptoRow : OpenClaim := { program := "ytnceiegngfpmkaa", sum := "ce29677f5d9af6ee5f0b436e241944afd4b2eaa4a889e8b0617b6864b29c0112", func := "loop.example/g00202/laws.FnCloses", spec := "fnCloses", unfollowed := true, recurses := true, apart := false, narrowed := true }
def FnClosesUptoSaid : Prop := fnClosesUptoRow.holds Try.pinned (OpenSpec.upto fnClosesSpec)

/-- 'laws.FnExactPairRun', WHERE WHAT IT READS IS OF BULK AT MOST 1048576: true; the input reads as it did. -/
def fnExactPairRunUptoRow : OpenClaim := { program := "ytnceiegngfpmkaa", sum := "ce29677f5d9af6ee5f0b436e241944afd4b2eaa4a889e8b0617b6864b29c0112", func := "loop.example/g00202/laws.FnExactPairRun", spec := "fnExactPairRun", unfollowed := true, recurses := true, apart := false, narrowed := true }
def FnExactPairRunUptoSaid : Prop := fnExactPairRunUptoRow.holds Try.pinned (OpenSpec.upto fnExactPairRunSpec)

/-- 'laws.FnExactPairStep', WHERE WHAT IT READS IS OF BULK AT MOST 1048576: true; the input reads as it did. -/
def fnExactPairStepUptoRow : OpenClaim := { program := "ytnceiegngfpmkaa", sum := "ce29677f5d9af6ee5f0b436e241944afd4b2eaa4a889e8b0617b6864b29c0112", func := "loop.example/g00202/laws.FnExactPairStep", spec := "fnExactPairStep", unfollowed := true, recurses := true, apart := false, narrowed := true }
def FnExactPairStepUptoSaid : Prop := fnExactPairStepUptoRow.holds Try.pinned (OpenSpec.upto fnExactPairStepSpec)

/-- 'laws.FnExactPairDrain', WHERE WHAT IT READS IS OF BULK AT MOST 1048576: true; the input reads as it did. -/
def fnExactPairDrainUptoRow : OpenClaim := { program := "ytnceiegngfpmkaa", sum := "ce29677f5d9af6ee5f0b436e241944afd4b2eaa4a889e8b0617b6864b29c0112", func := "loop.example/g00202/laws.FnExactPairDrain", spec := "fnExactPairDrain", unfollowed := true, recurses := true, apart := false, narrowed := true }
def FnExactPairDrainUptoSaid : Prop := fnExactPairDrainUptoRow.holds Try.pinned (OpenSpec.upto fnExactPairDrainSpec)

end Rows
end Go.Proofs.Ytnceiegngfpmkaa
