-- Written by plug.py, a program of this work, over the kit's printing program: the functions that it prints, and this work's own proofs of those that it does not.
import Derived.Test.YtnceiegngfpmkaaProg
import Derived.Below
import Derived.Deep.Draws
import Derived.Deep.AppendLies
import Derived.Maps.AppendAt
import Derived.OwnWalk
import Derived.Laws.BytesArg
import Derived.Laws.MakeOwn
import Derived.Laws.OwnMore
import Derived.Deep.OwnRows
import Derived.Tactics
import Derived.Lib.ConvBytes
import Derived.Laws.Slices
import Derived.WalkKit
import Derived.KernelRfl
import Derived.RowKit3
import Derived.Deep.LoopGhost
import Derived.Deep.QuietTactic
import Derived.BigQuiet
import Derived.WideLaws
import Derived.Deep.DeepCutAuto
import Derived.Deep.CutBlock
import Derived.Deep.RegionHeld3
import Derived.Laws.Rows
import Derived.Lib.AppendStr
import Derived.ArgAppend
import Derived.Laws.IdiomCopy
import Derived.OrdersHeld
import Derived.Laws.BitsLemmas
import Derived.RowKit
import Derived.Test.YtnceiegngfpmkaaWWords
import Derived.Test.YtnceiegngfpmkaaWLast
import Derived.Test.YtnceiegngfpmkaaWTab
import Derived.Test.YtnceiegngfpmkaaWFour
import Derived.Test.YtnceiegngfpmkaaWQPut
import Derived.Test.YtnceiegngfpmkaaWApart
import Derived.Test.YtnceiegngfpmkaaWArr
import Derived.Test.YtnceiegngfpmkaaWZeros
import Derived.Test.YtnceiegngfpmkaaWFoot
import Derived.Test.YtnceiegngfpmkaaWKept
import Derived.Test.YtnceiegngfpmkaaWShare
import Derived.Test.YtnceiegngfpmkaaWN
import Derived.Test.YtnceiegngfpmkaaWFootNe
import Derived.Test.YtnceiegngfpmkaaWAt
import Derived.Test.YtnceiegngfpmkaaWEqStruct
import Derived.Test.YtnceiegngfpmkaaWRepsOne
import Derived.Test.YtnceiegngfpmkaaWInv
import Derived.Test.YtnceiegngfpmkaaWInvWords
import Derived.Test.YtnceiegngfpmkaaWGuard
import Derived.Test.YtnceiegngfpmkaaWNEv
import Derived.Test.YtnceiegngfpmkaaWMore
namespace Go.Proofs.Ytnceiegngfpmkaa.PSta
open Go.RowKit Go.Proofs.YtnceiegngfpmkaaW.PrintWords Go.Proofs.YtnceiegngfpmkaaW.PrintLast Go.Proofs.YtnceiegngfpmkaaW.PrintMore
attribute [local go_sem] max2_int min2_int max_two min_two max_three min_three max_four min_four   -- for this text's walks alone
set_option linter.unusedVariables false
set_option linter.unusedSimpArgs false



def errW : Option Int → Value
  | none => .nilIface
  | some c => .iface 0 (.int .i64 c)
theorem errW_none : errW none = .nilIface := rfl
theorem errW_some (c : Int) : errW (some c) = .iface 0 (.int .i64 c) := rfl

theorem info3 : (Try.prog.info? 3).map (fun i => (i.zero, i.size, i.bytes)) = some (some (.int .i64 0), 1, 8) := by kernel_rfl
theorem info9 : (Try.prog.info? 9).map (fun i => (i.zero, i.size, i.bytes)) = some (some (.string ⟨#[]⟩), 1, 16) := by kernel_rfl
-- the values' own types

end Go.Proofs.Ytnceiegngfpmkaa.PSta
