-- Written by plug.py, a program of this work, over the kit's printing program: the functions that it prints, and this work's own proofs of those that it does not.
import Derived.Test.YtdoonajbbfnnfaaProg
import Derived.Below
import Derived.Deep.Draws
import Derived.Deep.AppendLies
import Derived.Maps.AppendAt
import Derived.OwnWalk
import Derived.Laws.BytesArg
import Derived.Laws.MakeOwn
import Derived.Laws.OwnMore
import Derived.Deep.OwnRows
import Derived.Tactics
import Derived.Lib.ConvBytes
import Derived.Laws.Slices
import Derived.WalkKit
import Derived.KernelRfl
import Derived.RowKit3
import Derived.Deep.LoopGhost
import Derived.Deep.QuietTactic
import Derived.BigQuiet
import Derived.WideLaws
import Derived.Deep.DeepCutAuto
import Derived.Deep.CutBlock
import Derived.Deep.RegionHeld3
import Derived.Laws.Rows
import Derived.Lib.AppendStr
import Derived.ArgAppend
import Derived.Laws.IdiomCopy
import Derived.OrdersHeld
import Derived.Laws.BitsLemmas
import Derived.RowKit
import Derived.Test.YtdoonajbbfnnfaaWWords
import Derived.Test.YtdoonajbbfnnfaaWLast
import Derived.Test.YtdoonajbbfnnfaaWTab
import Derived.Test.YtdoonajbbfnnfaaWFour
import Derived.Test.YtdoonajbbfnnfaaWQPut
import Derived.Test.YtdoonajbbfnnfaaWApart
import Derived.Test.YtdoonajbbfnnfaaWArr
import Derived.Test.YtdoonajbbfnnfaaWZeros
import Derived.Test.YtdoonajbbfnnfaaWFoot
import Derived.Test.YtdoonajbbfnnfaaWKept
import Derived.Test.YtdoonajbbfnnfaaWShare
import Derived.Test.YtdoonajbbfnnfaaWN
import Derived.Test.YtdoonajbbfnnfaaWFootNe
import Derived.Test.YtdoonajbbfnnfaaWAt
import Derived.Test.YtdoonajbbfnnfaaWEqStruct
import Derived.Test.YtdoonajbbfnnfaaWRepsOne
import Derived.Test.YtdoonajbbfnnfaaWInv
import Derived.Test.YtdoonajbbfnnfaaWInvWords
import Derived.Test.YtdoonajbbfnnfaaWGuard
import Derived.Test.YtdoonajbbfnnfaaWNEv
import Derived.Test.YtdoonajbbfnnfaaWMore
namespace Go.Proofs.Ytdoonajbbfnnfaa.PSeq
open Go.RowKit Go.Proofs.YtdoonajbbfnnfaaW.PrintWords Go.Proofs.YtdoonajbbfnnfaaW.PrintLast Go.Proofs.YtdoonajbbfnnfaaW.PrintMore
attribute [local go_sem] max2_int min2_int max_two min_two max_three min_three max_four min_four   -- for this text's walks alone
set_option linter.unusedVariables false
set_option linter.unusedSimpArgs false



def errW : Option Int → Value
  | none => .nilIface
  | some c => .iface 0 (.int .i64 c)
theorem errW_none : errW none = .nilIface := rfl
theorem errW_some (c : Int) : errW (some c) = .iface 0 (.int .i64 c) := rfl

theorem info3 : (Try.prog.info? 3).map (fun i => (i.zero, i.size, i.bytes)) = some (some (.int .i64 0), 1, 8) := by kernel_rfl
-- the values' own types

end Go.Proofs.Ytdoonajbbfnnfaa.PSeq
