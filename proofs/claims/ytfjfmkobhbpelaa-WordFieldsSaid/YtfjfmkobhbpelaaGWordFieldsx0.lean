-- Written by wip/stub.py of this repo.
import Derived.Test.YtfjfmkobhbpelaaProg
import Derived.Below
import Derived.Deep.Draws
import Derived.Deep.AppendLies
import Derived.Maps.AppendAt
import Derived.OwnWalk
import Derived.Laws.BytesArg
import Derived.Laws.MakeOwn
import Derived.Laws.OwnMore
import Derived.Deep.OwnRows
import Derived.Tactics
import Derived.Lib.ConvBytes
import Derived.Laws.Slices
import Derived.WalkKit
import Derived.KernelRfl
import Derived.RowKit3
import Derived.Deep.LoopGhost
import Derived.Deep.QuietTactic
import Derived.BigQuiet
import Derived.WideLaws
import Derived.Deep.DeepCutAuto
import Derived.Deep.CutBlock
import Derived.Deep.RegionHeld3
import Derived.Laws.Rows
import Derived.Lib.AppendStr
import Derived.ArgAppend
import Derived.Laws.IdiomCopy
import Derived.OrdersHeld
import Derived.Laws.BitsLemmas
import Derived.RowKit
import Derived.Test.YtfjfmkobhbpelaaWWords
import Derived.Test.YtfjfmkobhbpelaaWLast
import Derived.Test.YtfjfmkobhbpelaaWTab
import Derived.Test.YtfjfmkobhbpelaaWFour
import Derived.Test.YtfjfmkobhbpelaaWQPut
import Derived.Test.YtfjfmkobhbpelaaWApart
import Derived.Test.YtfjfmkobhbpelaaWArr
import Derived.Test.YtfjfmkobhbpelaaWZeros
import Derived.Test.YtfjfmkobhbpelaaWFoot
import Derived.Test.YtfjfmkobhbpelaaWKept
import Derived.Test.YtfjfmkobhbpelaaWShare
import Derived.Test.YtfjfmkobhbpelaaWN
import Derived.Test.YtfjfmkobhbpelaaWFootNe
import Derived.Test.YtfjfmkobhbpelaaWAt
import Derived.Test.YtfjfmkobhbpelaaWEqStruct
import Derived.Test.YtfjfmkobhbpelaaWRepsOne
import Derived.Test.YtfjfmkobhbpelaaWInv
import Derived.Test.YtfjfmkobhbpelaaWInvWords
import Derived.Test.YtfjfmkobhbpelaaWGuard
import Derived.Test.YtfjfmkobhbpelaaWNEv
import Derived.Test.YtfjfmkobhbpelaaWMore
namespace Go.Proofs.Ytfjfmkobhbpelaa.GWordFields
open Go.RowKit Go.Proofs.YtfjfmkobhbpelaaW.PrintWords Go.Proofs.YtfjfmkobhbpelaaW.PrintLast Go.Proofs.YtfjfmkobhbpelaaW.PrintMore
attribute [local go_sem] max2_int min2_int max_two min_two max_three min_three max_four min_four   -- for this text's walks alone
set_option linter.unusedVariables false
set_option linter.unusedSimpArgs false



def errW : Option Int → Value
  | none => .nilIface
  | some c => .iface 0 (.int .i64 c)
theorem errW_none : errW none = .nilIface := rfl
theorem errW_some (c : Int) : errW (some c) = .iface 0 (.int .i64 c) := rfl

theorem info5 : (Try.prog.info? 5).map (fun i => (i.zero, i.size, i.bytes)) = some (some (.int .u8 0), 1, 1) := by kernel_rfl
-- the values' own types

end Go.Proofs.Ytfjfmkobhbpelaa.GWordFields
