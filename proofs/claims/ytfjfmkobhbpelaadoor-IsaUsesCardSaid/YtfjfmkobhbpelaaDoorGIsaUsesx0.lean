-- Written by wip/stub.py of this repo.
import Derived.Test.YtfjfmkobhbpelaaDoorProg
import Derived.Below
import Derived.Deep.Draws
import Derived.Deep.AppendLies
import Derived.Maps.AppendAt
import Derived.OwnWalk
import Derived.Laws.BytesArg
import Derived.Laws.MakeOwn
import Derived.Laws.OwnMore
import Derived.Deep.OwnRows
import Derived.Tactics
import Derived.Lib.ConvBytes
import Derived.Laws.Slices
import Derived.WalkKit
import Derived.KernelRfl
import Derived.RowKit3
import Derived.Deep.LoopGhost
import Derived.Deep.QuietTactic
import Derived.BigQuiet
import Derived.WideLaws
import Derived.Deep.DeepCutAuto
import Derived.Deep.CutBlock
import Derived.Deep.RegionHeld3
import Derived.Laws.Rows
import Derived.Lib.AppendStr
import Derived.ArgAppend
import Derived.Laws.IdiomCopy
import Derived.OrdersHeld
import Derived.Laws.BitsLemmas
import Derived.RowKit
import Derived.Test.YtfjfmkobhbpelaaDoorWWords
import Derived.Test.YtfjfmkobhbpelaaDoorWLast
import Derived.Test.YtfjfmkobhbpelaaDoorWTab
import Derived.Test.YtfjfmkobhbpelaaDoorWFour
import Derived.Test.YtfjfmkobhbpelaaDoorWQPut
import Derived.Test.YtfjfmkobhbpelaaDoorWApart
import Derived.Test.YtfjfmkobhbpelaaDoorWArr
import Derived.Test.YtfjfmkobhbpelaaDoorWZeros
import Derived.Test.YtfjfmkobhbpelaaDoorWFoot
import Derived.Test.YtfjfmkobhbpelaaDoorWKept
import Derived.Test.YtfjfmkobhbpelaaDoorWShare
import Derived.Test.YtfjfmkobhbpelaaDoorWN
import Derived.Test.YtfjfmkobhbpelaaDoorWFootNe
import Derived.Test.YtfjfmkobhbpelaaDoorWAt
import Derived.Test.YtfjfmkobhbpelaaDoorWEqStruct
import Derived.Test.YtfjfmkobhbpelaaDoorWRepsOne
import Derived.Test.YtfjfmkobhbpelaaDoorWInv
import Derived.Test.YtfjfmkobhbpelaaDoorWInvWords
import Derived.Test.YtfjfmkobhbpelaaDoorWGuard
import Derived.Test.YtfjfmkobhbpelaaDoorWNEv
import Derived.Test.YtfjfmkobhbpelaaDoorWMore
namespace Go.Proofs.YtfjfmkobhbpelaaDoor.GIsaUses
open Go.RowKit Go.Proofs.YtfjfmkobhbpelaaDoorW.PrintWords Go.Proofs.YtfjfmkobhbpelaaDoorW.PrintLast Go.Proofs.YtfjfmkobhbpelaaDoorW.PrintMore
attribute [local go_sem] max2_int min2_int max_two min_two max_three min_three max_four min_four   -- for this text's walks alone
set_option linter.unusedVariables false
set_option linter.unusedSimpArgs false



def errW : Option Int → Value
  | none => .nilIface
  | some c => .iface 0 (.int .i64 c)
theorem errW_none : errW none = .nilIface := rfl
theorem errW_some (c : Int) : errW (some c) = .iface 0 (.int .i64 c) := rfl

-- the values' own types

/-- The listed table: the operations' names, as the program's text lays them. -/
def isaNames : List ByteArray := [⟨#[]⟩, ⟨#[108, 117, 105]⟩, ⟨#[97, 117, 105, 112, 99]⟩, ⟨#[106, 97, 108]⟩, ⟨#[106, 97, 108, 114]⟩, ⟨#[98, 101, 113]⟩, ⟨#[98, 110, 101]⟩, ⟨#[98, 108, 116]⟩, ⟨#[98, 103, 101]⟩, ⟨#[98, 108, 116, 117]⟩, ⟨#[98, 103, 101, 117]⟩, ⟨#[108, 98]⟩, ⟨#[108, 104]⟩, ⟨#[108, 119]⟩, ⟨#[108, 100]⟩, ⟨#[108, 98, 117]⟩, ⟨#[108, 104, 117]⟩, ⟨#[108, 119, 117]⟩, ⟨#[115, 98]⟩, ⟨#[115, 104]⟩, ⟨#[115, 119]⟩, ⟨#[115, 100]⟩, ⟨#[97, 100, 100, 105]⟩, ⟨#[115, 108, 116, 105]⟩, ⟨#[115, 108, 116, 105, 117]⟩, ⟨#[120, 111, 114, 105]⟩, ⟨#[111, 114, 105]⟩, ⟨#[97, 110, 100, 105]⟩, ⟨#[115, 108, 108, 105]⟩, ⟨#[115, 114, 108, 105]⟩, ⟨#[115, 114, 97, 105]⟩, ⟨#[97, 100, 100, 105, 119]⟩, ⟨#[115, 108, 108, 105, 119]⟩, ⟨#[115, 114, 108, 105, 119]⟩, ⟨#[115, 114, 97, 105, 119]⟩, ⟨#[97, 100, 100]⟩, ⟨#[115, 117, 98]⟩, ⟨#[115, 108, 108]⟩, ⟨#[115, 108, 116]⟩, ⟨#[115, 108, 116, 117]⟩, ⟨#[120, 111, 114]⟩, ⟨#[115, 114, 108]⟩, ⟨#[115, 114, 97]⟩, ⟨#[111, 114]⟩, ⟨#[97, 110, 100]⟩, ⟨#[97, 100, 100, 119]⟩, ⟨#[115, 117, 98, 119]⟩, ⟨#[115, 108, 108, 119]⟩, ⟨#[115, 114, 108, 119]⟩, ⟨#[115, 114, 97, 119]⟩, ⟨#[109, 117, 108]⟩, ⟨#[109, 117, 108, 104]⟩, ⟨#[109, 117, 108, 104, 115, 117]⟩, ⟨#[109, 117, 108, 104, 117]⟩, ⟨#[100, 105, 118]⟩, ⟨#[100, 105, 118, 117]⟩, ⟨#[114, 101, 109]⟩, ⟨#[114, 101, 109, 117]⟩, ⟨#[109, 117, 108, 119]⟩, ⟨#[100, 105, 118, 119]⟩, ⟨#[100, 105, 118, 117, 119]⟩, ⟨#[114, 101, 109, 119]⟩, ⟨#[114, 101, 109, 117, 119]⟩, ⟨#[102, 101, 110, 99, 101]⟩, ⟨#[101, 99, 97, 108, 108]⟩, ⟨#[101, 98, 114, 101, 97, 107]⟩, ⟨#[108, 114, 46, 119]⟩, ⟨#[115, 99, 46, 119]⟩, ⟨#[97, 109, 111, 115, 119, 97, 112, 46, 119]⟩, ⟨#[97, 109, 111, 97, 100, 100, 46, 119]⟩, ⟨#[97, 109, 111, 120, 111, 114, 46, 119]⟩, ⟨#[97, 109, 111, 97, 110, 100, 46, 119]⟩, ⟨#[97, 109, 111, 111, 114, 46, 119]⟩, ⟨#[97, 109, 111, 109, 105, 110, 46, 119]⟩, ⟨#[97, 109, 111, 109, 97, 120, 46, 119]⟩, ⟨#[97, 109, 111, 109, 105, 110, 117, 46, 119]⟩, ⟨#[97, 109, 111, 109, 97, 120, 117, 46, 119]⟩, ⟨#[108, 114, 46, 100]⟩, ⟨#[115, 99, 46, 100]⟩, ⟨#[97, 109, 111, 115, 119, 97, 112, 46, 100]⟩, ⟨#[97, 109, 111, 97, 100, 100, 46, 100]⟩, ⟨#[97, 109, 111, 120, 111, 114, 46, 100]⟩, ⟨#[97, 109, 111, 97, 110, 100, 46, 100]⟩, ⟨#[97, 109, 111, 111, 114, 46, 100]⟩, ⟨#[97, 109, 111, 109, 105, 110, 46, 100]⟩, ⟨#[97, 109, 111, 109, 97, 120, 46, 100]⟩, ⟨#[97, 109, 111, 109, 105, 110, 117, 46, 100]⟩, ⟨#[97, 109, 111, 109, 97, 120, 117, 46, 100]⟩]
theorem isaNames_length : isaNames.length = 88 := by decide
/-- The listed table is what the program's text lays there. -/
def Laid (w : World) : Prop := Kd.string.C w (some ⟨0, 0, none⟩) isaNames.length isaNames
theorem laid_below {w w' : World} (h : Laid w) (hb : Below w.heap.size w w') : Laid w' := Kd.C_below h hb
theorem laid_belowd {w w' : World} (h : Laid w) (hb : Drawn0 w w') : Laid w' := Kd.C_below h hb.below
theorem laid_drewN {w : World} {n : Nat} (h : Laid w) : Laid (w.drewN n) := Kd.C_drewN h n
theorem emp_yes {b : Bool} {l : List UInt8} (h : (b == (l != ([] : List UInt8))) = true) : l.isEmpty = !b := by
  cases l <;> cases b <;> simp_all
theorem emp_no {b : Bool} {l : List UInt8} (h : (b == (l != ([] : List UInt8))) = false) : l.isEmpty = b := by
  cases l <;> cases b <;> simp_all

end Go.Proofs.YtfjfmkobhbpelaaDoor.GIsaUses
