-- Written by wip/stub.py of this repo.
import Derived.Test.YtbmjbidekmkboaaDoorProg
import Derived.Below
import Derived.Deep.Draws
import Derived.Deep.AppendLies
import Derived.Maps.AppendAt
import Derived.OwnWalk
import Derived.Laws.BytesArg
import Derived.Laws.MakeOwn
import Derived.Laws.OwnMore
import Derived.Deep.OwnRows
import Derived.Tactics
import Derived.Lib.ConvBytes
import Derived.Laws.Slices
import Derived.WalkKit
import Derived.KernelRfl
import Derived.RowKit3
import Derived.Deep.LoopGhost
import Derived.Deep.QuietTactic
import Derived.BigQuiet
import Derived.WideLaws
import Derived.Deep.DeepCutAuto
import Derived.Deep.CutBlock
import Derived.Deep.RegionHeld3
import Derived.Laws.Rows
import Derived.Lib.AppendStr
import Derived.ArgAppend
import Derived.Laws.IdiomCopy
import Derived.OrdersHeld
import Derived.Laws.BitsLemmas
import Derived.RowKit
import Derived.Test.YtbmjbidekmkboaaDoorWWords
import Derived.Test.YtbmjbidekmkboaaDoorWLast
import Derived.Test.YtbmjbidekmkboaaDoorWTab
import Derived.Test.YtbmjbidekmkboaaDoorWFour
import Derived.Test.YtbmjbidekmkboaaDoorWQPut
import Derived.Test.YtbmjbidekmkboaaDoorWApart
import Derived.Test.YtbmjbidekmkboaaDoorWArr
import Derived.Test.YtbmjbidekmkboaaDoorWZeros
import Derived.Test.YtbmjbidekmkboaaDoorWFoot
import Derived.Test.YtbmjbidekmkboaaDoorWKept
import Derived.Test.YtbmjbidekmkboaaDoorWShare
import Derived.Test.YtbmjbidekmkboaaDoorWN
import Derived.Test.YtbmjbidekmkboaaDoorWFootNe
import Derived.Test.YtbmjbidekmkboaaDoorWAt
import Derived.Test.YtbmjbidekmkboaaDoorWEqStruct
import Derived.Test.YtbmjbidekmkboaaDoorWRepsOne
import Derived.Test.YtbmjbidekmkboaaDoorWInv
import Derived.Test.YtbmjbidekmkboaaDoorWInvWords
import Derived.Test.YtbmjbidekmkboaaDoorWGuard
import Derived.Test.YtbmjbidekmkboaaDoorWNEv
import Derived.Test.YtbmjbidekmkboaaDoorWMore
namespace Go.Proofs.YtbmjbidekmkboaaDoor.GRegSets
open Go.RowKit Go.Proofs.YtbmjbidekmkboaaDoorW.PrintWords Go.Proofs.YtbmjbidekmkboaaDoorW.PrintLast Go.Proofs.YtbmjbidekmkboaaDoorW.PrintMore
attribute [local go_sem] max2_int min2_int max_two min_two max_three min_three max_four min_four   -- for this text's walks alone
set_option linter.unusedVariables false
set_option linter.unusedSimpArgs false



def errW : Option Int → Value
  | none => .nilIface
  | some c => .iface 0 (.int .i64 c)
theorem errW_none : errW none = .nilIface := rfl
theorem errW_some (c : Int) : errW (some c) = .iface 0 (.int .i64 c) := rfl

theorem info3 : (Tryd.prog.info? 3).map (fun i => (i.zero, i.size, i.bytes)) = some (some (.int .i64 0), 1, 8) := by kernel_rfl
-- the values' own types

/-- The listed table math bits.deBruijn32tab, as the program's text lays it. -/
def deBruijn32 : List Int := [0, 1, 28, 2, 29, 14, 24, 3, 30, 22, 20, 15, 25, 17, 4, 8, 31, 27, 13, 23, 21, 19, 16, 7, 26, 12, 18, 6, 11, 5, 10, 9]
theorem deBruijn32_length : deBruijn32.length = 32 := by decide
/-- The listed table math bits.deBruijn64tab, as the program's text lays it. -/
def deBruijn64 : List Int := [0, 1, 56, 2, 57, 49, 28, 3, 61, 58, 42, 50, 38, 29, 17, 4, 62, 47, 59, 36, 45, 43, 51, 22, 53, 39, 33, 30, 24, 18, 12, 5, 63, 55, 48, 27, 60, 41, 37, 16, 46, 35, 44, 21, 52, 32, 23, 11, 54, 26, 40, 15, 34, 20, 31, 10, 25, 14, 19, 9, 13, 8, 7, 6]
theorem deBruijn64_length : deBruijn64.length = 64 := by decide
/-- The listed table internal strconv.uint64pow10, as the program's text lays it. -/
def pow10 : List Int := [1, 10, 100, 1000, 10000, 100000, 1000000, 10000000, 100000000, 1000000000, 10000000000, 100000000000, 1000000000000, 10000000000000, 100000000000000, 1000000000000000, 10000000000000000, 100000000000000000, 1000000000000000000, 10000000000000000000]
theorem pow10_length : pow10.length = 20 := by decide
/-- The listed table spinnaker reg.uses, as the program's text lays it. -/
def regUses : List ByteArray := [⟨#[122, 101, 114, 111]⟩, ⟨#[114, 97]⟩, ⟨#[115, 112]⟩, ⟨#[103, 112]⟩, ⟨#[116, 112]⟩, ⟨#[116, 48]⟩, ⟨#[116, 49]⟩, ⟨#[116, 50]⟩, ⟨#[115, 48]⟩, ⟨#[115, 49]⟩, ⟨#[97, 48]⟩, ⟨#[97, 49]⟩, ⟨#[97, 50]⟩, ⟨#[97, 51]⟩, ⟨#[97, 52]⟩, ⟨#[97, 53]⟩, ⟨#[97, 54]⟩, ⟨#[97, 55]⟩, ⟨#[115, 50]⟩, ⟨#[115, 51]⟩, ⟨#[115, 52]⟩, ⟨#[115, 53]⟩, ⟨#[115, 54]⟩, ⟨#[115, 55]⟩, ⟨#[115, 56]⟩, ⟨#[115, 57]⟩, ⟨#[115, 49, 48]⟩, ⟨#[115, 49, 49]⟩, ⟨#[116, 51]⟩, ⟨#[116, 52]⟩, ⟨#[116, 53]⟩, ⟨#[116, 54]⟩]
theorem regUses_length : regUses.length = 32 := by decide
/-- The listed tables are what the program's text lays there. -/
def Laid (w : World) : Prop := (Kd.int .u8).C w (some ⟨1, 0, none⟩) deBruijn32.length deBruijn32 ∧ (Kd.int .u8).C w (some ⟨3, 0, none⟩) deBruijn64.length deBruijn64 ∧ (Kd.int .u64).C w (some ⟨4, 0, none⟩) pow10.length pow10 ∧ Kd.string.C w (some ⟨0, 0, none⟩) regUses.length regUses
theorem laid_deBruijn32 {w : World} (h : Laid w) : (Kd.int .u8).C w (some ⟨1, 0, none⟩) deBruijn32.length deBruijn32 := h.1
theorem laid_deBruijn64 {w : World} (h : Laid w) : (Kd.int .u8).C w (some ⟨3, 0, none⟩) deBruijn64.length deBruijn64 := h.2.1
theorem laid_pow10 {w : World} (h : Laid w) : (Kd.int .u64).C w (some ⟨4, 0, none⟩) pow10.length pow10 := h.2.2.1
theorem laid_regUses {w : World} (h : Laid w) : Kd.string.C w (some ⟨0, 0, none⟩) regUses.length regUses := h.2.2.2
theorem laid_below {w w' : World} (h : Laid w) (hb : Below w.heap.size w w') : Laid w' := ⟨Kd.C_below h.1 hb, Kd.C_below h.2.1 hb, Kd.C_below h.2.2.1 hb, Kd.C_below h.2.2.2 hb⟩
theorem laid_belowd {w w' : World} (h : Laid w) (hb : Drawn0 w w') : Laid w' := laid_below h hb.below
theorem laid_drewN {w : World} {n : Nat} (h : Laid w) : Laid (w.drewN n) := laid_below h (pw_below_drewN (Below.refl _ _) n)
theorem emp_yes {b : Bool} {l : List UInt8} (h : (b == (l != ([] : List UInt8))) = true) : l.isEmpty = !b := by
  cases l <;> cases b <;> simp_all
theorem emp_no {b : Bool} {l : List UInt8} (h : (b == (l != ([] : List UInt8))) = false) : l.isEmpty = b := by
  cases l <;> cases b <;> simp_all

end Go.Proofs.YtbmjbidekmkboaaDoor.GRegSets
