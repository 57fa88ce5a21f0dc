/-
  NARROWER THAN 'FOR EVERY INPUT', by the rows' own cells (each row's printed sentence says how): LrscLengths: laid · LrscAround: laid · LrscAll: laid · RegParses: laid · RegNames: laid · RegSets: laid · RegChanges: laid · EncWords: laid · EncApart: laid · EncLists: laid · UnitChecks: laid · UnitExpands: laid.
  DERIVED. THE GIVEN ROWS OF THIS SEAT. 12 by the template 'for every input the law returns true; each argument reads behind the call as it read before'; 0 by the template 'total and deterministic' (their statements: YtbmjbidekmkboaaDoorTotals.lean).
  GIVEN WITH THE SEED: the statements are not yours to turn. If you find one false, say at which input.
  Laid BY PROGRAM, IN A SANDBOX (cutbox-rows.mjs): the forced cells as the released guide's own fill.sh prints them over the translation db32d379ffa3687b… (all of the seat's roots in one cut). By AI agents, Wed Nov 11 2026. No macro, syntax, notation, axiom, sorry.
-/
import Derived.Test.YtbmjbidekmkboaaDoorChecked
import GoSem.Claim
import GoSem.ClaimJoined
import GoSem.ClaimMapViews
import Derived.JoinedTies
import Derived.KernelRfl
namespace Go.Proofs.YtbmjbidekmkboaaDoor
/- THE CELL 'sum', in the pinned program and in every row, IS THE sha256 OF THE DUMP (.gsa) THAT YtbmjbidekmkboaaDoorProg.lean LOADS. Nothing in Lean hashes anything: it is a label: what it is worth is what the hold of that sum in a sandbox is worth. -/
noncomputable def Tryd.pinned : Pinned := { name := "ytbmjbidekmkboaadoor", sum := "db32d379ffa3687b60e47f49e524e3145f91f3ae6098382d4687d6f3b93f87cd", checked := Tryd.checked }
namespace Rows
def none {H : Type} : Left H := { results := [], args := [] }

/- WHAT THE LISTED PACKAGE-LEVEL VARIABLES READ AS WHEN THE CALL BEGINS. Each datum BY PROGRAM (the guide's laid-datum.mjs) off the statement by which the dump's own 'gosem.cut.vars' lays the variable. In a bare row this is a premise. The card (YtbmjbidekmkboaaDoorCards.lean) ties it to the program's text. -/
def laid_spinnaker_isa_names {H : Type} : DataW H := .agg [.lit (.string []), .lit (.string [108, 117, 105]), .lit (.string [97, 117, 105, 112, 99]), .lit (.string [106, 97, 108]), .lit (.string [106, 97, 108, 114]), .lit (.string [98, 101, 113]), .lit (.string [98, 110, 101]), .lit (.string [98, 108, 116]), .lit (.string [98, 103, 101]), .lit (.string [98, 108, 116, 117]), .lit (.string [98, 103, 101, 117]), .lit (.string [108, 98]), .lit (.string [108, 104]), .lit (.string [108, 119]), .lit (.string [108, 100]), .lit (.string [108, 98, 117]), .lit (.string [108, 104, 117]), .lit (.string [108, 119, 117]), .lit (.string [115, 98]), .lit (.string [115, 104]), .lit (.string [115, 119]), .lit (.string [115, 100]), .lit (.string [97, 100, 100, 105]), .lit (.string [115, 108, 116, 105]), .lit (.string [115, 108, 116, 105, 117]), .lit (.string [120, 111, 114, 105]), .lit (.string [111, 114, 105]), .lit (.string [97, 110, 100, 105]), .lit (.string [115, 108, 108, 105]), .lit (.string [115, 114, 108, 105]), .lit (.string [115, 114, 97, 105]), .lit (.string [97, 100, 100, 105, 119]), .lit (.string [115, 108, 108, 105, 119]), .lit (.string [115, 114, 108, 105, 119]), .lit (.string [115, 114, 97, 105, 119]), .lit (.string [97, 100, 100]), .lit (.string [115, 117, 98]), .lit (.string [115, 108, 108]), .lit (.string [115, 108, 116]), .lit (.string [115, 108, 116, 117]), .lit (.string [120, 111, 114]), .lit (.string [115, 114, 108]), .lit (.string [115, 114, 97]), .lit (.string [111, 114]), .lit (.string [97, 110, 100]), .lit (.string [97, 100, 100, 119]), .lit (.string [115, 117, 98, 119]), .lit (.string [115, 108, 108, 119]), .lit (.string [115, 114, 108, 119]), .lit (.string [115, 114, 97, 119]), .lit (.string [109, 117, 108]), .lit (.string [109, 117, 108, 104]), .lit (.string [109, 117, 108, 104, 115, 117]), .lit (.string [109, 117, 108, 104, 117]), .lit (.string [100, 105, 118]), .lit (.string [100, 105, 118, 117]), .lit (.string [114, 101, 109]), .lit (.string [114, 101, 109, 117]), .lit (.string [109, 117, 108, 119]), .lit (.string [100, 105, 118, 119]), .lit (.string [100, 105, 118, 117, 119]), .lit (.string [114, 101, 109, 119]), .lit (.string [114, 101, 109, 117, 119]), .lit (.string [102, 101, 110, 99, 101]), .lit (.string [101, 99, 97, 108, 108]), .lit (.string [101, 98, 114, 101, 97, 107]), .lit (.string [108, 114, 46, 119]), .lit (.string [115, 99, 46, 119]), .lit (.string [97, 109, 111, 115, 119, 97, 112, 46, 119]), .lit (.string [97, 109, 111, 97, 100, 100, 46, 119]), .lit (.string [97, 109, 111, 120, 111, 114, 46, 119]), .lit (.string [97, 109, 111, 97, 110, 100, 46, 119]), .lit (.string [97, 109, 111, 111, 114, 46, 119]), .lit (.string [97, 109, 111, 109, 105, 110, 46, 119]), .lit (.string [97, 109, 111, 109, 97, 120, 46, 119]), .lit (.string [97, 109, 111, 109, 105, 110, 117, 46, 119]), .lit (.string [97, 109, 111, 109, 97, 120, 117, 46, 119]), .lit (.string [108, 114, 46, 100]), .lit (.string [115, 99, 46, 100]), .lit (.string [97, 109, 111, 115, 119, 97, 112, 46, 100]), .lit (.string [97, 109, 111, 97, 100, 100, 46, 100]), .lit (.string [97, 109, 111, 120, 111, 114, 46, 100]), .lit (.string [97, 109, 111, 97, 110, 100, 46, 100]), .lit (.string [97, 109, 111, 111, 114, 46, 100]), .lit (.string [97, 109, 111, 109, 105, 110, 46, 100]), .lit (.string [97, 109, 111, 109, 97, 120, 46, 100]), .lit (.string [97, 109, 111, 109, 105, 110, 117, 46, 100]), .lit (.string [97, 109, 111, 109, 97, 120, 117, 46, 100])]
def laid_math_bits_deBruijn32tab {H : Type} : DataW H := .agg [.lit (.int .u8 0), .lit (.int .u8 1), .lit (.int .u8 28), .lit (.int .u8 2), .lit (.int .u8 29), .lit (.int .u8 14), .lit (.int .u8 24), .lit (.int .u8 3), .lit (.int .u8 30), .lit (.int .u8 22), .lit (.int .u8 20), .lit (.int .u8 15), .lit (.int .u8 25), .lit (.int .u8 17), .lit (.int .u8 4), .lit (.int .u8 8), .lit (.int .u8 31), .lit (.int .u8 27), .lit (.int .u8 13), .lit (.int .u8 23), .lit (.int .u8 21), .lit (.int .u8 19), .lit (.int .u8 16), .lit (.int .u8 7), .lit (.int .u8 26), .lit (.int .u8 12), .lit (.int .u8 18), .lit (.int .u8 6), .lit (.int .u8 11), .lit (.int .u8 5), .lit (.int .u8 10), .lit (.int .u8 9)]
def laid_math_bits_deBruijn64tab {H : Type} : DataW H := .agg [.lit (.int .u8 0), .lit (.int .u8 1), .lit (.int .u8 56), .lit (.int .u8 2), .lit (.int .u8 57), .lit (.int .u8 49), .lit (.int .u8 28), .lit (.int .u8 3), .lit (.int .u8 61), .lit (.int .u8 58), .lit (.int .u8 42), .lit (.int .u8 50), .lit (.int .u8 38), .lit (.int .u8 29), .lit (.int .u8 17), .lit (.int .u8 4), .lit (.int .u8 62), .lit (.int .u8 47), .lit (.int .u8 59), .lit (.int .u8 36), .lit (.int .u8 45), .lit (.int .u8 43), .lit (.int .u8 51), .lit (.int .u8 22), .lit (.int .u8 53), .lit (.int .u8 39), .lit (.int .u8 33), .lit (.int .u8 30), .lit (.int .u8 24), .lit (.int .u8 18), .lit (.int .u8 12), .lit (.int .u8 5), .lit (.int .u8 63), .lit (.int .u8 55), .lit (.int .u8 48), .lit (.int .u8 27), .lit (.int .u8 60), .lit (.int .u8 41), .lit (.int .u8 37), .lit (.int .u8 16), .lit (.int .u8 46), .lit (.int .u8 35), .lit (.int .u8 44), .lit (.int .u8 21), .lit (.int .u8 52), .lit (.int .u8 32), .lit (.int .u8 23), .lit (.int .u8 11), .lit (.int .u8 54), .lit (.int .u8 26), .lit (.int .u8 40), .lit (.int .u8 15), .lit (.int .u8 34), .lit (.int .u8 20), .lit (.int .u8 31), .lit (.int .u8 10), .lit (.int .u8 25), .lit (.int .u8 14), .lit (.int .u8 19), .lit (.int .u8 9), .lit (.int .u8 13), .lit (.int .u8 8), .lit (.int .u8 7), .lit (.int .u8 6)]
def laid_internal_strconv_uint64pow10 {H : Type} : DataW H := .agg [.lit (.int .u64 1), .lit (.int .u64 10), .lit (.int .u64 100), .lit (.int .u64 1000), .lit (.int .u64 10000), .lit (.int .u64 100000), .lit (.int .u64 1000000), .lit (.int .u64 10000000), .lit (.int .u64 100000000), .lit (.int .u64 1000000000), .lit (.int .u64 10000000000), .lit (.int .u64 100000000000), .lit (.int .u64 1000000000000), .lit (.int .u64 10000000000000), .lit (.int .u64 100000000000000), .lit (.int .u64 1000000000000000), .lit (.int .u64 10000000000000000), .lit (.int .u64 100000000000000000), .lit (.int .u64 1000000000000000000), .lit (.int .u64 10000000000000000000)]
def laid_spinnaker_reg_uses {H : Type} : DataW H := .agg [.lit (.string [122, 101, 114, 111]), .lit (.string [114, 97]), .lit (.string [115, 112]), .lit (.string [103, 112]), .lit (.string [116, 112]), .lit (.string [116, 48]), .lit (.string [116, 49]), .lit (.string [116, 50]), .lit (.string [115, 48]), .lit (.string [115, 49]), .lit (.string [97, 48]), .lit (.string [97, 49]), .lit (.string [97, 50]), .lit (.string [97, 51]), .lit (.string [97, 52]), .lit (.string [97, 53]), .lit (.string [97, 54]), .lit (.string [97, 55]), .lit (.string [115, 50]), .lit (.string [115, 51]), .lit (.string [115, 52]), .lit (.string [115, 53]), .lit (.string [115, 54]), .lit (.string [115, 55]), .lit (.string [115, 56]), .lit (.string [115, 57]), .lit (.string [115, 49, 48]), .lit (.string [115, 49, 49]), .lit (.string [116, 51]), .lit (.string [116, 52]), .lit (.string [116, 53]), .lit (.string [116, 54])]

/-- 'spinnakerlaw12.LrscLengths': WHATEVER THE INPUT: true; the input reads as it did. -/
def lrscLengthsSpec : ChangeSpec := { name := "lrscLengths", fn := fun _ => fun
  | [d1, d2] => { results := [.lit (.bool true)], args := [d1, d2] }
  | _ => none }
def lrscLengthsRow : OpenClaim := { program := "ytbmjbidekmkboaadoor", sum := "db32d379ffa3687b60e47f49e524e3145f91f3ae6098382d4687d6f3b93f87cd", func := "spinnaker/spinnakerlaw12.LrscLengths", spec := "lrscLengths", unfollowed := true, recurses := true, named := ["spinnaker/isa.names"], apart := false, laid := [("spinnaker/isa.names", laid_spinnaker_isa_names)] }
def LrscLengthsSaid : Prop := lrscLengthsRow.holds Tryd.pinned (OpenSpec.ofChange lrscLengthsSpec)

/-- ITS FALSE NEIGHBOUR: 'it returns false'. Refute it at one input. -/
def lrscLengthsWrong : ChangeSpec := { name := "lrscLengths", fn := fun _ => fun
  | [d1, d2] => { results := [.lit (.bool false)], args := [d1, d2] }
  | _ => none }
def LrscLengthsWrongFalsely : Prop := lrscLengthsRow.holds Tryd.pinned (OpenSpec.ofChange lrscLengthsWrong)

/-- 'spinnakerlaw12.LrscAround': WHATEVER THE INPUT: true; the input reads as it did. -/
def lrscAroundSpec : ChangeSpec := { name := "lrscAround", fn := fun _ => fun
  | [d1, d2, d3] => { results := [.lit (.bool true)], args := [d1, d2, d3] }
  | _ => none }
def lrscAroundRow : OpenClaim := { program := "ytbmjbidekmkboaadoor", sum := "db32d379ffa3687b60e47f49e524e3145f91f3ae6098382d4687d6f3b93f87cd", func := "spinnaker/spinnakerlaw12.LrscAround", spec := "lrscAround", unfollowed := true, recurses := true, named := ["spinnaker/isa.names"], apart := false, laid := [("spinnaker/isa.names", laid_spinnaker_isa_names)] }
def LrscAroundSaid : Prop := lrscAroundRow.holds Tryd.pinned (OpenSpec.ofChange lrscAroundSpec)

/-- ITS FALSE NEIGHBOUR: 'it returns false'. Refute it at one input. -/
def lrscAroundWrong : ChangeSpec := { name := "lrscAround", fn := fun _ => fun
  | [d1, d2, d3] => { results := [.lit (.bool false)], args := [d1, d2, d3] }
  | _ => none }
def LrscAroundWrongFalsely : Prop := lrscAroundRow.holds Tryd.pinned (OpenSpec.ofChange lrscAroundWrong)

/-- 'spinnakerlaw12.LrscAll': WHATEVER THE INPUT: true; the input reads as it did. -/
def lrscAllSpec : ChangeSpec := { name := "lrscAll", fn := fun _ => fun
  | [d] => { results := [.lit (.bool true)], args := [d] }
  | _ => none }
def lrscAllRow : OpenClaim := { program := "ytbmjbidekmkboaadoor", sum := "db32d379ffa3687b60e47f49e524e3145f91f3ae6098382d4687d6f3b93f87cd", func := "spinnaker/spinnakerlaw12.LrscAll", spec := "lrscAll", unfollowed := true, recurses := true, named := ["spinnaker/isa.names"], apart := false, laid := [("spinnaker/isa.names", laid_spinnaker_isa_names)] }
def LrscAllSaid : Prop := lrscAllRow.holds Tryd.pinned (OpenSpec.ofChange lrscAllSpec)

/-- ITS FALSE NEIGHBOUR: 'it returns false'. Refute it at one input. -/
def lrscAllWrong : ChangeSpec := { name := "lrscAll", fn := fun _ => fun
  | [d] => { results := [.lit (.bool false)], args := [d] }
  | _ => none }
def LrscAllWrongFalsely : Prop := lrscAllRow.holds Tryd.pinned (OpenSpec.ofChange lrscAllWrong)

/-- 'spinnakerlaw02.RegParses': WHATEVER THE INPUT: true; the input reads as it did. -/
def regParsesSpec : ChangeSpec := { name := "regParses", fn := fun _ => fun
  | [d] => { results := [.lit (.bool true)], args := [d] }
  | _ => none }
def regParsesRow : OpenClaim := { program := "ytbmjbidekmkboaadoor", sum := "db32d379ffa3687b60e47f49e524e3145f91f3ae6098382d4687d6f3b93f87cd", func := "spinnaker/spinnakerlaw02.RegParses", spec := "regParses", named := ["spinnaker/reg.uses", "internal/strconv.uint64pow10", "math/bits.deBruijn32tab", "math/bits.deBruijn64tab"], apart := false, laid := [("math/bits.deBruijn32tab", laid_math_bits_deBruijn32tab), ("math/bits.deBruijn64tab", laid_math_bits_deBruijn64tab), ("internal/strconv.uint64pow10", laid_internal_strconv_uint64pow10), ("spinnaker/reg.uses", laid_spinnaker_reg_uses)] }
def RegParsesSaid : Prop := regParsesRow.holds Tryd.pinned (OpenSpec.ofChange regParsesSpec)

/-- ITS FALSE NEIGHBOUR: 'it returns false'. Refute it at one input. -/
def regParsesWrong : ChangeSpec := { name := "regParses", fn := fun _ => fun
  | [d] => { results := [.lit (.bool false)], args := [d] }
  | _ => none }
def RegParsesWrongFalsely : Prop := regParsesRow.holds Tryd.pinned (OpenSpec.ofChange regParsesWrong)

/-- 'spinnakerlaw02.RegNames': WHATEVER THE INPUT: true; the input reads as it did. -/
def regNamesSpec : ChangeSpec := { name := "regNames", fn := fun _ => fun
  | [d] => { results := [.lit (.bool true)], args := [d] }
  | _ => none }
def regNamesRow : OpenClaim := { program := "ytbmjbidekmkboaadoor", sum := "db32d379ffa3687b60e47f49e524e3145f91f3ae6098382d4687d6f3b93f87cd", func := "spinnaker/spinnakerlaw02.RegNames", spec := "regNames", named := ["internal/strconv.uint64pow10", "math/bits.deBruijn32tab", "math/bits.deBruijn64tab", "spinnaker/reg.uses"], apart := false, laid := [("math/bits.deBruijn32tab", laid_math_bits_deBruijn32tab), ("math/bits.deBruijn64tab", laid_math_bits_deBruijn64tab), ("internal/strconv.uint64pow10", laid_internal_strconv_uint64pow10), ("spinnaker/reg.uses", laid_spinnaker_reg_uses)] }
def RegNamesSaid : Prop := regNamesRow.holds Tryd.pinned (OpenSpec.ofChange regNamesSpec)

/-- ITS FALSE NEIGHBOUR: 'it returns false'. Refute it at one input. -/
def regNamesWrong : ChangeSpec := { name := "regNames", fn := fun _ => fun
  | [d] => { results := [.lit (.bool false)], args := [d] }
  | _ => none }
def RegNamesWrongFalsely : Prop := regNamesRow.holds Tryd.pinned (OpenSpec.ofChange regNamesWrong)

/-- 'spinnakerlaw02.RegSets': WHATEVER THE INPUT: true; the input reads as it did. -/
def regSetsSpec : ChangeSpec := { name := "regSets", fn := fun _ => fun
  | [d1, d2] => { results := [.lit (.bool true)], args := [d1, d2] }
  | _ => none }
def regSetsRow : OpenClaim := { program := "ytbmjbidekmkboaadoor", sum := "db32d379ffa3687b60e47f49e524e3145f91f3ae6098382d4687d6f3b93f87cd", func := "spinnaker/spinnakerlaw02.RegSets", spec := "regSets", named := ["spinnaker/reg.uses", "internal/strconv.uint64pow10", "math/bits.deBruijn32tab", "math/bits.deBruijn64tab"], apart := false, laid := [("math/bits.deBruijn32tab", laid_math_bits_deBruijn32tab), ("math/bits.deBruijn64tab", laid_math_bits_deBruijn64tab), ("internal/strconv.uint64pow10", laid_internal_strconv_uint64pow10), ("spinnaker/reg.uses", laid_spinnaker_reg_uses)] }
def RegSetsSaid : Prop := regSetsRow.holds Tryd.pinned (OpenSpec.ofChange regSetsSpec)

/-- ITS FALSE NEIGHBOUR: 'it returns false'. Refute it at one input. -/
def regSetsWrong : ChangeSpec := { name := "regSets", fn := fun _ => fun
  | [d1, d2] => { results := [.lit (.bool false)], args := [d1, d2] }
  | _ => none }
def RegSetsWrongFalsely : Prop := regSetsRow.holds Tryd.pinned (OpenSpec.ofChange regSetsWrong)

/-- 'spinnakerlaw02.RegChanges': WHATEVER THE INPUT: true; the input reads as it did. -/
def regChangesSpec : ChangeSpec := { name := "regChanges", fn := fun _ => fun
  | [d1, d2] => { results := [.lit (.bool true)], args := [d1, d2] }
  | _ => none }
def regChangesRow : OpenClaim := { program := "ytbmjbidekmkboaadoor", sum := "db32d379ffa3687b60e47f49e524e3145f91f3ae6098382d4687d6f3b93f87cd", func := "spinnaker/spinnakerlaw02.RegChanges", spec := "regChanges", named := ["math/bits.deBruijn32tab", "spinnaker/reg.uses", "internal/strconv.uint64pow10", "math/bits.deBruijn64tab"], apart := false, laid := [("math/bits.deBruijn32tab", laid_math_bits_deBruijn32tab), ("math/bits.deBruijn64tab", laid_math_bits_deBruijn64tab), ("internal/strconv.uint64pow10", laid_internal_strconv_uint64pow10), ("spinnaker/reg.uses", laid_spinnaker_reg_uses)] }
def RegChangesSaid : Prop := regChangesRow.holds Tryd.pinned (OpenSpec.ofChange regChangesSpec)

/-- ITS FALSE NEIGHBOUR: 'it returns false'. Refute it at one input. -/
def regChangesWrong : ChangeSpec := { name := "regChanges", fn := fun _ => fun
  | [d1, d2] => { results := [.lit (.bool false)], args := [d1, d2] }
  | _ => none }
def RegChangesWrongFalsely : Prop := regChangesRow.holds Tryd.pinned (OpenSpec.ofChange regChangesWrong)

/-- 'spinnakerlaw04.EncWords': WHATEVER THE INPUT: true; the input reads as it did. -/
def encWordsSpec : ChangeSpec := { name := "encWords", fn := fun _ => fun
  | [d] => { results := [.lit (.bool true)], args := [d] }
  | _ => none }
def encWordsRow : OpenClaim := { program := "ytbmjbidekmkboaadoor", sum := "db32d379ffa3687b60e47f49e524e3145f91f3ae6098382d4687d6f3b93f87cd", func := "spinnaker/spinnakerlaw04.EncWords", spec := "encWords", named := ["spinnaker/isa.names"], apart := false, laid := [("spinnaker/isa.names", laid_spinnaker_isa_names)] }
def EncWordsSaid : Prop := encWordsRow.holds Tryd.pinned (OpenSpec.ofChange encWordsSpec)

/-- ITS FALSE NEIGHBOUR: 'it returns false'. Refute it at one input. -/
def encWordsWrong : ChangeSpec := { name := "encWords", fn := fun _ => fun
  | [d] => { results := [.lit (.bool false)], args := [d] }
  | _ => none }
def EncWordsWrongFalsely : Prop := encWordsRow.holds Tryd.pinned (OpenSpec.ofChange encWordsWrong)

/-- 'spinnakerlaw04.EncApart': WHATEVER THE INPUT: true; the input reads as it did. -/
def encApartSpec : ChangeSpec := { name := "encApart", fn := fun _ => fun
  | [d1, d2] => { results := [.lit (.bool true)], args := [d1, d2] }
  | _ => none }
def encApartRow : OpenClaim := { program := "ytbmjbidekmkboaadoor", sum := "db32d379ffa3687b60e47f49e524e3145f91f3ae6098382d4687d6f3b93f87cd", func := "spinnaker/spinnakerlaw04.EncApart", spec := "encApart", named := ["spinnaker/isa.names"], apart := false, laid := [("spinnaker/isa.names", laid_spinnaker_isa_names)] }
def EncApartSaid : Prop := encApartRow.holds Tryd.pinned (OpenSpec.ofChange encApartSpec)

/-- ITS FALSE NEIGHBOUR: 'it returns false'. Refute it at one input. -/
def encApartWrong : ChangeSpec := { name := "encApart", fn := fun _ => fun
  | [d1, d2] => { results := [.lit (.bool false)], args := [d1, d2] }
  | _ => none }
def EncApartWrongFalsely : Prop := encApartRow.holds Tryd.pinned (OpenSpec.ofChange encApartWrong)

/-- 'spinnakerlaw04.EncLists': WHATEVER THE INPUT: true; the input reads as it did. -/
def encListsSpec : ChangeSpec := { name := "encLists", fn := fun _ => fun
  | [d] => { results := [.lit (.bool true)], args := [d] }
  | _ => none }
def encListsRow : OpenClaim := { program := "ytbmjbidekmkboaadoor", sum := "db32d379ffa3687b60e47f49e524e3145f91f3ae6098382d4687d6f3b93f87cd", func := "spinnaker/spinnakerlaw04.EncLists", spec := "encLists", named := ["spinnaker/isa.names"], apart := false, laid := [("spinnaker/isa.names", laid_spinnaker_isa_names)] }
def EncListsSaid : Prop := encListsRow.holds Tryd.pinned (OpenSpec.ofChange encListsSpec)

/-- ITS FALSE NEIGHBOUR: 'it returns false'. Refute it at one input. -/
def encListsWrong : ChangeSpec := { name := "encLists", fn := fun _ => fun
  | [d] => { results := [.lit (.bool false)], args := [d] }
  | _ => none }
def EncListsWrongFalsely : Prop := encListsRow.holds Tryd.pinned (OpenSpec.ofChange encListsWrong)

/-- 'spinnakerlaw09.UnitChecks': WHATEVER THE INPUT: true; the input reads as it did. -/
def unitChecksSpec : ChangeSpec := { name := "unitChecks", fn := fun _ => fun
  | [d] => { results := [.lit (.bool true)], args := [d] }
  | _ => none }
def unitChecksRow : OpenClaim := { program := "ytbmjbidekmkboaadoor", sum := "db32d379ffa3687b60e47f49e524e3145f91f3ae6098382d4687d6f3b93f87cd", func := "spinnaker/spinnakerlaw09.UnitChecks", spec := "unitChecks", recurses := true, named := ["internal/strconv.uint64pow10", "math/bits.deBruijn32tab", "math/bits.deBruijn64tab", "spinnaker/isa.names"], apart := false, laid := [("math/bits.deBruijn32tab", laid_math_bits_deBruijn32tab), ("math/bits.deBruijn64tab", laid_math_bits_deBruijn64tab), ("internal/strconv.uint64pow10", laid_internal_strconv_uint64pow10), ("spinnaker/isa.names", laid_spinnaker_isa_names)] }
def UnitChecksSaid : Prop := unitChecksRow.holds Tryd.pinned (OpenSpec.ofChange unitChecksSpec)

/-- ITS FALSE NEIGHBOUR: 'it returns false'. Refute it at one input. -/
def unitChecksWrong : ChangeSpec := { name := "unitChecks", fn := fun _ => fun
  | [d] => { results := [.lit (.bool false)], args := [d] }
  | _ => none }
def UnitChecksWrongFalsely : Prop := unitChecksRow.holds Tryd.pinned (OpenSpec.ofChange unitChecksWrong)

/-- 'spinnakerlaw09.UnitExpands': WHATEVER THE INPUT: true; the input reads as it did. -/
def unitExpandsSpec : ChangeSpec := { name := "unitExpands", fn := fun _ => fun
  | [d] => { results := [.lit (.bool true)], args := [d] }
  | _ => none }
def unitExpandsRow : OpenClaim := { program := "ytbmjbidekmkboaadoor", sum := "db32d379ffa3687b60e47f49e524e3145f91f3ae6098382d4687d6f3b93f87cd", func := "spinnaker/spinnakerlaw09.UnitExpands", spec := "unitExpands", recurses := true, named := ["internal/strconv.uint64pow10", "math/bits.deBruijn32tab", "math/bits.deBruijn64tab", "spinnaker/isa.names"], apart := false, laid := [("math/bits.deBruijn32tab", laid_math_bits_deBruijn32tab), ("math/bits.deBruijn64tab", laid_math_bits_deBruijn64tab), ("internal/strconv.uint64pow10", laid_internal_strconv_uint64pow10), ("spinnaker/isa.names", laid_spinnaker_isa_names)] }
def UnitExpandsSaid : Prop := unitExpandsRow.holds Tryd.pinned (OpenSpec.ofChange unitExpandsSpec)

/-- ITS FALSE NEIGHBOUR: 'it returns false'. Refute it at one input. -/
def unitExpandsWrong : ChangeSpec := { name := "unitExpands", fn := fun _ => fun
  | [d] => { results := [.lit (.bool false)], args := [d] }
  | _ => none }
def UnitExpandsWrongFalsely : Prop := unitExpandsRow.holds Tryd.pinned (OpenSpec.ofChange unitExpandsWrong)

/- THE SECOND FORM. 'bulk': how many values and letters a reading holds, each counted each time it is reached (what is shared counts as often as it is met; a slice's spare places count too). A statement '..UptoSaid' is the law's where the arguments, and the package variables that the reading takes, are together of bulk at most 1048576: NARROWER than '..Said'. Prove '..Said' where nothing that the law and all that it calls make is longer than what came in: it says more and counts as full. Else prove '..UptoSaid'. A law counts once. -/
mutual
def uptoBulk {H : Type} : DataW H → Nat
  | .lit (.string bytes) => bytes.length + 1
  | .lit _ => 1
  | .nil => 1
  | .ptr d => uptoBulk d + 1
  | .slice elems spare => uptoBulkAll elems + uptoBulkAll spare + 1
  | .agg parts => uptoBulkAll parts + 1
  | .iface _ d => uptoBulk d + 1
  | .map entries => uptoBulkEntries entries + 1
  | .held _ => 1
def uptoBulkAll {H : Type} : List (DataW H) → Nat
  | [] => 0
  | d :: r => uptoBulk d + uptoBulkAll r
def uptoBulkEntries {H : Type} : List (Lit × DataW H) → Nat
  | [] => 0
  | x :: r => uptoBulkEntry x + uptoBulkEntries r
def uptoBulkEntry {H : Type} : Lit × DataW H → Nat
  | (.string bytes, d) => bytes.length + uptoBulk d + 1
  | (_, d) => uptoBulk d + 1
 end
def uptoSmall : (H : Type) → List (DataW H) → Bool := fun _ ds => decide (uptoBulkAll ds ≤ 1048576)
def OpenSpec.upto (s : _root_.Go.ChangeSpec) : _root_.Go.OpenSpec := { _root_.Go.OpenSpec.ofChange s with cond := some uptoSmall }

/-- 'spinnakerlaw12.LrscLengths', WHERE WHAT IT READS IS OF BULK AT MOST 1048576: true; the input reads as it did. -/
def lrscLengthsUptoRow : OpenClaim := { program := "ytbmjbidekmkboaadoor", sum := "db32d379ffa3687b60e47f49e524e3145f91f3ae6098382d4687d6f3b93f87cd", func := "spinnaker/spinnakerlaw12.LrscLengths", spec := "lrscLengths", unfollowed := true, recurses := true, named := ["spinnaker/isa.names"], apart := false, laid := [("spinnaker/isa.names", laid_spinnaker_isa_names)], narrowed := true }
def LrscLengthsUptoSaid : Prop := lrscLengthsUptoRow.holds Tryd.pinned (OpenSpec.upto lrscLengthsSpec)

/-- 'spinnakerlaw12.LrscAround', WHERE WHAT IT READS IS OF BULK AT MOST 1048576: true; the input reads as it did. -/
def lrscAroundUptoRow : OpenClaim := { program := "ytbmjbidekmkboaadoor", sum := "db32d379ffa3687b60e47f49e524e3145f91f3ae6098382d4687d6f3b93f87cd", func := "spinnaker/spinnakerlaw12.LrscAround", spec := "lrscAround", unfollowed := true, recurses := true, named := ["spinnaker/isa.names"], apart := false, laid := [("spinnaker/isa.names", laid_spinnaker_isa_names)], narrowed := true }
def LrscAroundUptoSaid : Prop := lrscAroundUptoRow.holds Tryd.pinned (OpenSpec.upto lrscAroundSpec)

/-- 'spinnakerlaw12.LrscAll', WHERE WHAT IT READS IS OF BULK AT MOST 1048576: true; the input reads as it did. -/
def lrscAllUptoRow : OpenClaim := { program := "ytbmjbidekmkboaadoor", sum := "db32d379ffa3687b60e47f49e524e3145f91f3ae6098382d4687d6f3b93f87cd", func := "spinnaker/spinnakerlaw12.LrscAll", spec := "lrscAll", unfollowed := true, recurses := true, named := ["spinnaker/isa.names"], apart := false, laid := [("spinnaker/isa.names", laid_spinnaker_isa_names)], narrowed := true }
def LrscAllUptoSaid : Prop := lrscAllUptoRow.holds Tryd.pinned (OpenSpec.upto lrscAllSpec)

/-- 'spinnakerlaw02.RegParses', WHERE WHAT IT READS IS OF BULK AT MOST 1048576: true; the input reads as it did. -/
def regParsesUptoRow : OpenClaim := { program := "ytbmjbidekmkboaadoor", sum := "db32d379ffa3687b60e47f49e524e3145f91f3ae6098382d4687d6f3b93f87cd", func := "spinnaker/spinnakerlaw02.RegParses", spec := "regParses", named := ["spinnaker/reg.uses", "internal/strconv.uint64pow10", "math/bits.deBruijn32tab", "math/bits.deBruijn64tab"], apart := false, laid := [("math/bits.deBruijn32tab", laid_math_bits_deBruijn32tab), ("math/bits.deBruijn64tab", laid_math_bits_deBruijn64tab), ("internal/strconv.uint64pow10", laid_internal_strconv_uint64pow10), ("spinnaker/reg.uses", laid_spinnaker_reg_uses)], narrowed := true }
def RegParsesUptoSaid : Prop := regParsesUptoRow.holds Tryd.pinned (OpenSpec.upto regParsesSpec)

/-- 'spinnakerlaw02.RegNames', WHERE WHAT IT READS IS OF BULK AT MOST 1048576: true; the input reads as it did. -/
def regNamesUptoRow : OpenClaim := { program := "ytbmjbidekmkboaadoor", sum := "db32d379ffa3687b60e47f49e524e3145f91f3ae6098382d4687d6f3b93f87cd", func := "spinnaker/spinnakerlaw02.RegNames", spec := "regNames", named := ["internal/strconv.uint64pow10", "math/bits.deBruijn32tab", "math/bits.deBruijn64tab", "spinnaker/reg.uses"], apart := false, laid := [("math/bits.deBruijn32tab", laid_math_bits_deBruijn32tab), ("math/bits.deBruijn64tab", laid_math_bits_deBruijn64tab), ("internal/strconv.uint64pow10", laid_internal_strconv_uint64pow10), ("spinnaker/reg.uses", laid_spinnaker_reg_uses)], narrowed := true }
def RegNamesUptoSaid : Prop := regNamesUptoRow.holds Tryd.pinned (OpenSpec.upto regNamesSpec)

/-- 'spinnakerlaw02.RegSets', WHERE WHAT IT READS IS OF BULK AT MOST 1048576: true; the input reads as it did. -/
def regSetsUptoRow : OpenClaim := { program := "ytbmjbidekmkboaadoor", sum := "db32d379ffa3687b60e47f49e524e3145f91f3ae6098382d4687d6f3b93f87cd", func := "spinnaker/spinnakerlaw02.RegSets", spec := "regSets", named := ["spinnaker/reg.uses", "internal/strconv.uint64pow10", "math/bits.deBruijn32tab", "math/bits.deBruijn64tab"], apart := false, laid := [("math/bits.deBruijn32tab", laid_math_bits_deBruijn32tab), ("math/bits.deBruijn64tab", laid_math_bits_deBruijn64tab), ("internal/strconv.uint64pow10", laid_internal_strconv_uint64pow10), ("spinnaker/reg.uses", laid_spinnaker_reg_uses)], narrowed := true }
def RegSetsUptoSaid : Prop := regSetsUptoRow.holds Tryd.pinned (OpenSpec.upto regSetsSpec)

/-- 'spinnakerlaw02.RegChanges', WHERE WHAT IT READS IS OF BULK AT MOST 1048576: true; the input reads as it did. -/
def regChangesUptoRow : OpenClaim := { program := "ytbmjbidekmkboaadoor", sum := "db32d379ffa3687b60e47f49e524e3145f91f3ae6098382d4687d6f3b93f87cd", func := "spinnaker/spinnakerlaw02.RegChanges", spec := "regChanges", named := ["math/bits.deBruijn32tab", "spinnaker/reg.uses", "internal/strconv.uint64pow10", "math/bits.deBruijn64tab"], apart := false, laid := [("math/bits.deBruijn32tab", laid_math_bits_deBruijn32tab), ("math/bits.deBruijn64tab", laid_math_bits_deBruijn64tab), ("internal/strconv.uint64pow10", laid_internal_strconv_uint64pow10), ("spinnaker/reg.uses", laid_spinnaker_reg_uses)], narrowed := true }
def RegChangesUptoSaid : Prop := regChangesUptoRow.holds Tryd.pinned (OpenSpec.upto regChangesSpec)

/-- 'spinnakerlaw04.EncWords', WHERE WHAT IT READS IS OF BULK AT MOST 1048576: true; the input reads as it did. -/
def encWordsUptoRow : OpenClaim := { program := "ytbmjbidekmkboaadoor", sum := "db32d379ffa3687b60e47f49e524e3145f91f3ae6098382d4687d6f3b93f87cd", func := "spinnaker/spinnakerlaw04.EncWords", spec := "encWords", named := ["spinnaker/isa.names"], apart := false, laid := [("spinnaker/isa.names", laid_spinnaker_isa_names)], narrowed := true }
def EncWordsUptoSaid : Prop := encWordsUptoRow.holds Tryd.pinned (OpenSpec.upto encWordsSpec)

/-- 'spinnakerlaw04.EncApart', WHERE WHAT IT READS IS OF BULK AT MOST 1048576: true; the input reads as it did. -/
def encApartUptoRow : OpenClaim := { program := "ytbmjbidekmkboaadoor", sum := "db32d379ffa3687b60e47f49e524e3145f91f3ae6098382d4687d6f3b93f87cd", func := "spinnaker/spinnakerlaw04.EncApart", spec := "encApart", named := ["spinnaker/isa.names"], apart := false, laid := [("spinnaker/isa.names", laid_spinnaker_isa_names)], narrowed := true }
def EncApartUptoSaid : Prop := encApartUptoRow.holds Tryd.pinned (OpenSpec.upto encApartSpec)

/-- 'spinnakerlaw04.EncLists', WHERE WHAT IT READS IS OF BULK AT MOST 1048576: true; the input reads as it did. -/
def encListsUptoRow : OpenClaim := { program := "ytbmjbidekmkboaadoor", sum := "db32d379ffa3687b60e47f49e524e3145f91f3ae6098382d4687d6f3b93f87cd", func := "spinnaker/spinnakerlaw04.EncLists", spec := "encLists", named := ["spinnaker/isa.names"], apart := false, laid := [("spinnaker/isa.names", laid_spinnaker_isa_names)], narrowed := true }
def EncListsUptoSaid : Prop := encListsUptoRow.holds Tryd.pinned (OpenSpec.upto encListsSpec)

/-- 'spinnakerlaw09.UnitChecks', WHERE WHAT IT READS IS OF BULK AT MOST 1048576: true; the input reads as it did. -/
def unitChecksUptoRow : OpenClaim := { program := "ytbmjbidekmkboaadoor", sum := "db32d379ffa3687b60e47f49e524e3145f91f3ae6098382d4687d6f3b93f87cd", func := "spinnaker/spinnakerlaw09.UnitChecks", spec := "unitChecks", recurses := true, named := ["internal/strconv.uint64pow10", "math/bits.deBruijn32tab", "math/bits.deBruijn64tab", "spinnaker/isa.names"], apart := false, laid := [("math/bits.deBruijn32tab", laid_math_bits_deBruijn32tab), ("math/bits.deBruijn64tab", laid_math_bits_deBruijn64tab), ("internal/strconv.uint64pow10", laid_internal_strconv_uint64pow10), ("spinnaker/isa.names", laid_spinnaker_isa_names)], narrowed := true }
def UnitChecksUptoSaid : Prop := unitChecksUptoRow.holds Tryd.pinned (OpenSpec.upto unitChecksSpec)

/-- 'spinnakerlaw09.UnitExpands', WHERE WHAT IT READS IS OF BULK AT MOST 1048576: true; the input reads as it did. -/
def unitExpandsUptoRow : OpenClaim := { program := "ytbmjbidekmkboaadoor", sum := "db32d379ffa3687b60e47f49e524e3145f91f3ae6098382d4687d6f3b93f87cd", func := "spinnaker/spinnakerlaw09.UnitExpands", spec := "unitExpands", recurses := true, named := ["internal/strconv.uint64pow10", "math/bits.deBruijn32tab", "math/bits.deBruijn64tab", "spinnaker/isa.names"], apart := false, laid := [("math/bits.deBruijn32tab", laid_math_bits_deBruijn32tab), ("math/bits.deBruijn64tab", laid_math_bits_deBruijn64tab), ("internal/strconv.uint64pow10", laid_internal_strconv_uint64pow10), ("spinnaker/isa.names", laid_spinnaker_isa_names)], narrowed := true }
def UnitExpandsUptoSaid : Prop := unitExpandsUptoRow.holds Tryd.pinned (OpenSpec.upto unitExpandsSpec)

end Rows
end Go.Proofs.YtbmjbidekmkboaaDoor
