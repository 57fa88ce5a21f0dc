/-
  DERIVED. GIVEN WITH THE SEED: THE CARDS: each row of YtbmjbidekmkboaaDoorRows.lean that lists a variable, with what it lists TIED to the program's text (the seventh form; the later family's looks); each row that meets fmt, with fmt's text TOLD by the authors' own Lean function (tested against real Go, not proved from fmt's source: count such statements apart). THE CARD IS WHAT COUNTS. Prove the row's statement (the work); the ties are given (YtbmjbidekmkboaaDoorTie.lean); close each card by the builder's one call (the guide's Derived/Test/ToyasCard.lean, 'card_holds'). Laid BY PROGRAM, IN A SANDBOX (cutbox-door.mjs). By AI agents, Wed Nov 11 2026. No macro, syntax, notation, axiom, sorry.
-/
import Derived.Test.YtbmjbidekmkboaaDoorRows
import GoSem.ClaimSeven
namespace Go.Proofs.YtbmjbidekmkboaaDoor
namespace Rows

/-- THE TIED CARD OF 'spinnakerlaw12.LrscLengths'. -/
def lrscLengthsCard : Claim7 := { stood := { row := lrscLengthsRow, standIns := [], harness := (true, "d03384487c964cf66111399f63784bdf50af5714f2f06aef32f5a255dd93908b"), looks := false }, kinds := [], alts := [], laidByText := true, laidKinds := [.widerDeep], laidTests := true, laidLooks := .later }
def LrscLengthsCardSaid : Prop := Claim7.holds Tryd.pinned (.plain (OpenSpec.ofChange lrscLengthsSpec)) lrscLengthsCard

/-- THE TIED CARD OF 'spinnakerlaw12.LrscAround'. -/
def lrscAroundCard : Claim7 := { stood := { row := lrscAroundRow, standIns := [], harness := (true, "d03384487c964cf66111399f63784bdf50af5714f2f06aef32f5a255dd93908b"), looks := false }, kinds := [], alts := [], laidByText := true, laidKinds := [.widerDeep], laidTests := true, laidLooks := .later }
def LrscAroundCardSaid : Prop := Claim7.holds Tryd.pinned (.plain (OpenSpec.ofChange lrscAroundSpec)) lrscAroundCard

/-- THE TIED CARD OF 'spinnakerlaw12.LrscAll'. -/
def lrscAllCard : Claim7 := { stood := { row := lrscAllRow, standIns := [], harness := (true, "d03384487c964cf66111399f63784bdf50af5714f2f06aef32f5a255dd93908b"), looks := false }, kinds := [], alts := [], laidByText := true, laidKinds := [.widerDeep], laidTests := true, laidLooks := .later }
def LrscAllCardSaid : Prop := Claim7.holds Tryd.pinned (.plain (OpenSpec.ofChange lrscAllSpec)) lrscAllCard

/-- THE TIED CARD OF 'spinnakerlaw02.RegParses'. -/
def regParsesCard : Claim7 := { stood := { row := regParsesRow, standIns := [], harness := (true, "d03384487c964cf66111399f63784bdf50af5714f2f06aef32f5a255dd93908b"), looks := false }, kinds := [], alts := [], laidByText := true, laidKinds := [.data, .data, .data, .widerDeep], laidTests := true, laidLooks := .later }
def RegParsesCardSaid : Prop := Claim7.holds Tryd.pinned (.plain (OpenSpec.ofChange regParsesSpec)) regParsesCard

/-- THE TIED CARD OF 'spinnakerlaw02.RegNames'. -/
def regNamesCard : Claim7 := { stood := { row := regNamesRow, standIns := [], harness := (true, "d03384487c964cf66111399f63784bdf50af5714f2f06aef32f5a255dd93908b"), looks := false }, kinds := [], alts := [], laidByText := true, laidKinds := [.data, .data, .data, .widerDeep], laidTests := true, laidLooks := .later }
def RegNamesCardSaid : Prop := Claim7.holds Tryd.pinned (.plain (OpenSpec.ofChange regNamesSpec)) regNamesCard

/-- THE TIED CARD OF 'spinnakerlaw02.RegSets'. -/
def regSetsCard : Claim7 := { stood := { row := regSetsRow, standIns := [], harness := (true, "d03384487c964cf66111399f63784bdf50af5714f2f06aef32f5a255dd93908b"), looks := false }, kinds := [], alts := [], laidByText := true, laidKinds := [.data, .data, .data, .widerDeep], laidTests := true, laidLooks := .later }
def RegSetsCardSaid : Prop := Claim7.holds Tryd.pinned (.plain (OpenSpec.ofChange regSetsSpec)) regSetsCard

/-- THE TIED CARD OF 'spinnakerlaw02.RegChanges'. -/
def regChangesCard : Claim7 := { stood := { row := regChangesRow, standIns := [], harness := (true, "d03384487c964cf66111399f63784bdf50af5714f2f06aef32f5a255dd93908b"), looks := false }, kinds := [], alts := [], laidByText := true, laidKinds := [.data, .data, .data, .widerDeep], laidTests := true, laidLooks := .later }
def RegChangesCardSaid : Prop := Claim7.holds Tryd.pinned (.plain (OpenSpec.ofChange regChangesSpec)) regChangesCard

/-- THE TIED CARD OF 'spinnakerlaw04.EncWords'. -/
def encWordsCard : Claim7 := { stood := { row := encWordsRow, standIns := [], harness := (true, "d03384487c964cf66111399f63784bdf50af5714f2f06aef32f5a255dd93908b"), looks := false }, kinds := [], alts := [], laidByText := true, laidKinds := [.widerDeep], laidTests := true, laidLooks := .later }
def EncWordsCardSaid : Prop := Claim7.holds Tryd.pinned (.plain (OpenSpec.ofChange encWordsSpec)) encWordsCard

/-- THE TIED CARD OF 'spinnakerlaw04.EncApart'. -/
def encApartCard : Claim7 := { stood := { row := encApartRow, standIns := [], harness := (true, "d03384487c964cf66111399f63784bdf50af5714f2f06aef32f5a255dd93908b"), looks := false }, kinds := [], alts := [], laidByText := true, laidKinds := [.widerDeep], laidTests := true, laidLooks := .later }
def EncApartCardSaid : Prop := Claim7.holds Tryd.pinned (.plain (OpenSpec.ofChange encApartSpec)) encApartCard

/-- THE TIED CARD OF 'spinnakerlaw04.EncLists'. -/
def encListsCard : Claim7 := { stood := { row := encListsRow, standIns := [], harness := (true, "d03384487c964cf66111399f63784bdf50af5714f2f06aef32f5a255dd93908b"), looks := false }, kinds := [], alts := [], laidByText := true, laidKinds := [.widerDeep], laidTests := true, laidLooks := .later }
def EncListsCardSaid : Prop := Claim7.holds Tryd.pinned (.plain (OpenSpec.ofChange encListsSpec)) encListsCard

/-- THE TIED CARD OF 'spinnakerlaw09.UnitChecks'. -/
def unitChecksCard : Claim7 := { stood := { row := unitChecksRow, standIns := [], harness := (true, "d03384487c964cf66111399f63784bdf50af5714f2f06aef32f5a255dd93908b"), looks := false }, kinds := [], alts := [], laidByText := true, laidKinds := [.data, .data, .data, .widerDeep], laidTests := true, laidLooks := .later }
def UnitChecksCardSaid : Prop := Claim7.holds Tryd.pinned (.plain (OpenSpec.ofChange unitChecksSpec)) unitChecksCard

/-- THE TIED CARD OF 'spinnakerlaw09.UnitExpands'. -/
def unitExpandsCard : Claim7 := { stood := { row := unitExpandsRow, standIns := [], harness := (true, "d03384487c964cf66111399f63784bdf50af5714f2f06aef32f5a255dd93908b"), looks := false }, kinds := [], alts := [], laidByText := true, laidKinds := [.data, .data, .data, .widerDeep], laidTests := true, laidLooks := .later }
def UnitExpandsCardSaid : Prop := Claim7.holds Tryd.pinned (.plain (OpenSpec.ofChange unitExpandsSpec)) unitExpandsCard

/-- THE SECOND FORM's CARD OF 'spinnakerlaw12.LrscLengths'. -/
def lrscLengthsUptoCard : Claim7 := { stood := { row := lrscLengthsUptoRow, standIns := [], harness := (true, "d03384487c964cf66111399f63784bdf50af5714f2f06aef32f5a255dd93908b"), looks := false }, kinds := [], alts := [], laidByText := true, laidKinds := [.widerDeep], laidTests := true, laidLooks := .later }
def LrscLengthsUptoCardSaid : Prop := Claim7.holds Tryd.pinned (.plain (OpenSpec.upto lrscLengthsSpec)) lrscLengthsUptoCard

/-- THE SECOND FORM's CARD OF 'spinnakerlaw12.LrscAround'. -/
def lrscAroundUptoCard : Claim7 := { stood := { row := lrscAroundUptoRow, standIns := [], harness := (true, "d03384487c964cf66111399f63784bdf50af5714f2f06aef32f5a255dd93908b"), looks := false }, kinds := [], alts := [], laidByText := true, laidKinds := [.widerDeep], laidTests := true, laidLooks := .later }
def LrscAroundUptoCardSaid : Prop := Claim7.holds Tryd.pinned (.plain (OpenSpec.upto lrscAroundSpec)) lrscAroundUptoCard

/-- THE SECOND FORM's CARD OF 'spinnakerlaw12.LrscAll'. -/
def lrscAllUptoCard : Claim7 := { stood := { row := lrscAllUptoRow, standIns := [], harness := (true, "d03384487c964cf66111399f63784bdf50af5714f2f06aef32f5a255dd93908b"), looks := false }, kinds := [], alts := [], laidByText := true, laidKinds := [.widerDeep], laidTests := true, laidLooks := .later }
def LrscAllUptoCardSaid : Prop := Claim7.holds Tryd.pinned (.plain (OpenSpec.upto lrscAllSpec)) lrscAllUptoCard

/-- THE SECOND FORM's CARD OF 'spinnakerlaw02.RegParses'. -/
def regParsesUptoCard : Claim7 := { stood := { row := regParsesUptoRow, standIns := [], harness := (true, "d03384487c964cf66111399f63784bdf50af5714f2f06aef32f5a255dd93908b"), looks := false }, kinds := [], alts := [], laidByText := true, laidKinds := [.data, .data, .data, .widerDeep], laidTests := true, laidLooks := .later }
def RegParsesUptoCardSaid : Prop := Claim7.holds Tryd.pinned (.plain (OpenSpec.upto regParsesSpec)) regParsesUptoCard

/-- THE SECOND FORM's CARD OF 'spinnakerlaw02.RegNames'. -/
def regNamesUptoCard : Claim7 := { stood := { row := regNamesUptoRow, standIns := [], harness := (true, "d03384487c964cf66111399f63784bdf50af5714f2f06aef32f5a255dd93908b"), looks := false }, kinds := [], alts := [], laidByText := true, laidKinds := [.data, .data, .data, .widerDeep], laidTests := true, laidLooks := .later }
def RegNamesUptoCardSaid : Prop := Claim7.holds Tryd.pinned (.plain (OpenSpec.upto regNamesSpec)) regNamesUptoCard

/-- THE SECOND FORM's CARD OF 'spinnakerlaw02.RegSets'. -/
def regSetsUptoCard : Claim7 := { stood := { row := regSetsUptoRow, standIns := [], harness := (true, "d03384487c964cf66111399f63784bdf50af5714f2f06aef32f5a255dd93908b"), looks := false }, kinds := [], alts := [], laidByText := true, laidKinds := [.data, .data, .data, .widerDeep], laidTests := true, laidLooks := .later }
def RegSetsUptoCardSaid : Prop := Claim7.holds Tryd.pinned (.plain (OpenSpec.upto regSetsSpec)) regSetsUptoCard

/-- THE SECOND FORM's CARD OF 'spinnakerlaw02.RegChanges'. -/
def regChangesUptoCard : Claim7 := { stood := { row := regChangesUptoRow, standIns := [], harness := (true, "d03384487c964cf66111399f63784bdf50af5714f2f06aef32f5a255dd93908b"), looks := false }, kinds := [], alts := [], laidByText := true, laidKinds := [.data, .data, .data, .widerDeep], laidTests := true, laidLooks := .later }
def RegChangesUptoCardSaid : Prop := Claim7.holds Tryd.pinned (.plain (OpenSpec.upto regChangesSpec)) regChangesUptoCard

/-- THE SECOND FORM's CARD OF 'spinnakerlaw04.EncWords'. -/
def encWordsUptoCard : Claim7 := { stood := { row := encWordsUptoRow, standIns := [], harness := (true, "d03384487c964cf66111399f63784bdf50af5714f2f06aef32f5a255dd93908b"), looks := false }, kinds := [], alts := [], laidByText := true, laidKinds := [.widerDeep], laidTests := true, laidLooks := .later }
def EncWordsUptoCardSaid : Prop := Claim7.holds Tryd.pinned (.plain (OpenSpec.upto encWordsSpec)) encWordsUptoCard

/-- THE SECOND FORM's CARD OF 'spinnakerlaw04.EncApart'. -/
def encApartUptoCard : Claim7 := { stood := { row := encApartUptoRow, standIns := [], harness := (true, "d03384487c964cf66111399f63784bdf50af5714f2f06aef32f5a255dd93908b"), looks := false }, kinds := [], alts := [], laidByText := true, laidKinds := [.widerDeep], laidTests := true, laidLooks := .later }
def EncApartUptoCardSaid : Prop := Claim7.holds Tryd.pinned (.plain (OpenSpec.upto encApartSpec)) encApartUptoCard

/-- THE SECOND FORM's CARD OF 'spinnakerlaw04.EncLists'. -/
def encListsUptoCard : Claim7 := { stood := { row := encListsUptoRow, standIns := [], harness := (true, "d03384487c964cf66111399f63784bdf50af5714f2f06aef32f5a255dd93908b"), looks := false }, kinds := [], alts := [], laidByText := true, laidKinds := [.widerDeep], laidTests := true, laidLooks := .later }
def EncListsUptoCardSaid : Prop := Claim7.holds Tryd.pinned (.plain (OpenSpec.upto encListsSpec)) encListsUptoCard

/-- THE SECOND FORM's CARD OF 'spinnakerlaw09.UnitChecks'. -/
def unitChecksUptoCard : Claim7 := { stood := { row := unitChecksUptoRow, standIns := [], harness := (true, "d03384487c964cf66111399f63784bdf50af5714f2f06aef32f5a255dd93908b"), looks := false }, kinds := [], alts := [], laidByText := true, laidKinds := [.data, .data, .data, .widerDeep], laidTests := true, laidLooks := .later }
def UnitChecksUptoCardSaid : Prop := Claim7.holds Tryd.pinned (.plain (OpenSpec.upto unitChecksSpec)) unitChecksUptoCard

/-- THE SECOND FORM's CARD OF 'spinnakerlaw09.UnitExpands'. -/
def unitExpandsUptoCard : Claim7 := { stood := { row := unitExpandsUptoRow, standIns := [], harness := (true, "d03384487c964cf66111399f63784bdf50af5714f2f06aef32f5a255dd93908b"), looks := false }, kinds := [], alts := [], laidByText := true, laidKinds := [.data, .data, .data, .widerDeep], laidTests := true, laidLooks := .later }
def UnitExpandsUptoCardSaid : Prop := Claim7.holds Tryd.pinned (.plain (OpenSpec.upto unitExpandsSpec)) unitExpandsUptoCard
end Rows
end Go.Proofs.YtbmjbidekmkboaaDoor
