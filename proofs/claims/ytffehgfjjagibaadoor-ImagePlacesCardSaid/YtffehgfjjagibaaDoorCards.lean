/-
  DERIVED. GIVEN WITH THE SEED: THE CARDS: each row of YtffehgfjjagibaaDoorRows.lean that lists a variable, with what it lists TIED to the program's text (the seventh form; the later family's looks); each row that meets fmt, with fmt's text TOLD by the authors' own Lean function (tested against real Go, not proved from fmt's source: count such statements apart). THE CARD IS WHAT COUNTS. Prove the row's statement (the work); the ties are given (YtffehgfjjagibaaDoorTie.lean); close each card by the builder's one call (the guide's Derived/Test/ToyasCard.lean, 'card_holds'). Laid BY PROGRAM, IN A SANDBOX (cutbox-door.mjs). By AI agents, Wed Nov 11 2026. No macro, syntax, notation, axiom, sorry.
-/
import Derived.Test.YtffehgfjjagibaaDoorRows
import GoSem.ClaimSeven
namespace Go.Proofs.YtffehgfjjagibaaDoor
namespace Rows

/-- THE TIED CARD OF 'spinnakerlaw05.DecWords'. -/
def decWordsCard : Claim7 := { stood := { row := decWordsRow, standIns := [], harness := (true, "1433803f7bdb0bcec247e79226d902d19770fbf09b18cb0383bf996e82e9783c"), looks := false }, kinds := [], alts := [], laidByText := true, laidKinds := [.widerDeep], laidTests := true, laidLooks := .later }
def DecWordsCardSaid : Prop := Claim7.holds Tryd.pinned (.plain (OpenSpec.ofChange decWordsSpec)) decWordsCard

/-- THE TIED CARD OF 'spinnakerlaw05.DecBack'. -/
def decBackCard : Claim7 := { stood := { row := decBackRow, standIns := [], harness := (true, "1433803f7bdb0bcec247e79226d902d19770fbf09b18cb0383bf996e82e9783c"), looks := false }, kinds := [], alts := [], laidByText := true, laidKinds := [.widerDeep], laidTests := true, laidLooks := .later }
def DecBackCardSaid : Prop := Claim7.holds Tryd.pinned (.plain (OpenSpec.ofChange decBackSpec)) decBackCard

/-- THE TIED CARD OF 'spinnakerlaw05.DecWordsBack'. -/
def decWordsBackCard : Claim7 := { stood := { row := decWordsBackRow, standIns := [], harness := (true, "1433803f7bdb0bcec247e79226d902d19770fbf09b18cb0383bf996e82e9783c"), looks := false }, kinds := [], alts := [], laidByText := true, laidKinds := [.widerDeep], laidTests := true, laidLooks := .later }
def DecWordsBackCardSaid : Prop := Claim7.holds Tryd.pinned (.plain (OpenSpec.ofChange decWordsBackSpec)) decWordsBackCard

/-- THE TIED CARD OF 'spinnakerlaw05.DecLists'. -/
def decListsCard : Claim7 := { stood := { row := decListsRow, standIns := [], harness := (true, "1433803f7bdb0bcec247e79226d902d19770fbf09b18cb0383bf996e82e9783c"), looks := false }, kinds := [], alts := [], laidByText := true, laidKinds := [.widerDeep], laidTests := true, laidLooks := .later }
def DecListsCardSaid : Prop := Claim7.holds Tryd.pinned (.plain (OpenSpec.ofChange decListsSpec)) decListsCard

/-- THE TIED CARD OF 'spinnakerlaw08.ImagePlaces'. -/
def imagePlacesCard : Claim7 := { stood := { row := imagePlacesRow, standIns := [], harness := (true, "1433803f7bdb0bcec247e79226d902d19770fbf09b18cb0383bf996e82e9783c"), looks := false }, kinds := [], alts := [], laidByText := true, laidKinds := [.widerDeep], laidTests := true, laidLooks := .later }
def ImagePlacesCardSaid : Prop := Claim7.holds Tryd.pinned (.plain (OpenSpec.ofChange imagePlacesSpec)) imagePlacesCard

/-- THE TIED CARD OF 'spinnakerlaw08.ImageAddresses'. -/
def imageAddressesCard : Claim7 := { stood := { row := imageAddressesRow, standIns := [], harness := (true, "1433803f7bdb0bcec247e79226d902d19770fbf09b18cb0383bf996e82e9783c"), looks := false }, kinds := [], alts := [], laidByText := true, laidKinds := [.widerDeep], laidTests := true, laidLooks := .later }
def ImageAddressesCardSaid : Prop := Claim7.holds Tryd.pinned (.plain (OpenSpec.ofChange imageAddressesSpec)) imageAddressesCard

/-- THE SECOND FORM's CARD OF 'spinnakerlaw05.DecWords'. -/
def decWordsUptoCard : Claim7 := { stood := { row := decWordsUptoRow, standIns := [], harness := (true, "1433803f7bdb0bcec247e79226d902d19770fbf09b18cb0383bf996e82e9783c"), looks := false }, kinds := [], alts := [], laidByText := true, laidKinds := [.widerDeep], laidTests := true, laidLooks := .later }
def DecWordsUptoCardSaid : Prop := Claim7.holds Tryd.pinned (.plain (OpenSpec.upto decWordsSpec)) decWordsUptoCard

/-- THE SECOND FORM's CARD OF 'spinnakerlaw05.DecBack'. -/
def decBackUptoCard : Claim7 := { stood := { row := decBackUptoRow, standIns := [], harness := (true, "1433803f7bdb0bcec247e79226d902d19770fbf09b18cb0383bf996e82e9783c"), looks := false }, kinds := [], alts := [], laidByText := true, laidKinds := [.widerDeep], laidTests := true, laidLooks := .later }
def DecBackUptoCardSaid : Prop := Claim7.holds Tryd.pinned (.plain (OpenSpec.upto decBackSpec)) decBackUptoCard

/-- THE SECOND FORM's CARD OF 'spinnakerlaw05.DecWordsBack'. -/
def decWordsBackUptoCard : Claim7 := { stood := { row := decWordsBackUptoRow, standIns := [], harness := (true, "1433803f7bdb0bcec247e79226d902d19770fbf09b18cb0383bf996e82e9783c"), looks := false }, kinds := [], alts := [], laidByText := true, laidKinds := [.widerDeep], laidTests := true, laidLooks := .later }
def DecWordsBackUptoCardSaid : Prop := Claim7.holds Tryd.pinned (.plain (OpenSpec.upto decWordsBackSpec)) decWordsBackUptoCard

/-- THE SECOND FORM's CARD OF 'spinnakerlaw05.DecLists'. -/
def decListsUptoCard : Claim7 := { stood := { row := decListsUptoRow, standIns := [], harness := (true, "1433803f7bdb0bcec247e79226d902d19770fbf09b18cb0383bf996e82e9783c"), looks := false }, kinds := [], alts := [], laidByText := true, laidKinds := [.widerDeep], laidTests := true, laidLooks := .later }
def DecListsUptoCardSaid : Prop := Claim7.holds Tryd.pinned (.plain (OpenSpec.upto decListsSpec)) decListsUptoCard

/-- THE SECOND FORM's CARD OF 'spinnakerlaw08.ImagePlaces'. -/
def imagePlacesUptoCard : Claim7 := { stood := { row := imagePlacesUptoRow, standIns := [], harness := (true, "1433803f7bdb0bcec247e79226d902d19770fbf09b18cb0383bf996e82e9783c"), looks := false }, kinds := [], alts := [], laidByText := true, laidKinds := [.widerDeep], laidTests := true, laidLooks := .later }
def ImagePlacesUptoCardSaid : Prop := Claim7.holds Tryd.pinned (.plain (OpenSpec.upto imagePlacesSpec)) imagePlacesUptoCard

/-- THE SECOND FORM's CARD OF 'spinnakerlaw08.ImageAddresses'. -/
def imageAddressesUptoCard : Claim7 := { stood := { row := imageAddressesUptoRow, standIns := [], harness := (true, "1433803f7bdb0bcec247e79226d902d19770fbf09b18cb0383bf996e82e9783c"), looks := false }, kinds := [], alts := [], laidByText := true, laidKinds := [.widerDeep], laidTests := true, laidLooks := .later }
def ImageAddressesUptoCardSaid : Prop := Claim7.holds Tryd.pinned (.plain (OpenSpec.upto imageAddressesSpec)) imageAddressesUptoCard
end Rows
end Go.Proofs.YtffehgfjjagibaaDoor
