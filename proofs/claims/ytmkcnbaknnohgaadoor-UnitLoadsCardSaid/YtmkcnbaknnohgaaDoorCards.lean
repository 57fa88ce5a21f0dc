/-
  DERIVED. GIVEN WITH THE SEED: THE CARDS: each row of YtmkcnbaknnohgaaDoorRows.lean that lists a variable, with what it lists TIED to the program's text (the seventh form; the later family's looks); each row that meets fmt, with fmt's text TOLD by the authors' own Lean function (tested against real Go, not proved from fmt's source: count such statements apart). THE CARD IS WHAT COUNTS. Prove the row's statement (the work); the ties are given (YtmkcnbaknnohgaaDoorTie.lean); close each card by the builder's one call (the guide's Derived/Test/ToyasCard.lean, 'card_holds'). Laid BY PROGRAM, IN A SANDBOX (cutbox-door.mjs). By AI agents, Wed Nov 11 2026. No macro, syntax, notation, axiom, sorry.
-/
import Derived.Test.YtmkcnbaknnohgaaDoorRows
import GoSem.ClaimSeven
namespace Go.Proofs.YtmkcnbaknnohgaaDoor
namespace Rows

/-- THE TIED CARD OF 'spinnakerlaw09.UnitLoads'. -/
def unitLoadsCard : Claim7 := { stood := { row := unitLoadsRow, standIns := [], harness := (true, "d96602002215583992f115aedae042464d4ce30d82cf76715ddba309a0c5c19d"), looks := false }, kinds := [], alts := [], laidByText := true, laidKinds := [.data, .data, .data], laidTests := true, laidLooks := .later }
def UnitLoadsCardSaid : Prop := Claim7.holds Tryd.pinned (.plain (OpenSpec.ofChange unitLoadsSpec)) unitLoadsCard

/-- THE SECOND FORM's CARD OF 'spinnakerlaw09.UnitLoads'. -/
def unitLoadsUptoCard : Claim7 := { stood := { row := unitLoadsUptoRow, standIns := [], harness := (true, "d96602002215583992f115aedae042464d4ce30d82cf76715ddba309a0c5c19d"), looks := false }, kinds := [], alts := [], laidByText := true, laidKinds := [.data, .data, .data], laidTests := true, laidLooks := .later }
def UnitLoadsUptoCardSaid : Prop := Claim7.holds Tryd.pinned (.plain (OpenSpec.upto unitLoadsSpec)) unitLoadsUptoCard
end Rows
end Go.Proofs.YtmkcnbaknnohgaaDoor
