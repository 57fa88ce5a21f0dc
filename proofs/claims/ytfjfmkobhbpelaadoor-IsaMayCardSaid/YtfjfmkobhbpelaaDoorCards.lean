/-
  DERIVED. GIVEN WITH THE SEED: THE CARDS: each row of YtfjfmkobhbpelaaDoorRows.lean that lists a variable, with what it lists TIED to the program's text (the seventh form; the later family's looks); each row that meets fmt, with fmt's text TOLD by the authors' own Lean function (tested against real Go, not proved from fmt's source: count such statements apart). THE CARD IS WHAT COUNTS. Prove the row's statement (the work); the ties are given (YtfjfmkobhbpelaaDoorTie.lean); close each card by the builder's one call (the guide's Derived/Test/ToyasCard.lean, 'card_holds'). Laid BY PROGRAM, IN A SANDBOX (cutbox-door.mjs). By AI agents, Wed Nov 11 2026. No macro, syntax, notation, axiom, sorry.
-/
import Derived.Test.YtfjfmkobhbpelaaDoorRows
import GoSem.ClaimSeven
namespace Go.Proofs.YtfjfmkobhbpelaaDoor
namespace Rows

/-- THE TIED CARD OF 'spinnakerlaw03.IsaNames'. -/
def isaNamesCard : Claim7 := { stood := { row := isaNamesRow, standIns := [], harness := (true, "1a0a09edf911b25eb65a4b672ac467af87e6704568eb132ce2117df11c3f4653"), looks := false }, kinds := [], alts := [], laidByText := true, laidKinds := [.widerDeep], laidTests := true, laidLooks := .later }
def IsaNamesCardSaid : Prop := Claim7.holds Tryd.pinned (.plain (OpenSpec.ofChange isaNamesSpec)) isaNamesCard

/-- THE TIED CARD OF 'spinnakerlaw03.IsaFinds'. -/
def isaFindsCard : Claim7 := { stood := { row := isaFindsRow, standIns := [], harness := (true, "1a0a09edf911b25eb65a4b672ac467af87e6704568eb132ce2117df11c3f4653"), looks := false }, kinds := [], alts := [], laidByText := true, laidKinds := [.widerDeep], laidTests := true, laidLooks := .later }
def IsaFindsCardSaid : Prop := Claim7.holds Tryd.pinned (.plain (OpenSpec.ofChange isaFindsSpec)) isaFindsCard

/-- THE TIED CARD OF 'spinnakerlaw03.IsaKinds'. -/
def isaKindsCard : Claim7 := { stood := { row := isaKindsRow, standIns := [], harness := (true, "1a0a09edf911b25eb65a4b672ac467af87e6704568eb132ce2117df11c3f4653"), looks := false }, kinds := [], alts := [], laidByText := true, laidKinds := [.widerDeep], laidTests := true, laidLooks := .later }
def IsaKindsCardSaid : Prop := Claim7.holds Tryd.pinned (.plain (OpenSpec.ofChange isaKindsSpec)) isaKindsCard

/-- THE TIED CARD OF 'spinnakerlaw03.IsaMay'. -/
def isaMayCard : Claim7 := { stood := { row := isaMayRow, standIns := [], harness := (true, "1a0a09edf911b25eb65a4b672ac467af87e6704568eb132ce2117df11c3f4653"), looks := false }, kinds := [], alts := [], laidByText := true, laidKinds := [.widerDeep], laidTests := true, laidLooks := .later }
def IsaMayCardSaid : Prop := Claim7.holds Tryd.pinned (.plain (OpenSpec.ofChange isaMaySpec)) isaMayCard

/-- THE TIED CARD OF 'spinnakerlaw03.IsaUses'. -/
def isaUsesCard : Claim7 := { stood := { row := isaUsesRow, standIns := [], harness := (true, "1a0a09edf911b25eb65a4b672ac467af87e6704568eb132ce2117df11c3f4653"), looks := false }, kinds := [], alts := [], laidByText := true, laidKinds := [.widerDeep], laidTests := true, laidLooks := .later }
def IsaUsesCardSaid : Prop := Claim7.holds Tryd.pinned (.plain (OpenSpec.ofChange isaUsesSpec)) isaUsesCard

/-- THE SECOND FORM's CARD OF 'spinnakerlaw03.IsaNames'. -/
def isaNamesUptoCard : Claim7 := { stood := { row := isaNamesUptoRow, standIns := [], harness := (true, "1a0a09edf911b25eb65a4b672ac467af87e6704568eb132ce2117df11c3f4653"), looks := false }, kinds := [], alts := [], laidByText := true, laidKinds := [.widerDeep], laidTests := true, laidLooks := .later }
def IsaNamesUptoCardSaid : Prop := Claim7.holds Tryd.pinned (.plain (OpenSpec.upto isaNamesSpec)) isaNamesUptoCard

/-- THE SECOND FORM's CARD OF 'spinnakerlaw03.IsaFinds'. -/
def isaFindsUptoCard : Claim7 := { stood := { row := isaFindsUptoRow, standIns := [], harness := (true, "1a0a09edf911b25eb65a4b672ac467af87e6704568eb132ce2117df11c3f4653"), looks := false }, kinds := [], alts := [], laidByText := true, laidKinds := [.widerDeep], laidTests := true, laidLooks := .later }
def IsaFindsUptoCardSaid : Prop := Claim7.holds Tryd.pinned (.plain (OpenSpec.upto isaFindsSpec)) isaFindsUptoCard

/-- THE SECOND FORM's CARD OF 'spinnakerlaw03.IsaKinds'. -/
def isaKindsUptoCard : Claim7 := { stood := { row := isaKindsUptoRow, standIns := [], harness := (true, "1a0a09edf911b25eb65a4b672ac467af87e6704568eb132ce2117df11c3f4653"), looks := false }, kinds := [], alts := [], laidByText := true, laidKinds := [.widerDeep], laidTests := true, laidLooks := .later }
def IsaKindsUptoCardSaid : Prop := Claim7.holds Tryd.pinned (.plain (OpenSpec.upto isaKindsSpec)) isaKindsUptoCard

/-- THE SECOND FORM's CARD OF 'spinnakerlaw03.IsaMay'. -/
def isaMayUptoCard : Claim7 := { stood := { row := isaMayUptoRow, standIns := [], harness := (true, "1a0a09edf911b25eb65a4b672ac467af87e6704568eb132ce2117df11c3f4653"), looks := false }, kinds := [], alts := [], laidByText := true, laidKinds := [.widerDeep], laidTests := true, laidLooks := .later }
def IsaMayUptoCardSaid : Prop := Claim7.holds Tryd.pinned (.plain (OpenSpec.upto isaMaySpec)) isaMayUptoCard

/-- THE SECOND FORM's CARD OF 'spinnakerlaw03.IsaUses'. -/
def isaUsesUptoCard : Claim7 := { stood := { row := isaUsesUptoRow, standIns := [], harness := (true, "1a0a09edf911b25eb65a4b672ac467af87e6704568eb132ce2117df11c3f4653"), looks := false }, kinds := [], alts := [], laidByText := true, laidKinds := [.widerDeep], laidTests := true, laidLooks := .later }
def IsaUsesUptoCardSaid : Prop := Claim7.holds Tryd.pinned (.plain (OpenSpec.upto isaUsesSpec)) isaUsesUptoCard
end Rows
end Go.Proofs.YtfjfmkobhbpelaaDoor
