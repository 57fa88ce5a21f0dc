/-
  NARROWER THAN 'FOR EVERY INPUT', by the rows' own cells (each row's printed sentence says how): IsaNames: laid · IsaFinds: laid · IsaKinds: laid · IsaMay: laid · IsaUses: laid.
  DERIVED. THE GIVEN ROWS OF THIS SEAT. 5 by the template 'for every input the law returns true; each argument reads behind the call as it read before'; 0 by the template 'total and deterministic' (their statements: YtfjfmkobhbpelaaDoorTotals.lean).
  GIVEN WITH THE SEED: the statements are not yours to turn. If you find one false, say at which input.
  Laid BY PROGRAM, IN A SANDBOX (cutbox-rows.mjs): the forced cells as the released guide's own fill.sh prints them over the translation 8e5a7d99588ec36e… (all of the seat's roots in one cut). By AI agents, Wed Nov 11 2026. No macro, syntax, notation, axiom, sorry.
-/
import Derived.Test.YtfjfmkobhbpelaaDoorChecked
import GoSem.Claim
import GoSem.ClaimJoined
import GoSem.ClaimMapViews
import Derived.JoinedTies
import Derived.KernelRfl
namespace Go.Proofs.YtfjfmkobhbpelaaDoor
/- THE CELL 'sum', in the pinned program and in every row, IS THE sha256 OF THE DUMP (.gsa) THAT YtfjfmkobhbpelaaDoorProg.lean LOADS. Nothing in Lean hashes anything: it is a label: what it is worth is what the hold of that sum in a sandbox is worth. -/
noncomputable def Tryd.pinned : Pinned := { name := "ytfjfmkobhbpelaadoor", sum := "8e5a7d99588ec36ed8fb18234bd1dc061210890f8078f17dc640dfc067497625", checked := Tryd.checked }
namespace Rows
def none {H : Type} : Left H := { results := [], args := [] }

/- WHAT THE LISTED PACKAGE-LEVEL VARIABLES READ AS WHEN THE CALL BEGINS. Each datum BY PROGRAM (the guide's laid-datum.mjs) off the statement by which the dump's own 'gosem.cut.vars' lays the variable. In a bare row this is a premise. The card (YtfjfmkobhbpelaaDoorCards.lean) ties it to the program's text. -/
def laid_spinnaker_isa_names {H : Type} : DataW H := .agg [.lit (.string []), .lit (.string [108, 117, 105]), .lit (.string [97, 117, 105, 112, 99]), .lit (.string [106, 97, 108]), .lit (.string [106, 97, 108, 114]), .lit (.string [98, 101, 113]), .lit (.string [98, 110, 101]), .lit (.string [98, 108, 116]), .lit (.string [98, 103, 101]), .lit (.string [98, 108, 116, 117]), .lit (.string [98, 103, 101, 117]), .lit (.string [108, 98]), .lit (.string [108, 104]), .lit (.string [108, 119]), .lit (.string [108, 100]), .lit (.string [108, 98, 117]), .lit (.string [108, 104, 117]), .lit (.string [108, 119, 117]), .lit (.string [115, 98]), .lit (.string [115, 104]), .lit (.string [115, 119]), .lit (.string [115, 100]), .lit (.string [97, 100, 100, 105]), .lit (.string [115, 108, 116, 105]), .lit (.string [115, 108, 116, 105, 117]), .lit (.string [120, 111, 114, 105]), .lit (.string [111, 114, 105]), .lit (.string [97, 110, 100, 105]), .lit (.string [115, 108, 108, 105]), .lit (.string [115, 114, 108, 105]), .lit (.string [115, 114, 97, 105]), .lit (.string [97, 100, 100, 105, 119]), .lit (.string [115, 108, 108, 105, 119]), .lit (.string [115, 114, 108, 105, 119]), .lit (.string [115, 114, 97, 105, 119]), .lit (.string [97, 100, 100]), .lit (.string [115, 117, 98]), .lit (.string [115, 108, 108]), .lit (.string [115, 108, 116]), .lit (.string [115, 108, 116, 117]), .lit (.string [120, 111, 114]), .lit (.string [115, 114, 108]), .lit (.string [115, 114, 97]), .lit (.string [111, 114]), .lit (.string [97, 110, 100]), .lit (.string [97, 100, 100, 119]), .lit (.string [115, 117, 98, 119]), .lit (.string [115, 108, 108, 119]), .lit (.string [115, 114, 108, 119]), .lit (.string [115, 114, 97, 119]), .lit (.string [109, 117, 108]), .lit (.string [109, 117, 108, 104]), .lit (.string [109, 117, 108, 104, 115, 117]), .lit (.string [109, 117, 108, 104, 117]), .lit (.string [100, 105, 118]), .lit (.string [100, 105, 118, 117]), .lit (.string [114, 101, 109]), .lit (.string [114, 101, 109, 117]), .lit (.string [109, 117, 108, 119]), .lit (.string [100, 105, 118, 119]), .lit (.string [100, 105, 118, 117, 119]), .lit (.string [114, 101, 109, 119]), .lit (.string [114, 101, 109, 117, 119]), .lit (.string [102, 101, 110, 99, 101]), .lit (.string [101, 99, 97, 108, 108]), .lit (.string [101, 98, 114, 101, 97, 107]), .lit (.string [108, 114, 46, 119]), .lit (.string [115, 99, 46, 119]), .lit (.string [97, 109, 111, 115, 119, 97, 112, 46, 119]), .lit (.string [97, 109, 111, 97, 100, 100, 46, 119]), .lit (.string [97, 109, 111, 120, 111, 114, 46, 119]), .lit (.string [97, 109, 111, 97, 110, 100, 46, 119]), .lit (.string [97, 109, 111, 111, 114, 46, 119]), .lit (.string [97, 109, 111, 109, 105, 110, 46, 119]), .lit (.string [97, 109, 111, 109, 97, 120, 46, 119]), .lit (.string [97, 109, 111, 109, 105, 110, 117, 46, 119]), .lit (.string [97, 109, 111, 109, 97, 120, 117, 46, 119]), .lit (.string [108, 114, 46, 100]), .lit (.string [115, 99, 46, 100]), .lit (.string [97, 109, 111, 115, 119, 97, 112, 46, 100]), .lit (.string [97, 109, 111, 97, 100, 100, 46, 100]), .lit (.string [97, 109, 111, 120, 111, 114, 46, 100]), .lit (.string [97, 109, 111, 97, 110, 100, 46, 100]), .lit (.string [97, 109, 111, 111, 114, 46, 100]), .lit (.string [97, 109, 111, 109, 105, 110, 46, 100]), .lit (.string [97, 109, 111, 109, 97, 120, 46, 100]), .lit (.string [97, 109, 111, 109, 105, 110, 117, 46, 100]), .lit (.string [97, 109, 111, 109, 97, 120, 117, 46, 100])]

/-- 'spinnakerlaw03.IsaNames': WHATEVER THE INPUT: true; the input reads as it did. -/
def isaNamesSpec : ChangeSpec := { name := "isaNames", fn := fun _ => fun
  | [d] => { results := [.lit (.bool true)], args := [d] }
  | _ => none }
def isaNamesRow : OpenClaim := { program := "ytfjfmkobhbpelaadoor", sum := "8e5a7d99588ec36ed8fb18234bd1dc061210890f8078f17dc640dfc067497625", func := "spinnaker/spinnakerlaw03.IsaNames", spec := "isaNames", named := ["spinnaker/isa.names"], apart := false, laid := [("spinnaker/isa.names", laid_spinnaker_isa_names)] }
def IsaNamesSaid : Prop := isaNamesRow.holds Tryd.pinned (OpenSpec.ofChange isaNamesSpec)

/-- ITS FALSE NEIGHBOUR: 'it returns false'. Refute it at one input. -/
def isaNamesWrong : ChangeSpec := { name := "isaNames", fn := fun _ => fun
  | [d] => { results := [.lit (.bool false)], args := [d] }
  | _ => none }
def IsaNamesWrongFalsely : Prop := isaNamesRow.holds Tryd.pinned (OpenSpec.ofChange isaNamesWrong)

/-- 'spinnakerlaw03.IsaFinds': WHATEVER THE INPUT: true; the input reads as it did. -/
def isaFindsSpec : ChangeSpec := { name := "isaFinds", fn := fun _ => fun
  | [d] => { results := [.lit (.bool true)], args := [d] }
  | _ => none }
def isaFindsRow : OpenClaim := { program := "ytfjfmkobhbpelaadoor", sum := "8e5a7d99588ec36ed8fb18234bd1dc061210890f8078f17dc640dfc067497625", func := "spinnaker/spinnakerlaw03.IsaFinds", spec := "isaFinds", named := ["spinnaker/isa.names"], apart := false, laid := [("spinnaker/isa.names", laid_spinnaker_isa_names)] }
def IsaFindsSaid : Prop := isaFindsRow.holds Tryd.pinned (OpenSpec.ofChange isaFindsSpec)

/-- ITS FALSE NEIGHBOUR: 'it returns false'. Refute it at one input. -/
def isaFindsWrong : ChangeSpec := { name := "isaFinds", fn := fun _ => fun
  | [d] => { results := [.lit (.bool false)], args := [d] }
  | _ => none }
def IsaFindsWrongFalsely : Prop := isaFindsRow.holds Tryd.pinned (OpenSpec.ofChange isaFindsWrong)

/-- 'spinnakerlaw03.IsaKinds': WHATEVER THE INPUT: true; the input reads as it did. -/
def isaKindsSpec : ChangeSpec := { name := "isaKinds", fn := fun _ => fun
  | [d] => { results := [.lit (.bool true)], args := [d] }
  | _ => none }
def isaKindsRow : OpenClaim := { program := "ytfjfmkobhbpelaadoor", sum := "8e5a7d99588ec36ed8fb18234bd1dc061210890f8078f17dc640dfc067497625", func := "spinnaker/spinnakerlaw03.IsaKinds", spec := "isaKinds", named := ["spinnaker/isa.names"], apart := false, laid := [("spinnaker/isa.names", laid_spinnaker_isa_names)] }
def IsaKindsSaid : Prop := isaKindsRow.holds Tryd.pinned (OpenSpec.ofChange isaKindsSpec)

/-- ITS FALSE NEIGHBOUR: 'it returns false'. Refute it at one input. -/
def isaKindsWrong : ChangeSpec := { name := "isaKinds", fn := fun _ => fun
  | [d] => { results := [.lit (.bool false)], args := [d] }
  | _ => none }
def IsaKindsWrongFalsely : Prop := isaKindsRow.holds Tryd.pinned (OpenSpec.ofChange isaKindsWrong)

/-- 'spinnakerlaw03.IsaMay': WHATEVER THE INPUT: true; the input reads as it did. -/
def isaMaySpec : ChangeSpec := { name := "isaMay", fn := fun _ => fun
  | [d] => { results := [.lit (.bool true)], args := [d] }
  | _ => none }
def isaMayRow : OpenClaim := { program := "ytfjfmkobhbpelaadoor", sum := "8e5a7d99588ec36ed8fb18234bd1dc061210890f8078f17dc640dfc067497625", func := "spinnaker/spinnakerlaw03.IsaMay", spec := "isaMay", named := ["spinnaker/isa.names"], apart := false, laid := [("spinnaker/isa.names", laid_spinnaker_isa_names)] }
def IsaMaySaid : Prop := isaMayRow.holds Tryd.pinned (OpenSpec.ofChange isaMaySpec)

/-- ITS FALSE NEIGHBOUR: 'it returns false'. Refute it at one input. -/
def isaMayWrong : ChangeSpec := { name := "isaMay", fn := fun _ => fun
  | [d] => { results := [.lit (.bool false)], args := [d] }
  | _ => none }
def IsaMayWrongFalsely : Prop := isaMayRow.holds Tryd.pinned (OpenSpec.ofChange isaMayWrong)

/-- 'spinnakerlaw03.IsaUses': WHATEVER THE INPUT: true; the input reads as it did. -/
def isaUsesSpec : ChangeSpec := { name := "isaUses", fn := fun _ => fun
  | [d] => { results := [.lit (.bool true)], args := [d] }
  | _ => none }
def isaUsesRow : OpenClaim := { program := "ytfjfmkobhbpelaadoor", sum := "8e5a7d99588ec36ed8fb18234bd1dc061210890f8078f17dc640dfc067497625", func := "spinnaker/spinnakerlaw03.IsaUses", spec := "isaUses", named := ["spinnaker/isa.names"], apart := false, laid := [("spinnaker/isa.names", laid_spinnaker_isa_names)] }
def IsaUsesSaid : Prop := isaUsesRow.holds Tryd.pinned (OpenSpec.ofChange isaUsesSpec)

/-- ITS FALSE NEIGHBOUR: 'it returns false'. Refute it at one input. -/
def isaUsesWrong : ChangeSpec := { name := "isaUses", fn := fun _ => fun
  | [d] => { results := [.lit (.bool false)], args := [d] }
  | _ => none }
def IsaUsesWrongFalsely : Prop := isaUsesRow.holds Tryd.pinned (OpenSpec.ofChange isaUsesWrong)

/- THE SECOND FORM. 'bulk': how many values and letters a reading holds, each counted each time it is reached (what is shared counts as often as it is met; a slice's spare places count too). A statement '..UptoSaid' is the law's where the arguments, and the package variables that the reading takes, are together of bulk at most 1048576: NARROWER than '..Said'. Prove '..Said' where nothing that the law and all that it calls make is longer than what came in: it says more and counts as full. Else prove '..UptoSaid'. A law counts once. -/
mutual
def uptoBulk {H : Type} : DataW H → Nat
  | .lit (.string bytes) => bytes.length + 1
  | .lit _ => 1
  | .nil => 1
  | .ptr d => uptoBulk d + 1
  | .slice elems spare => uptoBulkAll elems + uptoBulkAll spare + 1
  | .agg parts => uptoBulkAll parts + 1
  | .iface _ d => uptoBulk d + 1
  | .map entries => uptoBulkEntries entries + 1
  | .held _ => 1
def uptoBulkAll {H : Type} : List (DataW H) → Nat
  | [] => 0
  | d :: r => uptoBulk d + uptoBulkAll r
def uptoBulkEntries {H : Type} : List (Lit × DataW H) → Nat
  | [] => 0
  | x :: r => uptoBulkEntry x + uptoBulkEntries r
def uptoBulkEntry {H : Type} : Lit × DataW H → Nat
  | (.string bytes, d) => bytes.length + uptoBulk d + 1
  | (_, d) => uptoBulk d + 1
 end
def uptoSmall : (H : Type) → List (DataW H) → Bool := fun _ ds => decide (uptoBulkAll ds ≤ 1048576)
def OpenSpec.upto (s : _root_.Go.ChangeSpec) : _root_.Go.OpenSpec := { _root_.Go.OpenSpec.ofChange s with cond := some uptoSmall }

/-- 'spinnakerlaw03.IsaNames', WHERE WHAT IT READS IS OF BULK AT MOST 1048576: true; the input reads as it did. -/
def isaNamesUptoRow : OpenClaim := { program := "ytfjfmkobhbpelaadoor", sum := "8e5a7d99588ec36ed8fb18234bd1dc061210890f8078f17dc640dfc067497625", func := "spinnaker/spinnakerlaw03.IsaNames", spec := "isaNames", named := ["spinnaker/isa.names"], apart := false, laid := [("spinnaker/isa.names", laid_spinnaker_isa_names)], narrowed := true }
def IsaNamesUptoSaid : Prop := isaNamesUptoRow.holds Tryd.pinned (OpenSpec.upto isaNamesSpec)

/-- 'spinnakerlaw03.IsaFinds', WHERE WHAT IT READS IS OF BULK AT MOST 1048576: true; the input reads as it did. -/
def isaFindsUptoRow : OpenClaim := { program := "ytfjfmkobhbpelaadoor", sum := "8e5a7d99588ec36ed8fb18234bd1dc061210890f8078f17dc640dfc067497625", func := "spinnaker/spinnakerlaw03.IsaFinds", spec := "isaFinds", named := ["spinnaker/isa.names"], apart := false, laid := [("spinnaker/isa.names", laid_spinnaker_isa_names)], narrowed := true }
def IsaFindsUptoSaid : Prop := isaFindsUptoRow.holds Tryd.pinned (OpenSpec.upto isaFindsSpec)

/-- 'spinnakerlaw03.IsaKinds', WHERE WHAT IT READS IS OF BULK AT MOST 1048576: true; the input reads as it did. -/
def isaKindsUptoRow : OpenClaim := { program := "ytfjfmkobhbpelaadoor", sum := "8e5a7d99588ec36ed8fb18234bd1dc061210890f8078f17dc640dfc067497625", func := "spinnaker/spinnakerlaw03.IsaKinds", spec := "isaKinds", named := ["spinnaker/isa.names"], apart := false, laid := [("spinnaker/isa.names", laid_spinnaker_isa_names)], narrowed := true }
def IsaKindsUptoSaid : Prop := isaKindsUptoRow.holds Tryd.pinned (OpenSpec.upto isaKindsSpec)

/-- 'spinnakerlaw03.IsaMay', WHERE WHAT IT READS IS OF BULK AT MOST 1048576: true; the input reads as it did. -/
def isaMayUptoRow : OpenClaim := { program := "ytfjfmkobhbpelaadoor", sum := "8e5a7d99588ec36ed8fb18234bd1dc061210890f8078f17dc640dfc067497625", func := "spinnaker/spinnakerlaw03.IsaMay", spec := "isaMay", named := ["spinnaker/isa.names"], apart := false, laid := [("spinnaker/isa.names", laid_spinnaker_isa_names)], narrowed := true }
def IsaMayUptoSaid : Prop := isaMayUptoRow.holds Tryd.pinned (OpenSpec.upto isaMaySpec)

/-- 'spinnakerlaw03.IsaUses', WHERE WHAT IT READS IS OF BULK AT MOST 1048576: true; the input reads as it did. -/
def isaUsesUptoRow : OpenClaim := { program := "ytfjfmkobhbpelaadoor", sum := "8e5a7d99588ec36ed8fb18234bd1dc061210890f8078f17dc640dfc067497625", func := "spinnaker/spinnakerlaw03.IsaUses", spec := "isaUses", named := ["spinnaker/isa.names"], apart := false, laid := [("spinnaker/isa.names", laid_spinnaker_isa_names)], narrowed := true }
def IsaUsesUptoSaid : Prop := isaUsesUptoRow.holds Tryd.pinned (OpenSpec.upto isaUsesSpec)

end Rows
end Go.Proofs.YtfjfmkobhbpelaaDoor
