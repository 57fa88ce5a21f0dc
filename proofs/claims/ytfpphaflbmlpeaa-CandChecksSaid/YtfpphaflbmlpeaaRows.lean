/-
  No cell of these rows narrows 'for every input' (looked for: loops, veiled, ifaces, maps, wideKeys, modest, calm, conditions, laid).
  DERIVED. THE GIVEN ROWS OF THIS SEAT. 5 by the template 'for every input the law returns true; each argument reads behind the call as it read before'; 0 by the template 'total and deterministic' (their statements: YtfpphaflbmlpeaaTotals.lean).
  GIVEN WITH THE SEED: the statements are not yours to turn. If you find one false, say at which input.
  Laid BY PROGRAM, IN A SANDBOX (cutbox-rows.mjs): the forced cells as the released guide's own fill.sh prints them over the translation b8efe99ebc04de0a… (all of the seat's roots in one cut). By AI agents, Wed Nov 11 2026. No macro, syntax, notation, axiom, sorry.
-/
import Derived.Test.YtfpphaflbmlpeaaChecked
import GoSem.Claim
import GoSem.ClaimJoined
import GoSem.ClaimMapViews
import Derived.JoinedTies
import Derived.KernelRfl
namespace Go.Proofs.Ytfpphaflbmlpeaa
/- THE CELL 'sum', in the pinned program and in every row, IS THE sha256 OF THE DUMP (.gsa) THAT YtfpphaflbmlpeaaProg.lean LOADS. Nothing in Lean hashes anything: it is a label: what it is worth is what the hold of that sum in a sandbox is worth. -/
noncomputable def Try.pinned : Pinned := { name := "ytfpphaflbmlpeaa", sum := "b8efe99ebc04de0a388ceafdd20c7124683f7c0cac379ccb0480804facf69040", checked := Try.checked }
namespace Rows
def none {H : Type} : Left H := { results := [], args := [] }

/-- 'spinnakerlaw08.ImageChecks': WHATEVER THE INPUT: true; the input reads as it did. -/
def imageChecksSpec : ChangeSpec := { name := "imageChecks", fn := fun _ => fun
  | [d] => { results := [.lit (.bool true)], args := [d] }
  | _ => none }
def imageChecksRow : OpenClaim := { program := "ytfpphaflbmlpeaa", sum := "b8efe99ebc04de0a388ceafdd20c7124683f7c0cac379ccb0480804facf69040", func := "spinnaker/spinnakerlaw08.ImageChecks", spec := "imageChecks", unfollowed := true, recurses := true, plainKeys := false, apart := false }
def ImageChecksSaid : Prop := imageChecksRow.holds Try.pinned (OpenSpec.ofChange imageChecksSpec)

/-- ITS FALSE NEIGHBOUR: 'it returns false'. Refute it at one input. -/
def imageChecksWrong : ChangeSpec := { name := "imageChecks", fn := fun _ => fun
  | [d] => { results := [.lit (.bool false)], args := [d] }
  | _ => none }
def ImageChecksWrongFalsely : Prop := imageChecksRow.holds Try.pinned (OpenSpec.ofChange imageChecksWrong)

/-- 'spinnakerlaw08.ImageDecodes': WHATEVER THE INPUT: true; the input reads as it did. -/
def imageDecodesSpec : ChangeSpec := { name := "imageDecodes", fn := fun _ => fun
  | [d] => { results := [.lit (.bool true)], args := [d] }
  | _ => none }
def imageDecodesRow : OpenClaim := { program := "ytfpphaflbmlpeaa", sum := "b8efe99ebc04de0a388ceafdd20c7124683f7c0cac379ccb0480804facf69040", func := "spinnaker/spinnakerlaw08.ImageDecodes", spec := "imageDecodes", unfollowed := true, recurses := true, plainKeys := false, apart := false }
def ImageDecodesSaid : Prop := imageDecodesRow.holds Try.pinned (OpenSpec.ofChange imageDecodesSpec)

/-- ITS FALSE NEIGHBOUR: 'it returns false'. Refute it at one input. -/
def imageDecodesWrong : ChangeSpec := { name := "imageDecodes", fn := fun _ => fun
  | [d] => { results := [.lit (.bool false)], args := [d] }
  | _ => none }
def ImageDecodesWrongFalsely : Prop := imageDecodesRow.holds Try.pinned (OpenSpec.ofChange imageDecodesWrong)

/-- 'spinnakerlaw13.CandSame': WHATEVER THE INPUT: true; the input reads as it did. -/
def candSameSpec : ChangeSpec := { name := "candSame", fn := fun _ => fun
  | [d1, d2] => { results := [.lit (.bool true)], args := [d1, d2] }
  | _ => none }
def candSameRow : OpenClaim := { program := "ytfpphaflbmlpeaa", sum := "b8efe99ebc04de0a388ceafdd20c7124683f7c0cac379ccb0480804facf69040", func := "spinnaker/spinnakerlaw13.CandSame", spec := "candSame", unfollowed := true, recurses := true, plainKeys := false, apart := false }
def CandSameSaid : Prop := candSameRow.holds Try.pinned (OpenSpec.ofChange candSameSpec)

/-- ITS FALSE NEIGHBOUR: 'it returns false'. Refute it at one input. -/
def candSameWrong : ChangeSpec := { name := "candSame", fn := fun _ => fun
  | [d1, d2] => { results := [.lit (.bool false)], args := [d1, d2] }
  | _ => none }
def CandSameWrongFalsely : Prop := candSameRow.holds Try.pinned (OpenSpec.ofChange candSameWrong)

/-- 'spinnakerlaw13.CandChecks': WHATEVER THE INPUT: true; the input reads as it did. -/
def candChecksSpec : ChangeSpec := { name := "candChecks", fn := fun _ => fun
  | [d] => { results := [.lit (.bool true)], args := [d] }
  | _ => none }
def candChecksRow : OpenClaim := { program := "ytfpphaflbmlpeaa", sum := "b8efe99ebc04de0a388ceafdd20c7124683f7c0cac379ccb0480804facf69040", func := "spinnaker/spinnakerlaw13.CandChecks", spec := "candChecks", unfollowed := true, recurses := true, plainKeys := false, apart := false }
def CandChecksSaid : Prop := candChecksRow.holds Try.pinned (OpenSpec.ofChange candChecksSpec)

/-- ITS FALSE NEIGHBOUR: 'it returns false'. Refute it at one input. -/
def candChecksWrong : ChangeSpec := { name := "candChecks", fn := fun _ => fun
  | [d] => { results := [.lit (.bool false)], args := [d] }
  | _ => none }
def CandChecksWrongFalsely : Prop := candChecksRow.holds Try.pinned (OpenSpec.ofChange candChecksWrong)

/-- 'spinnakerlaw13.CandDecodes': WHATEVER THE INPUT: true; the input reads as it did. -/
def candDecodesSpec : ChangeSpec := { name := "candDecodes", fn := fun _ => fun
  | [d] => { results := [.lit (.bool true)], args := [d] }
  | _ => none }
def candDecodesRow : OpenClaim := { program := "ytfpphaflbmlpeaa", sum := "b8efe99ebc04de0a388ceafdd20c7124683f7c0cac379ccb0480804facf69040", func := "spinnaker/spinnakerlaw13.CandDecodes", spec := "candDecodes", unfollowed := true, recurses := true, plainKeys := false, apart := false }
def CandDecodesSaid : Prop := candDecodesRow.holds Try.pinned (OpenSpec.ofChange candDecodesSpec)

/-- ITS FALSE NEIGHBOUR: 'it returns false'. Refute it at one input. -/
def candDecodesWrong : ChangeSpec := { name := "candDecodes", fn := fun _ => fun
  | [d] => { results := [.lit (.bool false)], args := [d] }
  | _ => none }
def CandDecodesWrongFalsely : Prop := candDecodesRow.holds Try.pinned (OpenSpec.ofChange candDecodesWrong)

/- THE SECOND FORM. 'bulk': how many values and letters a reading holds, each counted each time it is reached (what is shared counts as often as it is met; a slice's spare places count too). A statement '..UptoSaid' is the law's where the arguments, and the package variables that the reading takes, are together of bulk at most 1048576: NARROWER than '..Said'. Prove '..Said' where nothing that the law and all that it calls make is longer than what came in: it says more and counts as full. Else prove '..UptoSaid'. A law counts once. -/
mutual
def uptoBulk {H : Type} : DataW H → Nat
  | .lit (.string bytes) => bytes.length + 1
  | .lit _ => 1
  | .nil => 1
  | .ptr d => uptoBulk d + 1
  | .slice elems spare => uptoBulkAll elems + uptoBulkAll spare + 1
  | .agg parts => uptoBulkAll parts + 1
  | .iface _ d => uptoBulk d + 1
  | .map entries => uptoBulkEntries entries + 1
  | .held _ => 1
def uptoBulkAll {H : Type} : List (DataW H) → Nat
  | [] => 0
  | d :: r => uptoBulk d + uptoBulkAll r
def uptoBulkEntries {H : Type} : List (Lit × DataW H) → Nat
  | [] => 0
  | x :: r => uptoBulkEntry x + uptoBulkEntries r
def uptoBulkEntry {H : Type} : Lit × DataW H → Nat
  | (.string bytes, d) => bytes.length + uptoBulk d + 1
  | (_, d) => uptoBulk d + 1
 end
def uptoSmall : (H : Type) → List (DataW H) → Bool := fun _ ds => decide (uptoBulkAll ds ≤ 1048576)
def OpenSpec.upto (s : _root_.Go.ChangeSpec) : _root_.Go.OpenSpec := { _root_.Go.OpenSpec.ofChange s with cond := some uptoSmall }

/-- 'spinnakerlaw08.ImageChecks', WHERE WHAT IT READS IS OF BULK AT MOST 1048576: true; the input reads as it did. -/
def imageChecksUptoRow : OpenClaim := { program := "ytfpphaflbmlpeaa", sum := "b8efe99ebc04de0a388ceafdd20c7124683f7c0cac379ccb0480804facf69040", func := "spinnaker/spinnakerlaw08.ImageChecks", spec := "imageChecks", unfollowed := true, recurses := true, plainKeys := false, apart := false, narrowed := true }
def ImageChecksUptoSaid : Prop := imageChecksUptoRow.holds Try.pinned (OpenSpec.upto imageChecksSpec)

/-- 'spinnakerlaw08.ImageDecodes', WHERE WHAT IT READS IS OF BULK AT MOST 1048576: true; the input reads as it did. -/
def imageDecodesUptoRow : OpenClaim := { program := "ytfpphaflbmlpeaa", sum := "b8efe99ebc04de0a388ceafdd20c7124683f7c0cac379ccb0480804facf69040", func := "spinnaker/spinnakerlaw08.ImageDecodes", spec := "imageDecodes", unfollowed := true, recurses := true, plainKeys := false, apart := false, narrowed := true }
def ImageDecodesUptoSaid : Prop := imageDecodesUptoRow.holds Try.pinned (OpenSpec.upto imageDecodesSpec)

/-- 'spinnakerlaw13.CandSame', WHERE WHAT IT READS IS OF BULK AT MOST 1048576: true; the input reads as it did. -/
def candSameUptoRow : OpenClaim := { program := "ytfpphaflbmlpeaa", sum := "b8efe99ebc04de0a388ceafdd20c7124683f7c0cac379ccb0480804facf69040", func := "spinnaker/spinnakerlaw13.CandSame", spec := "candSame", unfollowed := true, recurses := true, plainKeys := false, apart := false, narrowed := true }
def CandSameUptoSaid : Prop := candSameUptoRow.holds Try.pinned (OpenSpec.upto candSameSpec)

/-- 'spinnakerlaw13.CandChecks', WHERE WHAT IT READS IS OF BULK AT MOST 1048576: true; the input reads as it did. -/
def candChecksUptoRow : OpenClaim := { program := "ytfpphaflbmlpeaa", sum := "b8efe99ebc04de0a388ceafdd20c7124683f7c0cac379ccb0480804facf69040", func := "spinnaker/spinnakerlaw13.CandChecks", spec := "candChecks", unfollowed := true, recurses := true, plainKeys := false, apart := false, narrowed := true }
def CandChecksUptoSaid : Prop := candChecksUptoRow.holds Try.pinned (OpenSpec.upto candChecksSpec)

/-- 'spinnakerlaw13.CandDecodes', WHERE WHAT IT READS IS OF BULK AT MOST 1048576: true; the input reads as it did. -/
def candDecodesUptoRow : OpenClaim := { program := "ytfpphaflbmlpeaa", sum := "b8efe99ebc04de0a388ceafdd20c7124683f7c0cac379ccb0480804facf69040", func := "spinnaker/spinnakerlaw13.CandDecodes", spec := "candDecodes", unfollowed := true, recurses := true, plainKeys := false, apart := false, narrowed := true }
def CandDecodesUptoSaid : Prop := candDecodesUptoRow.holds Try.pinned (OpenSpec.upto candDecodesSpec)

end Rows
end Go.Proofs.Ytfpphaflbmlpeaa
