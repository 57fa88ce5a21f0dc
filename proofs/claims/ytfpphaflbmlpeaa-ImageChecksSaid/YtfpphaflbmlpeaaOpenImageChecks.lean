/- How the arguments of the law ImageChecks lie in memory, and their bounds. -/
import Derived.Test.YtfpphaflbmlpeaaGImageChecksx7
import Derived.Test.YtfpphaflbmlpeaaOpensImageChecks
namespace Go.Proofs.Ytfpphaflbmlpeaa.GImageChecks
open Go.RowKit Go.Proofs.Ytfpphaflbmlpeaa.Opens Go.Proofs.YtfpphaflbmlpeaaW.PrintWords
set_option linter.unusedVariables false
def Q25 (x : ((List Int) × (List Int) × (List Int))) : Prop := (x.1.length ≤ maxLen ∧ ∀ y ∈ x.1, (Lit.int .u32 y).wf = true) ∧ (x.2.1.length ≤ maxLen ∧ ∀ y ∈ x.2.1, (Lit.int .i64 y).wf = true) ∧ (x.2.2.length ≤ maxLen ∧ ∀ y ∈ x.2.2, (Lit.int .i64 y).wf = true)
theorem opens25 {H : Type} {enc : TypeId × Value → H} {W : World} {base : Nat} {sp : Nat → Bool} {held : Bool} : Opens enc Try.prog W base sp held 25 (Kd.iso (Kd.pair (Kd.slice 51 (Kd.int .u32)) (Kd.pair (Kd.slice 3 (Kd.int .i64)) (Kd.slice 3 (Kd.int .i64)))) id) Q25 := by
  intro n cs x hx
  have hh := opens_struct (enc := enc) (W := W) (base := base) (sp := sp) (held := held) (f := id) (fun p => p) (fun _ => rfl) Try.underlying25 rfl (by kernel_rfl)
    (seg_cons (s := 1) rfl (by kernel_rfl) (opens_slice Try.underlying22 (by kernel_rfl) (opens_int Try.underlying51)) (seg_cons (s := 1) rfl (by kernel_rfl) (opens_slice Try.underlying23 (by kernel_rfl) (opens_int Try.underlying3)) (seg_one (tot := 1) rfl (by kernel_rfl) (opens_slice Try.underlying23 (by kernel_rfl) (opens_int Try.underlying3))))) n cs x hx
  exact hh
end Go.Proofs.Ytfpphaflbmlpeaa.GImageChecks
