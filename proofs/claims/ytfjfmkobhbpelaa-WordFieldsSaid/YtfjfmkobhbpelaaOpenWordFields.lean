/- How the arguments of the law WordFields lie in memory, and their bounds. -/
import Derived.Test.YtfjfmkobhbpelaaGWordFieldsx2
import Derived.Test.YtfjfmkobhbpelaaOpens
namespace Go.Proofs.Ytfjfmkobhbpelaa.GWordFields
open Go.RowKit Go.Proofs.Ytfjfmkobhbpelaa.Opens Go.Proofs.YtfjfmkobhbpelaaW.PrintWords
set_option linter.unusedVariables false
def Q31 (x : (Int × Int)) : Prop := (Lit.int .i64 x.1).wf = true ∧ (Lit.int .i64 x.2).wf = true
theorem opens31 {H : Type} {enc : TypeId × Value → H} {W : World} {base : Nat} {sp : Nat → Bool} {held : Bool} : Opens enc Try.prog W base sp held 31 (Kd.iso (Kd.pair (Kd.int .i64) (Kd.int .i64)) id) Q31 := by
  intro n cs x hx
  have hh := opens_array (enc := enc) (W := W) (base := base) (sp := sp) (held := held) (f := id) (fun p => p) (fun _ => rfl) Try.underlying31 (by kernel_rfl) (l := [⟨"", 3, 0, false, "", "", 0⟩, ⟨"", 3, 1, false, "", "", 0⟩]) (by intro fd hfd; simp only [List.mem_cons, List.not_mem_nil, or_false] at hfd; rcases hfd with rfl | rfl; exact ⟨0, by decide, rfl, by kernel_rfl⟩; exact ⟨1, by decide, rfl, by kernel_rfl⟩)
    (seg_cons (f := ⟨"", 3, 0, false, "", "", 0⟩) (s := 1) rfl (by kernel_rfl) (opens_int Try.underlying3) (seg_one (f := ⟨"", 3, 1, false, "", "", 0⟩) (tot := 1) rfl (by kernel_rfl) (opens_int Try.underlying3))) n cs x hx
  exact hh
end Go.Proofs.Ytfjfmkobhbpelaa.GWordFields
