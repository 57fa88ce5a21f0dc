/- How the arguments of the law ImagePlaces lie in memory, and their bounds. -/
import Derived.Test.YtffehgfjjagibaaDoorGImagePlacesx17
import Derived.Test.YtffehgfjjagibaaDoorOpensImagePlaces
namespace Go.Proofs.YtffehgfjjagibaaDoor.GImagePlaces
open Go.RowKit Go.Proofs.YtffehgfjjagibaaDoor.Opens Go.Proofs.YtffehgfjjagibaaDoorW.PrintWords
set_option linter.unusedVariables false
def Q43 (x : ((List Int) × (List Int) × (List Int))) : Prop := (x.1.length ≤ maxLen ∧ ∀ y ∈ x.1, (Lit.int .u32 y).wf = true) ∧ (x.2.1.length ≤ maxLen ∧ ∀ y ∈ x.2.1, (Lit.int .i64 y).wf = true) ∧ (x.2.2.length ≤ maxLen ∧ ∀ y ∈ x.2.2, (Lit.int .i64 y).wf = true)
theorem opens43 {H : Type} {enc : TypeId × Value → H} {W : World} {base : Nat} {sp : Nat → Bool} {held : Bool} : Opens enc Tryd.prog W base sp held 43 (Kd.iso (Kd.pair (Kd.slice 22 (Kd.int .u32)) (Kd.pair (Kd.slice 3 (Kd.int .i64)) (Kd.slice 3 (Kd.int .i64)))) id) Q43 := by
  intro n cs x hx
  have hh := opens_struct (enc := enc) (W := W) (base := base) (sp := sp) (held := held) (f := id) (fun p => p) (fun _ => rfl) Tryd.underlying43 rfl (by kernel_rfl)
    (seg_cons (s := 1) rfl (by kernel_rfl) (opens_slice Tryd.underlying40 (by kernel_rfl) (opens_int Tryd.underlying22)) (seg_cons (s := 1) rfl (by kernel_rfl) (opens_slice Tryd.underlying41 (by kernel_rfl) (opens_int Tryd.underlying3)) (seg_one (tot := 1) rfl (by kernel_rfl) (opens_slice Tryd.underlying41 (by kernel_rfl) (opens_int Tryd.underlying3))))) n cs x hx
  exact hh
end Go.Proofs.YtffehgfjjagibaaDoor.GImagePlaces
