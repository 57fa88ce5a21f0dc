/- How the arguments of the law DecBack lie in memory, and their bounds. -/
import Derived.Test.YtffehgfjjagibaaDoorGDecBackx13
import Derived.Test.YtffehgfjjagibaaDoorOpensDecBack
namespace Go.Proofs.YtffehgfjjagibaaDoor.GDecBack
open Go.RowKit Go.Proofs.YtffehgfjjagibaaDoor.Opens Go.Proofs.YtffehgfjjagibaaDoorW.PrintWords
set_option linter.unusedVariables false
def Q24 (x : (Int × Int × Int × Int × Int × Bool × Bool)) : Prop := (Lit.int .i64 x.1).wf = true ∧ (Lit.int .i64 x.2.1).wf = true ∧ (Lit.int .i64 x.2.2.1).wf = true ∧ (Lit.int .i64 x.2.2.2.1).wf = true ∧ (Lit.int .i64 x.2.2.2.2.1).wf = true ∧ True ∧ True
theorem opens24 {H : Type} {enc : TypeId × Value → H} {W : World} {base : Nat} {sp : Nat → Bool} {held : Bool} : Opens enc Tryd.prog W base sp held 24 (Kd.iso (Kd.pair (Kd.int .i64) (Kd.pair (Kd.int .i64) (Kd.pair (Kd.int .i64) (Kd.pair (Kd.int .i64) (Kd.pair (Kd.int .i64) (Kd.pair Kd.bool Kd.bool)))))) id) Q24 := by
  intro n cs x hx
  have hh := opens_struct (enc := enc) (W := W) (base := base) (sp := sp) (held := held) (f := id) (fun p => p) (fun _ => rfl) Tryd.underlying24 rfl (by kernel_rfl)
    (seg_cons (s := 1) rfl (by kernel_rfl) (opens_int Tryd.underlying3) (seg_cons (s := 1) rfl (by kernel_rfl) (opens_int Tryd.underlying3) (seg_cons (s := 1) rfl (by kernel_rfl) (opens_int Tryd.underlying3) (seg_cons (s := 1) rfl (by kernel_rfl) (opens_int Tryd.underlying3) (seg_cons (s := 1) rfl (by kernel_rfl) (opens_int Tryd.underlying3) (seg_cons (s := 1) rfl (by kernel_rfl) (opens_bool Tryd.underlying4) (seg_one (tot := 1) rfl (by kernel_rfl) (opens_bool Tryd.underlying4)))))))) n cs x hx
  exact hh
end Go.Proofs.YtffehgfjjagibaaDoor.GDecBack
