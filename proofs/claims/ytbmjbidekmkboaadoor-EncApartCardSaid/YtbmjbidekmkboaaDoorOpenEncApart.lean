/- How the arguments of the law EncApart lie in memory, and their bounds. -/
import Derived.Test.YtbmjbidekmkboaaDoorGEncApartx10
import Derived.Test.YtbmjbidekmkboaaDoorOpensEncApart
namespace Go.Proofs.YtbmjbidekmkboaaDoor.GEncApart
open Go.RowKit Go.Proofs.YtbmjbidekmkboaaDoor.Opens Go.Proofs.YtbmjbidekmkboaaDoorW.PrintWords
set_option linter.unusedVariables false
def Q51 (x : (Int × Int × Int × Int × Int × Bool × Bool)) : Prop := (Lit.int .i64 x.1).wf = true ∧ (Lit.int .i64 x.2.1).wf = true ∧ (Lit.int .i64 x.2.2.1).wf = true ∧ (Lit.int .i64 x.2.2.2.1).wf = true ∧ (Lit.int .i64 x.2.2.2.2.1).wf = true ∧ True ∧ True
theorem opens51 {H : Type} {enc : TypeId × Value → H} {W : World} {base : Nat} {sp : Nat → Bool} {held : Bool} : Opens enc Tryd.prog W base sp held 51 (Kd.iso (Kd.pair (Kd.int .i64) (Kd.pair (Kd.int .i64) (Kd.pair (Kd.int .i64) (Kd.pair (Kd.int .i64) (Kd.pair (Kd.int .i64) (Kd.pair Kd.bool Kd.bool)))))) id) Q51 := by
  intro n cs x hx
  have hh := opens_struct (enc := enc) (W := W) (base := base) (sp := sp) (held := held) (f := id) (fun p => p) (fun _ => rfl) Tryd.underlying51 rfl (by kernel_rfl)
    (seg_cons (s := 1) rfl (by kernel_rfl) (opens_int Tryd.underlying3) (seg_cons (s := 1) rfl (by kernel_rfl) (opens_int Tryd.underlying3) (seg_cons (s := 1) rfl (by kernel_rfl) (opens_int Tryd.underlying3) (seg_cons (s := 1) rfl (by kernel_rfl) (opens_int Tryd.underlying3) (seg_cons (s := 1) rfl (by kernel_rfl) (opens_int Tryd.underlying3) (seg_cons (s := 1) rfl (by kernel_rfl) (opens_bool Tryd.underlying4) (seg_one (tot := 1) rfl (by kernel_rfl) (opens_bool Tryd.underlying4)))))))) n cs x hx
  exact hh
end Go.Proofs.YtbmjbidekmkboaaDoor.GEncApart
