/- How the arguments of the law UnitExpands lie in memory, and their bounds. -/
import Derived.Test.YtbmjbidekmkboaaDoorGUnitExpandsx17
import Derived.Test.YtbmjbidekmkboaaDoorOpensUnitExpands
namespace Go.Proofs.YtbmjbidekmkboaaDoor.GUnitExpands
open Go.RowKit Go.Proofs.YtbmjbidekmkboaaDoor.Opens Go.Proofs.YtbmjbidekmkboaaDoorW.PrintWords
set_option linter.unusedVariables false
def Q51 (x : S51) : Prop := (Lit.int .i64 x.f0).wf = true ∧ (Lit.int .i64 x.f1).wf = true ∧ (Lit.int .i64 x.f2).wf = true ∧ (Lit.int .i64 x.f3).wf = true ∧ (Lit.int .i64 x.f4).wf = true ∧ True ∧ True
theorem opens51 {H : Type} {enc : TypeId × Value → H} {W : World} {base : Nat} {sp : Nat → Bool} {held : Bool} : Opens enc Tryd.prog W base sp held 51 k51 Q51 := by
  intro n cs x hx
  have hh := opens_struct (enc := enc) (W := W) (base := base) (sp := sp) (held := held) (f := (fun x : S51 => (x.f0, x.f1, x.f2, x.f3, x.f4, x.f5, x.f6))) (fun p => ⟨p.1, p.2.1, p.2.2.1, p.2.2.2.1, p.2.2.2.2.1, p.2.2.2.2.2.1, p.2.2.2.2.2.2⟩) (fun _ => rfl) Tryd.underlying51 rfl (by kernel_rfl)
    (seg_cons (s := 1) rfl (by kernel_rfl) (opens_int Tryd.underlying3) (seg_cons (s := 1) rfl (by kernel_rfl) (opens_int Tryd.underlying3) (seg_cons (s := 1) rfl (by kernel_rfl) (opens_int Tryd.underlying3) (seg_cons (s := 1) rfl (by kernel_rfl) (opens_int Tryd.underlying3) (seg_cons (s := 1) rfl (by kernel_rfl) (opens_int Tryd.underlying3) (seg_cons (s := 1) rfl (by kernel_rfl) (opens_bool Tryd.underlying4) (seg_one (tot := 1) rfl (by kernel_rfl) (opens_bool Tryd.underlying4)))))))) n cs x hx
  exact hh
def Q70 (x : S70) : Prop := (Lit.int .i64 x.f0).wf = true ∧ Q51 x.f1 ∧ (Lit.int .i64 x.f2).wf = true ∧ (Lit.int .i64 x.f3).wf = true
theorem opens70 {H : Type} {enc : TypeId × Value → H} {W : World} {base : Nat} {sp : Nat → Bool} {held : Bool} : Opens enc Tryd.prog W base sp held 70 k70 Q70 := by
  intro n cs x hx
  have hh := opens_struct (enc := enc) (W := W) (base := base) (sp := sp) (held := held) (f := (fun x : S70 => (x.f0, x.f1, x.f2, x.f3))) (fun p => ⟨p.1, p.2.1, p.2.2.1, p.2.2.2⟩) (fun _ => rfl) Tryd.underlying70 rfl (by kernel_rfl)
    (seg_cons (s := 1) rfl (by kernel_rfl) (opens_int Tryd.underlying3) (seg_cons (s := 7) rfl (by kernel_rfl) opens51 (seg_cons (s := 1) rfl (by kernel_rfl) (opens_int Tryd.underlying3) (seg_one (tot := 1) rfl (by kernel_rfl) (opens_int Tryd.underlying3))))) n cs x hx
  exact hh
end Go.Proofs.YtbmjbidekmkboaaDoor.GUnitExpands
