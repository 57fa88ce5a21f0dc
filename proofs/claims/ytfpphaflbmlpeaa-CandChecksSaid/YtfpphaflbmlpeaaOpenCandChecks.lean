/- How the arguments of the law CandChecks lie in memory, and their bounds. -/
import Derived.Test.YtfpphaflbmlpeaaGCandChecksx16
import Derived.Test.YtfpphaflbmlpeaaOpensCandChecks
namespace Go.Proofs.Ytfpphaflbmlpeaa.GCandChecks
open Go.RowKit Go.Proofs.Ytfpphaflbmlpeaa.Opens Go.Proofs.YtfpphaflbmlpeaaW.PrintWords
set_option linter.unusedVariables false
def Q73 (x : S73) : Prop := (Lit.int .i64 x.f0).wf = true ∧ (Lit.int .i64 x.f1).wf = true
theorem opens73 {H : Type} {enc : TypeId × Value → H} {W : World} {base : Nat} {sp : Nat → Bool} {held : Bool} : Opens enc Try.prog W base sp held 73 k73 Q73 := by
  intro n cs x hx
  have hh := opens_struct (enc := enc) (W := W) (base := base) (sp := sp) (held := held) (f := (fun x : S73 => (x.f0, x.f1))) (fun p => ⟨p.1, p.2⟩) (fun _ => rfl) Try.underlying73 rfl (by kernel_rfl)
    (seg_cons (s := 1) rfl (by kernel_rfl) (opens_int Try.underlying3) (seg_one (tot := 1) rfl (by kernel_rfl) (opens_int Try.underlying3))) n cs x hx
  exact hh
def Q75 (x : S75) : Prop := (Lit.int .i64 x.f0).wf = true ∧ (Lit.int .i64 x.f1).wf = true ∧ Q73 x.f2 ∧ True ∧ True
theorem opens75 {H : Type} {enc : TypeId × Value → H} {W : World} {base : Nat} {sp : Nat → Bool} {held : Bool} : Opens enc Try.prog W base sp held 75 k75 Q75 := by
  intro n cs x hx
  have hh := opens_struct (enc := enc) (W := W) (base := base) (sp := sp) (held := held) (f := (fun x : S75 => (x.f0, x.f1, x.f2, x.f3, x.f4))) (fun p => ⟨p.1, p.2.1, p.2.2.1, p.2.2.2.1, p.2.2.2.2⟩) (fun _ => rfl) Try.underlying75 rfl (by kernel_rfl)
    (seg_cons (s := 1) rfl (by kernel_rfl) (opens_int Try.underlying3) (seg_cons (s := 1) rfl (by kernel_rfl) (opens_int Try.underlying3) (seg_cons (s := 2) rfl (by kernel_rfl) opens73 (seg_cons (s := 1) rfl (by kernel_rfl) (opens_bool Try.underlying4) (seg_one (tot := 1) rfl (by kernel_rfl) (opens_bool Try.underlying4)))))) n cs x hx
  exact hh
def Q70 (x : S70) : Prop := (Lit.int .i64 x.f0).wf = true ∧ (x.f1.length * 16 ≤ 140737488351232 ∧ ∀ y ∈ x.f1, Q73 y)
theorem opens70 {H : Type} {enc : TypeId × Value → H} {W : World} {base : Nat} {sp : Nat → Bool} {held : Bool} : Opens enc Try.prog W base sp held 70 k70 Q70 := by
  intro n cs x hx
  have hh := opens_struct (enc := enc) (W := W) (base := base) (sp := sp) (held := held) (f := (fun x : S70 => (x.f0, x.f1))) (fun p => ⟨p.1, p.2⟩) (fun _ => rfl) Try.underlying70 rfl (by kernel_rfl)
    (seg_cons (s := 1) rfl (by kernel_rfl) (opens_int Try.underlying3) (seg_one (tot := 1) rfl (by kernel_rfl) (opens_slice Try.underlying68 (by kernel_rfl) (B := 16) (by kernel_rfl) opens73))) n cs x hx
  exact hh
def Q42 (x : ((List (List S75)) × (List S70))) : Prop := (x.1.length * 24 ≤ 140737488351232 ∧ ∀ y ∈ x.1, (y.length * 40 ≤ 140737488351232 ∧ ∀ z ∈ y, Q75 z)) ∧ (x.2.length * 32 ≤ 140737488351232 ∧ ∀ y ∈ x.2, Q70 y)
theorem opens42 {H : Type} {enc : TypeId × Value → H} {W : World} {base : Nat} {sp : Nat → Bool} {held : Bool} : Opens enc Try.prog W base sp held 42 (Kd.iso (Kd.pair (Kd.slice 67 (Kd.slice 75 k75)) (Kd.slice 70 k70)) id) Q42 := by
  intro n cs x hx
  have hh := opens_struct (enc := enc) (W := W) (base := base) (sp := sp) (held := held) (f := id) (fun p => p) (fun _ => rfl) Try.underlying42 rfl (by kernel_rfl)
    (seg_cons (s := 1) rfl (by kernel_rfl) (opens_slice Try.underlying39 (by kernel_rfl) (B := 24) (by kernel_rfl) (opens_slice Try.underlying67 (by kernel_rfl) (B := 40) (by kernel_rfl) opens75)) (seg_one (tot := 1) rfl (by kernel_rfl) (opens_slice Try.underlying40 (by kernel_rfl) (B := 32) (by kernel_rfl) opens70))) n cs x hx
  exact hh
end Go.Proofs.Ytfpphaflbmlpeaa.GCandChecks
