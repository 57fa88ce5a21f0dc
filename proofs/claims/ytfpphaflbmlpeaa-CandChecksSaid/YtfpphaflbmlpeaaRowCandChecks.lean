/- Check, Encode and Decode judge a candidate, write its bytes and read them back as the chapter says, for every candidate of at most 20 harts, 200 rows and 1500 records and stores in all, and the chapter's example holds; for every candidate. -/
import Derived.Test.YtfpphaflbmlpeaaRows
import Derived.Test.YtfpphaflbmlpeaaGCandChecksx16
import Derived.Test.YtfpphaflbmlpeaaPureCandChecks
import Derived.Test.YtfpphaflbmlpeaaOpenCandChecks
import Derived.WalkKit
import Derived.ProofKit
import Derived.OpenShut
import Derived.ShutString
import Derived.ChangeOld
import Derived.Below
import Derived.SizedLaws
namespace Go.Proofs.Ytfpphaflbmlpeaa.candChecks
open Go.ChangeShapes Go.WideShapes Go.ChangeAt Go.RowKit Go.Proofs.Ytfpphaflbmlpeaa.Opens Go.Proofs.Ytfpphaflbmlpeaa.GCandChecks Go.Proofs.YtfpphaflbmlpeaaW.PrintWords
open Go.ChangeMaps (open_string shut_string)
set_option linter.unusedVariables false
set_option linter.unusedSimpArgs false
theorem own : ownKnob Try.prog.godebug = none := by kernel_rfl
theorem laidOut : laidOutB Try.prog = true := by kernel_rfl
set_option maxRecDepth 100000 in
theorem lifted (os : Os) (started : os.Started) (H : Type) (enc : TypeId × Value → H) :
    ReturnsInHanded {} Try.checked os 6 .any (Rows.candChecksSpec.pre6 enc Try.prog Try.f6 Rows.candChecksRow.domain false) (Rows.candChecksSpec.post enc Try.prog Try.f6 false true false false) := by
  refine returnsInHanded_of_change_sized (C := Try.checked) own started (by kernel_rfl) Try.func6
    (ChangeSpec.witness6 (enc := enc) (C := Try.checked) false ⟨#[], #[.agg #[.slice none 0 0, .slice none 0 0]], []⟩ 8 (by kernel_rfl) (by kernel_rfl) (by kernel_rfl) (by kernel_rfl)) ?_
  intro W base args ds gs before hval0 hW hcnd hsz0 _
  have hval : ∀ (j : Nat) t v, Try.f6.params[j]? = some t → args[j]? = some v → Value.okWide Try.prog W .any base t v := hval0
  have hW' := hW
  obtain ⟨p, q, hA0, hV, rfl, hfz, hnd⟩ := hW
  have hA : DataW.TrodAll enc Try.prog W 0 (fun _ => true) true Try.f6.params.toList args.toList ds p := hA0
  rw [Try.params6] at hA hval
  obtain ⟨v0, vs0, d0, ds0, p0, q0_, hargs, rfl, rfl, h0, r0⟩ := trodAll_cons hA
  obtain ⟨rfl, rfl, rfl⟩ := trodAll_nil r0
  obtain rfl : args = #[v0] := by cases args; simp_all
  obtain ⟨rfl, rfl⟩ := trodVars_none hV
  have hz0 : ∀ m ∈ d0.weights Try.prog 42, m ≤ reachBytes := fun m hm => of_decide_eq_true (List.all_eq_true.1 hsz0 m (DataW.weights_mem_each (j := 0) (t := 42) (d := d0) (by rw [Try.params6]; rfl) rfl m hm))
  have k0 := h0
  have lt0 := lt_of_trod h0
  obtain ⟨x0, cs0, rfl, hk0, q0⟩ := arg_struct Try.underlying42 opens42 (hval 0 42 v0 rfl rfl) h0 hz0
  obtain ⟨cs0⟩ := cs0
  obtain ⟨_, _, rfl, ⟨A0_0, c0_0, rfl, hc0_0, hr0_0⟩, ⟨A0_1, c0_1, rfl, hc0_1, hr0_1⟩⟩ := hk0
  clear hA0 hval0 hsz0
  obtain ⟨k, hk⟩ := Pure.CandChecks x0 q0
  refine (spinnakerlaw13_CandChecks.calls k A0_0 c0_0 x0.1 A0_1 c0_1 x0.2 true W hr0_0 hc0_0 hr0_1 hc0_1 hk).mono fun e W' ⟨he, bel⟩ => ?_
  subst he
  exact ⟨_, rfl, _, _, _, [], _, [], hW', trodAll_mk1 (shut_bool Try.underlying4 _), (trodAll_cons_mk (Below.trod laidOut (by kernel_rfl) (of_decide_eq_true (by kernel_rfl)) k0 bel lt0) trodAll_mk0), rfl, bel.frame _, fun h => by cases h⟩
theorem over : Rows.candChecksRow.holds Try.pinned (OpenSpec.ofChange Rows.candChecksSpec) :=
  OpenClaim.holds_of_wide 6 Try.f6 rfl rfl rfl rfl rfl rfl rfl ⟨rfl, rfl, rfl, rfl, rfl⟩ rfl rfl rfl rfl rfl (by kernel_rfl) Try.func6 (by kernel_rfl)
    (of_decide_eq_true (by kernel_rfl)) (by unfold Func.isWrapper; first | (rw [if_pos (by decide +kernel)]; kernel_rfl) | (rw [if_neg (by decide +kernel)]; exact ⟨rfl, rfl⟩))
    (fun os started H enc _ => lifted os started H enc)
theorem proved : Rows.CandChecksSaid := over
#print axioms proved
end Go.Proofs.Ytfpphaflbmlpeaa.candChecks
namespace Go.Proofs.Ytfpphaflbmlpeaa
/-- The row, under a short name, for the claim. -/
theorem candChecks_holds : Rows.CandChecksSaid := candChecks.proved
end Go.Proofs.Ytfpphaflbmlpeaa
