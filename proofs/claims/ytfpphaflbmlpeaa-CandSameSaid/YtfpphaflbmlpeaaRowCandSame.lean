/- Same compares any candidates, and Clone returns an equal one, for every two candidates of at most 20 harts, 200 rows and 1500 records and stores in all, and the chapter's example holds; for every two candidates. -/
import Derived.Test.YtfpphaflbmlpeaaRows
import Derived.Test.YtfpphaflbmlpeaaGCandSamex12
import Derived.Test.YtfpphaflbmlpeaaPureCandSame
import Derived.Test.YtfpphaflbmlpeaaOpenCandSame
import Derived.WalkKit
import Derived.ProofKit
import Derived.OpenShut
import Derived.ShutString
import Derived.ChangeOld
import Derived.Below
import Derived.SizedLaws
namespace Go.Proofs.Ytfpphaflbmlpeaa.candSame
open Go.ChangeShapes Go.WideShapes Go.ChangeAt Go.RowKit Go.Proofs.Ytfpphaflbmlpeaa.Opens Go.Proofs.Ytfpphaflbmlpeaa.GCandSame Go.Proofs.YtfpphaflbmlpeaaW.PrintWords
open Go.ChangeMaps (open_string shut_string)
set_option linter.unusedVariables false
set_option linter.unusedSimpArgs false
theorem own : ownKnob Try.prog.godebug = none := by kernel_rfl
theorem laidOut : laidOutB Try.prog = true := by kernel_rfl
set_option maxRecDepth 100000 in
theorem lifted (os : Os) (started : os.Started) (H : Type) (enc : TypeId × Value → H) :
    ReturnsInHanded {} Try.checked os 5 .any (Rows.candSameSpec.pre6 enc Try.prog Try.f5 Rows.candSameRow.domain false) (Rows.candSameSpec.post enc Try.prog Try.f5 false true false false) := by
  refine returnsInHanded_of_change_sized (C := Try.checked) own started (by kernel_rfl) Try.func5
    (ChangeSpec.witness6 (enc := enc) (C := Try.checked) false ⟨#[], #[.agg #[.slice none 0 0, .slice none 0 0], .agg #[.slice none 0 0, .slice none 0 0]], []⟩ 8 (by kernel_rfl) (by kernel_rfl) (by kernel_rfl) (by kernel_rfl)) ?_
  intro W base args ds gs before hval0 hW hcnd hsz0 _
  have hval : ∀ (j : Nat) t v, Try.f5.params[j]? = some t → args[j]? = some v → Value.okWide Try.prog W .any base t v := hval0
  have hW' := hW
  obtain ⟨p, q, hA0, hV, rfl, hfz, hnd⟩ := hW
  have hA : DataW.TrodAll enc Try.prog W 0 (fun _ => true) true Try.f5.params.toList args.toList ds p := hA0
  rw [Try.params5] at hA hval
  obtain ⟨v0, vs0, d0, ds0, p0, q0_, hargs, rfl, rfl, h0, r0⟩ := trodAll_cons hA
  obtain ⟨v1, vs1, d1, ds1, p1, q1_, rfl, rfl, rfl, h1, r1⟩ := trodAll_cons r0
  obtain ⟨rfl, rfl, rfl⟩ := trodAll_nil r1
  obtain rfl : args = #[v0, v1] := by cases args; simp_all
  obtain ⟨rfl, rfl⟩ := trodVars_none hV
  have hz0 : ∀ m ∈ d0.weights Try.prog 42, m ≤ reachBytes := fun m hm => of_decide_eq_true (List.all_eq_true.1 hsz0 m (DataW.weights_mem_each (j := 0) (t := 42) (d := d0) (by rw [Try.params5]; rfl) rfl m hm))
  have hz1 : ∀ m ∈ d1.weights Try.prog 42, m ≤ reachBytes := fun m hm => of_decide_eq_true (List.all_eq_true.1 hsz0 m (DataW.weights_mem_each (j := 1) (t := 42) (d := d1) (by rw [Try.params5]; rfl) rfl m hm))
  have k0 := h0
  have lt0 := lt_of_trod h0
  obtain ⟨x0, cs0, rfl, hk0, q0⟩ := arg_struct Try.underlying42 opens42 (hval 0 42 v0 rfl rfl) h0 hz0
  obtain ⟨cs0⟩ := cs0
  obtain ⟨_, _, rfl, ⟨A0_0, c0_0, rfl, hc0_0, hr0_0⟩, ⟨A0_1, c0_1, rfl, hc0_1, hr0_1⟩⟩ := hk0
  have k1 := h1
  have lt1 := lt_of_trod h1
  obtain ⟨x1, cs1, rfl, hk1, q1⟩ := arg_struct Try.underlying42 opens42 (hval 1 42 v1 rfl rfl) h1 hz1
  obtain ⟨cs1⟩ := cs1
  obtain ⟨_, _, rfl, ⟨A1_0, c1_0, rfl, hc1_0, hr1_0⟩, ⟨A1_1, c1_1, rfl, hc1_1, hr1_1⟩⟩ := hk1
  clear hA0 hval0 hsz0
  obtain ⟨k, hk⟩ := Pure.CandSame x0 q0 x1 q1
  refine (spinnakerlaw13_CandSame.calls k A0_0 c0_0 x0.1 A0_1 c0_1 x0.2 A1_0 c1_0 x1.1 A1_1 c1_1 x1.2 true W hr0_0 hc0_0 hr0_1 hc0_1 hr1_0 hc1_0 hr1_1 hc1_1 hk).mono fun e W' ⟨he, bel⟩ => ?_
  subst he
  exact ⟨_, rfl, _, _, _, [], _, [], hW', trodAll_mk1 (shut_bool Try.underlying4 _), (trodAll_cons_mk (Below.trod laidOut (by kernel_rfl) (of_decide_eq_true (by kernel_rfl)) k0 bel lt0) (trodAll_cons_mk (Below.trod laidOut (by kernel_rfl) (of_decide_eq_true (by kernel_rfl)) k1 bel lt1) trodAll_mk0)), rfl, bel.frame _, fun h => by cases h⟩
theorem over : Rows.candSameRow.holds Try.pinned (OpenSpec.ofChange Rows.candSameSpec) :=
  OpenClaim.holds_of_wide 5 Try.f5 rfl rfl rfl rfl rfl rfl rfl ⟨rfl, rfl, rfl, rfl, rfl⟩ rfl rfl rfl rfl rfl (by kernel_rfl) Try.func5 (by kernel_rfl)
    (of_decide_eq_true (by kernel_rfl)) (by unfold Func.isWrapper; first | (rw [if_pos (by decide +kernel)]; kernel_rfl) | (rw [if_neg (by decide +kernel)]; exact ⟨rfl, rfl⟩))
    (fun os started H enc _ => lifted os started H enc)
theorem proved : Rows.CandSameSaid := over
#print axioms proved
end Go.Proofs.Ytfpphaflbmlpeaa.candSame
namespace Go.Proofs.Ytfpphaflbmlpeaa
/-- The row, under a short name, for the claim. -/
theorem candSame_holds : Rows.CandSameSaid := candSame.proved
end Go.Proofs.Ytfpphaflbmlpeaa
