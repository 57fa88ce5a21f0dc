/- A unit with its constants loaded is the specified one, its labels are the same, and it is right, of any unit of at most 300 items; the chapter's example holds; for every list of items. -/
import Derived.Test.YtbmjbidekmkboaaDoorRows
import Derived.Test.YtbmjbidekmkboaaDoorGUnitExpandsx17
import Derived.Test.YtbmjbidekmkboaaDoorPureUnitExpands
import Derived.Test.YtbmjbidekmkboaaDoorOpenUnitExpands
import Derived.WalkKit
import Derived.ProofKit
import Derived.OpenShut
import Derived.ShutString
import Derived.ChangeOld
import Derived.Below
import Derived.SizedLaws
import Derived.LaidMore
import Derived.Stop.Joined
import Derived.SevenTiedAt
import Derived.ChangeSame
import Derived.ChangeVars
import Derived.JoinedOf
import Derived.Test.YtbmjbidekmkboaaDoorCards
import Derived.Test.YtbmjbidekmkboaaDoorTie
namespace Go.Proofs.YtbmjbidekmkboaaDoor.unitExpands
open Go.ChangeShapes Go.WideShapes Go.ChangeAt Go.RowKit Go.Proofs.YtbmjbidekmkboaaDoor.Opens Go.Proofs.YtbmjbidekmkboaaDoor.GUnitExpands Go.Proofs.YtbmjbidekmkboaaDoorW.PrintWords
open Go.ChangeMaps (open_string shut_string)
set_option linter.unusedVariables false
set_option linter.unusedSimpArgs false
theorem own : ownKnob Tryd.prog.godebug = none := by kernel_rfl
theorem laidOut : laidOutB Tryd.prog = true := by kernel_rfl
set_option maxRecDepth 100000 in
/-- The heap that the door's own run leaves meets the condition. -/
theorem door_met (os : Os) (args : Array Value) : laidMetH Tryd.prog Rows.unitExpandsRow.laid ((World.doorLaid Tryd.prog 400 os).forCall (fun _ _ => 0) ⟨#[], args, []⟩).memory :=
  laidMetH_of_parts3 (fuel := 8) (laidMet_of_run' 8 (by kernel_rfl) (by kernel_rfl)) (by kernel_rfl) (by kernel_rfl)
set_option maxRecDepth 100000 in
theorem are_deBruijn32 : (Rows.laid_math_bits_deBruijn32tab : DataW Unit) = .agg (GUnitExpands.deBruijn32.map fun n => (DataW.lit (.int .u8 n) : DataW Unit)) := by kernel_rfl
set_option maxRecDepth 100000 in
theorem are_deBruijn64 : (Rows.laid_math_bits_deBruijn64tab : DataW Unit) = .agg (GUnitExpands.deBruijn64.map fun n => (DataW.lit (.int .u8 n) : DataW Unit)) := by kernel_rfl
set_option maxRecDepth 100000 in
theorem are_pow10 : (Rows.laid_internal_strconv_uint64pow10 : DataW Unit) = .agg (GUnitExpands.pow10.map fun n => (DataW.lit (.int .u64 n) : DataW Unit)) := by kernel_rfl
set_option maxRecDepth 100000 in
theorem are_isaNames : (Rows.laid_spinnaker_isa_names : DataW Unit) = .agg (GUnitExpands.isaNames.map fun s => (DataW.lit (.string s.data.toList) : DataW Unit)) := by kernel_rfl
set_option maxRecDepth 100000 in
/-- What the condition gives the walk: the tables' cells. -/
theorem of_laid {W : World} (h : laidMetH Tryd.prog Rows.unitExpandsRow.laid W) : GUnitExpands.Laid W := by
  have h' : laidMetH Tryd.prog [("math/bits.deBruijn32tab", Rows.laid_math_bits_deBruijn32tab), ("math/bits.deBruijn64tab", Rows.laid_math_bits_deBruijn64tab), ("internal/strconv.uint64pow10", Rows.laid_internal_strconv_uint64pow10), ("spinnaker/isa.names", Rows.laid_spinnaker_isa_names)] W := h
  rw [MakeChecks.laidMetH_plain _ _ _ (by kernel_rfl)] at h'
  obtain ⟨ps, ⟨g0, t0, cs0, f0, p0, q0, hg0, ht0, hv0, hd0, ⟨g1, t1, cs1, f1, p1, q1, hg1, ht1, hv1, hd1, ⟨g2, t2, cs2, f2, p2, q2, hg2, ht2, hv2, hd2, ⟨g3, t3, cs3, f3, p3, q3, hg3, ht3, hv3, hd3, _, _⟩, _⟩, _⟩, _⟩, _, _⟩ := h'
  obtain rfl := Option.some.inj ((show Tryd.prog.globalNamed "math/bits.deBruijn32tab" = some 1 by kernel_rfl).symm.trans hg0)
  obtain rfl := Option.some.inj ((show (Tryd.prog.globals[1]?).map (·.type) = some 105 by kernel_rfl).symm.trans ht0)
  obtain rfl := Option.some.inj ((show Tryd.prog.globalNamed "math/bits.deBruijn64tab" = some 3 by kernel_rfl).symm.trans hg1)
  obtain rfl := Option.some.inj ((show (Tryd.prog.globals[3]?).map (·.type) = some 130 by kernel_rfl).symm.trans ht1)
  obtain rfl := Option.some.inj ((show Tryd.prog.globalNamed "internal/strconv.uint64pow10" = some 4 by kernel_rfl).symm.trans hg2)
  obtain rfl := Option.some.inj ((show (Tryd.prog.globals[4]?).map (·.type) = some 132 by kernel_rfl).symm.trans ht2)
  obtain rfl := Option.some.inj ((show Tryd.prog.globalNamed "spinnaker/isa.names" = some 2 by kernel_rfl).symm.trans hg3)
  obtain rfl := Option.some.inj ((show (Tryd.prog.globals[2]?).map (·.type) = some 121 by kernel_rfl).symm.trans ht3)
  exact ⟨table_ints hg0 hv0 Tryd.underlying105 Tryd.underlying5 (by kernel_rfl) hd0 are_deBruijn32 GUnitExpands.deBruijn32_length (by decide), table_ints hg1 hv1 Tryd.underlying130 Tryd.underlying5 (by kernel_rfl) hd1 are_deBruijn64 GUnitExpands.deBruijn64_length (by decide), table_ints hg2 hv2 Tryd.underlying132 Tryd.underlying48 (by kernel_rfl) hd2 are_pow10 GUnitExpands.pow10_length (by decide), table_strings hg3 hv3 Tryd.underlying121 Tryd.underlying9 (by kernel_rfl) hd3 are_isaNames GUnitExpands.isaNames_length (by decide)⟩

set_option maxRecDepth 100000 in
theorem lifted (os : Os) (started : os.Started) (H : Type) (enc : TypeId × Value → H) :
    ReturnsInHanded {} Tryd.checked os 14 .any (fun w args => (Rows.unitExpandsSpec.pre enc Tryd.prog Tryd.f14 [] false w args ∧ laidMetH Tryd.prog Rows.unitExpandsRow.laid w) ∧ sizedMet enc Tryd.prog Tryd.f14 (OpenSpec.ofChange Rows.unitExpandsSpec) false w args) (Rows.unitExpandsSpec.post enc Tryd.prog Tryd.f14 false true false false) := by
  refine returnsInHanded_of_change_and (C := Tryd.checked) (X := fun w _ => laidMetH Tryd.prog Rows.unitExpandsRow.laid w) (fun _ _ _ hh h => h.of_heap hh) own started (by kernel_rfl) Tryd.func14
    (ChangeSpec.witness_shaped (enc := enc) (C := Tryd.checked) (os := os) (X := fun w _ => laidMetH Tryd.prog Rows.unitExpandsRow.laid w) false (World.doorLaid Tryd.prog 400 os) #[.slice none 0 0] 8 rfl (World.shaped_of_RefB (by kernel_rfl) (by kernel_rfl)) (by kernel_rfl) (by kernel_rfl) (by kernel_rfl) (door_met os _)) ?_
  intro W base args ds gs before hval0 hW _ hsz0 hL0 _
  have hval : ∀ (j : Nat) t v, Tryd.f14.params[j]? = some t → args[j]? = some v → Value.okWide Tryd.prog W .any base t v := hval0
  have hW' := hW
  obtain ⟨p, q, hA0, hV, rfl, hfz, hnd⟩ := hW
  have hA : DataW.TrodAll enc Tryd.prog W 0 (fun _ => true) true Tryd.f14.params.toList args.toList ds p := hA0
  rw [Tryd.params14] at hA hval
  obtain ⟨v0, vs0, d0, ds0, p0, q0_, hargs, rfl, rfl, h0, r0⟩ := trodAll_cons hA
  obtain ⟨rfl, rfl, rfl⟩ := trodAll_nil r0
  obtain rfl : args = #[v0] := by cases args; simp_all
  obtain ⟨rfl, rfl⟩ := trodVars_none hV
  have k0 := h0
  have lt0 := lt_of_trod h0
  obtain ⟨A0, l0, c0, rfl, hc0, hr0, hm0, q0⟩ := arg_slice Tryd.underlying65 (by kernel_rfl) opens70 (hval 0 65 v0 rfl rfl) h0
  clear hA0 hval0 hsz0
  obtain ⟨k, hk⟩ := Pure.UnitExpands l0 hm0 q0
  refine (spinnakerlaw09_UnitExpands.calls k A0 c0 l0 true W (of_laid hL0) hr0 hc0 hk).mono fun e W' ⟨he, bel⟩ => ?_
  subst he
  exact ⟨_, rfl, _, _, _, [], _, [], hW', trodAll_mk1 (shut_bool Tryd.underlying4 _), (trodAll_cons_mk (Below.trod laidOut (by kernel_rfl) (of_decide_eq_true (by kernel_rfl)) k0 bel lt0) trodAll_mk0), rfl, bel.frame _, fun h => by cases h⟩
theorem over : Rows.unitExpandsRow.holds Tryd.pinned (OpenSpec.ofChange Rows.unitExpandsSpec) :=
  OpenClaim.holds_of_wide 14 Tryd.f14 rfl rfl rfl rfl rfl rfl rfl ⟨rfl, rfl, rfl, rfl, rfl⟩ rfl rfl rfl rfl rfl (by kernel_rfl) Tryd.func14 (by kernel_rfl)
    (of_decide_eq_true (by kernel_rfl)) (by unfold Func.isWrapper; first | (rw [if_pos (by decide +kernel)]; kernel_rfl) | (rw [if_neg (by decide +kernel)]; exact ⟨rfl, rfl⟩))
    (fun os started H enc _ => lifted os started H enc)
theorem proved : Rows.UnitExpandsSaid := over
theorem params_plain : ∀ t ∈ Tryd.f14.params.toList, Tryd.prog.wantsStandIn t = false := of_decide_eq_true (by kernel_rfl)
theorem card : Rows.UnitExpandsCardSaid :=
  Claim7.holds_tied_plain_at .later [] [.data, .data, .data, .widerDeep] true (true, "d03384487c964cf66111399f63784bdf50af5714f2f06aef32f5a255dd93908b") false
    proved (fun _ h => by cases h) (by kernel_rfl) (fun _ h => by cases h) unitExpands_row_tie rfl ⟨rfl, rfl⟩ (by kernel_rfl) rfl
    (fun f fn hf hfn => by
      obtain rfl : f = 14 := (Option.some.inj ((show Tryd.prog.funcNamed Rows.unitExpandsRow.func = some 14 by kernel_rfl).symm.trans hf)).symm
      obtain rfl : fn = Tryd.f14 := (Option.some.inj (Tryd.func14.symm.trans hfn)).symm
      exact ⟨by kernel_rfl, fun j t ht => params_plain t (by rw [← Array.getElem?_toList] at ht; exact List.mem_of_getElem? ht)⟩)
    (by kernel_rfl)
#print axioms card
end Go.Proofs.YtbmjbidekmkboaaDoor.unitExpands
namespace Go.Proofs.YtbmjbidekmkboaaDoor
/-- The card, under a short name, for the claim. -/
theorem unitExpands_holds : Rows.UnitExpandsCardSaid := unitExpands.card
end Go.Proofs.YtbmjbidekmkboaaDoor
