/- May decides for every instruction whether it may be; the listed table isa.names is tied to the program's text; no other condition. -/
import Derived.Test.YtfjfmkobhbpelaaDoorRows
import Derived.Test.YtfjfmkobhbpelaaDoorGIsaMayx6
import Derived.Test.YtfjfmkobhbpelaaDoorPureIsaMay
import Derived.Test.YtfjfmkobhbpelaaDoorOpenIsaMay
import Derived.WalkKit
import Derived.ProofKit
import Derived.OpenShut
import Derived.ShutString
import Derived.ChangeOld
import Derived.Below
import Derived.SizedLaws
import Derived.LaidMore
import Derived.Stop.Joined
import Derived.SevenTiedAt
import Derived.ChangeSame
import Derived.ChangeVars
import Derived.JoinedOf
import Derived.Test.YtfjfmkobhbpelaaDoorCards
import Derived.Test.YtfjfmkobhbpelaaDoorTie
namespace Go.Proofs.YtfjfmkobhbpelaaDoor.isaMay
open Go.ChangeShapes Go.WideShapes Go.ChangeAt Go.RowKit Go.Proofs.YtfjfmkobhbpelaaDoor.Opens Go.Proofs.YtfjfmkobhbpelaaDoor.GIsaMay Go.Proofs.YtfjfmkobhbpelaaDoorW.PrintWords
open Go.ChangeMaps (open_string shut_string)
set_option linter.unusedVariables false
set_option linter.unusedSimpArgs false
theorem own : ownKnob Tryd.prog.godebug = none := by kernel_rfl
theorem laidOut : laidOutB Tryd.prog = true := by kernel_rfl
set_option maxRecDepth 100000 in
/-- The heap that the door's own run leaves meets the condition. -/
theorem door_met (os : Os) (args : Array Value) : laidMetH Tryd.prog Rows.isaMayRow.laid ((World.doorLaid Tryd.prog 400 os).forCall (fun _ _ => 0) ⟨#[], args, []⟩).memory :=
  laidMetH_of_parts3 (fuel := 8) (laidMet_of_run' 8 (by kernel_rfl) (by kernel_rfl)) (by kernel_rfl) (by kernel_rfl)
set_option maxRecDepth 100000 in
theorem names_are : (GIsaMay.isaNames.map fun s => (DataW.lit (.string s.data.toList) : DataW Unit)) = match (Rows.laid_spinnaker_isa_names : DataW Unit) with | .agg l => l | _ => [] := by kernel_rfl
set_option maxRecDepth 100000 in
/-- What the condition gives the walk: the table's cells. -/
theorem of_laid {W : World} (h : laidMetH Tryd.prog Rows.isaMayRow.laid W) : GIsaMay.Laid W := by
  have h' : laidMetH Tryd.prog [("spinnaker/isa.names", Rows.laid_spinnaker_isa_names)] W := h
  rw [MakeChecks.laidMetH_plain _ _ _ (by kernel_rfl)] at h'
  obtain ⟨ps, ⟨g, t, cs, fuel, p, q, hg, ht, hv, hd, _, _⟩, _, _⟩ := h'
  obtain rfl := Option.some.inj ((show Tryd.prog.globalNamed "spinnaker/isa.names" = some 0 by kernel_rfl).symm.trans hg)
  obtain rfl := Option.some.inj ((show (Tryd.prog.globals[0]?).map (·.type) = some 38 by kernel_rfl).symm.trans ht)
  obtain ⟨xs, m, _, ex, _, hl, hel⟩ := DataW.trod_array Tryd.underlying38 hd
  have c9 : Tryd.prog.cellsOf 9 = 1 := by kernel_rfl
  have e3 : (xs.map (·.1)) = GIsaMay.isaNames.map fun s => (DataW.lit (.string s.data.toList) : DataW Unit) := by
    rw [names_are]
    have e5 := (Prod.mk.inj ex).1
    have e6 : (Rows.laid_spinnaker_isa_names : DataW Unit) = .agg (match (Rows.laid_spinnaker_isa_names : DataW Unit) with | .agg l => l | _ => []) := rfl
    rw [e6] at e5
    exact (DataW.agg.inj e5).symm
  have hlen : GIsaMay.isaNames.length = 88 := GIsaMay.isaNames_length
  refine Go.Proofs.YtfjfmkobhbpelaaDoorW.PrintWords.Kd.C_of_reads (d := ByteArray.empty) ⟨rfl, by rw [hlen]; decide, fun _ => ⟨_, rfl, fun r hr => ?_⟩⟩
  rw [hlen] at hr
  have hE := hel r hr
  rw [c9, Nat.mul_one, List.getElem?_eq_getElem (by omega)] at hE
  obtain ⟨z, e1, e2, _⟩ := DataW.trod_string Tryd.underlying9 hE
  have e4 : (xs.map (·.1))[r]? = (GIsaMay.isaNames.map fun s => (DataW.lit (.string s.data.toList) : DataW Unit))[r]? := by rw [e3]
  rw [List.getElem?_map, List.getElem?_map, List.getElem?_eq_getElem (by omega : r < xs.length), List.getElem?_eq_getElem (by omega : r < GIsaMay.isaNames.length), e2] at e4
  have hz : z = GIsaMay.isaNames.getD r ByteArray.empty := by
    simp only [Option.map_some, Option.some.injEq, DataW.lit.injEq, Lit.string.injEq] at e4
    rw [List.getD, List.getElem?_eq_getElem (by omega : r < GIsaMay.isaNames.length)]
    exact ByteArray.ext (Array.ext' e4)
  rw [show (({ block := 0, off := 0 } : Addr).add r) = { block := 0, off := r } from by simp [Addr.add]; exact fun h => h.symm, World.var?_cell hg hv r, ← hz]
  have : cs.toList[r]? = some (.string z) := by
    have h0 : ((cs.toList.drop r).take 1)[0]? = some (.string z) := by rw [e1]; rfl
    simpa using h0
  simpa using this

set_option maxRecDepth 100000 in
theorem lifted (os : Os) (started : os.Started) (H : Type) (enc : TypeId × Value → H) :
    ReturnsInHanded {} Tryd.checked os 6 .any (fun w args => (Rows.isaMaySpec.pre enc Tryd.prog Tryd.f6 [] false w args ∧ laidMetH Tryd.prog Rows.isaMayRow.laid w) ∧ sizedMet enc Tryd.prog Tryd.f6 (OpenSpec.ofChange Rows.isaMaySpec) false w args) (Rows.isaMaySpec.post enc Tryd.prog Tryd.f6 false true false false) := by
  refine returnsInHanded_of_change_and (C := Tryd.checked) (X := fun w _ => laidMetH Tryd.prog Rows.isaMayRow.laid w) (fun _ _ _ hh h => h.of_heap hh) own started (by kernel_rfl) Tryd.func6
    (ChangeSpec.witness_shaped (enc := enc) (C := Tryd.checked) (os := os) (X := fun w _ => laidMetH Tryd.prog Rows.isaMayRow.laid w) false (World.doorLaid Tryd.prog 400 os) #[.agg #[.int .i64 0, .int .i64 0, .int .i64 0, .int .i64 0, .int .i64 0, .bool false, .bool false]] 8 rfl (World.shaped_of_RefB (by kernel_rfl) (by kernel_rfl)) (by kernel_rfl) (by kernel_rfl) (by kernel_rfl) (door_met os _)) ?_
  intro W base args ds gs before hval0 hW _ hsz0 hL0 _
  have hval : ∀ (j : Nat) t v, Tryd.f6.params[j]? = some t → args[j]? = some v → Value.okWide Tryd.prog W .any base t v := hval0
  have hW' := hW
  obtain ⟨p, q, hA0, hV, rfl, hfz, hnd⟩ := hW
  have hA : DataW.TrodAll enc Tryd.prog W 0 (fun _ => true) true Tryd.f6.params.toList args.toList ds p := hA0
  rw [Tryd.params6] at hA hval
  obtain ⟨v0, vs0, d0, ds0, p0, q0_, hargs, rfl, rfl, h0, r0⟩ := trodAll_cons hA
  obtain ⟨rfl, rfl, rfl⟩ := trodAll_nil r0
  obtain rfl : args = #[v0] := by cases args; simp_all
  obtain ⟨rfl, rfl⟩ := trodVars_none hV
  have k0 := h0
  have lt0 := lt_of_trod h0
  obtain ⟨x0, cs0, rfl, hk0, q0⟩ := arg_struct Tryd.underlying33 opens33 (hval 0 33 v0 rfl rfl) h0
  obtain ⟨cs0⟩ := cs0
  obtain ⟨_, _, rfl, rfl, ⟨_, _, rfl, rfl, ⟨_, _, rfl, rfl, ⟨_, _, rfl, rfl, ⟨_, _, rfl, rfl, ⟨_, _, rfl, rfl, rfl⟩⟩⟩⟩⟩⟩ := hk0
  clear hA0 hval0 hsz0
  obtain ⟨k, hk⟩ := Pure.IsaMay x0 q0
  refine (spinnakerlaw03_IsaMay.calls k x0.1 x0.2.1 x0.2.2.1 x0.2.2.2.1 x0.2.2.2.2.1 x0.2.2.2.2.2.1 x0.2.2.2.2.2.2 true W (of_laid hL0) hk).mono fun e W' ⟨he, bel⟩ => ?_
  subst he
  exact ⟨_, rfl, _, _, _, [], _, [], hW', trodAll_mk1 (shut_bool Tryd.underlying4 _), (trodAll_cons_mk (Below.trod laidOut (by kernel_rfl) (of_decide_eq_true (by kernel_rfl)) k0 bel lt0) trodAll_mk0), rfl, bel.frame _, fun h => by cases h⟩
theorem over : Rows.isaMayRow.holds Tryd.pinned (OpenSpec.ofChange Rows.isaMaySpec) :=
  OpenClaim.holds_of_wide 6 Tryd.f6 rfl rfl rfl rfl rfl rfl rfl ⟨rfl, rfl, rfl, rfl, rfl⟩ rfl rfl rfl rfl rfl (by kernel_rfl) Tryd.func6 (by kernel_rfl)
    (of_decide_eq_true (by kernel_rfl)) (by unfold Func.isWrapper; first | (rw [if_pos (by decide +kernel)]; kernel_rfl) | (rw [if_neg (by decide +kernel)]; exact ⟨rfl, rfl⟩))
    (fun os started H enc _ => lifted os started H enc)
theorem proved : Rows.IsaMaySaid := over
theorem params_plain : ∀ t ∈ Tryd.f6.params.toList, Tryd.prog.wantsStandIn t = false := of_decide_eq_true (by kernel_rfl)
theorem card : Rows.IsaMayCardSaid :=
  Claim7.holds_tied_plain_at .later [] [.widerDeep] true (true, "1a0a09edf911b25eb65a4b672ac467af87e6704568eb132ce2117df11c3f4653") false
    proved (fun _ h => by cases h) (by kernel_rfl) (fun _ h => by cases h) isaMay_row_tie rfl ⟨rfl, rfl⟩ (by kernel_rfl) rfl
    (fun f fn hf hfn => by
      obtain rfl : f = 6 := (Option.some.inj ((show Tryd.prog.funcNamed Rows.isaMayRow.func = some 6 by kernel_rfl).symm.trans hf)).symm
      obtain rfl : fn = Tryd.f6 := (Option.some.inj (Tryd.func6.symm.trans hfn)).symm
      exact ⟨by kernel_rfl, fun j t ht => params_plain t (by rw [← Array.getElem?_toList] at ht; exact List.mem_of_getElem? ht)⟩)
    (by kernel_rfl)
#print axioms card
end Go.Proofs.YtfjfmkobhbpelaaDoor.isaMay
namespace Go.Proofs.YtfjfmkobhbpelaaDoor
/-- The card, under a short name, for the claim. -/
theorem isaMay_holds : Rows.IsaMayCardSaid := isaMay.card
end Go.Proofs.YtfjfmkobhbpelaaDoor
