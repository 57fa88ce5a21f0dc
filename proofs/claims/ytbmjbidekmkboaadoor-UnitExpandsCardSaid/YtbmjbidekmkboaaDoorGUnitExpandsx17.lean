-- Written by wip/stub.py of this repo.
import Derived.Test.YtbmjbidekmkboaaDoorGUnitExpandsx0
import Derived.Test.YtbmjbidekmkboaaDoorGUnitExpandsx2
import Derived.Test.YtbmjbidekmkboaaDoorGUnitExpandsx3
import Derived.Test.YtbmjbidekmkboaaDoorGUnitExpandsx8
import Derived.Test.YtbmjbidekmkboaaDoorGUnitExpandsx13
import Derived.Test.YtbmjbidekmkboaaDoorGUnitExpandsx14
import Derived.Test.YtbmjbidekmkboaaDoorGUnitExpandsx16
namespace Go.Proofs.YtbmjbidekmkboaaDoor.GUnitExpands
open Go.RowKit Go.Proofs.YtbmjbidekmkboaaDoorW.PrintWords Go.Proofs.YtbmjbidekmkboaaDoorW.PrintLast Go.Proofs.YtbmjbidekmkboaaDoorW.PrintMore
attribute [local go_sem] max2_int min2_int max_two min_two max_three min_three max_four min_four   -- for this text's walks alone
set_option linter.unusedVariables false
set_option linter.unusedSimpArgs false

attribute [local go_sem high] eqA70
/-! ### spinnakerlaw09_UnitExpands: function 14 -/
mutual
def spinnakerlaw09_UnitExpands.l0 : Nat → List (S70) → Int → Int → Option (Bool)
  | 0, _, _, _ => none
  | k + 1, x0, x5, x6 => if x6 < (x0.length : Int) then (if 0 ≤ x6 then (if ((rd_T70 x0 x6).f0) = 1 then (if ((rd_T70 x0 x6).f2) ≥ x5 then (spinnakerlaw09_UnitExpands.j1 k x0 x5 x6 (decide (((rd_T70 x0 x6).f2) < 4611686018427387904))) else (spinnakerlaw09_UnitExpands.j1 k x0 x5 x6 false)) else (spinnakerlaw09_UnitExpands.j1 k x0 x5 x6 false)) else (none)) else ((unit_Expand.f k x0).bind fun t323 => (spinnakerlaw09_UnitExpands.l1 k x0 x5 t323 0))
def spinnakerlaw09_UnitExpands.j1 : Nat → List (S70) → Int → Int → Bool → Option (Bool)
  | 0, _, _, _, _ => none
  | k + 1, x0, x5, x6, x51 => if x51 = true then (if 0 ≤ x6 then (if x6 < (x0.length : Int) then (if ((rd_T70 x0 x6).f2) ≥ 4611686018427387904 then ((spinnakerlaw09_awake.f k).bind fun t320 => (some t320)) else (spinnakerlaw09_UnitExpands.l0 k x0 (wrap64 (((rd_T70 x0 x6).f2) + 1)) (wrap64 (x6 + 1)))) else (none)) else (none)) else (if 0 ≤ x6 then (if x6 < (x0.length : Int) then (if ((rd_T70 x0 x6).f2) ≥ 4611686018427387904 then ((spinnakerlaw09_awake.f k).bind fun t322 => (some t322)) else (spinnakerlaw09_UnitExpands.l0 k x0 x5 (wrap64 (x6 + 1)))) else (none)) else (none))
def spinnakerlaw09_UnitExpands.l1 : Nat → List (S70) → Int → List (S70) → Int → Option (Bool)
  | 0, _, _, _, _ => none
  | k + 1, x0, x5, x7, x8 => if x8 < (x0.length : Int) then (if 0 ≤ x8 then (if ((rd_T70 x0 x8).f0) = 0 then ((unit_Instr.f ((rd_T70 x0 x8).f1.f0) ((rd_T70 x0 x8).f1.f1) ((rd_T70 x0 x8).f1.f2) ((rd_T70 x0 x8).f1.f3) ((rd_T70 x0 x8).f1.f4) ((rd_T70 x0 x8).f1.f5) ((rd_T70 x0 x8).f1.f6) ((rd_T70 x0 x8).f3)).bind fun bt329 => (if (!(bt329.1 == ((rd_T70 x0 x8).f0)) || ((!(bt329.2.1 == ((rd_T70 x0 x8).f1.f0)) || (!(bt329.2.2.1 == ((rd_T70 x0 x8).f1.f1)) || (!(bt329.2.2.2.1 == ((rd_T70 x0 x8).f1.f2)) || (!(bt329.2.2.2.2.1 == ((rd_T70 x0 x8).f1.f3)) || (!(bt329.2.2.2.2.2.1 == ((rd_T70 x0 x8).f1.f4)) || (!(bt329.2.2.2.2.2.2.1 == ((rd_T70 x0 x8).f1.f5)) || (!(bt329.2.2.2.2.2.2.2.1 == ((rd_T70 x0 x8).f1.f6))))))))) || (!(bt329.2.2.2.2.2.2.2.2.1 == ((rd_T70 x0 x8).f2)) || (!(bt329.2.2.2.2.2.2.2.2.2 == ((rd_T70 x0 x8).f3)))))) = true then (some false) else (spinnakerlaw09_UnitExpands.l1 k x0 x5 x7 (wrap64 (x8 + 1))))) else (spinnakerlaw09_UnitExpands.l1 k x0 x5 x7 (wrap64 (x8 + 1)))) else (none)) else ((unit_Check.f k x7).bind fun bt340 => ((spinnakerref09_Expand.f k x0).bind fun t342 => ((spinnakerref09_Same.f k x7 t342).bind fun t345 => (if t345 = true then ((unit_Labels.f k x0).bind fun t346 => (if t346 = x5 then ((unit_Labels.f k x7).bind fun t347 => (if t347 = x5 then (if bt340.2 = 0 then ((spinnakerlaw09_awake.f k).bind fun t348 => (some t348)) else (some false)) else (some false))) else (some false))) else (some false)))))
end
def spinnakerlaw09_UnitExpands.f (k : Nat) (l0 : List (S70)) : Option (Bool) := if (l0.length : Int) > 300 then ((spinnakerlaw09_awake.f k).bind fun t311 => (some t311)) else ((spinnakerref09_Check.f k l0).bind fun bt312 => (if bt312.2 = 0 then (spinnakerlaw09_UnitExpands.l0 k l0 0 0) else ((spinnakerlaw09_awake.f k).bind fun t314 => (some t314))))
theorem spinnakerlaw09_UnitExpands.mono_l : ∀ k, (∀ y0 y1 y2, LeO (spinnakerlaw09_UnitExpands.l0 k y0 y1 y2) (spinnakerlaw09_UnitExpands.l0 (k + 1) y0 y1 y2)) ∧ (∀ y0 y1 y2 y3, LeO (spinnakerlaw09_UnitExpands.j1 k y0 y1 y2 y3) (spinnakerlaw09_UnitExpands.j1 (k + 1) y0 y1 y2 y3)) ∧ (∀ y0 y1 y2 y3, LeO (spinnakerlaw09_UnitExpands.l1 k y0 y1 y2 y3) (spinnakerlaw09_UnitExpands.l1 (k + 1) y0 y1 y2 y3))
 | 0 => ⟨fun _ _ _ r h => by simp [spinnakerlaw09_UnitExpands.l0] at h, fun _ _ _ _ r h => by simp [spinnakerlaw09_UnitExpands.j1] at h, fun _ _ _ _ r h => by simp [spinnakerlaw09_UnitExpands.l1] at h⟩
 | k + 1 => by
  obtain ⟨ih0, ih1, ih2⟩ := spinnakerlaw09_UnitExpands.mono_l k
  refine ⟨?_, ?_, ?_⟩
  ·intro y0 y1 y2
   unfold spinnakerlaw09_UnitExpands.l0
   repeat' first
   | (with_reducible exact ih0 _ _ _)
   | (with_reducible exact ih1 _ _ _ _)
   | (with_reducible exact ih2 _ _ _ _)
   | (with_reducible exact spinnakerlaw09_awake.mono _)
   | (with_reducible exact spinnakerref09_Check.mono _ _)
   | (with_reducible exact spinnakerref09_Expand.mono _ _)
   | (with_reducible exact spinnakerref09_Same.mono _ _ _)
   | (with_reducible exact unit_Check.mono _ _)
   | (with_reducible exact unit_Expand.mono _ _)
   | (with_reducible exact unit_Labels.mono _ _)
   | (with_reducible exact LeO.refl _)
   | (with_reducible exact LeO.none _)
   | (with_reducible refine LeO.ite ?_ ?_)
   | (with_reducible refine LeO.bind ?_ (fun _ => ?_))
   | exact ih0 _ _ _
   | exact ih1 _ _ _ _
   | exact ih2 _ _ _ _
   | exact spinnakerlaw09_awake.mono _
   | exact spinnakerref09_Check.mono _ _
   | exact spinnakerref09_Expand.mono _ _
   | exact spinnakerref09_Same.mono _ _ _
   | exact unit_Check.mono _ _
   | exact unit_Expand.mono _ _
   | exact unit_Labels.mono _ _
   | exact LeO.none _
   | refine LeO.ite ?_ ?_
   | refine LeO.bind ?_ (fun _ => ?_)
  ·intro y0 y1 y2 y3
   unfold spinnakerlaw09_UnitExpands.j1
   repeat' first
   | (with_reducible exact ih0 _ _ _)
   | (with_reducible exact ih1 _ _ _ _)
   | (with_reducible exact ih2 _ _ _ _)
   | (with_reducible exact spinnakerlaw09_awake.mono _)
   | (with_reducible exact spinnakerref09_Check.mono _ _)
   | (with_reducible exact spinnakerref09_Expand.mono _ _)
   | (with_reducible exact spinnakerref09_Same.mono _ _ _)
   | (with_reducible exact unit_Check.mono _ _)
   | (with_reducible exact unit_Expand.mono _ _)
   | (with_reducible exact unit_Labels.mono _ _)
   | (with_reducible exact LeO.refl _)
   | (with_reducible exact LeO.none _)
   | (with_reducible refine LeO.ite ?_ ?_)
   | (with_reducible refine LeO.bind ?_ (fun _ => ?_))
   | exact ih0 _ _ _
   | exact ih1 _ _ _ _
   | exact ih2 _ _ _ _
   | exact spinnakerlaw09_awake.mono _
   | exact spinnakerref09_Check.mono _ _
   | exact spinnakerref09_Expand.mono _ _
   | exact spinnakerref09_Same.mono _ _ _
   | exact unit_Check.mono _ _
   | exact unit_Expand.mono _ _
   | exact unit_Labels.mono _ _
   | exact LeO.none _
   | refine LeO.ite ?_ ?_
   | refine LeO.bind ?_ (fun _ => ?_)
  ·intro y0 y1 y2 y3
   unfold spinnakerlaw09_UnitExpands.l1
   repeat' first
   | (with_reducible exact ih0 _ _ _)
   | (with_reducible exact ih1 _ _ _ _)
   | (with_reducible exact ih2 _ _ _ _)
   | (with_reducible exact spinnakerlaw09_awake.mono _)
   | (with_reducible exact spinnakerref09_Check.mono _ _)
   | (with_reducible exact spinnakerref09_Expand.mono _ _)
   | (with_reducible exact spinnakerref09_Same.mono _ _ _)
   | (with_reducible exact unit_Check.mono _ _)
   | (with_reducible exact unit_Expand.mono _ _)
   | (with_reducible exact unit_Labels.mono _ _)
   | (with_reducible exact LeO.refl _)
   | (with_reducible exact LeO.none _)
   | (with_reducible refine LeO.ite ?_ ?_)
   | (with_reducible refine LeO.bind ?_ (fun _ => ?_))
   | exact ih0 _ _ _
   | exact ih1 _ _ _ _
   | exact ih2 _ _ _ _
   | exact spinnakerlaw09_awake.mono _
   | exact spinnakerref09_Check.mono _ _
   | exact spinnakerref09_Expand.mono _ _
   | exact spinnakerref09_Same.mono _ _ _
   | exact unit_Check.mono _ _
   | exact unit_Expand.mono _ _
   | exact unit_Labels.mono _ _
   | exact LeO.none _
   | refine LeO.ite ?_ ?_
   | refine LeO.bind ?_ (fun _ => ?_)
theorem spinnakerlaw09_UnitExpands.mono : ∀ a0 k, LeO (spinnakerlaw09_UnitExpands.f k a0) (spinnakerlaw09_UnitExpands.f (k + 1) a0) := by
 intro a0 k
 obtain ⟨ih0, ih1, ih2⟩ := spinnakerlaw09_UnitExpands.mono_l k
 unfold spinnakerlaw09_UnitExpands.f
 repeat' first
   | (with_reducible exact ih0 _ _ _)
   | (with_reducible exact ih1 _ _ _ _)
   | (with_reducible exact ih2 _ _ _ _)
   | (with_reducible exact spinnakerlaw09_awake.mono _)
   | (with_reducible exact spinnakerref09_Check.mono _ _)
   | (with_reducible exact spinnakerref09_Expand.mono _ _)
   | (with_reducible exact spinnakerref09_Same.mono _ _ _)
   | (with_reducible exact unit_Check.mono _ _)
   | (with_reducible exact unit_Expand.mono _ _)
   | (with_reducible exact unit_Labels.mono _ _)
   | (with_reducible exact LeO.refl _)
   | (with_reducible exact LeO.none _)
   | (with_reducible refine LeO.ite ?_ ?_)
   | (with_reducible refine LeO.bind ?_ (fun _ => ?_))
   | exact ih0 _ _ _
   | exact ih1 _ _ _ _
   | exact ih2 _ _ _ _
   | exact spinnakerlaw09_awake.mono _
   | exact spinnakerref09_Check.mono _ _
   | exact spinnakerref09_Expand.mono _ _
   | exact spinnakerref09_Same.mono _ _ _
   | exact unit_Check.mono _ _
   | exact unit_Expand.mono _ _
   | exact unit_Labels.mono _ _
   | exact LeO.none _
   | refine LeO.ite ?_ ?_
   | refine LeO.bind ?_ (fun _ => ?_)
def spinnakerlaw09_UnitExpands.T18 : Bool × List (List Nat × List Nat) := (true, [([], []), ([], []), ([0, 1], [0, 1]), ([2], [2]), ([3], [3]), ([4], [4]), ([5], [5]), ([6], [6]), ([6], [6]), ([7, 8, 6], [6, 7, 8]), ([9, 6], [6, 9]), ([10, 6], [6, 10]), ([6], [6]), ([6], [6]), ([12, 13, 6], [6, 12, 13]), ([14, 6], [6, 14]), ([15, 6], [6, 15]), ([11, 16, 6, 6], [6, 11, 16]), ([6], [6]), ([6], [6]), ([18, 19, 6], [6, 18, 19]), ([20, 6], [6, 20]), ([17, 21, 6], [6, 17, 21]), ([6, 22], [6, 22])])
def spinnakerlaw09_UnitExpands.B18 : List Nat := [0, 0, 3, 7, 15, 31, 63, 127, 127, 511, 1023, 2047, 127, 127, 12415, 28799, 61567, 131071, 127, 127, 786559, 1835135, 4194303, 8388607]
theorem spinnakerlaw09_UnitExpands.tab18 : rtab .any (opsOf Tryd.f14 18) = spinnakerlaw09_UnitExpands.T18 := by kernel_rfl
theorem spinnakerlaw09_UnitExpands.bits18 : waitsOk spinnakerlaw09_UnitExpands.T18.2 spinnakerlaw09_UnitExpands.B18 = true := by kernel_rfl
set_option maxHeartbeats 8000000 in
set_option maxRecDepth 100000 in
theorem spinnakerlaw09_UnitExpands.calls (k : Nat) (A0 : Option Addr) (c0 : Nat) (l0 : List (S70)) (r : Bool) (w : World) (hL : Laid w) (hr0 : Kd.C k70 w A0 l0.length l0) (hc0 : l0.length ≤ c0) (h : spinnakerlaw09_UnitExpands.f k l0 = some r) :
  Calls Tryd.prog 14 #[.slice A0 l0.length c0] w fun e w' => e = .returned (.bool r) ∧ Below w.heap.size w w' := by
 have HL := Aside0.mk hL
 clear hL
 have hu51 := Tryd.underlying51
 have hu70 := Tryd.underlying70
 have HR0 := Aside0.mk hr0
 have HC0 := Aside0.mk hc0
 clear hr0 hc0
 have HB := Aside0.mk (Below.refl w.heap.size w)
 have H : (if (l0.length : Int) > 300 then ((spinnakerlaw09_awake.f k).bind fun t311 => (some t311)) else ((spinnakerref09_Check.f k l0).bind fun bt312 => (if bt312.2 = 0 then (spinnakerlaw09_UnitExpands.l0 k l0 0 0) else ((spinnakerlaw09_awake.f k).bind fun t314 => (some t314))))) = some r := h
 clear h
 by_cases c2 : (l0.length : Int) > 300
 ·rw [if_pos c2] at H
  have c2b0 : decide (300 < (l0.length : Int)) = true := decide_eq_true c2
  have c2b1 : decide (300 < l0.length) = true := decide_eq_true (by omega)
  clear c2
  replace H := Option.bind_eq_some_iff.mp H
  obtain ⟨t311, A30, H⟩ := H
  replace H : (some t311) = some r := H
  have A3 := Aside0.mk A30
  clear A30
  obtain rfl := Option.some.inj H
  go_enter Tryd.func14, Tryd.ntmps14
  go_wp2_with (first | ((with_reducible refine gate_callee (f := 46) rfl ?_); refine goesL_ (some 14) rfl rfl Tryd.func46 (by kernel_rfl) rfl #[] rfl (by (try simp only [List.map_toArray, List.map_cons, List.map_nil]); first | done | rfl | (simp only [List.length_drop, List.length_take]; rfl)) ?_; (with_reducible refine (spinnakerlaw09_awake.calls k  t311 _ (by first | exact HL.out | exact laid_drewN HL.out | exact laid_below HL.out (by repeat (first | (with_reducible first | exact HB.out | apply below_alloc | apply pw_below_drewN | apply below_drew1 | refine below_set ?_ (Aside0.out (by assumption))) | exact HB.out)) | exact laid_below HL.out HB.out | exact laid_belowd HL.out HB.out) A3.out).mono ?_); rintro e w4 ⟨rfl, hb⟩; refine ⟨_, rfl, ?_⟩; have n0_ := Aside0.mk (below_step (by repeat (first | (with_reducible first | exact HB.out | apply below_alloc | apply pw_below_drewN | apply below_drew1) | exact HB.out)) hb); clear HB; have HB := n0_; clear n0_; (try clear hb)))
  go_ret
  exact ⟨by first | rfl | (simp [errW_none, errW_some] <;> rfl) | (simp [*, errW_none, errW_some] <;> rfl), by repeat (first | (with_reducible first | exact HB.out | apply below_alloc | apply pw_below_drewN | apply below_drew1) | exact HB.out)⟩
 ·rw [if_neg c2] at H
  have c2b0 : decide (300 < (l0.length : Int)) = false := decide_eq_false c2
  have c2b1 : decide (300 < l0.length) = false := decide_eq_false (by omega)
  clear c2
  replace H := Option.bind_eq_some_iff.mp H
  obtain ⟨⟨t312, t313⟩, A50, H⟩ := H
  replace H : (if t313 = 0 then (spinnakerlaw09_UnitExpands.l0 k l0 0 0) else ((spinnakerlaw09_awake.f k).bind fun t314 => (some t314))) = some r := H
  have A5 := Aside0.mk A50
  clear A50
  by_cases c6 : t313 = 0
  ·rw [if_pos c6] at H
   have c6b0 : (t313 == 0) = true := beq_iff_eq.mpr c6
   have c6b1 : (t313 != 0) = false := bne_eq_false_iff_eq.mpr c6
   clear c6
   have H' := Aside0.mk H
   clear H
   go_enter Tryd.func14, Tryd.ntmps14
   go_wp2_with (first | ((with_reducible refine gate_callee (f := 48) rfl ?_); refine goesL_ (some 17) rfl rfl Tryd.func48 (by kernel_rfl) rfl #[.slice A0 l0.length c0] rfl (by (try simp only [List.map_toArray, List.map_cons, List.map_nil]); first | done | rfl | (simp only [List.length_drop, List.length_take]; rfl)) ?_; (with_reducible refine (spinnakerref09_Check.calls k _ _ l0 t312 t313 _ ?side1 ?side2 A5.out).mono ?_); (case side1 => repeat (first | exact HR0.out | (with_reducible refine Kd.C_alloc ?_ _) | (with_reducible refine Kd.C_drewN ?_ _) | (with_reducible refine Kd.C_drew ?_))); (case side2 => exact HC0.out); rintro e w7 ⟨rfl, hb⟩; refine ⟨_, rfl, ?_⟩; have n0_ := Aside0.mk (below_step (by repeat (first | (with_reducible first | exact HB.out | apply below_alloc | apply pw_below_drewN | apply below_drew1) | exact HB.out)) hb); clear HB; have HB := n0_; clear n0_; (try clear hb)))
   go_loopg [5, 6] k (fun kq v5 v6 w' => ∃ (x5_1 : Int) (x6_1 : Int), v5 = .int .i64 x5_1 ∧ v6 = .int .i64 x6_1 ∧ Aside0 (spinnakerlaw09_UnitExpands.l0 kq l0 x5_1 x6_1 = some r) ∧ Aside0 (kq ≤ k) ∧ Aside0 (Below w.heap.size w w'))
   case atStart => exact ⟨(0), (0), (by first | rfl | (simp; done) | (simp [*]; done)), (by first | rfl | (simp; done) | (simp [*]; done)), H', ⟨Nat.le_refl _⟩, ⟨by repeat (first | (with_reducible first | exact HB.out | apply below_alloc | apply pw_below_drewN | apply below_drew1) | exact HB.out)⟩⟩
   case round =>
    clear H'
    try clear c1
    try clear c2
    try clear c2b0
    try clear c2b1
    try clear p2
    try clear c4
    try clear c6
    try clear c6b0
    try clear c6b1
    obtain ⟨x5_1, x6_1, rfl, rfl, HA, HK1, HB⟩ := hrel
    cases gk with
    | zero => exact absurd HA.out (by simp [spinnakerlaw09_UnitExpands.l0])
    | succ k1 =>
     have H := HA.out
     clear HA
     simp only [spinnakerlaw09_UnitExpands.l0] at H
     by_cases c8 : x6_1 < (l0.length : Int)
     ·rw [if_pos c8] at H
      have c8b0 : decide (x6_1 < (l0.length : Int)) = true := decide_eq_true c8
      clear c8
      have HC9 := Aside0.mk H
      clear H
      go_upto_region 10 with (fail)
      go_cut [51] (fun v51 wc => ∃ (kq : Nat) (x51_8 : Bool), v51 = .bool x51_8 ∧ Aside0 (spinnakerlaw09_UnitExpands.j1 kq l0 x5_1 x6_1 x51_8 = some r) ∧ Aside0 (kq ≤ k1) ∧ Aside0 (Below w.heap.size w wc))
      case first =>
       have H := HC9.out
       clear HC9
       by_cases c10 : 0 ≤ x6_1
       ·rw [if_pos c10] at H
        have c10b0 : decide (0 ≤ x6_1) = true := decide_eq_true c10
        clear c10
        (first | rw [c10b0] | (simp only [i64_w, i32_w]; rw [c10b0]) | skip)
        by_cases c11 : ((rd_T70 l0 x6_1).f0) = 1
        ·rw [if_pos c11] at H
         have c11b0 : (((rd_T70 l0 x6_1).f0) == 1) = true := beq_iff_eq.mpr c11
         have c11b1 : (((rd_T70 l0 x6_1).f0) != 1) = false := bne_eq_false_iff_eq.mpr c11
         clear c11
         by_cases c12 : ((rd_T70 l0 x6_1).f2) ≥ x5_1
         ·rw [if_pos c12] at H
          have c12b0 : decide (x5_1 ≤ ((rd_T70 l0 x6_1).f2)) = true := decide_eq_true c12
          clear c12
          have H' := Aside0.mk H
          clear H
          have p315 : 0 ≤ (x6_1 : Int) := of_decide_eq_true (by first | (with_reducible assumption) | assumption)
          have q315 : x6_1 < (l0.length : Int) := of_decide_eq_true (by first | (with_reducible assumption) | assumption)
          obtain ⟨ad315, e315, hx315_0, hx315_1, hx315_2, hx315_3, hx315_4, hx315_5, hx315_6, hx315_7, hx315_8, hx315_9⟩ := at_T70 HR0.out x6_1 p315 q315
          cases e315
          replace hx315_0 := (HB.out.cell (World.block_lt_of_cell? w _ hx315_0)).trans hx315_0
          replace hx315_1 := (HB.out.cell (World.block_lt_of_cell? w _ hx315_1)).trans hx315_1
          replace hx315_2 := (HB.out.cell (World.block_lt_of_cell? w _ hx315_2)).trans hx315_2
          replace hx315_3 := (HB.out.cell (World.block_lt_of_cell? w _ hx315_3)).trans hx315_3
          replace hx315_4 := (HB.out.cell (World.block_lt_of_cell? w _ hx315_4)).trans hx315_4
          replace hx315_5 := (HB.out.cell (World.block_lt_of_cell? w _ hx315_5)).trans hx315_5
          replace hx315_6 := (HB.out.cell (World.block_lt_of_cell? w _ hx315_6)).trans hx315_6
          replace hx315_7 := (HB.out.cell (World.block_lt_of_cell? w _ hx315_7)).trans hx315_7
          replace hx315_8 := (HB.out.cell (World.block_lt_of_cell? w _ hx315_8)).trans hx315_8
          replace hx315_9 := (HB.out.cell (World.block_lt_of_cell? w _ hx315_9)).trans hx315_9
          replace p315 := eq_true p315
          replace q315 := eq_true q315
          have p316 : 0 ≤ (x6_1 : Int) := of_decide_eq_true (by first | (with_reducible assumption) | assumption)
          have q316 : x6_1 < (l0.length : Int) := of_decide_eq_true (by first | (with_reducible assumption) | assumption)
          obtain ⟨ad316, e316, hx316_0, hx316_1, hx316_2, hx316_3, hx316_4, hx316_5, hx316_6, hx316_7, hx316_8, hx316_9⟩ := at_T70 HR0.out x6_1 p316 q316
          obtain rfl : ad315 = ad316 := (by injection e316)
          replace hx316_0 := (HB.out.cell (World.block_lt_of_cell? w _ hx316_0)).trans hx316_0
          replace hx316_1 := (HB.out.cell (World.block_lt_of_cell? w _ hx316_1)).trans hx316_1
          replace hx316_2 := (HB.out.cell (World.block_lt_of_cell? w _ hx316_2)).trans hx316_2
          replace hx316_3 := (HB.out.cell (World.block_lt_of_cell? w _ hx316_3)).trans hx316_3
          replace hx316_4 := (HB.out.cell (World.block_lt_of_cell? w _ hx316_4)).trans hx316_4
          replace hx316_5 := (HB.out.cell (World.block_lt_of_cell? w _ hx316_5)).trans hx316_5
          replace hx316_6 := (HB.out.cell (World.block_lt_of_cell? w _ hx316_6)).trans hx316_6
          replace hx316_7 := (HB.out.cell (World.block_lt_of_cell? w _ hx316_7)).trans hx316_7
          replace hx316_8 := (HB.out.cell (World.block_lt_of_cell? w _ hx316_8)).trans hx316_8
          replace hx316_9 := (HB.out.cell (World.block_lt_of_cell? w _ hx316_9)).trans hx316_9
          replace p316 := eq_true p316
          replace q316 := eq_true q316
          have p317 : 0 ≤ (x6_1 : Int) := of_decide_eq_true (by first | (with_reducible assumption) | assumption)
          have q317 : x6_1 < (l0.length : Int) := of_decide_eq_true (by first | (with_reducible assumption) | assumption)
          obtain ⟨ad317, e317, hx317_0, hx317_1, hx317_2, hx317_3, hx317_4, hx317_5, hx317_6, hx317_7, hx317_8, hx317_9⟩ := at_T70 HR0.out x6_1 p317 q317
          obtain rfl : ad315 = ad317 := (by injection e317)
          replace hx317_0 := (HB.out.cell (World.block_lt_of_cell? w _ hx317_0)).trans hx317_0
          replace hx317_1 := (HB.out.cell (World.block_lt_of_cell? w _ hx317_1)).trans hx317_1
          replace hx317_2 := (HB.out.cell (World.block_lt_of_cell? w _ hx317_2)).trans hx317_2
          replace hx317_3 := (HB.out.cell (World.block_lt_of_cell? w _ hx317_3)).trans hx317_3
          replace hx317_4 := (HB.out.cell (World.block_lt_of_cell? w _ hx317_4)).trans hx317_4
          replace hx317_5 := (HB.out.cell (World.block_lt_of_cell? w _ hx317_5)).trans hx317_5
          replace hx317_6 := (HB.out.cell (World.block_lt_of_cell? w _ hx317_6)).trans hx317_6
          replace hx317_7 := (HB.out.cell (World.block_lt_of_cell? w _ hx317_7)).trans hx317_7
          replace hx317_8 := (HB.out.cell (World.block_lt_of_cell? w _ hx317_8)).trans hx317_8
          replace hx317_9 := (HB.out.cell (World.block_lt_of_cell? w _ hx317_9)).trans hx317_9
          replace p317 := eq_true p317
          replace q317 := eq_true q317
          go_wp2
          go_meet
          case rel => exact ⟨_, (decide (((rd_T70 l0 x6_1).f2) < 4611686018427387904)), (by first | rfl | (simp; done) | (simp [*]; done)), H', ⟨by have := HK1.out; first | omega | exact Nat.le_refl _⟩, ⟨by repeat (first | (with_reducible first | exact HB.out | apply below_alloc | apply pw_below_drewN | apply below_drew1) | exact HB.out)⟩⟩
         ·rw [if_neg c12] at H
          have c12b0 : decide (x5_1 ≤ ((rd_T70 l0 x6_1).f2)) = false := decide_eq_false c12
          clear c12
          have H' := Aside0.mk H
          clear H
          have p315 : 0 ≤ (x6_1 : Int) := of_decide_eq_true (by first | (with_reducible assumption) | assumption)
          have q315 : x6_1 < (l0.length : Int) := of_decide_eq_true (by first | (with_reducible assumption) | assumption)
          obtain ⟨ad315, e315, hx315_0, hx315_1, hx315_2, hx315_3, hx315_4, hx315_5, hx315_6, hx315_7, hx315_8, hx315_9⟩ := at_T70 HR0.out x6_1 p315 q315
          cases e315
          replace hx315_0 := (HB.out.cell (World.block_lt_of_cell? w _ hx315_0)).trans hx315_0
          replace hx315_1 := (HB.out.cell (World.block_lt_of_cell? w _ hx315_1)).trans hx315_1
          replace hx315_2 := (HB.out.cell (World.block_lt_of_cell? w _ hx315_2)).trans hx315_2
          replace hx315_3 := (HB.out.cell (World.block_lt_of_cell? w _ hx315_3)).trans hx315_3
          replace hx315_4 := (HB.out.cell (World.block_lt_of_cell? w _ hx315_4)).trans hx315_4
          replace hx315_5 := (HB.out.cell (World.block_lt_of_cell? w _ hx315_5)).trans hx315_5
          replace hx315_6 := (HB.out.cell (World.block_lt_of_cell? w _ hx315_6)).trans hx315_6
          replace hx315_7 := (HB.out.cell (World.block_lt_of_cell? w _ hx315_7)).trans hx315_7
          replace hx315_8 := (HB.out.cell (World.block_lt_of_cell? w _ hx315_8)).trans hx315_8
          replace hx315_9 := (HB.out.cell (World.block_lt_of_cell? w _ hx315_9)).trans hx315_9
          replace p315 := eq_true p315
          replace q315 := eq_true q315
          have p316 : 0 ≤ (x6_1 : Int) := of_decide_eq_true (by first | (with_reducible assumption) | assumption)
          have q316 : x6_1 < (l0.length : Int) := of_decide_eq_true (by first | (with_reducible assumption) | assumption)
          obtain ⟨ad316, e316, hx316_0, hx316_1, hx316_2, hx316_3, hx316_4, hx316_5, hx316_6, hx316_7, hx316_8, hx316_9⟩ := at_T70 HR0.out x6_1 p316 q316
          obtain rfl : ad315 = ad316 := (by injection e316)
          replace hx316_0 := (HB.out.cell (World.block_lt_of_cell? w _ hx316_0)).trans hx316_0
          replace hx316_1 := (HB.out.cell (World.block_lt_of_cell? w _ hx316_1)).trans hx316_1
          replace hx316_2 := (HB.out.cell (World.block_lt_of_cell? w _ hx316_2)).trans hx316_2
          replace hx316_3 := (HB.out.cell (World.block_lt_of_cell? w _ hx316_3)).trans hx316_3
          replace hx316_4 := (HB.out.cell (World.block_lt_of_cell? w _ hx316_4)).trans hx316_4
          replace hx316_5 := (HB.out.cell (World.block_lt_of_cell? w _ hx316_5)).trans hx316_5
          replace hx316_6 := (HB.out.cell (World.block_lt_of_cell? w _ hx316_6)).trans hx316_6
          replace hx316_7 := (HB.out.cell (World.block_lt_of_cell? w _ hx316_7)).trans hx316_7
          replace hx316_8 := (HB.out.cell (World.block_lt_of_cell? w _ hx316_8)).trans hx316_8
          replace hx316_9 := (HB.out.cell (World.block_lt_of_cell? w _ hx316_9)).trans hx316_9
          replace p316 := eq_true p316
          replace q316 := eq_true q316
          go_wp2
          go_meet
          case rel => exact ⟨_, (false), (by first | rfl | (simp; done) | (simp [*]; done)), H', ⟨by have := HK1.out; first | omega | exact Nat.le_refl _⟩, ⟨by repeat (first | (with_reducible first | exact HB.out | apply below_alloc | apply pw_below_drewN | apply below_drew1) | exact HB.out)⟩⟩
        ·rw [if_neg c11] at H
         have c11b0 : (((rd_T70 l0 x6_1).f0) == 1) = false := beq_eq_false_iff_ne.mpr c11
         have c11b1 : (((rd_T70 l0 x6_1).f0) != 1) = true := bne_iff_ne.mpr c11
         have H' := Aside0.mk H
         clear H
         have p315 : 0 ≤ (x6_1 : Int) := of_decide_eq_true (by first | (with_reducible assumption) | assumption)
         have q315 : x6_1 < (l0.length : Int) := of_decide_eq_true (by first | (with_reducible assumption) | assumption)
         obtain ⟨ad315, e315, hx315_0, hx315_1, hx315_2, hx315_3, hx315_4, hx315_5, hx315_6, hx315_7, hx315_8, hx315_9⟩ := at_T70 HR0.out x6_1 p315 q315
         cases e315
         replace hx315_0 := (HB.out.cell (World.block_lt_of_cell? w _ hx315_0)).trans hx315_0
         replace hx315_1 := (HB.out.cell (World.block_lt_of_cell? w _ hx315_1)).trans hx315_1
         replace hx315_2 := (HB.out.cell (World.block_lt_of_cell? w _ hx315_2)).trans hx315_2
         replace hx315_3 := (HB.out.cell (World.block_lt_of_cell? w _ hx315_3)).trans hx315_3
         replace hx315_4 := (HB.out.cell (World.block_lt_of_cell? w _ hx315_4)).trans hx315_4
         replace hx315_5 := (HB.out.cell (World.block_lt_of_cell? w _ hx315_5)).trans hx315_5
         replace hx315_6 := (HB.out.cell (World.block_lt_of_cell? w _ hx315_6)).trans hx315_6
         replace hx315_7 := (HB.out.cell (World.block_lt_of_cell? w _ hx315_7)).trans hx315_7
         replace hx315_8 := (HB.out.cell (World.block_lt_of_cell? w _ hx315_8)).trans hx315_8
         replace hx315_9 := (HB.out.cell (World.block_lt_of_cell? w _ hx315_9)).trans hx315_9
         replace p315 := eq_true p315
         replace q315 := eq_true q315
         go_wp2
         go_meet
         case rel => exact ⟨_, (false), (by first | rfl | (simp; done) | (simp [*]; done)), H', ⟨by have := HK1.out; first | omega | exact Nat.le_refl _⟩, ⟨by repeat (first | (with_reducible first | exact HB.out | apply below_alloc | apply pw_below_drewN | apply below_drew1) | exact HB.out)⟩⟩
       ·rw [if_neg c10] at H
        exact absurd H (by simp)
      case rest =>
       clear HC9
       try clear c1
       try clear c2
       try clear c2b0
       try clear c2b1
       try clear p2
       try clear p3
       try clear q3
       try clear hx3
       try clear c4
       try clear c6
       try clear c6b0
       try clear c6b1
       try clear c8
       try clear c8b0
       try clear c10
       try clear c10b0
       try clear c11
       try clear c11b0
       try clear c11b1
       try clear c12
       try clear c12b0
       try clear hx315_0
       try clear hx315_1
       try clear hx315_2
       try clear hx315_3
       try clear hx315_4
       try clear hx315_5
       try clear hx315_6
       try clear hx315_7
       try clear hx315_8
       try clear hx315_9
       try clear hx316_0
       try clear hx316_1
       try clear hx316_2
       try clear hx316_3
       try clear hx316_4
       try clear hx316_5
       try clear hx316_6
       try clear hx316_7
       try clear hx316_8
       try clear hx316_9
       try clear hx317_0
       try clear hx317_1
       try clear hx317_2
       try clear hx317_3
       try clear hx317_4
       try clear hx317_5
       try clear hx317_6
       try clear hx317_7
       try clear hx317_8
       try clear hx317_9
       try clear p2
       try clear p315
       try clear p316
       try clear p317
       try clear q315
       try clear q316
       try clear q317
       obtain ⟨kq, x51_8, rfl, HA, HJ8, HB⟩ := hcut
       cases kq with
       | zero => exact absurd HA.out (by simp [spinnakerlaw09_UnitExpands.j1])
       | succ kj8 =>
        have H := HA.out
        clear HA
        simp only [spinnakerlaw09_UnitExpands.j1] at H
        by_cases c13 : x51_8 = true
        ·subst c13
         have H1 : (if 0 ≤ x6_1 then (if x6_1 < (l0.length : Int) then (if ((rd_T70 l0 x6_1).f2) ≥ 4611686018427387904 then ((spinnakerlaw09_awake.f kj8).bind fun t320 => (some t320)) else (spinnakerlaw09_UnitExpands.l0 kj8 l0 (wrap64 (((rd_T70 l0 x6_1).f2) + 1)) (wrap64 (x6_1 + 1)))) else (none)) else (none)) = some r := by rw [if_pos rfl] at H; exact H
         clear H
         have H := H1
         clear H1
         by_cases c14 : 0 ≤ x6_1
         ·rw [if_pos c14] at H
          have c14b0 : decide (0 ≤ x6_1) = true := decide_eq_true c14
          clear c14
          by_cases c15 : x6_1 < (l0.length : Int)
          ·rw [if_pos c15] at H
           have c15b0 : decide (x6_1 < (l0.length : Int)) = true := decide_eq_true c15
           clear c15
           by_cases c16 : ((rd_T70 l0 x6_1).f2) ≥ 4611686018427387904
           ·rw [if_pos c16] at H
            have c16b0 : decide (4611686018427387904 ≤ ((rd_T70 l0 x6_1).f2)) = true := decide_eq_true c16
            clear c16
            replace H := Option.bind_eq_some_iff.mp H
            obtain ⟨t320, A170, H⟩ := H
            replace H : (some t320) = some r := H
            have A17 := Aside0.mk A170
            clear A170
            obtain rfl := Option.some.inj H
            have p318 : 0 ≤ (x6_1 : Int) := of_decide_eq_true (by first | (with_reducible assumption) | assumption)
            have q318 : x6_1 < (l0.length : Int) := of_decide_eq_true (by first | (with_reducible assumption) | assumption)
            obtain ⟨ad318, e318, hx318_0, hx318_1, hx318_2, hx318_3, hx318_4, hx318_5, hx318_6, hx318_7, hx318_8, hx318_9⟩ := at_T70 HR0.out x6_1 p318 q318
            cases e318
            replace hx318_0 := (HB.out.cell (World.block_lt_of_cell? w _ hx318_0)).trans hx318_0
            replace hx318_1 := (HB.out.cell (World.block_lt_of_cell? w _ hx318_1)).trans hx318_1
            replace hx318_2 := (HB.out.cell (World.block_lt_of_cell? w _ hx318_2)).trans hx318_2
            replace hx318_3 := (HB.out.cell (World.block_lt_of_cell? w _ hx318_3)).trans hx318_3
            replace hx318_4 := (HB.out.cell (World.block_lt_of_cell? w _ hx318_4)).trans hx318_4
            replace hx318_5 := (HB.out.cell (World.block_lt_of_cell? w _ hx318_5)).trans hx318_5
            replace hx318_6 := (HB.out.cell (World.block_lt_of_cell? w _ hx318_6)).trans hx318_6
            replace hx318_7 := (HB.out.cell (World.block_lt_of_cell? w _ hx318_7)).trans hx318_7
            replace hx318_8 := (HB.out.cell (World.block_lt_of_cell? w _ hx318_8)).trans hx318_8
            replace hx318_9 := (HB.out.cell (World.block_lt_of_cell? w _ hx318_9)).trans hx318_9
            replace p318 := eq_true p318
            replace q318 := eq_true q318
            have p319 : 0 ≤ (x6_1 : Int) := of_decide_eq_true (by first | (with_reducible assumption) | assumption)
            have q319 : x6_1 < (l0.length : Int) := of_decide_eq_true (by first | (with_reducible assumption) | assumption)
            obtain ⟨ad319, e319, hx319_0, hx319_1, hx319_2, hx319_3, hx319_4, hx319_5, hx319_6, hx319_7, hx319_8, hx319_9⟩ := at_T70 HR0.out x6_1 p319 q319
            obtain rfl : ad318 = ad319 := (by injection e319)
            replace hx319_0 := (HB.out.cell (World.block_lt_of_cell? w _ hx319_0)).trans hx319_0
            replace hx319_1 := (HB.out.cell (World.block_lt_of_cell? w _ hx319_1)).trans hx319_1
            replace hx319_2 := (HB.out.cell (World.block_lt_of_cell? w _ hx319_2)).trans hx319_2
            replace hx319_3 := (HB.out.cell (World.block_lt_of_cell? w _ hx319_3)).trans hx319_3
            replace hx319_4 := (HB.out.cell (World.block_lt_of_cell? w _ hx319_4)).trans hx319_4
            replace hx319_5 := (HB.out.cell (World.block_lt_of_cell? w _ hx319_5)).trans hx319_5
            replace hx319_6 := (HB.out.cell (World.block_lt_of_cell? w _ hx319_6)).trans hx319_6
            replace hx319_7 := (HB.out.cell (World.block_lt_of_cell? w _ hx319_7)).trans hx319_7
            replace hx319_8 := (HB.out.cell (World.block_lt_of_cell? w _ hx319_8)).trans hx319_8
            replace hx319_9 := (HB.out.cell (World.block_lt_of_cell? w _ hx319_9)).trans hx319_9
            replace p319 := eq_true p319
            replace q319 := eq_true q319
            go_wp2_with (first | ((with_reducible refine gate_callee (f := 46) rfl ?_); refine goesL_ (some 64) rfl rfl Tryd.func46 (by kernel_rfl) rfl #[] rfl (by (try simp only [List.map_toArray, List.map_cons, List.map_nil]); first | done | rfl | (simp only [List.length_drop, List.length_take]; rfl)) ?_; (with_reducible refine (spinnakerlaw09_awake.calls kj8  t320 _ (by first | exact HL.out | exact laid_drewN HL.out | exact laid_below HL.out (by repeat (first | (with_reducible first | exact HB.out | apply below_alloc | apply pw_below_drewN | apply below_drew1 | refine below_set ?_ (Aside0.out (by assumption))) | exact HB.out)) | exact laid_below HL.out HB.out | exact laid_belowd HL.out HB.out) A17.out).mono ?_); rintro e w18 ⟨rfl, hb⟩; refine ⟨_, rfl, ?_⟩; have n0_ := Aside0.mk (below_step (by repeat (first | (with_reducible first | exact HB.out | apply below_alloc | apply pw_below_drewN | apply below_drew1) | exact HB.out)) hb); clear HB; have HB := n0_; clear n0_; (try clear hb)))
            go_ret
            exact ⟨by first | rfl | (simp [errW_none, errW_some] <;> rfl) | (simp [*, errW_none, errW_some] <;> rfl), by repeat (first | (with_reducible first | exact HB.out | apply below_alloc | apply pw_below_drewN | apply below_drew1) | exact HB.out)⟩
           ·rw [if_neg c16] at H
            have c16b0 : decide (4611686018427387904 ≤ ((rd_T70 l0 x6_1).f2)) = false := decide_eq_false c16
            clear c16
            have H' := Aside0.mk H
            clear H
            have p318 : 0 ≤ (x6_1 : Int) := of_decide_eq_true (by first | (with_reducible assumption) | assumption)
            have q318 : x6_1 < (l0.length : Int) := of_decide_eq_true (by first | (with_reducible assumption) | assumption)
            obtain ⟨ad318, e318, hx318_0, hx318_1, hx318_2, hx318_3, hx318_4, hx318_5, hx318_6, hx318_7, hx318_8, hx318_9⟩ := at_T70 HR0.out x6_1 p318 q318
            cases e318
            replace hx318_0 := (HB.out.cell (World.block_lt_of_cell? w _ hx318_0)).trans hx318_0
            replace hx318_1 := (HB.out.cell (World.block_lt_of_cell? w _ hx318_1)).trans hx318_1
            replace hx318_2 := (HB.out.cell (World.block_lt_of_cell? w _ hx318_2)).trans hx318_2
            replace hx318_3 := (HB.out.cell (World.block_lt_of_cell? w _ hx318_3)).trans hx318_3
            replace hx318_4 := (HB.out.cell (World.block_lt_of_cell? w _ hx318_4)).trans hx318_4
            replace hx318_5 := (HB.out.cell (World.block_lt_of_cell? w _ hx318_5)).trans hx318_5
            replace hx318_6 := (HB.out.cell (World.block_lt_of_cell? w _ hx318_6)).trans hx318_6
            replace hx318_7 := (HB.out.cell (World.block_lt_of_cell? w _ hx318_7)).trans hx318_7
            replace hx318_8 := (HB.out.cell (World.block_lt_of_cell? w _ hx318_8)).trans hx318_8
            replace hx318_9 := (HB.out.cell (World.block_lt_of_cell? w _ hx318_9)).trans hx318_9
            replace p318 := eq_true p318
            replace q318 := eq_true q318
            have p319 : 0 ≤ (x6_1 : Int) := of_decide_eq_true (by first | (with_reducible assumption) | assumption)
            have q319 : x6_1 < (l0.length : Int) := of_decide_eq_true (by first | (with_reducible assumption) | assumption)
            obtain ⟨ad319, e319, hx319_0, hx319_1, hx319_2, hx319_3, hx319_4, hx319_5, hx319_6, hx319_7, hx319_8, hx319_9⟩ := at_T70 HR0.out x6_1 p319 q319
            obtain rfl : ad318 = ad319 := (by injection e319)
            replace hx319_0 := (HB.out.cell (World.block_lt_of_cell? w _ hx319_0)).trans hx319_0
            replace hx319_1 := (HB.out.cell (World.block_lt_of_cell? w _ hx319_1)).trans hx319_1
            replace hx319_2 := (HB.out.cell (World.block_lt_of_cell? w _ hx319_2)).trans hx319_2
            replace hx319_3 := (HB.out.cell (World.block_lt_of_cell? w _ hx319_3)).trans hx319_3
            replace hx319_4 := (HB.out.cell (World.block_lt_of_cell? w _ hx319_4)).trans hx319_4
            replace hx319_5 := (HB.out.cell (World.block_lt_of_cell? w _ hx319_5)).trans hx319_5
            replace hx319_6 := (HB.out.cell (World.block_lt_of_cell? w _ hx319_6)).trans hx319_6
            replace hx319_7 := (HB.out.cell (World.block_lt_of_cell? w _ hx319_7)).trans hx319_7
            replace hx319_8 := (HB.out.cell (World.block_lt_of_cell? w _ hx319_8)).trans hx319_8
            replace hx319_9 := (HB.out.cell (World.block_lt_of_cell? w _ hx319_9)).trans hx319_9
            replace p319 := eq_true p319
            replace q319 := eq_true q319
            go_wp2
            go_roundg kj8
            case measure => have := HK1.out; have := HJ8.out; omega
            case rel => exact ⟨(wrap64 (((rd_T70 l0 x6_1).f2) + 1)), (wrap64 (x6_1 + 1)), (by first | rfl | (simp; done) | (simp [*]; done)), (by first | rfl | (simp; done) | (simp [*]; done)), H', ⟨by have := HK1.out; have := HJ8.out; omega⟩, ⟨by repeat (first | (with_reducible first | exact HB.out | apply below_alloc | apply pw_below_drewN | apply below_drew1) | exact HB.out)⟩⟩
          ·rw [if_neg c15] at H
           exact absurd H (by simp)
         ·rw [if_neg c14] at H
          exact absurd H (by simp)
        ·replace c13 := Bool.eq_false_iff.mpr c13
         subst c13
         have H1 : (if 0 ≤ x6_1 then (if x6_1 < (l0.length : Int) then (if ((rd_T70 l0 x6_1).f2) ≥ 4611686018427387904 then ((spinnakerlaw09_awake.f kj8).bind fun t322 => (some t322)) else (spinnakerlaw09_UnitExpands.l0 kj8 l0 x5_1 (wrap64 (x6_1 + 1)))) else (none)) else (none)) = some r := by rw [if_neg (show ¬ (false = true) by decide)] at H; exact H
         clear H
         have H := H1
         clear H1
         by_cases c19 : 0 ≤ x6_1
         ·rw [if_pos c19] at H
          have c19b0 : decide (0 ≤ x6_1) = true := decide_eq_true c19
          clear c19
          by_cases c20 : x6_1 < (l0.length : Int)
          ·rw [if_pos c20] at H
           have c20b0 : decide (x6_1 < (l0.length : Int)) = true := decide_eq_true c20
           clear c20
           by_cases c21 : ((rd_T70 l0 x6_1).f2) ≥ 4611686018427387904
           ·rw [if_pos c21] at H
            have c21b0 : decide (4611686018427387904 ≤ ((rd_T70 l0 x6_1).f2)) = true := decide_eq_true c21
            clear c21
            replace H := Option.bind_eq_some_iff.mp H
            obtain ⟨t322, A220, H⟩ := H
            replace H : (some t322) = some r := H
            have A22 := Aside0.mk A220
            clear A220
            obtain rfl := Option.some.inj H
            have p321 : 0 ≤ (x6_1 : Int) := of_decide_eq_true (by first | (with_reducible assumption) | assumption)
            have q321 : x6_1 < (l0.length : Int) := of_decide_eq_true (by first | (with_reducible assumption) | assumption)
            obtain ⟨ad321, e321, hx321_0, hx321_1, hx321_2, hx321_3, hx321_4, hx321_5, hx321_6, hx321_7, hx321_8, hx321_9⟩ := at_T70 HR0.out x6_1 p321 q321
            cases e321
            replace hx321_0 := (HB.out.cell (World.block_lt_of_cell? w _ hx321_0)).trans hx321_0
            replace hx321_1 := (HB.out.cell (World.block_lt_of_cell? w _ hx321_1)).trans hx321_1
            replace hx321_2 := (HB.out.cell (World.block_lt_of_cell? w _ hx321_2)).trans hx321_2
            replace hx321_3 := (HB.out.cell (World.block_lt_of_cell? w _ hx321_3)).trans hx321_3
            replace hx321_4 := (HB.out.cell (World.block_lt_of_cell? w _ hx321_4)).trans hx321_4
            replace hx321_5 := (HB.out.cell (World.block_lt_of_cell? w _ hx321_5)).trans hx321_5
            replace hx321_6 := (HB.out.cell (World.block_lt_of_cell? w _ hx321_6)).trans hx321_6
            replace hx321_7 := (HB.out.cell (World.block_lt_of_cell? w _ hx321_7)).trans hx321_7
            replace hx321_8 := (HB.out.cell (World.block_lt_of_cell? w _ hx321_8)).trans hx321_8
            replace hx321_9 := (HB.out.cell (World.block_lt_of_cell? w _ hx321_9)).trans hx321_9
            replace p321 := eq_true p321
            replace q321 := eq_true q321
            go_wp2_with (first | ((with_reducible refine gate_callee (f := 46) rfl ?_); refine goesL_ (some 64) rfl rfl Tryd.func46 (by kernel_rfl) rfl #[] rfl (by (try simp only [List.map_toArray, List.map_cons, List.map_nil]); first | done | rfl | (simp only [List.length_drop, List.length_take]; rfl)) ?_; (with_reducible refine (spinnakerlaw09_awake.calls kj8  t322 _ (by first | exact HL.out | exact laid_drewN HL.out | exact laid_below HL.out (by repeat (first | (with_reducible first | exact HB.out | apply below_alloc | apply pw_below_drewN | apply below_drew1 | refine below_set ?_ (Aside0.out (by assumption))) | exact HB.out)) | exact laid_below HL.out HB.out | exact laid_belowd HL.out HB.out) A22.out).mono ?_); rintro e w23 ⟨rfl, hb⟩; refine ⟨_, rfl, ?_⟩; have n0_ := Aside0.mk (below_step (by repeat (first | (with_reducible first | exact HB.out | apply below_alloc | apply pw_below_drewN | apply below_drew1) | exact HB.out)) hb); clear HB; have HB := n0_; clear n0_; (try clear hb)))
            go_ret
            exact ⟨by first | rfl | (simp [errW_none, errW_some] <;> rfl) | (simp [*, errW_none, errW_some] <;> rfl), by repeat (first | (with_reducible first | exact HB.out | apply below_alloc | apply pw_below_drewN | apply below_drew1) | exact HB.out)⟩
           ·rw [if_neg c21] at H
            have c21b0 : decide (4611686018427387904 ≤ ((rd_T70 l0 x6_1).f2)) = false := decide_eq_false c21
            clear c21
            have H' := Aside0.mk H
            clear H
            have p321 : 0 ≤ (x6_1 : Int) := of_decide_eq_true (by first | (with_reducible assumption) | assumption)
            have q321 : x6_1 < (l0.length : Int) := of_decide_eq_true (by first | (with_reducible assumption) | assumption)
            obtain ⟨ad321, e321, hx321_0, hx321_1, hx321_2, hx321_3, hx321_4, hx321_5, hx321_6, hx321_7, hx321_8, hx321_9⟩ := at_T70 HR0.out x6_1 p321 q321
            cases e321
            replace hx321_0 := (HB.out.cell (World.block_lt_of_cell? w _ hx321_0)).trans hx321_0
            replace hx321_1 := (HB.out.cell (World.block_lt_of_cell? w _ hx321_1)).trans hx321_1
            replace hx321_2 := (HB.out.cell (World.block_lt_of_cell? w _ hx321_2)).trans hx321_2
            replace hx321_3 := (HB.out.cell (World.block_lt_of_cell? w _ hx321_3)).trans hx321_3
            replace hx321_4 := (HB.out.cell (World.block_lt_of_cell? w _ hx321_4)).trans hx321_4
            replace hx321_5 := (HB.out.cell (World.block_lt_of_cell? w _ hx321_5)).trans hx321_5
            replace hx321_6 := (HB.out.cell (World.block_lt_of_cell? w _ hx321_6)).trans hx321_6
            replace hx321_7 := (HB.out.cell (World.block_lt_of_cell? w _ hx321_7)).trans hx321_7
            replace hx321_8 := (HB.out.cell (World.block_lt_of_cell? w _ hx321_8)).trans hx321_8
            replace hx321_9 := (HB.out.cell (World.block_lt_of_cell? w _ hx321_9)).trans hx321_9
            replace p321 := eq_true p321
            replace q321 := eq_true q321
            go_wp2
            go_roundg kj8
            case measure => have := HK1.out; have := HJ8.out; omega
            case rel => exact ⟨(x5_1), (wrap64 (x6_1 + 1)), (by first | rfl | (simp; done) | (simp [*]; done)), (by first | rfl | (simp; done) | (simp [*]; done)), H', ⟨by have := HK1.out; have := HJ8.out; omega⟩, ⟨by repeat (first | (with_reducible first | exact HB.out | apply below_alloc | apply pw_below_drewN | apply below_drew1) | exact HB.out)⟩⟩
          ·rw [if_neg c20] at H
           exact absurd H (by simp)
         ·rw [if_neg c19] at H
          exact absurd H (by simp)
     ·rw [if_neg c8] at H
      have c8b0 : decide (x6_1 < (l0.length : Int)) = false := decide_eq_false c8
      clear c8
      replace H := Option.bind_eq_some_iff.mp H
      obtain ⟨t323, A240, H⟩ := H
      replace H : (spinnakerlaw09_UnitExpands.l1 k1 l0 x5_1 t323 0) = some r := H
      have A24 := Aside0.mk A240
      clear A240
      have H' := Aside0.mk H
      clear H
      go_wp2_with (first | ((with_reducible refine gate_callee (f := 49) rfl ?_); refine goesL_ (some 66) rfl rfl Tryd.func49 (by kernel_rfl) rfl #[.slice A0 l0.length c0] rfl (by (try simp only [List.map_toArray, List.map_cons, List.map_nil]); first | done | rfl | (simp only [List.length_drop, List.length_take]; rfl)) ?_; (with_reducible refine (unit_Expand.calls k1 _ _ l0 t323 _ (by first | exact HL.out | exact laid_drewN HL.out | exact laid_below HL.out (by repeat (first | (with_reducible first | exact HB.out | apply below_alloc | apply pw_below_drewN | apply below_drew1 | refine below_set ?_ (Aside0.out (by assumption))) | exact HB.out)) | exact laid_below HL.out HB.out | exact laid_belowd HL.out HB.out) ?side1 ?side2 A24.out).mono ?_); (case side1 => repeat (first | exact (Kd.C_below HR0.out HB.out) | (with_reducible refine Kd.C_alloc ?_ _) | (with_reducible refine Kd.C_drewN ?_ _) | (with_reducible refine Kd.C_drew ?_))); (case side2 => exact HC0.out); rintro e w25 ⟨v324, rfl, ho0, hb⟩; refine ⟨_, rfl, ?_⟩; have n0_ := Aside0.mk (Kd.R_lower ho0 (below_size (by repeat (first | (with_reducible first | exact HB.out | apply below_alloc | apply pw_below_drewN | apply below_drew1) | exact HB.out)))); have n1_ := Aside0.mk (below_step (by repeat (first | (with_reducible first | exact HB.out | apply below_alloc | apply pw_below_drewN | apply below_drew1) | exact HB.out)) hb); clear HB; have HO325 := n0_; have HB := n1_; clear n0_ n1_; (try clear hb); (try clear ho0)))
      go_loopg [8] k1 (fun kq v8 w' => ∃ (x8_2 : Int), v8 = .int .i64 x8_2 ∧ Aside0 (spinnakerlaw09_UnitExpands.l1 kq l0 x5_1 t323 x8_2 = some r) ∧ Aside0 (kq ≤ k1) ∧ Aside0 (Kd.R k70 70 w' w.heap.size (fun _ => True) v324 t323) ∧ Aside0 (Below w.heap.size w w'))
      case atStart => exact ⟨(0), (by first | rfl | (simp; done) | (simp [*]; done)), H', ⟨Nat.le_refl _⟩, ⟨by (with_reducible repeat (first | apply Kd.R_alloc | apply Kd.R_drewN | apply Kd.R_drew)); exact HO325.out⟩, ⟨by repeat (first | (with_reducible first | exact HB.out | apply below_alloc | apply pw_below_drewN | apply below_drew1) | exact HB.out)⟩⟩
      case round =>
       clear H'
       try clear c1
       try clear c2
       try clear c2b0
       try clear c2b1
       try clear p2
       try clear p3
       try clear q3
       try clear hx3
       try clear c4
       try clear c6
       try clear c6b0
       try clear c6b1
       try clear p6
       try clear c8
       try clear c8b0
       try clear c10
       try clear c10b0
       try clear c11
       try clear c11b0
       try clear c11b1
       try clear c12
       try clear c12b0
       try clear c13
       try clear c14
       try clear c14b0
       try clear c15
       try clear c15b0
       try clear c16
       try clear c16b0
       try clear c19
       try clear c19b0
       try clear c20
       try clear c20b0
       try clear c21
       try clear c21b0
       try clear hx315_0
       try clear hx315_1
       try clear hx315_2
       try clear hx315_3
       try clear hx315_4
       try clear hx315_5
       try clear hx315_6
       try clear hx315_7
       try clear hx315_8
       try clear hx315_9
       try clear hx316_0
       try clear hx316_1
       try clear hx316_2
       try clear hx316_3
       try clear hx316_4
       try clear hx316_5
       try clear hx316_6
       try clear hx316_7
       try clear hx316_8
       try clear hx316_9
       try clear hx317_0
       try clear hx317_1
       try clear hx317_2
       try clear hx317_3
       try clear hx317_4
       try clear hx317_5
       try clear hx317_6
       try clear hx317_7
       try clear hx317_8
       try clear hx317_9
       try clear hx318_0
       try clear hx318_1
       try clear hx318_2
       try clear hx318_3
       try clear hx318_4
       try clear hx318_5
       try clear hx318_6
       try clear hx318_7
       try clear hx318_8
       try clear hx318_9
       try clear hx319_0
       try clear hx319_1
       try clear hx319_2
       try clear hx319_3
       try clear hx319_4
       try clear hx319_5
       try clear hx319_6
       try clear hx319_7
       try clear hx319_8
       try clear hx319_9
       try clear hx321_0
       try clear hx321_1
       try clear hx321_2
       try clear hx321_3
       try clear hx321_4
       try clear hx321_5
       try clear hx321_6
       try clear hx321_7
       try clear hx321_8
       try clear hx321_9
       try clear p2
       try clear p3
       try clear p315
       try clear p316
       try clear p317
       try clear p318
       try clear p319
       try clear p321
       try clear q3
       try clear q315
       try clear q316
       try clear q317
       try clear q318
       try clear q319
       try clear q321
       obtain ⟨x8_2, rfl, HA, HK2, HO_7, HB⟩ := hrel
       cases gk with
       | zero => exact absurd HA.out (by simp [spinnakerlaw09_UnitExpands.l1])
       | succ k2 =>
        have H := HA.out
        clear HA
        simp only [spinnakerlaw09_UnitExpands.l1] at H
        by_cases c26 : x8_2 < (l0.length : Int)
        ·rw [if_pos c26] at H
         have c26b0 : decide (x8_2 < (l0.length : Int)) = true := decide_eq_true c26
         clear c26
         by_cases c27 : 0 ≤ x8_2
         ·rw [if_pos c27] at H
          have c27b0 : decide (0 ≤ x8_2) = true := decide_eq_true c27
          clear c27
          by_cases c28 : ((rd_T70 l0 x8_2).f0) = 0
          ·rw [if_pos c28] at H
           have c28b0 : (((rd_T70 l0 x8_2).f0) == 0) = true := beq_iff_eq.mpr c28
           have c28b1 : (((rd_T70 l0 x8_2).f0) != 0) = false := bne_eq_false_iff_eq.mpr c28
           clear c28
           replace H := Option.bind_eq_some_iff.mp H
           obtain ⟨⟨t329, t330, t331, t332, t333, t334, t335, t336, t337, t338⟩, A290, H⟩ := H
           replace H : (if (!(t329 == ((rd_T70 l0 x8_2).f0)) || ((!(t330 == ((rd_T70 l0 x8_2).f1.f0)) || (!(t331 == ((rd_T70 l0 x8_2).f1.f1)) || (!(t332 == ((rd_T70 l0 x8_2).f1.f2)) || (!(t333 == ((rd_T70 l0 x8_2).f1.f3)) || (!(t334 == ((rd_T70 l0 x8_2).f1.f4)) || (!(t335 == ((rd_T70 l0 x8_2).f1.f5)) || (!(t336 == ((rd_T70 l0 x8_2).f1.f6))))))))) || (!(t337 == ((rd_T70 l0 x8_2).f2)) || (!(t338 == ((rd_T70 l0 x8_2).f3)))))) = true then (some false) else (spinnakerlaw09_UnitExpands.l1 k2 l0 x5_1 t323 (wrap64 (x8_2 + 1)))) = some r := H
           have A29 := Aside0.mk A290
           clear A290
           by_cases c30 : (!(t329 == ((rd_T70 l0 x8_2).f0)) || ((!(t330 == ((rd_T70 l0 x8_2).f1.f0)) || (!(t331 == ((rd_T70 l0 x8_2).f1.f1)) || (!(t332 == ((rd_T70 l0 x8_2).f1.f2)) || (!(t333 == ((rd_T70 l0 x8_2).f1.f3)) || (!(t334 == ((rd_T70 l0 x8_2).f1.f4)) || (!(t335 == ((rd_T70 l0 x8_2).f1.f5)) || (!(t336 == ((rd_T70 l0 x8_2).f1.f6))))))))) || (!(t337 == ((rd_T70 l0 x8_2).f2)) || (!(t338 == ((rd_T70 l0 x8_2).f3)))))) = true
           ·rw [if_pos c30] at H
            have c30b0 : (!(t329 == ((rd_T70 l0 x8_2).f0)) || ((!(t330 == ((rd_T70 l0 x8_2).f1.f0)) || (!(t331 == ((rd_T70 l0 x8_2).f1.f1)) || (!(t332 == ((rd_T70 l0 x8_2).f1.f2)) || (!(t333 == ((rd_T70 l0 x8_2).f1.f3)) || (!(t334 == ((rd_T70 l0 x8_2).f1.f4)) || (!(t335 == ((rd_T70 l0 x8_2).f1.f5)) || (!(t336 == ((rd_T70 l0 x8_2).f1.f6))))))))) || (!(t337 == ((rd_T70 l0 x8_2).f2)) || (!(t338 == ((rd_T70 l0 x8_2).f3)))))) = true := c30
            clear c30
            obtain rfl := Option.some.inj H
            try go_wp2
            have n0_ := Aside0.mk (Kd.R_drew HO_7.out)
            have n1_ := Aside0.mk (below_drew1 HB.out)
            clear HO_7
            clear HB
            have HO_7 := n0_
            have HB := n1_
            clear n0_ n1_
            have p326 : 0 ≤ (x8_2 : Int) := of_decide_eq_true (by first | (with_reducible assumption) | assumption)
            have q326 : x8_2 < (l0.length : Int) := of_decide_eq_true (by first | (with_reducible assumption) | assumption)
            obtain ⟨ad326, e326, hx326_0, hx326_1, hx326_2, hx326_3, hx326_4, hx326_5, hx326_6, hx326_7, hx326_8, hx326_9⟩ := at_T70 HR0.out x8_2 p326 q326
            have hw326_9 := hx326_9
            have hw326_8 := hx326_8
            have hw326_7 := hx326_7
            have hw326_6 := hx326_6
            have hw326_5 := hx326_5
            have hw326_4 := hx326_4
            have hw326_3 := hx326_3
            have hw326_2 := hx326_2
            have hw326_1 := hx326_1
            have hw326_0 := hx326_0
            cases e326
            replace hx326_0 := (HB.out.cell (World.block_lt_of_cell? w _ hx326_0)).trans hx326_0
            replace hx326_1 := (HB.out.cell (World.block_lt_of_cell? w _ hx326_1)).trans hx326_1
            replace hx326_2 := (HB.out.cell (World.block_lt_of_cell? w _ hx326_2)).trans hx326_2
            replace hx326_3 := (HB.out.cell (World.block_lt_of_cell? w _ hx326_3)).trans hx326_3
            replace hx326_4 := (HB.out.cell (World.block_lt_of_cell? w _ hx326_4)).trans hx326_4
            replace hx326_5 := (HB.out.cell (World.block_lt_of_cell? w _ hx326_5)).trans hx326_5
            replace hx326_6 := (HB.out.cell (World.block_lt_of_cell? w _ hx326_6)).trans hx326_6
            replace hx326_7 := (HB.out.cell (World.block_lt_of_cell? w _ hx326_7)).trans hx326_7
            replace hx326_8 := (HB.out.cell (World.block_lt_of_cell? w _ hx326_8)).trans hx326_8
            replace hx326_9 := (HB.out.cell (World.block_lt_of_cell? w _ hx326_9)).trans hx326_9
            replace p326 := eq_true p326
            replace q326 := eq_true q326
            have p327 : 0 ≤ (x8_2 : Int) := of_decide_eq_true (by first | (with_reducible assumption) | assumption)
            have q327 : x8_2 < (l0.length : Int) := of_decide_eq_true (by first | (with_reducible assumption) | assumption)
            obtain ⟨ad327, e327, hx327_0, hx327_1, hx327_2, hx327_3, hx327_4, hx327_5, hx327_6, hx327_7, hx327_8, hx327_9⟩ := at_T70 HR0.out x8_2 p327 q327
            have hw327_9 := hx327_9
            have hw327_8 := hx327_8
            have hw327_7 := hx327_7
            have hw327_6 := hx327_6
            have hw327_5 := hx327_5
            have hw327_4 := hx327_4
            have hw327_3 := hx327_3
            have hw327_2 := hx327_2
            have hw327_1 := hx327_1
            have hw327_0 := hx327_0
            obtain rfl : ad326 = ad327 := (by injection e327)
            replace hx327_0 := (HB.out.cell (World.block_lt_of_cell? w _ hx327_0)).trans hx327_0
            replace hx327_1 := (HB.out.cell (World.block_lt_of_cell? w _ hx327_1)).trans hx327_1
            replace hx327_2 := (HB.out.cell (World.block_lt_of_cell? w _ hx327_2)).trans hx327_2
            replace hx327_3 := (HB.out.cell (World.block_lt_of_cell? w _ hx327_3)).trans hx327_3
            replace hx327_4 := (HB.out.cell (World.block_lt_of_cell? w _ hx327_4)).trans hx327_4
            replace hx327_5 := (HB.out.cell (World.block_lt_of_cell? w _ hx327_5)).trans hx327_5
            replace hx327_6 := (HB.out.cell (World.block_lt_of_cell? w _ hx327_6)).trans hx327_6
            replace hx327_7 := (HB.out.cell (World.block_lt_of_cell? w _ hx327_7)).trans hx327_7
            replace hx327_8 := (HB.out.cell (World.block_lt_of_cell? w _ hx327_8)).trans hx327_8
            replace hx327_9 := (HB.out.cell (World.block_lt_of_cell? w _ hx327_9)).trans hx327_9
            replace p327 := eq_true p327
            replace q327 := eq_true q327
            have p328 : 0 ≤ (x8_2 : Int) := of_decide_eq_true (by first | (with_reducible assumption) | assumption)
            have q328 : x8_2 < (l0.length : Int) := of_decide_eq_true (by first | (with_reducible assumption) | assumption)
            obtain ⟨ad328, e328, hx328_0, hx328_1, hx328_2, hx328_3, hx328_4, hx328_5, hx328_6, hx328_7, hx328_8, hx328_9⟩ := at_T70 HR0.out x8_2 p328 q328
            have hw328_9 := hx328_9
            have hw328_8 := hx328_8
            have hw328_7 := hx328_7
            have hw328_6 := hx328_6
            have hw328_5 := hx328_5
            have hw328_4 := hx328_4
            have hw328_3 := hx328_3
            have hw328_2 := hx328_2
            have hw328_1 := hx328_1
            have hw328_0 := hx328_0
            obtain rfl : ad326 = ad328 := (by injection e328)
            replace hx328_0 := (HB.out.cell (World.block_lt_of_cell? w _ hx328_0)).trans hx328_0
            replace hx328_1 := (HB.out.cell (World.block_lt_of_cell? w _ hx328_1)).trans hx328_1
            replace hx328_2 := (HB.out.cell (World.block_lt_of_cell? w _ hx328_2)).trans hx328_2
            replace hx328_3 := (HB.out.cell (World.block_lt_of_cell? w _ hx328_3)).trans hx328_3
            replace hx328_4 := (HB.out.cell (World.block_lt_of_cell? w _ hx328_4)).trans hx328_4
            replace hx328_5 := (HB.out.cell (World.block_lt_of_cell? w _ hx328_5)).trans hx328_5
            replace hx328_6 := (HB.out.cell (World.block_lt_of_cell? w _ hx328_6)).trans hx328_6
            replace hx328_7 := (HB.out.cell (World.block_lt_of_cell? w _ hx328_7)).trans hx328_7
            replace hx328_8 := (HB.out.cell (World.block_lt_of_cell? w _ hx328_8)).trans hx328_8
            replace hx328_9 := (HB.out.cell (World.block_lt_of_cell? w _ hx328_9)).trans hx328_9
            replace p328 := eq_true p328
            replace q328 := eq_true q328
            have p339 : 0 ≤ (x8_2 : Int) := of_decide_eq_true (by first | (with_reducible assumption) | assumption)
            have q339 : x8_2 < (l0.length : Int) := of_decide_eq_true (by first | (with_reducible assumption) | assumption)
            obtain ⟨ad339, e339, hx339_0, hx339_1, hx339_2, hx339_3, hx339_4, hx339_5, hx339_6, hx339_7, hx339_8, hx339_9⟩ := at_T70 HR0.out x8_2 p339 q339
            have hw339_9 := hx339_9
            have hw339_8 := hx339_8
            have hw339_7 := hx339_7
            have hw339_6 := hx339_6
            have hw339_5 := hx339_5
            have hw339_4 := hx339_4
            have hw339_3 := hx339_3
            have hw339_2 := hx339_2
            have hw339_1 := hx339_1
            have hw339_0 := hx339_0
            obtain rfl : ad326 = ad339 := (by injection e339)
            replace hx339_0 := (HB.out.cell (World.block_lt_of_cell? w _ hx339_0)).trans hx339_0
            replace hx339_1 := (HB.out.cell (World.block_lt_of_cell? w _ hx339_1)).trans hx339_1
            replace hx339_2 := (HB.out.cell (World.block_lt_of_cell? w _ hx339_2)).trans hx339_2
            replace hx339_3 := (HB.out.cell (World.block_lt_of_cell? w _ hx339_3)).trans hx339_3
            replace hx339_4 := (HB.out.cell (World.block_lt_of_cell? w _ hx339_4)).trans hx339_4
            replace hx339_5 := (HB.out.cell (World.block_lt_of_cell? w _ hx339_5)).trans hx339_5
            replace hx339_6 := (HB.out.cell (World.block_lt_of_cell? w _ hx339_6)).trans hx339_6
            replace hx339_7 := (HB.out.cell (World.block_lt_of_cell? w _ hx339_7)).trans hx339_7
            replace hx339_8 := (HB.out.cell (World.block_lt_of_cell? w _ hx339_8)).trans hx339_8
            replace hx339_9 := (HB.out.cell (World.block_lt_of_cell? w _ hx339_9)).trans hx339_9
            replace p339 := eq_true p339
            replace q339 := eq_true q339
            refine start_ (n := 24) (S := fun w' => w'.cell? (ad326.add ((x8_2).toNat * 10)) = some (.int .i64 ((rd_T70 l0 x8_2).f0)) ∧ w'.cell? ⟨(ad326.add ((x8_2).toNat * 10)).block, (ad326.add ((x8_2).toNat * 10)).off + 1, none⟩ = some (.int .i64 ((rd_T70 l0 x8_2).f1.f0)) ∧ w'.cell? ⟨(ad326.add ((x8_2).toNat * 10)).block, (ad326.add ((x8_2).toNat * 10)).off + 2, none⟩ = some (.int .i64 ((rd_T70 l0 x8_2).f1.f1)) ∧ w'.cell? ⟨(ad326.add ((x8_2).toNat * 10)).block, (ad326.add ((x8_2).toNat * 10)).off + 3, none⟩ = some (.int .i64 ((rd_T70 l0 x8_2).f1.f2)) ∧ w'.cell? ⟨(ad326.add ((x8_2).toNat * 10)).block, (ad326.add ((x8_2).toNat * 10)).off + 4, none⟩ = some (.int .i64 ((rd_T70 l0 x8_2).f1.f3)) ∧ w'.cell? ⟨(ad326.add ((x8_2).toNat * 10)).block, (ad326.add ((x8_2).toNat * 10)).off + 5, none⟩ = some (.int .i64 ((rd_T70 l0 x8_2).f1.f4)) ∧ w'.cell? ⟨(ad326.add ((x8_2).toNat * 10)).block, (ad326.add ((x8_2).toNat * 10)).off + 6, none⟩ = some (.bool ((rd_T70 l0 x8_2).f1.f5)) ∧ w'.cell? ⟨(ad326.add ((x8_2).toNat * 10)).block, (ad326.add ((x8_2).toNat * 10)).off + 7, none⟩ = some (.bool ((rd_T70 l0 x8_2).f1.f6)) ∧ w'.cell? ⟨(ad326.add ((x8_2).toNat * 10)).block, (ad326.add ((x8_2).toNat * 10)).off + 8, none⟩ = some (.int .i64 ((rd_T70 l0 x8_2).f2)) ∧ w'.cell? ⟨(ad326.add ((x8_2).toNat * 10)).block, (ad326.add ((x8_2).toNat * 10)).off + 9, none⟩ = some (.int .i64 ((rd_T70 l0 x8_2).f3)) ∧ w'.cell? (ad326.add ((x8_2).toNat * 10)) = some (.int .i64 ((rd_T70 l0 x8_2).f0)) ∧ w'.cell? ⟨(ad326.add ((x8_2).toNat * 10)).block, (ad326.add ((x8_2).toNat * 10)).off + 1, none⟩ = some (.int .i64 ((rd_T70 l0 x8_2).f1.f0)) ∧ w'.cell? ⟨(ad326.add ((x8_2).toNat * 10)).block, (ad326.add ((x8_2).toNat * 10)).off + 2, none⟩ = some (.int .i64 ((rd_T70 l0 x8_2).f1.f1)) ∧ w'.cell? ⟨(ad326.add ((x8_2).toNat * 10)).block, (ad326.add ((x8_2).toNat * 10)).off + 3, none⟩ = some (.int .i64 ((rd_T70 l0 x8_2).f1.f2)) ∧ w'.cell? ⟨(ad326.add ((x8_2).toNat * 10)).block, (ad326.add ((x8_2).toNat * 10)).off + 4, none⟩ = some (.int .i64 ((rd_T70 l0 x8_2).f1.f3)) ∧ w'.cell? ⟨(ad326.add ((x8_2).toNat * 10)).block, (ad326.add ((x8_2).toNat * 10)).off + 5, none⟩ = some (.int .i64 ((rd_T70 l0 x8_2).f1.f4)) ∧ w'.cell? ⟨(ad326.add ((x8_2).toNat * 10)).block, (ad326.add ((x8_2).toNat * 10)).off + 6, none⟩ = some (.bool ((rd_T70 l0 x8_2).f1.f5)) ∧ w'.cell? ⟨(ad326.add ((x8_2).toNat * 10)).block, (ad326.add ((x8_2).toNat * 10)).off + 7, none⟩ = some (.bool ((rd_T70 l0 x8_2).f1.f6)) ∧ w'.cell? ⟨(ad326.add ((x8_2).toNat * 10)).block, (ad326.add ((x8_2).toNat * 10)).off + 8, none⟩ = some (.int .i64 ((rd_T70 l0 x8_2).f2)) ∧ w'.cell? ⟨(ad326.add ((x8_2).toNat * 10)).block, (ad326.add ((x8_2).toNat * 10)).off + 9, none⟩ = some (.int .i64 ((rd_T70 l0 x8_2).f3)) ∧ w'.cell? (ad326.add ((x8_2).toNat * 10)) = some (.int .i64 ((rd_T70 l0 x8_2).f0)) ∧ w'.cell? ⟨(ad326.add ((x8_2).toNat * 10)).block, (ad326.add ((x8_2).toNat * 10)).off + 1, none⟩ = some (.int .i64 ((rd_T70 l0 x8_2).f1.f0)) ∧ w'.cell? ⟨(ad326.add ((x8_2).toNat * 10)).block, (ad326.add ((x8_2).toNat * 10)).off + 2, none⟩ = some (.int .i64 ((rd_T70 l0 x8_2).f1.f1)) ∧ w'.cell? ⟨(ad326.add ((x8_2).toNat * 10)).block, (ad326.add ((x8_2).toNat * 10)).off + 3, none⟩ = some (.int .i64 ((rd_T70 l0 x8_2).f1.f2)) ∧ w'.cell? ⟨(ad326.add ((x8_2).toNat * 10)).block, (ad326.add ((x8_2).toNat * 10)).off + 4, none⟩ = some (.int .i64 ((rd_T70 l0 x8_2).f1.f3)) ∧ w'.cell? ⟨(ad326.add ((x8_2).toNat * 10)).block, (ad326.add ((x8_2).toNat * 10)).off + 5, none⟩ = some (.int .i64 ((rd_T70 l0 x8_2).f1.f4)) ∧ w'.cell? ⟨(ad326.add ((x8_2).toNat * 10)).block, (ad326.add ((x8_2).toNat * 10)).off + 6, none⟩ = some (.bool ((rd_T70 l0 x8_2).f1.f5)) ∧ w'.cell? ⟨(ad326.add ((x8_2).toNat * 10)).block, (ad326.add ((x8_2).toNat * 10)).off + 7, none⟩ = some (.bool ((rd_T70 l0 x8_2).f1.f6)) ∧ w'.cell? ⟨(ad326.add ((x8_2).toNat * 10)).block, (ad326.add ((x8_2).toNat * 10)).off + 8, none⟩ = some (.int .i64 ((rd_T70 l0 x8_2).f2)) ∧ w'.cell? ⟨(ad326.add ((x8_2).toNat * 10)).block, (ad326.add ((x8_2).toNat * 10)).off + 9, none⟩ = some (.int .i64 ((rd_T70 l0 x8_2).f3)) ∧ w'.cell? (ad326.add ((x8_2).toNat * 10)) = some (.int .i64 ((rd_T70 l0 x8_2).f0)) ∧ w'.cell? ⟨(ad326.add ((x8_2).toNat * 10)).block, (ad326.add ((x8_2).toNat * 10)).off + 1, none⟩ = some (.int .i64 ((rd_T70 l0 x8_2).f1.f0)) ∧ w'.cell? ⟨(ad326.add ((x8_2).toNat * 10)).block, (ad326.add ((x8_2).toNat * 10)).off + 2, none⟩ = some (.int .i64 ((rd_T70 l0 x8_2).f1.f1)) ∧ w'.cell? ⟨(ad326.add ((x8_2).toNat * 10)).block, (ad326.add ((x8_2).toNat * 10)).off + 3, none⟩ = some (.int .i64 ((rd_T70 l0 x8_2).f1.f2)) ∧ w'.cell? ⟨(ad326.add ((x8_2).toNat * 10)).block, (ad326.add ((x8_2).toNat * 10)).off + 4, none⟩ = some (.int .i64 ((rd_T70 l0 x8_2).f1.f3)) ∧ w'.cell? ⟨(ad326.add ((x8_2).toNat * 10)).block, (ad326.add ((x8_2).toNat * 10)).off + 5, none⟩ = some (.int .i64 ((rd_T70 l0 x8_2).f1.f4)) ∧ w'.cell? ⟨(ad326.add ((x8_2).toNat * 10)).block, (ad326.add ((x8_2).toNat * 10)).off + 6, none⟩ = some (.bool ((rd_T70 l0 x8_2).f1.f5)) ∧ w'.cell? ⟨(ad326.add ((x8_2).toNat * 10)).block, (ad326.add ((x8_2).toNat * 10)).off + 7, none⟩ = some (.bool ((rd_T70 l0 x8_2).f1.f6)) ∧ w'.cell? ⟨(ad326.add ((x8_2).toNat * 10)).block, (ad326.add ((x8_2).toNat * 10)).off + 8, none⟩ = some (.int .i64 ((rd_T70 l0 x8_2).f2)) ∧ w'.cell? ⟨(ad326.add ((x8_2).toNat * 10)).block, (ad326.add ((x8_2).toNat * 10)).off + 9, none⟩ = some (.int .i64 ((rd_T70 l0 x8_2).f3))) (ds := []) (fl 24 0) (by kernel_rfl) rfl rfl ⟨((HB.out.cell (World.block_lt_of_cell? w _ hw326_0)).trans hw326_0), ((HB.out.cell (World.block_lt_of_cell? w _ hw326_1)).trans hw326_1), ((HB.out.cell (World.block_lt_of_cell? w _ hw326_2)).trans hw326_2), ((HB.out.cell (World.block_lt_of_cell? w _ hw326_3)).trans hw326_3), ((HB.out.cell (World.block_lt_of_cell? w _ hw326_4)).trans hw326_4), ((HB.out.cell (World.block_lt_of_cell? w _ hw326_5)).trans hw326_5), ((HB.out.cell (World.block_lt_of_cell? w _ hw326_6)).trans hw326_6), ((HB.out.cell (World.block_lt_of_cell? w _ hw326_7)).trans hw326_7), ((HB.out.cell (World.block_lt_of_cell? w _ hw326_8)).trans hw326_8), ((HB.out.cell (World.block_lt_of_cell? w _ hw326_9)).trans hw326_9), ((HB.out.cell (World.block_lt_of_cell? w _ hw327_0)).trans hw327_0), ((HB.out.cell (World.block_lt_of_cell? w _ hw327_1)).trans hw327_1), ((HB.out.cell (World.block_lt_of_cell? w _ hw327_2)).trans hw327_2), ((HB.out.cell (World.block_lt_of_cell? w _ hw327_3)).trans hw327_3), ((HB.out.cell (World.block_lt_of_cell? w _ hw327_4)).trans hw327_4), ((HB.out.cell (World.block_lt_of_cell? w _ hw327_5)).trans hw327_5), ((HB.out.cell (World.block_lt_of_cell? w _ hw327_6)).trans hw327_6), ((HB.out.cell (World.block_lt_of_cell? w _ hw327_7)).trans hw327_7), ((HB.out.cell (World.block_lt_of_cell? w _ hw327_8)).trans hw327_8), ((HB.out.cell (World.block_lt_of_cell? w _ hw327_9)).trans hw327_9), ((HB.out.cell (World.block_lt_of_cell? w _ hw328_0)).trans hw328_0), ((HB.out.cell (World.block_lt_of_cell? w _ hw328_1)).trans hw328_1), ((HB.out.cell (World.block_lt_of_cell? w _ hw328_2)).trans hw328_2), ((HB.out.cell (World.block_lt_of_cell? w _ hw328_3)).trans hw328_3), ((HB.out.cell (World.block_lt_of_cell? w _ hw328_4)).trans hw328_4), ((HB.out.cell (World.block_lt_of_cell? w _ hw328_5)).trans hw328_5), ((HB.out.cell (World.block_lt_of_cell? w _ hw328_6)).trans hw328_6), ((HB.out.cell (World.block_lt_of_cell? w _ hw328_7)).trans hw328_7), ((HB.out.cell (World.block_lt_of_cell? w _ hw328_8)).trans hw328_8), ((HB.out.cell (World.block_lt_of_cell? w _ hw328_9)).trans hw328_9), ((HB.out.cell (World.block_lt_of_cell? w _ hw339_0)).trans hw339_0), ((HB.out.cell (World.block_lt_of_cell? w _ hw339_1)).trans hw339_1), ((HB.out.cell (World.block_lt_of_cell? w _ hw339_2)).trans hw339_2), ((HB.out.cell (World.block_lt_of_cell? w _ hw339_3)).trans hw339_3), ((HB.out.cell (World.block_lt_of_cell? w _ hw339_4)).trans hw339_4), ((HB.out.cell (World.block_lt_of_cell? w _ hw339_5)).trans hw339_5), ((HB.out.cell (World.block_lt_of_cell? w _ hw339_6)).trans hw339_6), ((HB.out.cell (World.block_lt_of_cell? w _ hw339_7)).trans hw339_7), ((HB.out.cell (World.block_lt_of_cell? w _ hw339_8)).trans hw339_8), ((HB.out.cell (World.block_lt_of_cell? w _ hw339_9)).trans hw339_9)⟩ (fun hHeld => ?_); refine with_tabW spinnakerlaw09_UnitExpands.tab18 spinnakerlaw09_UnitExpands.bits18 (fun HT_ HW_ => ?_)
            generalize wr.drew = w31 at HO_7 HB hx326_0 hx326_1 hx326_2 hx326_3 hx326_4 hx326_5 hx326_6 hx326_7 hx326_8 hx326_9 hx327_0 hx327_1 hx327_2 hx327_3 hx327_4 hx327_5 hx327_6 hx327_7 hx327_8 hx327_9 hx328_0 hx328_1 hx328_2 hx328_3 hx328_4 hx328_5 hx328_6 hx328_7 hx328_8 hx328_9 hx339_0 hx339_1 hx339_2 hx339_3 hx339_4 hx339_5 hx339_6 hx339_7 hx339_8 hx339_9 hHeld ⊢
            refine pure_ (i := 0) (N := some 73) (v := ?_) (a' := ?_) (fl 24 1) rfl rfl (any_of HT_.out (by kernel_rfl)) (fun _ _ _ h => h) (Or.inl ⟨by rfl, ?_⟩) ?_ ?_
            rotate_left
            ·intro w'
             go_simp
             with_reducible rfl
            rotate_left
            ·simp only [Act.put, List.setIfInBounds_toArray, List.set_cons_zero, List.set_cons_succ, i64_w, i32_w]
             rfl
            refine pure_ (i := 1) (N := some 74) (v := ?_) (a' := ?_) (fl 24 2) rfl rfl (any_of HT_.out (by kernel_rfl)) (fun _ _ _ h => h) (Or.inl ⟨by rfl, ?_⟩) ?_ ?_
            rotate_left
            ·intro w'
             go_simp
             with_reducible rfl
            rotate_left
            ·simp only [Act.put, List.setIfInBounds_toArray, List.set_cons_zero, List.set_cons_succ, i64_w, i32_w]
             rfl
            refine pure_ (i := 2) (N := some 75) (v := ?_) (a' := ?_) (fl 24 3) rfl rfl (any_of HT_.out (by kernel_rfl)) (fun _ _ _ h => h) (Or.inl ⟨by rfl, ?_⟩) ?_ ?_
            rotate_left
            ·intro w'
             go_simp
             with_reducible rfl
            rotate_left
            ·simp only [Act.put, List.setIfInBounds_toArray, List.set_cons_zero, List.set_cons_succ, i64_w, i32_w]
             rfl
            refine pure_ (i := 3) (N := some 76) (v := ?_) (a' := ?_) (fl 24 4) rfl rfl (any_of HT_.out (by kernel_rfl)) (fun _ _ _ h => h) (Or.inl ⟨by rfl, ?_⟩) ?_ ?_
            rotate_left
            ·intro w'
             go_simp
             with_reducible rfl
            rotate_left
            ·simp only [Act.put, List.setIfInBounds_toArray, List.set_cons_zero, List.set_cons_succ, i64_w, i32_w]
             rfl
            refine take_ (i := 4) (N := some 77) (v := ?_) (a' := ?_) (fl 24 5) rfl rfl (take_ofW HT_.out HW_.out (by kernel_rfl)) (fun _ _ _ h => h) (Or.inl ⟨by rfl, ?_⟩) hHeld ?_ ?_
            rotate_left
            ·rintro w' ⟨s0, s1, s2, s3, s4, s5, s6, s7, s8, s9, s10, s11, s12, s13, s14, s15, s16, s17, s18, s19, s20, s21, s22, s23, s24, s25, s26, s27, s28, s29, s30, s31, s32, s33, s34, s35, s36, s37, s38, s39⟩
             go_simp
             with_reducible rfl
            rotate_left
            ·simp only [Act.put, List.setIfInBounds_toArray, List.set_cons_zero, List.set_cons_succ, i64_w, i32_w]
             rfl
            refine pure_ (i := 5) (N := some 78) (v := ?_) (a' := ?_) (fl 24 6) rfl rfl (any_of HT_.out (by kernel_rfl)) (fun _ _ _ h => h) (Or.inl ⟨by rfl, ?_⟩) ?_ ?_
            rotate_left
            ·intro w'
             go_simp
             with_reducible rfl
            rotate_left
            ·simp only [Act.put, List.setIfInBounds_toArray, List.set_cons_zero, List.set_cons_succ, i64_w, i32_w]
             rfl
            refine pure_ (i := 6) (N := some 79) (v := ?_) (a' := ?_) (fl 24 7) rfl rfl (any_of HT_.out (by kernel_rfl)) (fun _ _ _ h => h) (Or.inl ⟨by rfl, ?_⟩) ?_ ?_
            rotate_left
            ·intro w'
             go_simp
             with_reducible rfl
            rotate_left
            ·simp only [Act.put, List.setIfInBounds_toArray, List.set_cons_zero, List.set_cons_succ, i64_w, i32_w]
             rfl
            refine pure_ (i := 7) (N := some 80) (v := ?_) (a' := ?_) (fl 24 8) rfl rfl (any_of HT_.out (by kernel_rfl)) (fun _ _ _ h => h) (Or.inl ⟨by rfl, ?_⟩) ?_ ?_
            rotate_left
            ·intro w'
             go_simp
             with_reducible rfl
            rotate_left
            ·simp only [Act.put, List.setIfInBounds_toArray, List.set_cons_zero, List.set_cons_succ, i64_w, i32_w]
             rfl
            refine pure_ (i := 8) (N := some 81) (v := ?_) (a' := ?_) (fl 24 9) rfl rfl (any_of HT_.out (by kernel_rfl)) (fun _ _ _ h => h) (Or.inl ⟨by rfl, ?_⟩) ?_ ?_
            rotate_left
            ·intro w'
             go_simp
             with_reducible rfl
            rotate_left
            ·simp only [Act.put, List.setIfInBounds_toArray, List.set_cons_zero, List.set_cons_succ, i64_w, i32_w]
             rfl
            refine pure_ (i := 9) (N := some 82) (v := ?_) (a' := ?_) (fl 24 10) rfl rfl (any_of HT_.out (by kernel_rfl)) (fun _ _ _ h => h) (Or.inl ⟨by rfl, ?_⟩) ?_ ?_
            rotate_left
            ·intro w'
             go_simp
             with_reducible rfl
            rotate_left
            ·simp only [Act.put, List.setIfInBounds_toArray, List.set_cons_zero, List.set_cons_succ, i64_w, i32_w]
             rfl
            refine pure_ (i := 10) (N := some 83) (v := ?_) (a' := ?_) (fl 24 11) rfl rfl (any_of HT_.out (by kernel_rfl)) (fun _ _ _ h => h) (Or.inl ⟨by rfl, ?_⟩) ?_ ?_
            rotate_left
            ·intro w'
             go_simp
             with_reducible rfl
            rotate_left
            ·simp only [Act.put, List.setIfInBounds_toArray, List.set_cons_zero, List.set_cons_succ, i64_w, i32_w]
             rfl
            refine pure_ (i := 12) (N := some 85) (v := ?_) (a' := ?_) #[true, true, true, true, true, true, true, true, true, true, true, false, true, false, false, false, false, false, false, false, false, false, false, false] rfl rfl (any_of HT_.out (by kernel_rfl)) (fun _ _ _ h => h) (Or.inl ⟨by rfl, ?_⟩) ?_ ?_
            rotate_left
            ·intro w'
             go_simp
             with_reducible rfl
            rotate_left
            ·simp only [Act.put, List.setIfInBounds_toArray, List.set_cons_zero, List.set_cons_succ, i64_w, i32_w]
             rfl
            refine pure_ (i := 13) (N := some 86) (v := ?_) (a' := ?_) #[true, true, true, true, true, true, true, true, true, true, true, false, true, true, false, false, false, false, false, false, false, false, false, false] rfl rfl (any_of HT_.out (by kernel_rfl)) (fun _ _ _ h => h) (Or.inl ⟨by rfl, ?_⟩) ?_ ?_
            rotate_left
            ·intro w'
             go_simp
             with_reducible rfl
            rotate_left
            ·simp only [Act.put, List.setIfInBounds_toArray, List.set_cons_zero, List.set_cons_succ, i64_w, i32_w]
             rfl
            refine pure_ (i := 14) (N := some 87) (v := ?_) (a' := ?_) #[true, true, true, true, true, true, true, true, true, true, true, false, true, true, true, false, false, false, false, false, false, false, false, false] rfl rfl (any_of HT_.out (by kernel_rfl)) (fun _ _ _ h => h) (Or.inl ⟨by rfl, ?_⟩) ?_ ?_
            rotate_left
            ·intro w'
             go_simp
             with_reducible rfl
            rotate_left
            ·simp only [Act.put, List.setIfInBounds_toArray, List.set_cons_zero, List.set_cons_succ, i64_w, i32_w]
             rfl
            refine pure_ (i := 15) (N := some 88) (v := ?_) (a' := ?_) #[true, true, true, true, true, true, true, true, true, true, true, false, true, true, true, true, false, false, false, false, false, false, false, false] rfl rfl (any_of HT_.out (by kernel_rfl)) (fun _ _ _ h => h) (Or.inl ⟨by rfl, ?_⟩) ?_ ?_
            rotate_left
            ·intro w'
             go_simp
             with_reducible rfl
            rotate_left
            ·simp only [Act.put, List.setIfInBounds_toArray, List.set_cons_zero, List.set_cons_succ, i64_w, i32_w]
             rfl
            refine pure_ (i := 18) (N := some 91) (v := ?_) (a' := ?_) #[true, true, true, true, true, true, true, true, true, true, true, false, true, true, true, true, false, false, true, false, false, false, false, false] rfl rfl (any_of HT_.out (by kernel_rfl)) (fun _ _ _ h => h) (Or.inl ⟨by rfl, ?_⟩) ?_ ?_
            rotate_left
            ·intro w'
             go_simp
             with_reducible rfl
            rotate_left
            ·simp only [Act.put, List.setIfInBounds_toArray, List.set_cons_zero, List.set_cons_succ, i64_w, i32_w]
             rfl
            refine pure_ (i := 19) (N := some 92) (v := ?_) (a' := ?_) #[true, true, true, true, true, true, true, true, true, true, true, false, true, true, true, true, false, false, true, true, false, false, false, false] rfl rfl (any_of HT_.out (by kernel_rfl)) (fun _ _ _ h => h) (Or.inl ⟨by rfl, ?_⟩) ?_ ?_
            rotate_left
            ·intro w'
             go_simp
             with_reducible rfl
            rotate_left
            ·simp only [Act.put, List.setIfInBounds_toArray, List.set_cons_zero, List.set_cons_succ, i64_w, i32_w]
             rfl
            refine pure_ (i := 20) (N := some 93) (v := ?_) (a' := ?_) #[true, true, true, true, true, true, true, true, true, true, true, false, true, true, true, true, false, false, true, true, true, false, false, false] rfl rfl (any_of HT_.out (by kernel_rfl)) (fun _ _ _ h => h) (Or.inl ⟨by rfl, ?_⟩) ?_ ?_
            rotate_left
            ·intro w'
             go_simp
             with_reducible rfl
            rotate_left
            ·simp only [Act.put, List.setIfInBounds_toArray, List.set_cons_zero, List.set_cons_succ, i64_w, i32_w]
             rfl
            refine take_ (i := 11) (N := some 84) (v := ?_) (a' := ?_) #[true, true, true, true, true, true, true, true, true, true, true, true, true, true, true, true, false, false, true, true, true, false, false, false] rfl rfl (take_ofW HT_.out HW_.out (by kernel_rfl)) (fun _ _ _ h => h) (Or.inl ⟨by rfl, ?_⟩) hHeld ?_ ?_
            rotate_left
            ·rintro w' ⟨s0, s1, s2, s3, s4, s5, s6, s7, s8, s9, s10, s11, s12, s13, s14, s15, s16, s17, s18, s19, s20, s21, s22, s23, s24, s25, s26, s27, s28, s29, s30, s31, s32, s33, s34, s35, s36, s37, s38, s39⟩
             go_simp
             with_reducible rfl
            rotate_left
            ·simp only [Act.put, List.setIfInBounds_toArray, List.set_cons_zero, List.set_cons_succ, i64_w, i32_w]
             rfl
            refine take_ (i := 16) (N := some 89) (v := ?_) (a' := ?_) #[true, true, true, true, true, true, true, true, true, true, true, true, true, true, true, true, true, false, true, true, true, false, false, false] rfl rfl (take_ofW HT_.out HW_.out (by kernel_rfl)) (fun _ _ _ h => h) (Or.inl ⟨by rfl, ?_⟩) hHeld ?_ ?_
            rotate_left
            ·rintro w' ⟨s0, s1, s2, s3, s4, s5, s6, s7, s8, s9, s10, s11, s12, s13, s14, s15, s16, s17, s18, s19, s20, s21, s22, s23, s24, s25, s26, s27, s28, s29, s30, s31, s32, s33, s34, s35, s36, s37, s38, s39⟩
             go_simp
             with_reducible rfl
            rotate_left
            ·simp only [Act.put, List.setIfInBounds_toArray, List.set_cons_zero, List.set_cons_succ, i64_w, i32_w]
             rfl
            refine take_ (i := 21) (N := some 94) (v := ?_) (a' := ?_) #[true, true, true, true, true, true, true, true, true, true, true, true, true, true, true, true, true, false, true, true, true, true, false, false] rfl rfl (take_ofW HT_.out HW_.out (by kernel_rfl)) (fun _ _ _ h => h) (Or.inl ⟨by rfl, ?_⟩) hHeld ?_ ?_
            rotate_left
            ·rintro w' ⟨s0, s1, s2, s3, s4, s5, s6, s7, s8, s9, s10, s11, s12, s13, s14, s15, s16, s17, s18, s19, s20, s21, s22, s23, s24, s25, s26, s27, s28, s29, s30, s31, s32, s33, s34, s35, s36, s37, s38, s39⟩
             go_simp
             with_reducible rfl
            rotate_left
            ·simp only [Act.put, List.setIfInBounds_toArray, List.set_cons_zero, List.set_cons_succ, i64_w, i32_w]
             rfl
            refine one_ (i := 17) (N := some 90) (fl 24 22) rfl rfl (one_of HT_.out (by kernel_rfl)) (by decide) (fun K hK => ?_)
            refine goes_ Tryd.func50 (by kernel_rfl) rfl #[.agg #[.int .i64 ((rd_T70 l0 x8_2).f1.f0), .int .i64 ((rd_T70 l0 x8_2).f1.f1), .int .i64 ((rd_T70 l0 x8_2).f1.f2), .int .i64 ((rd_T70 l0 x8_2).f1.f3), .int .i64 ((rd_T70 l0 x8_2).f1.f4), .bool ((rd_T70 l0 x8_2).f1.f5), .bool ((rd_T70 l0 x8_2).f1.f6)], .int .i64 ((rd_T70 l0 x8_2).f3)] (by rfl) rfl rfl (by (try simp only [List.map_toArray, List.map_cons, List.map_nil]); first | done | rfl | (simp only [List.length_drop, List.length_take]; rfl)) ?_
            with_reducible refine (unit_Instr.calls ((rd_T70 l0 x8_2).f1.f0) ((rd_T70 l0 x8_2).f1.f1) ((rd_T70 l0 x8_2).f1.f2) ((rd_T70 l0 x8_2).f1.f3) ((rd_T70 l0 x8_2).f1.f4) ((rd_T70 l0 x8_2).f1.f5) ((rd_T70 l0 x8_2).f1.f6) ((rd_T70 l0 x8_2).f3) t329 t330 t331 t332 t333 t334 t335 t336 t337 t338 _ A29.out).mono ?_
            rintro e w32 ⟨rfl, hb⟩
            refine ⟨_, rfl, ?_⟩
            have n0_ := Aside0.mk (Kd.R_below (by (with_reducible repeat (first | apply Kd.R_alloc | apply Kd.R_drewN | apply Kd.R_drew)); exact HO_7.out) hb)
            have n1_ := Aside0.mk (below_step (by repeat (first | (with_reducible first | exact HB.out | apply below_alloc | apply pw_below_drewN | apply below_drew1) | exact HB.out)) hb)
            clear HO_7
            clear HB
            have HO_7 := n0_
            have HB := n1_
            clear n0_ n1_
            (try clear hb)
            (try clear hb2)
            (try clear hk)
            (try clear hi)
            refine hK.out _ _ ⟨((HB.out.cell (World.block_lt_of_cell? w _ hw326_0)).trans hw326_0), ((HB.out.cell (World.block_lt_of_cell? w _ hw326_1)).trans hw326_1), ((HB.out.cell (World.block_lt_of_cell? w _ hw326_2)).trans hw326_2), ((HB.out.cell (World.block_lt_of_cell? w _ hw326_3)).trans hw326_3), ((HB.out.cell (World.block_lt_of_cell? w _ hw326_4)).trans hw326_4), ((HB.out.cell (World.block_lt_of_cell? w _ hw326_5)).trans hw326_5), ((HB.out.cell (World.block_lt_of_cell? w _ hw326_6)).trans hw326_6), ((HB.out.cell (World.block_lt_of_cell? w _ hw326_7)).trans hw326_7), ((HB.out.cell (World.block_lt_of_cell? w _ hw326_8)).trans hw326_8), ((HB.out.cell (World.block_lt_of_cell? w _ hw326_9)).trans hw326_9), ((HB.out.cell (World.block_lt_of_cell? w _ hw327_0)).trans hw327_0), ((HB.out.cell (World.block_lt_of_cell? w _ hw327_1)).trans hw327_1), ((HB.out.cell (World.block_lt_of_cell? w _ hw327_2)).trans hw327_2), ((HB.out.cell (World.block_lt_of_cell? w _ hw327_3)).trans hw327_3), ((HB.out.cell (World.block_lt_of_cell? w _ hw327_4)).trans hw327_4), ((HB.out.cell (World.block_lt_of_cell? w _ hw327_5)).trans hw327_5), ((HB.out.cell (World.block_lt_of_cell? w _ hw327_6)).trans hw327_6), ((HB.out.cell (World.block_lt_of_cell? w _ hw327_7)).trans hw327_7), ((HB.out.cell (World.block_lt_of_cell? w _ hw327_8)).trans hw327_8), ((HB.out.cell (World.block_lt_of_cell? w _ hw327_9)).trans hw327_9), ((HB.out.cell (World.block_lt_of_cell? w _ hw328_0)).trans hw328_0), ((HB.out.cell (World.block_lt_of_cell? w _ hw328_1)).trans hw328_1), ((HB.out.cell (World.block_lt_of_cell? w _ hw328_2)).trans hw328_2), ((HB.out.cell (World.block_lt_of_cell? w _ hw328_3)).trans hw328_3), ((HB.out.cell (World.block_lt_of_cell? w _ hw328_4)).trans hw328_4), ((HB.out.cell (World.block_lt_of_cell? w _ hw328_5)).trans hw328_5), ((HB.out.cell (World.block_lt_of_cell? w _ hw328_6)).trans hw328_6), ((HB.out.cell (World.block_lt_of_cell? w _ hw328_7)).trans hw328_7), ((HB.out.cell (World.block_lt_of_cell? w _ hw328_8)).trans hw328_8), ((HB.out.cell (World.block_lt_of_cell? w _ hw328_9)).trans hw328_9), ((HB.out.cell (World.block_lt_of_cell? w _ hw339_0)).trans hw339_0), ((HB.out.cell (World.block_lt_of_cell? w _ hw339_1)).trans hw339_1), ((HB.out.cell (World.block_lt_of_cell? w _ hw339_2)).trans hw339_2), ((HB.out.cell (World.block_lt_of_cell? w _ hw339_3)).trans hw339_3), ((HB.out.cell (World.block_lt_of_cell? w _ hw339_4)).trans hw339_4), ((HB.out.cell (World.block_lt_of_cell? w _ hw339_5)).trans hw339_5), ((HB.out.cell (World.block_lt_of_cell? w _ hw339_6)).trans hw339_6), ((HB.out.cell (World.block_lt_of_cell? w _ hw339_7)).trans hw339_7), ((HB.out.cell (World.block_lt_of_cell? w _ hw339_8)).trans hw339_8), ((HB.out.cell (World.block_lt_of_cell? w _ hw339_9)).trans hw339_9)⟩ (fun hHeld => ?_)
            clear hK K
            refine norm_ (a' := ?_) ?_ ?_
            rotate_left
            ·show Act.put _ (some 90) _ = _
             simp only [Act.put, List.setIfInBounds_toArray, List.set_cons_zero, List.set_cons_succ, i64_w, i32_w]
             rfl
            refine pure_ (i := 22) (N := some 95) (v := ?_) (a' := ?_) (fl 24 23) rfl rfl (any_of HT_.out (by kernel_rfl)) (fun _ _ _ h => h) (Or.inl ⟨by rfl, ?_⟩) ?_ ?_
            rotate_left
            ·intro w'
             go_simp
             with_reducible rfl
            rotate_left
            ·simp only [Act.put, List.setIfInBounds_toArray, List.set_cons_zero, List.set_cons_succ, i64_w, i32_w]
             rfl
            refine pure_ (i := 23) (N := some 96) (v := ?_) (a' := ?_) (fl 24 24) rfl rfl (any_of HT_.out (by kernel_rfl)) (fun _ _ _ h => h) (Or.inl ⟨by rfl, ?_⟩) ?_ ?_
            rotate_left
            ·intro w'
             go_simp
             with_reducible rfl
            rotate_left
            ·simp only [Act.put, List.setIfInBounds_toArray, List.set_cons_zero, List.set_cons_succ, i64_w, i32_w]
             rfl
            refine done_ (done_of HT_.out (by kernel_rfl)) ?_
            try go_wp2
            go_ret
            exact ⟨by first | rfl | (simp [errW_none, errW_some] <;> rfl) | (simp [*, errW_none, errW_some] <;> rfl), by repeat (first | (with_reducible first | exact HB.out | apply below_alloc | apply pw_below_drewN | apply below_drew1) | exact HB.out)⟩
           ·rw [if_neg c30] at H
            have c30b0 : (!(t329 == ((rd_T70 l0 x8_2).f0)) || ((!(t330 == ((rd_T70 l0 x8_2).f1.f0)) || (!(t331 == ((rd_T70 l0 x8_2).f1.f1)) || (!(t332 == ((rd_T70 l0 x8_2).f1.f2)) || (!(t333 == ((rd_T70 l0 x8_2).f1.f3)) || (!(t334 == ((rd_T70 l0 x8_2).f1.f4)) || (!(t335 == ((rd_T70 l0 x8_2).f1.f5)) || (!(t336 == ((rd_T70 l0 x8_2).f1.f6))))))))) || (!(t337 == ((rd_T70 l0 x8_2).f2)) || (!(t338 == ((rd_T70 l0 x8_2).f3)))))) = false := by simpa using c30
            clear c30
            have H' := Aside0.mk H
            clear H
            try go_wp2
            have n0_ := Aside0.mk (Kd.R_drew HO_7.out)
            have n1_ := Aside0.mk (below_drew1 HB.out)
            clear HO_7
            clear HB
            have HO_7 := n0_
            have HB := n1_
            clear n0_ n1_
            have p326 : 0 ≤ (x8_2 : Int) := of_decide_eq_true (by first | (with_reducible assumption) | assumption)
            have q326 : x8_2 < (l0.length : Int) := of_decide_eq_true (by first | (with_reducible assumption) | assumption)
            obtain ⟨ad326, e326, hx326_0, hx326_1, hx326_2, hx326_3, hx326_4, hx326_5, hx326_6, hx326_7, hx326_8, hx326_9⟩ := at_T70 HR0.out x8_2 p326 q326
            have hw326_9 := hx326_9
            have hw326_8 := hx326_8
            have hw326_7 := hx326_7
            have hw326_6 := hx326_6
            have hw326_5 := hx326_5
            have hw326_4 := hx326_4
            have hw326_3 := hx326_3
            have hw326_2 := hx326_2
            have hw326_1 := hx326_1
            have hw326_0 := hx326_0
            cases e326
            replace hx326_0 := (HB.out.cell (World.block_lt_of_cell? w _ hx326_0)).trans hx326_0
            replace hx326_1 := (HB.out.cell (World.block_lt_of_cell? w _ hx326_1)).trans hx326_1
            replace hx326_2 := (HB.out.cell (World.block_lt_of_cell? w _ hx326_2)).trans hx326_2
            replace hx326_3 := (HB.out.cell (World.block_lt_of_cell? w _ hx326_3)).trans hx326_3
            replace hx326_4 := (HB.out.cell (World.block_lt_of_cell? w _ hx326_4)).trans hx326_4
            replace hx326_5 := (HB.out.cell (World.block_lt_of_cell? w _ hx326_5)).trans hx326_5
            replace hx326_6 := (HB.out.cell (World.block_lt_of_cell? w _ hx326_6)).trans hx326_6
            replace hx326_7 := (HB.out.cell (World.block_lt_of_cell? w _ hx326_7)).trans hx326_7
            replace hx326_8 := (HB.out.cell (World.block_lt_of_cell? w _ hx326_8)).trans hx326_8
            replace hx326_9 := (HB.out.cell (World.block_lt_of_cell? w _ hx326_9)).trans hx326_9
            replace p326 := eq_true p326
            replace q326 := eq_true q326
            have p327 : 0 ≤ (x8_2 : Int) := of_decide_eq_true (by first | (with_reducible assumption) | assumption)
            have q327 : x8_2 < (l0.length : Int) := of_decide_eq_true (by first | (with_reducible assumption) | assumption)
            obtain ⟨ad327, e327, hx327_0, hx327_1, hx327_2, hx327_3, hx327_4, hx327_5, hx327_6, hx327_7, hx327_8, hx327_9⟩ := at_T70 HR0.out x8_2 p327 q327
            have hw327_9 := hx327_9
            have hw327_8 := hx327_8
            have hw327_7 := hx327_7
            have hw327_6 := hx327_6
            have hw327_5 := hx327_5
            have hw327_4 := hx327_4
            have hw327_3 := hx327_3
            have hw327_2 := hx327_2
            have hw327_1 := hx327_1
            have hw327_0 := hx327_0
            obtain rfl : ad326 = ad327 := (by injection e327)
            replace hx327_0 := (HB.out.cell (World.block_lt_of_cell? w _ hx327_0)).trans hx327_0
            replace hx327_1 := (HB.out.cell (World.block_lt_of_cell? w _ hx327_1)).trans hx327_1
            replace hx327_2 := (HB.out.cell (World.block_lt_of_cell? w _ hx327_2)).trans hx327_2
            replace hx327_3 := (HB.out.cell (World.block_lt_of_cell? w _ hx327_3)).trans hx327_3
            replace hx327_4 := (HB.out.cell (World.block_lt_of_cell? w _ hx327_4)).trans hx327_4
            replace hx327_5 := (HB.out.cell (World.block_lt_of_cell? w _ hx327_5)).trans hx327_5
            replace hx327_6 := (HB.out.cell (World.block_lt_of_cell? w _ hx327_6)).trans hx327_6
            replace hx327_7 := (HB.out.cell (World.block_lt_of_cell? w _ hx327_7)).trans hx327_7
            replace hx327_8 := (HB.out.cell (World.block_lt_of_cell? w _ hx327_8)).trans hx327_8
            replace hx327_9 := (HB.out.cell (World.block_lt_of_cell? w _ hx327_9)).trans hx327_9
            replace p327 := eq_true p327
            replace q327 := eq_true q327
            have p328 : 0 ≤ (x8_2 : Int) := of_decide_eq_true (by first | (with_reducible assumption) | assumption)
            have q328 : x8_2 < (l0.length : Int) := of_decide_eq_true (by first | (with_reducible assumption) | assumption)
            obtain ⟨ad328, e328, hx328_0, hx328_1, hx328_2, hx328_3, hx328_4, hx328_5, hx328_6, hx328_7, hx328_8, hx328_9⟩ := at_T70 HR0.out x8_2 p328 q328
            have hw328_9 := hx328_9
            have hw328_8 := hx328_8
            have hw328_7 := hx328_7
            have hw328_6 := hx328_6
            have hw328_5 := hx328_5
            have hw328_4 := hx328_4
            have hw328_3 := hx328_3
            have hw328_2 := hx328_2
            have hw328_1 := hx328_1
            have hw328_0 := hx328_0
            obtain rfl : ad326 = ad328 := (by injection e328)
            replace hx328_0 := (HB.out.cell (World.block_lt_of_cell? w _ hx328_0)).trans hx328_0
            replace hx328_1 := (HB.out.cell (World.block_lt_of_cell? w _ hx328_1)).trans hx328_1
            replace hx328_2 := (HB.out.cell (World.block_lt_of_cell? w _ hx328_2)).trans hx328_2
            replace hx328_3 := (HB.out.cell (World.block_lt_of_cell? w _ hx328_3)).trans hx328_3
            replace hx328_4 := (HB.out.cell (World.block_lt_of_cell? w _ hx328_4)).trans hx328_4
            replace hx328_5 := (HB.out.cell (World.block_lt_of_cell? w _ hx328_5)).trans hx328_5
            replace hx328_6 := (HB.out.cell (World.block_lt_of_cell? w _ hx328_6)).trans hx328_6
            replace hx328_7 := (HB.out.cell (World.block_lt_of_cell? w _ hx328_7)).trans hx328_7
            replace hx328_8 := (HB.out.cell (World.block_lt_of_cell? w _ hx328_8)).trans hx328_8
            replace hx328_9 := (HB.out.cell (World.block_lt_of_cell? w _ hx328_9)).trans hx328_9
            replace p328 := eq_true p328
            replace q328 := eq_true q328
            have p339 : 0 ≤ (x8_2 : Int) := of_decide_eq_true (by first | (with_reducible assumption) | assumption)
            have q339 : x8_2 < (l0.length : Int) := of_decide_eq_true (by first | (with_reducible assumption) | assumption)
            obtain ⟨ad339, e339, hx339_0, hx339_1, hx339_2, hx339_3, hx339_4, hx339_5, hx339_6, hx339_7, hx339_8, hx339_9⟩ := at_T70 HR0.out x8_2 p339 q339
            have hw339_9 := hx339_9
            have hw339_8 := hx339_8
            have hw339_7 := hx339_7
            have hw339_6 := hx339_6
            have hw339_5 := hx339_5
            have hw339_4 := hx339_4
            have hw339_3 := hx339_3
            have hw339_2 := hx339_2
            have hw339_1 := hx339_1
            have hw339_0 := hx339_0
            obtain rfl : ad326 = ad339 := (by injection e339)
            replace hx339_0 := (HB.out.cell (World.block_lt_of_cell? w _ hx339_0)).trans hx339_0
            replace hx339_1 := (HB.out.cell (World.block_lt_of_cell? w _ hx339_1)).trans hx339_1
            replace hx339_2 := (HB.out.cell (World.block_lt_of_cell? w _ hx339_2)).trans hx339_2
            replace hx339_3 := (HB.out.cell (World.block_lt_of_cell? w _ hx339_3)).trans hx339_3
            replace hx339_4 := (HB.out.cell (World.block_lt_of_cell? w _ hx339_4)).trans hx339_4
            replace hx339_5 := (HB.out.cell (World.block_lt_of_cell? w _ hx339_5)).trans hx339_5
            replace hx339_6 := (HB.out.cell (World.block_lt_of_cell? w _ hx339_6)).trans hx339_6
            replace hx339_7 := (HB.out.cell (World.block_lt_of_cell? w _ hx339_7)).trans hx339_7
            replace hx339_8 := (HB.out.cell (World.block_lt_of_cell? w _ hx339_8)).trans hx339_8
            replace hx339_9 := (HB.out.cell (World.block_lt_of_cell? w _ hx339_9)).trans hx339_9
            replace p339 := eq_true p339
            replace q339 := eq_true q339
            refine start_ (n := 24) (S := fun w' => w'.cell? (ad326.add ((x8_2).toNat * 10)) = some (.int .i64 ((rd_T70 l0 x8_2).f0)) ∧ w'.cell? ⟨(ad326.add ((x8_2).toNat * 10)).block, (ad326.add ((x8_2).toNat * 10)).off + 1, none⟩ = some (.int .i64 ((rd_T70 l0 x8_2).f1.f0)) ∧ w'.cell? ⟨(ad326.add ((x8_2).toNat * 10)).block, (ad326.add ((x8_2).toNat * 10)).off + 2, none⟩ = some (.int .i64 ((rd_T70 l0 x8_2).f1.f1)) ∧ w'.cell? ⟨(ad326.add ((x8_2).toNat * 10)).block, (ad326.add ((x8_2).toNat * 10)).off + 3, none⟩ = some (.int .i64 ((rd_T70 l0 x8_2).f1.f2)) ∧ w'.cell? ⟨(ad326.add ((x8_2).toNat * 10)).block, (ad326.add ((x8_2).toNat * 10)).off + 4, none⟩ = some (.int .i64 ((rd_T70 l0 x8_2).f1.f3)) ∧ w'.cell? ⟨(ad326.add ((x8_2).toNat * 10)).block, (ad326.add ((x8_2).toNat * 10)).off + 5, none⟩ = some (.int .i64 ((rd_T70 l0 x8_2).f1.f4)) ∧ w'.cell? ⟨(ad326.add ((x8_2).toNat * 10)).block, (ad326.add ((x8_2).toNat * 10)).off + 6, none⟩ = some (.bool ((rd_T70 l0 x8_2).f1.f5)) ∧ w'.cell? ⟨(ad326.add ((x8_2).toNat * 10)).block, (ad326.add ((x8_2).toNat * 10)).off + 7, none⟩ = some (.bool ((rd_T70 l0 x8_2).f1.f6)) ∧ w'.cell? ⟨(ad326.add ((x8_2).toNat * 10)).block, (ad326.add ((x8_2).toNat * 10)).off + 8, none⟩ = some (.int .i64 ((rd_T70 l0 x8_2).f2)) ∧ w'.cell? ⟨(ad326.add ((x8_2).toNat * 10)).block, (ad326.add ((x8_2).toNat * 10)).off + 9, none⟩ = some (.int .i64 ((rd_T70 l0 x8_2).f3)) ∧ w'.cell? (ad326.add ((x8_2).toNat * 10)) = some (.int .i64 ((rd_T70 l0 x8_2).f0)) ∧ w'.cell? ⟨(ad326.add ((x8_2).toNat * 10)).block, (ad326.add ((x8_2).toNat * 10)).off + 1, none⟩ = some (.int .i64 ((rd_T70 l0 x8_2).f1.f0)) ∧ w'.cell? ⟨(ad326.add ((x8_2).toNat * 10)).block, (ad326.add ((x8_2).toNat * 10)).off + 2, none⟩ = some (.int .i64 ((rd_T70 l0 x8_2).f1.f1)) ∧ w'.cell? ⟨(ad326.add ((x8_2).toNat * 10)).block, (ad326.add ((x8_2).toNat * 10)).off + 3, none⟩ = some (.int .i64 ((rd_T70 l0 x8_2).f1.f2)) ∧ w'.cell? ⟨(ad326.add ((x8_2).toNat * 10)).block, (ad326.add ((x8_2).toNat * 10)).off + 4, none⟩ = some (.int .i64 ((rd_T70 l0 x8_2).f1.f3)) ∧ w'.cell? ⟨(ad326.add ((x8_2).toNat * 10)).block, (ad326.add ((x8_2).toNat * 10)).off + 5, none⟩ = some (.int .i64 ((rd_T70 l0 x8_2).f1.f4)) ∧ w'.cell? ⟨(ad326.add ((x8_2).toNat * 10)).block, (ad326.add ((x8_2).toNat * 10)).off + 6, none⟩ = some (.bool ((rd_T70 l0 x8_2).f1.f5)) ∧ w'.cell? ⟨(ad326.add ((x8_2).toNat * 10)).block, (ad326.add ((x8_2).toNat * 10)).off + 7, none⟩ = some (.bool ((rd_T70 l0 x8_2).f1.f6)) ∧ w'.cell? ⟨(ad326.add ((x8_2).toNat * 10)).block, (ad326.add ((x8_2).toNat * 10)).off + 8, none⟩ = some (.int .i64 ((rd_T70 l0 x8_2).f2)) ∧ w'.cell? ⟨(ad326.add ((x8_2).toNat * 10)).block, (ad326.add ((x8_2).toNat * 10)).off + 9, none⟩ = some (.int .i64 ((rd_T70 l0 x8_2).f3)) ∧ w'.cell? (ad326.add ((x8_2).toNat * 10)) = some (.int .i64 ((rd_T70 l0 x8_2).f0)) ∧ w'.cell? ⟨(ad326.add ((x8_2).toNat * 10)).block, (ad326.add ((x8_2).toNat * 10)).off + 1, none⟩ = some (.int .i64 ((rd_T70 l0 x8_2).f1.f0)) ∧ w'.cell? ⟨(ad326.add ((x8_2).toNat * 10)).block, (ad326.add ((x8_2).toNat * 10)).off + 2, none⟩ = some (.int .i64 ((rd_T70 l0 x8_2).f1.f1)) ∧ w'.cell? ⟨(ad326.add ((x8_2).toNat * 10)).block, (ad326.add ((x8_2).toNat * 10)).off + 3, none⟩ = some (.int .i64 ((rd_T70 l0 x8_2).f1.f2)) ∧ w'.cell? ⟨(ad326.add ((x8_2).toNat * 10)).block, (ad326.add ((x8_2).toNat * 10)).off + 4, none⟩ = some (.int .i64 ((rd_T70 l0 x8_2).f1.f3)) ∧ w'.cell? ⟨(ad326.add ((x8_2).toNat * 10)).block, (ad326.add ((x8_2).toNat * 10)).off + 5, none⟩ = some (.int .i64 ((rd_T70 l0 x8_2).f1.f4)) ∧ w'.cell? ⟨(ad326.add ((x8_2).toNat * 10)).block, (ad326.add ((x8_2).toNat * 10)).off + 6, none⟩ = some (.bool ((rd_T70 l0 x8_2).f1.f5)) ∧ w'.cell? ⟨(ad326.add ((x8_2).toNat * 10)).block, (ad326.add ((x8_2).toNat * 10)).off + 7, none⟩ = some (.bool ((rd_T70 l0 x8_2).f1.f6)) ∧ w'.cell? ⟨(ad326.add ((x8_2).toNat * 10)).block, (ad326.add ((x8_2).toNat * 10)).off + 8, none⟩ = some (.int .i64 ((rd_T70 l0 x8_2).f2)) ∧ w'.cell? ⟨(ad326.add ((x8_2).toNat * 10)).block, (ad326.add ((x8_2).toNat * 10)).off + 9, none⟩ = some (.int .i64 ((rd_T70 l0 x8_2).f3)) ∧ w'.cell? (ad326.add ((x8_2).toNat * 10)) = some (.int .i64 ((rd_T70 l0 x8_2).f0)) ∧ w'.cell? ⟨(ad326.add ((x8_2).toNat * 10)).block, (ad326.add ((x8_2).toNat * 10)).off + 1, none⟩ = some (.int .i64 ((rd_T70 l0 x8_2).f1.f0)) ∧ w'.cell? ⟨(ad326.add ((x8_2).toNat * 10)).block, (ad326.add ((x8_2).toNat * 10)).off + 2, none⟩ = some (.int .i64 ((rd_T70 l0 x8_2).f1.f1)) ∧ w'.cell? ⟨(ad326.add ((x8_2).toNat * 10)).block, (ad326.add ((x8_2).toNat * 10)).off + 3, none⟩ = some (.int .i64 ((rd_T70 l0 x8_2).f1.f2)) ∧ w'.cell? ⟨(ad326.add ((x8_2).toNat * 10)).block, (ad326.add ((x8_2).toNat * 10)).off + 4, none⟩ = some (.int .i64 ((rd_T70 l0 x8_2).f1.f3)) ∧ w'.cell? ⟨(ad326.add ((x8_2).toNat * 10)).block, (ad326.add ((x8_2).toNat * 10)).off + 5, none⟩ = some (.int .i64 ((rd_T70 l0 x8_2).f1.f4)) ∧ w'.cell? ⟨(ad326.add ((x8_2).toNat * 10)).block, (ad326.add ((x8_2).toNat * 10)).off + 6, none⟩ = some (.bool ((rd_T70 l0 x8_2).f1.f5)) ∧ w'.cell? ⟨(ad326.add ((x8_2).toNat * 10)).block, (ad326.add ((x8_2).toNat * 10)).off + 7, none⟩ = some (.bool ((rd_T70 l0 x8_2).f1.f6)) ∧ w'.cell? ⟨(ad326.add ((x8_2).toNat * 10)).block, (ad326.add ((x8_2).toNat * 10)).off + 8, none⟩ = some (.int .i64 ((rd_T70 l0 x8_2).f2)) ∧ w'.cell? ⟨(ad326.add ((x8_2).toNat * 10)).block, (ad326.add ((x8_2).toNat * 10)).off + 9, none⟩ = some (.int .i64 ((rd_T70 l0 x8_2).f3))) (ds := []) (fl 24 0) (by kernel_rfl) rfl rfl ⟨((HB.out.cell (World.block_lt_of_cell? w _ hw326_0)).trans hw326_0), ((HB.out.cell (World.block_lt_of_cell? w _ hw326_1)).trans hw326_1), ((HB.out.cell (World.block_lt_of_cell? w _ hw326_2)).trans hw326_2), ((HB.out.cell (World.block_lt_of_cell? w _ hw326_3)).trans hw326_3), ((HB.out.cell (World.block_lt_of_cell? w _ hw326_4)).trans hw326_4), ((HB.out.cell (World.block_lt_of_cell? w _ hw326_5)).trans hw326_5), ((HB.out.cell (World.block_lt_of_cell? w _ hw326_6)).trans hw326_6), ((HB.out.cell (World.block_lt_of_cell? w _ hw326_7)).trans hw326_7), ((HB.out.cell (World.block_lt_of_cell? w _ hw326_8)).trans hw326_8), ((HB.out.cell (World.block_lt_of_cell? w _ hw326_9)).trans hw326_9), ((HB.out.cell (World.block_lt_of_cell? w _ hw327_0)).trans hw327_0), ((HB.out.cell (World.block_lt_of_cell? w _ hw327_1)).trans hw327_1), ((HB.out.cell (World.block_lt_of_cell? w _ hw327_2)).trans hw327_2), ((HB.out.cell (World.block_lt_of_cell? w _ hw327_3)).trans hw327_3), ((HB.out.cell (World.block_lt_of_cell? w _ hw327_4)).trans hw327_4), ((HB.out.cell (World.block_lt_of_cell? w _ hw327_5)).trans hw327_5), ((HB.out.cell (World.block_lt_of_cell? w _ hw327_6)).trans hw327_6), ((HB.out.cell (World.block_lt_of_cell? w _ hw327_7)).trans hw327_7), ((HB.out.cell (World.block_lt_of_cell? w _ hw327_8)).trans hw327_8), ((HB.out.cell (World.block_lt_of_cell? w _ hw327_9)).trans hw327_9), ((HB.out.cell (World.block_lt_of_cell? w _ hw328_0)).trans hw328_0), ((HB.out.cell (World.block_lt_of_cell? w _ hw328_1)).trans hw328_1), ((HB.out.cell (World.block_lt_of_cell? w _ hw328_2)).trans hw328_2), ((HB.out.cell (World.block_lt_of_cell? w _ hw328_3)).trans hw328_3), ((HB.out.cell (World.block_lt_of_cell? w _ hw328_4)).trans hw328_4), ((HB.out.cell (World.block_lt_of_cell? w _ hw328_5)).trans hw328_5), ((HB.out.cell (World.block_lt_of_cell? w _ hw328_6)).trans hw328_6), ((HB.out.cell (World.block_lt_of_cell? w _ hw328_7)).trans hw328_7), ((HB.out.cell (World.block_lt_of_cell? w _ hw328_8)).trans hw328_8), ((HB.out.cell (World.block_lt_of_cell? w _ hw328_9)).trans hw328_9), ((HB.out.cell (World.block_lt_of_cell? w _ hw339_0)).trans hw339_0), ((HB.out.cell (World.block_lt_of_cell? w _ hw339_1)).trans hw339_1), ((HB.out.cell (World.block_lt_of_cell? w _ hw339_2)).trans hw339_2), ((HB.out.cell (World.block_lt_of_cell? w _ hw339_3)).trans hw339_3), ((HB.out.cell (World.block_lt_of_cell? w _ hw339_4)).trans hw339_4), ((HB.out.cell (World.block_lt_of_cell? w _ hw339_5)).trans hw339_5), ((HB.out.cell (World.block_lt_of_cell? w _ hw339_6)).trans hw339_6), ((HB.out.cell (World.block_lt_of_cell? w _ hw339_7)).trans hw339_7), ((HB.out.cell (World.block_lt_of_cell? w _ hw339_8)).trans hw339_8), ((HB.out.cell (World.block_lt_of_cell? w _ hw339_9)).trans hw339_9)⟩ (fun hHeld => ?_); refine with_tabW spinnakerlaw09_UnitExpands.tab18 spinnakerlaw09_UnitExpands.bits18 (fun HT_ HW_ => ?_)
            generalize wr.drew = w33 at HO_7 HB hx326_0 hx326_1 hx326_2 hx326_3 hx326_4 hx326_5 hx326_6 hx326_7 hx326_8 hx326_9 hx327_0 hx327_1 hx327_2 hx327_3 hx327_4 hx327_5 hx327_6 hx327_7 hx327_8 hx327_9 hx328_0 hx328_1 hx328_2 hx328_3 hx328_4 hx328_5 hx328_6 hx328_7 hx328_8 hx328_9 hx339_0 hx339_1 hx339_2 hx339_3 hx339_4 hx339_5 hx339_6 hx339_7 hx339_8 hx339_9 hHeld ⊢
            refine pure_ (i := 0) (N := some 73) (v := ?_) (a' := ?_) (fl 24 1) rfl rfl (any_of HT_.out (by kernel_rfl)) (fun _ _ _ h => h) (Or.inl ⟨by rfl, ?_⟩) ?_ ?_
            rotate_left
            ·intro w'
             go_simp
             with_reducible rfl
            rotate_left
            ·simp only [Act.put, List.setIfInBounds_toArray, List.set_cons_zero, List.set_cons_succ, i64_w, i32_w]
             rfl
            refine pure_ (i := 1) (N := some 74) (v := ?_) (a' := ?_) (fl 24 2) rfl rfl (any_of HT_.out (by kernel_rfl)) (fun _ _ _ h => h) (Or.inl ⟨by rfl, ?_⟩) ?_ ?_
            rotate_left
            ·intro w'
             go_simp
             with_reducible rfl
            rotate_left
            ·simp only [Act.put, List.setIfInBounds_toArray, List.set_cons_zero, List.set_cons_succ, i64_w, i32_w]
             rfl
            refine pure_ (i := 2) (N := some 75) (v := ?_) (a' := ?_) (fl 24 3) rfl rfl (any_of HT_.out (by kernel_rfl)) (fun _ _ _ h => h) (Or.inl ⟨by rfl, ?_⟩) ?_ ?_
            rotate_left
            ·intro w'
             go_simp
             with_reducible rfl
            rotate_left
            ·simp only [Act.put, List.setIfInBounds_toArray, List.set_cons_zero, List.set_cons_succ, i64_w, i32_w]
             rfl
            refine pure_ (i := 3) (N := some 76) (v := ?_) (a' := ?_) (fl 24 4) rfl rfl (any_of HT_.out (by kernel_rfl)) (fun _ _ _ h => h) (Or.inl ⟨by rfl, ?_⟩) ?_ ?_
            rotate_left
            ·intro w'
             go_simp
             with_reducible rfl
            rotate_left
            ·simp only [Act.put, List.setIfInBounds_toArray, List.set_cons_zero, List.set_cons_succ, i64_w, i32_w]
             rfl
            refine take_ (i := 4) (N := some 77) (v := ?_) (a' := ?_) (fl 24 5) rfl rfl (take_ofW HT_.out HW_.out (by kernel_rfl)) (fun _ _ _ h => h) (Or.inl ⟨by rfl, ?_⟩) hHeld ?_ ?_
            rotate_left
            ·rintro w' ⟨s0, s1, s2, s3, s4, s5, s6, s7, s8, s9, s10, s11, s12, s13, s14, s15, s16, s17, s18, s19, s20, s21, s22, s23, s24, s25, s26, s27, s28, s29, s30, s31, s32, s33, s34, s35, s36, s37, s38, s39⟩
             go_simp
             with_reducible rfl
            rotate_left
            ·simp only [Act.put, List.setIfInBounds_toArray, List.set_cons_zero, List.set_cons_succ, i64_w, i32_w]
             rfl
            refine pure_ (i := 5) (N := some 78) (v := ?_) (a' := ?_) (fl 24 6) rfl rfl (any_of HT_.out (by kernel_rfl)) (fun _ _ _ h => h) (Or.inl ⟨by rfl, ?_⟩) ?_ ?_
            rotate_left
            ·intro w'
             go_simp
             with_reducible rfl
            rotate_left
            ·simp only [Act.put, List.setIfInBounds_toArray, List.set_cons_zero, List.set_cons_succ, i64_w, i32_w]
             rfl
            refine pure_ (i := 6) (N := some 79) (v := ?_) (a' := ?_) (fl 24 7) rfl rfl (any_of HT_.out (by kernel_rfl)) (fun _ _ _ h => h) (Or.inl ⟨by rfl, ?_⟩) ?_ ?_
            rotate_left
            ·intro w'
             go_simp
             with_reducible rfl
            rotate_left
            ·simp only [Act.put, List.setIfInBounds_toArray, List.set_cons_zero, List.set_cons_succ, i64_w, i32_w]
             rfl
            refine pure_ (i := 7) (N := some 80) (v := ?_) (a' := ?_) (fl 24 8) rfl rfl (any_of HT_.out (by kernel_rfl)) (fun _ _ _ h => h) (Or.inl ⟨by rfl, ?_⟩) ?_ ?_
            rotate_left
            ·intro w'
             go_simp
             with_reducible rfl
            rotate_left
            ·simp only [Act.put, List.setIfInBounds_toArray, List.set_cons_zero, List.set_cons_succ, i64_w, i32_w]
             rfl
            refine pure_ (i := 8) (N := some 81) (v := ?_) (a' := ?_) (fl 24 9) rfl rfl (any_of HT_.out (by kernel_rfl)) (fun _ _ _ h => h) (Or.inl ⟨by rfl, ?_⟩) ?_ ?_
            rotate_left
            ·intro w'
             go_simp
             with_reducible rfl
            rotate_left
            ·simp only [Act.put, List.setIfInBounds_toArray, List.set_cons_zero, List.set_cons_succ, i64_w, i32_w]
             rfl
            refine pure_ (i := 9) (N := some 82) (v := ?_) (a' := ?_) (fl 24 10) rfl rfl (any_of HT_.out (by kernel_rfl)) (fun _ _ _ h => h) (Or.inl ⟨by rfl, ?_⟩) ?_ ?_
            rotate_left
            ·intro w'
             go_simp
             with_reducible rfl
            rotate_left
            ·simp only [Act.put, List.setIfInBounds_toArray, List.set_cons_zero, List.set_cons_succ, i64_w, i32_w]
             rfl
            refine pure_ (i := 10) (N := some 83) (v := ?_) (a' := ?_) (fl 24 11) rfl rfl (any_of HT_.out (by kernel_rfl)) (fun _ _ _ h => h) (Or.inl ⟨by rfl, ?_⟩) ?_ ?_
            rotate_left
            ·intro w'
             go_simp
             with_reducible rfl
            rotate_left
            ·simp only [Act.put, List.setIfInBounds_toArray, List.set_cons_zero, List.set_cons_succ, i64_w, i32_w]
             rfl
            refine pure_ (i := 12) (N := some 85) (v := ?_) (a' := ?_) #[true, true, true, true, true, true, true, true, true, true, true, false, true, false, false, false, false, false, false, false, false, false, false, false] rfl rfl (any_of HT_.out (by kernel_rfl)) (fun _ _ _ h => h) (Or.inl ⟨by rfl, ?_⟩) ?_ ?_
            rotate_left
            ·intro w'
             go_simp
             with_reducible rfl
            rotate_left
            ·simp only [Act.put, List.setIfInBounds_toArray, List.set_cons_zero, List.set_cons_succ, i64_w, i32_w]
             rfl
            refine pure_ (i := 13) (N := some 86) (v := ?_) (a' := ?_) #[true, true, true, true, true, true, true, true, true, true, true, false, true, true, false, false, false, false, false, false, false, false, false, false] rfl rfl (any_of HT_.out (by kernel_rfl)) (fun _ _ _ h => h) (Or.inl ⟨by rfl, ?_⟩) ?_ ?_
            rotate_left
            ·intro w'
             go_simp
             with_reducible rfl
            rotate_left
            ·simp only [Act.put, List.setIfInBounds_toArray, List.set_cons_zero, List.set_cons_succ, i64_w, i32_w]
             rfl
            refine pure_ (i := 14) (N := some 87) (v := ?_) (a' := ?_) #[true, true, true, true, true, true, true, true, true, true, true, false, true, true, true, false, false, false, false, false, false, false, false, false] rfl rfl (any_of HT_.out (by kernel_rfl)) (fun _ _ _ h => h) (Or.inl ⟨by rfl, ?_⟩) ?_ ?_
            rotate_left
            ·intro w'
             go_simp
             with_reducible rfl
            rotate_left
            ·simp only [Act.put, List.setIfInBounds_toArray, List.set_cons_zero, List.set_cons_succ, i64_w, i32_w]
             rfl
            refine pure_ (i := 15) (N := some 88) (v := ?_) (a' := ?_) #[true, true, true, true, true, true, true, true, true, true, true, false, true, true, true, true, false, false, false, false, false, false, false, false] rfl rfl (any_of HT_.out (by kernel_rfl)) (fun _ _ _ h => h) (Or.inl ⟨by rfl, ?_⟩) ?_ ?_
            rotate_left
            ·intro w'
             go_simp
             with_reducible rfl
            rotate_left
            ·simp only [Act.put, List.setIfInBounds_toArray, List.set_cons_zero, List.set_cons_succ, i64_w, i32_w]
             rfl
            refine pure_ (i := 18) (N := some 91) (v := ?_) (a' := ?_) #[true, true, true, true, true, true, true, true, true, true, true, false, true, true, true, true, false, false, true, false, false, false, false, false] rfl rfl (any_of HT_.out (by kernel_rfl)) (fun _ _ _ h => h) (Or.inl ⟨by rfl, ?_⟩) ?_ ?_
            rotate_left
            ·intro w'
             go_simp
             with_reducible rfl
            rotate_left
            ·simp only [Act.put, List.setIfInBounds_toArray, List.set_cons_zero, List.set_cons_succ, i64_w, i32_w]
             rfl
            refine pure_ (i := 19) (N := some 92) (v := ?_) (a' := ?_) #[true, true, true, true, true, true, true, true, true, true, true, false, true, true, true, true, false, false, true, true, false, false, false, false] rfl rfl (any_of HT_.out (by kernel_rfl)) (fun _ _ _ h => h) (Or.inl ⟨by rfl, ?_⟩) ?_ ?_
            rotate_left
            ·intro w'
             go_simp
             with_reducible rfl
            rotate_left
            ·simp only [Act.put, List.setIfInBounds_toArray, List.set_cons_zero, List.set_cons_succ, i64_w, i32_w]
             rfl
            refine pure_ (i := 20) (N := some 93) (v := ?_) (a' := ?_) #[true, true, true, true, true, true, true, true, true, true, true, false, true, true, true, true, false, false, true, true, true, false, false, false] rfl rfl (any_of HT_.out (by kernel_rfl)) (fun _ _ _ h => h) (Or.inl ⟨by rfl, ?_⟩) ?_ ?_
            rotate_left
            ·intro w'
             go_simp
             with_reducible rfl
            rotate_left
            ·simp only [Act.put, List.setIfInBounds_toArray, List.set_cons_zero, List.set_cons_succ, i64_w, i32_w]
             rfl
            refine take_ (i := 11) (N := some 84) (v := ?_) (a' := ?_) #[true, true, true, true, true, true, true, true, true, true, true, true, true, true, true, true, false, false, true, true, true, false, false, false] rfl rfl (take_ofW HT_.out HW_.out (by kernel_rfl)) (fun _ _ _ h => h) (Or.inl ⟨by rfl, ?_⟩) hHeld ?_ ?_
            rotate_left
            ·rintro w' ⟨s0, s1, s2, s3, s4, s5, s6, s7, s8, s9, s10, s11, s12, s13, s14, s15, s16, s17, s18, s19, s20, s21, s22, s23, s24, s25, s26, s27, s28, s29, s30, s31, s32, s33, s34, s35, s36, s37, s38, s39⟩
             go_simp
             with_reducible rfl
            rotate_left
            ·simp only [Act.put, List.setIfInBounds_toArray, List.set_cons_zero, List.set_cons_succ, i64_w, i32_w]
             rfl
            refine take_ (i := 16) (N := some 89) (v := ?_) (a' := ?_) #[true, true, true, true, true, true, true, true, true, true, true, true, true, true, true, true, true, false, true, true, true, false, false, false] rfl rfl (take_ofW HT_.out HW_.out (by kernel_rfl)) (fun _ _ _ h => h) (Or.inl ⟨by rfl, ?_⟩) hHeld ?_ ?_
            rotate_left
            ·rintro w' ⟨s0, s1, s2, s3, s4, s5, s6, s7, s8, s9, s10, s11, s12, s13, s14, s15, s16, s17, s18, s19, s20, s21, s22, s23, s24, s25, s26, s27, s28, s29, s30, s31, s32, s33, s34, s35, s36, s37, s38, s39⟩
             go_simp
             with_reducible rfl
            rotate_left
            ·simp only [Act.put, List.setIfInBounds_toArray, List.set_cons_zero, List.set_cons_succ, i64_w, i32_w]
             rfl
            refine take_ (i := 21) (N := some 94) (v := ?_) (a' := ?_) #[true, true, true, true, true, true, true, true, true, true, true, true, true, true, true, true, true, false, true, true, true, true, false, false] rfl rfl (take_ofW HT_.out HW_.out (by kernel_rfl)) (fun _ _ _ h => h) (Or.inl ⟨by rfl, ?_⟩) hHeld ?_ ?_
            rotate_left
            ·rintro w' ⟨s0, s1, s2, s3, s4, s5, s6, s7, s8, s9, s10, s11, s12, s13, s14, s15, s16, s17, s18, s19, s20, s21, s22, s23, s24, s25, s26, s27, s28, s29, s30, s31, s32, s33, s34, s35, s36, s37, s38, s39⟩
             go_simp
             with_reducible rfl
            rotate_left
            ·simp only [Act.put, List.setIfInBounds_toArray, List.set_cons_zero, List.set_cons_succ, i64_w, i32_w]
             rfl
            refine one_ (i := 17) (N := some 90) (fl 24 22) rfl rfl (one_of HT_.out (by kernel_rfl)) (by decide) (fun K hK => ?_)
            refine goes_ Tryd.func50 (by kernel_rfl) rfl #[.agg #[.int .i64 ((rd_T70 l0 x8_2).f1.f0), .int .i64 ((rd_T70 l0 x8_2).f1.f1), .int .i64 ((rd_T70 l0 x8_2).f1.f2), .int .i64 ((rd_T70 l0 x8_2).f1.f3), .int .i64 ((rd_T70 l0 x8_2).f1.f4), .bool ((rd_T70 l0 x8_2).f1.f5), .bool ((rd_T70 l0 x8_2).f1.f6)], .int .i64 ((rd_T70 l0 x8_2).f3)] (by rfl) rfl rfl (by (try simp only [List.map_toArray, List.map_cons, List.map_nil]); first | done | rfl | (simp only [List.length_drop, List.length_take]; rfl)) ?_
            with_reducible refine (unit_Instr.calls ((rd_T70 l0 x8_2).f1.f0) ((rd_T70 l0 x8_2).f1.f1) ((rd_T70 l0 x8_2).f1.f2) ((rd_T70 l0 x8_2).f1.f3) ((rd_T70 l0 x8_2).f1.f4) ((rd_T70 l0 x8_2).f1.f5) ((rd_T70 l0 x8_2).f1.f6) ((rd_T70 l0 x8_2).f3) t329 t330 t331 t332 t333 t334 t335 t336 t337 t338 _ A29.out).mono ?_
            rintro e w34 ⟨rfl, hb⟩
            refine ⟨_, rfl, ?_⟩
            have n0_ := Aside0.mk (Kd.R_below (by (with_reducible repeat (first | apply Kd.R_alloc | apply Kd.R_drewN | apply Kd.R_drew)); exact HO_7.out) hb)
            have n1_ := Aside0.mk (below_step (by repeat (first | (with_reducible first | exact HB.out | apply below_alloc | apply pw_below_drewN | apply below_drew1) | exact HB.out)) hb)
            clear HO_7
            clear HB
            have HO_7 := n0_
            have HB := n1_
            clear n0_ n1_
            (try clear hb)
            (try clear hb2)
            (try clear hk)
            (try clear hi)
            refine hK.out _ _ ⟨((HB.out.cell (World.block_lt_of_cell? w _ hw326_0)).trans hw326_0), ((HB.out.cell (World.block_lt_of_cell? w _ hw326_1)).trans hw326_1), ((HB.out.cell (World.block_lt_of_cell? w _ hw326_2)).trans hw326_2), ((HB.out.cell (World.block_lt_of_cell? w _ hw326_3)).trans hw326_3), ((HB.out.cell (World.block_lt_of_cell? w _ hw326_4)).trans hw326_4), ((HB.out.cell (World.block_lt_of_cell? w _ hw326_5)).trans hw326_5), ((HB.out.cell (World.block_lt_of_cell? w _ hw326_6)).trans hw326_6), ((HB.out.cell (World.block_lt_of_cell? w _ hw326_7)).trans hw326_7), ((HB.out.cell (World.block_lt_of_cell? w _ hw326_8)).trans hw326_8), ((HB.out.cell (World.block_lt_of_cell? w _ hw326_9)).trans hw326_9), ((HB.out.cell (World.block_lt_of_cell? w _ hw327_0)).trans hw327_0), ((HB.out.cell (World.block_lt_of_cell? w _ hw327_1)).trans hw327_1), ((HB.out.cell (World.block_lt_of_cell? w _ hw327_2)).trans hw327_2), ((HB.out.cell (World.block_lt_of_cell? w _ hw327_3)).trans hw327_3), ((HB.out.cell (World.block_lt_of_cell? w _ hw327_4)).trans hw327_4), ((HB.out.cell (World.block_lt_of_cell? w _ hw327_5)).trans hw327_5), ((HB.out.cell (World.block_lt_of_cell? w _ hw327_6)).trans hw327_6), ((HB.out.cell (World.block_lt_of_cell? w _ hw327_7)).trans hw327_7), ((HB.out.cell (World.block_lt_of_cell? w _ hw327_8)).trans hw327_8), ((HB.out.cell (World.block_lt_of_cell? w _ hw327_9)).trans hw327_9), ((HB.out.cell (World.block_lt_of_cell? w _ hw328_0)).trans hw328_0), ((HB.out.cell (World.block_lt_of_cell? w _ hw328_1)).trans hw328_1), ((HB.out.cell (World.block_lt_of_cell? w _ hw328_2)).trans hw328_2), ((HB.out.cell (World.block_lt_of_cell? w _ hw328_3)).trans hw328_3), ((HB.out.cell (World.block_lt_of_cell? w _ hw328_4)).trans hw328_4), ((HB.out.cell (World.block_lt_of_cell? w _ hw328_5)).trans hw328_5), ((HB.out.cell (World.block_lt_of_cell? w _ hw328_6)).trans hw328_6), ((HB.out.cell (World.block_lt_of_cell? w _ hw328_7)).trans hw328_7), ((HB.out.cell (World.block_lt_of_cell? w _ hw328_8)).trans hw328_8), ((HB.out.cell (World.block_lt_of_cell? w _ hw328_9)).trans hw328_9), ((HB.out.cell (World.block_lt_of_cell? w _ hw339_0)).trans hw339_0), ((HB.out.cell (World.block_lt_of_cell? w _ hw339_1)).trans hw339_1), ((HB.out.cell (World.block_lt_of_cell? w _ hw339_2)).trans hw339_2), ((HB.out.cell (World.block_lt_of_cell? w _ hw339_3)).trans hw339_3), ((HB.out.cell (World.block_lt_of_cell? w _ hw339_4)).trans hw339_4), ((HB.out.cell (World.block_lt_of_cell? w _ hw339_5)).trans hw339_5), ((HB.out.cell (World.block_lt_of_cell? w _ hw339_6)).trans hw339_6), ((HB.out.cell (World.block_lt_of_cell? w _ hw339_7)).trans hw339_7), ((HB.out.cell (World.block_lt_of_cell? w _ hw339_8)).trans hw339_8), ((HB.out.cell (World.block_lt_of_cell? w _ hw339_9)).trans hw339_9)⟩ (fun hHeld => ?_)
            clear hK K
            refine norm_ (a' := ?_) ?_ ?_
            rotate_left
            ·show Act.put _ (some 90) _ = _
             simp only [Act.put, List.setIfInBounds_toArray, List.set_cons_zero, List.set_cons_succ, i64_w, i32_w]
             rfl
            refine pure_ (i := 22) (N := some 95) (v := ?_) (a' := ?_) (fl 24 23) rfl rfl (any_of HT_.out (by kernel_rfl)) (fun _ _ _ h => h) (Or.inl ⟨by rfl, ?_⟩) ?_ ?_
            rotate_left
            ·intro w'
             go_simp
             with_reducible rfl
            rotate_left
            ·simp only [Act.put, List.setIfInBounds_toArray, List.set_cons_zero, List.set_cons_succ, i64_w, i32_w]
             rfl
            refine pure_ (i := 23) (N := some 96) (v := ?_) (a' := ?_) (fl 24 24) rfl rfl (any_of HT_.out (by kernel_rfl)) (fun _ _ _ h => h) (Or.inl ⟨by rfl, ?_⟩) ?_ ?_
            rotate_left
            ·intro w'
             go_simp
             with_reducible rfl
            rotate_left
            ·simp only [Act.put, List.setIfInBounds_toArray, List.set_cons_zero, List.set_cons_succ, i64_w, i32_w]
             rfl
            refine done_ (done_of HT_.out (by kernel_rfl)) ?_
            try go_wp2
            go_roundg k2
            case measure => have := HK1.out; have := HK2.out; omega
            case rel => exact ⟨(wrap64 (x8_2 + 1)), (by first | rfl | (simp; done) | (simp [*]; done)), H', ⟨by have := HK1.out; have := HK2.out; omega⟩, ⟨by (with_reducible repeat (first | apply Kd.R_alloc | apply Kd.R_drewN | apply Kd.R_drew)); exact HO_7.out⟩, ⟨by repeat (first | (with_reducible first | exact HB.out | apply below_alloc | apply pw_below_drewN | apply below_drew1) | exact HB.out)⟩⟩
          ·rw [if_neg c28] at H
           have c28b0 : (((rd_T70 l0 x8_2).f0) == 0) = false := beq_eq_false_iff_ne.mpr c28
           have c28b1 : (((rd_T70 l0 x8_2).f0) != 0) = true := bne_iff_ne.mpr c28
           have H' := Aside0.mk H
           clear H
           try go_wp2
           have n0_ := Aside0.mk (Kd.R_drew HO_7.out)
           have n1_ := Aside0.mk (below_drew1 HB.out)
           clear HO_7
           clear HB
           have HO_7 := n0_
           have HB := n1_
           clear n0_ n1_
           have p326 : 0 ≤ (x8_2 : Int) := of_decide_eq_true (by first | (with_reducible assumption) | assumption)
           have q326 : x8_2 < (l0.length : Int) := of_decide_eq_true (by first | (with_reducible assumption) | assumption)
           obtain ⟨ad326, e326, hx326_0, hx326_1, hx326_2, hx326_3, hx326_4, hx326_5, hx326_6, hx326_7, hx326_8, hx326_9⟩ := at_T70 HR0.out x8_2 p326 q326
           have hw326_9 := hx326_9
           have hw326_8 := hx326_8
           have hw326_7 := hx326_7
           have hw326_6 := hx326_6
           have hw326_5 := hx326_5
           have hw326_4 := hx326_4
           have hw326_3 := hx326_3
           have hw326_2 := hx326_2
           have hw326_1 := hx326_1
           have hw326_0 := hx326_0
           cases e326
           replace hx326_0 := (HB.out.cell (World.block_lt_of_cell? w _ hx326_0)).trans hx326_0
           replace hx326_1 := (HB.out.cell (World.block_lt_of_cell? w _ hx326_1)).trans hx326_1
           replace hx326_2 := (HB.out.cell (World.block_lt_of_cell? w _ hx326_2)).trans hx326_2
           replace hx326_3 := (HB.out.cell (World.block_lt_of_cell? w _ hx326_3)).trans hx326_3
           replace hx326_4 := (HB.out.cell (World.block_lt_of_cell? w _ hx326_4)).trans hx326_4
           replace hx326_5 := (HB.out.cell (World.block_lt_of_cell? w _ hx326_5)).trans hx326_5
           replace hx326_6 := (HB.out.cell (World.block_lt_of_cell? w _ hx326_6)).trans hx326_6
           replace hx326_7 := (HB.out.cell (World.block_lt_of_cell? w _ hx326_7)).trans hx326_7
           replace hx326_8 := (HB.out.cell (World.block_lt_of_cell? w _ hx326_8)).trans hx326_8
           replace hx326_9 := (HB.out.cell (World.block_lt_of_cell? w _ hx326_9)).trans hx326_9
           replace p326 := eq_true p326
           replace q326 := eq_true q326
           refine start_ (n := 24) (S := fun w' => w'.cell? (ad326.add ((x8_2).toNat * 10)) = some (.int .i64 ((rd_T70 l0 x8_2).f0)) ∧ w'.cell? ⟨(ad326.add ((x8_2).toNat * 10)).block, (ad326.add ((x8_2).toNat * 10)).off + 1, none⟩ = some (.int .i64 ((rd_T70 l0 x8_2).f1.f0)) ∧ w'.cell? ⟨(ad326.add ((x8_2).toNat * 10)).block, (ad326.add ((x8_2).toNat * 10)).off + 2, none⟩ = some (.int .i64 ((rd_T70 l0 x8_2).f1.f1)) ∧ w'.cell? ⟨(ad326.add ((x8_2).toNat * 10)).block, (ad326.add ((x8_2).toNat * 10)).off + 3, none⟩ = some (.int .i64 ((rd_T70 l0 x8_2).f1.f2)) ∧ w'.cell? ⟨(ad326.add ((x8_2).toNat * 10)).block, (ad326.add ((x8_2).toNat * 10)).off + 4, none⟩ = some (.int .i64 ((rd_T70 l0 x8_2).f1.f3)) ∧ w'.cell? ⟨(ad326.add ((x8_2).toNat * 10)).block, (ad326.add ((x8_2).toNat * 10)).off + 5, none⟩ = some (.int .i64 ((rd_T70 l0 x8_2).f1.f4)) ∧ w'.cell? ⟨(ad326.add ((x8_2).toNat * 10)).block, (ad326.add ((x8_2).toNat * 10)).off + 6, none⟩ = some (.bool ((rd_T70 l0 x8_2).f1.f5)) ∧ w'.cell? ⟨(ad326.add ((x8_2).toNat * 10)).block, (ad326.add ((x8_2).toNat * 10)).off + 7, none⟩ = some (.bool ((rd_T70 l0 x8_2).f1.f6)) ∧ w'.cell? ⟨(ad326.add ((x8_2).toNat * 10)).block, (ad326.add ((x8_2).toNat * 10)).off + 8, none⟩ = some (.int .i64 ((rd_T70 l0 x8_2).f2)) ∧ w'.cell? ⟨(ad326.add ((x8_2).toNat * 10)).block, (ad326.add ((x8_2).toNat * 10)).off + 9, none⟩ = some (.int .i64 ((rd_T70 l0 x8_2).f3))) (ds := []) (fl 24 0) (by kernel_rfl) rfl rfl ⟨((HB.out.cell (World.block_lt_of_cell? w _ hw326_0)).trans hw326_0), ((HB.out.cell (World.block_lt_of_cell? w _ hw326_1)).trans hw326_1), ((HB.out.cell (World.block_lt_of_cell? w _ hw326_2)).trans hw326_2), ((HB.out.cell (World.block_lt_of_cell? w _ hw326_3)).trans hw326_3), ((HB.out.cell (World.block_lt_of_cell? w _ hw326_4)).trans hw326_4), ((HB.out.cell (World.block_lt_of_cell? w _ hw326_5)).trans hw326_5), ((HB.out.cell (World.block_lt_of_cell? w _ hw326_6)).trans hw326_6), ((HB.out.cell (World.block_lt_of_cell? w _ hw326_7)).trans hw326_7), ((HB.out.cell (World.block_lt_of_cell? w _ hw326_8)).trans hw326_8), ((HB.out.cell (World.block_lt_of_cell? w _ hw326_9)).trans hw326_9)⟩ (fun hHeld => ?_); refine with_tabW spinnakerlaw09_UnitExpands.tab18 spinnakerlaw09_UnitExpands.bits18 (fun HT_ HW_ => ?_)
           generalize wr.drew = w35 at HO_7 HB hx326_0 hx326_1 hx326_2 hx326_3 hx326_4 hx326_5 hx326_6 hx326_7 hx326_8 hx326_9 hHeld ⊢
           refine pure_ (i := 0) (N := some 73) (v := ?_) (a' := ?_) (fl 24 1) rfl rfl (any_of HT_.out (by kernel_rfl)) (fun _ _ _ h => h) (Or.inl ⟨by rfl, ?_⟩) ?_ ?_
           rotate_left
           ·intro w'
            go_simp
            with_reducible rfl
           rotate_left
           ·simp only [Act.put, List.setIfInBounds_toArray, List.set_cons_zero, List.set_cons_succ, i64_w, i32_w]
            rfl
           refine pure_ (i := 1) (N := some 74) (v := ?_) (a' := ?_) (fl 24 2) rfl rfl (any_of HT_.out (by kernel_rfl)) (fun _ _ _ h => h) (Or.inl ⟨by rfl, ?_⟩) ?_ ?_
           rotate_left
           ·intro w'
            go_simp
            with_reducible rfl
           rotate_left
           ·simp only [Act.put, List.setIfInBounds_toArray, List.set_cons_zero, List.set_cons_succ, i64_w, i32_w]
            rfl
           refine pure_ (i := 2) (N := some 75) (v := ?_) (a' := ?_) (fl 24 3) rfl rfl (any_of HT_.out (by kernel_rfl)) (fun _ _ _ h => h) (Or.inl ⟨by rfl, ?_⟩) ?_ ?_
           rotate_left
           ·intro w'
            go_simp
            with_reducible rfl
           rotate_left
           ·simp only [Act.put, List.setIfInBounds_toArray, List.set_cons_zero, List.set_cons_succ, i64_w, i32_w]
            rfl
           refine pure_ (i := 3) (N := some 76) (v := ?_) (a' := ?_) (fl 24 4) rfl rfl (any_of HT_.out (by kernel_rfl)) (fun _ _ _ h => h) (Or.inl ⟨by rfl, ?_⟩) ?_ ?_
           rotate_left
           ·intro w'
            go_simp
            with_reducible rfl
           rotate_left
           ·simp only [Act.put, List.setIfInBounds_toArray, List.set_cons_zero, List.set_cons_succ, i64_w, i32_w]
            rfl
           refine take_ (i := 4) (N := some 77) (v := ?_) (a' := ?_) (fl 24 5) rfl rfl (take_ofW HT_.out HW_.out (by kernel_rfl)) (fun _ _ _ h => h) (Or.inl ⟨by rfl, ?_⟩) hHeld ?_ ?_
           rotate_left
           ·rintro w' ⟨s0, s1, s2, s3, s4, s5, s6, s7, s8, s9⟩
            go_simp
            with_reducible rfl
           rotate_left
           ·simp only [Act.put, List.setIfInBounds_toArray, List.set_cons_zero, List.set_cons_succ, i64_w, i32_w]
            rfl
           refine pure_ (i := 5) (N := some 78) (v := ?_) (a' := ?_) (fl 24 6) rfl rfl (any_of HT_.out (by kernel_rfl)) (fun _ _ _ h => h) (Or.inl ⟨by rfl, ?_⟩) ?_ ?_
           rotate_left
           ·intro w'
            go_simp
            with_reducible rfl
           rotate_left
           ·simp only [Act.put, List.setIfInBounds_toArray, List.set_cons_zero, List.set_cons_succ, i64_w, i32_w]
            rfl
           refine pure_ (i := 6) (N := some 79) (v := ?_) (a' := ?_) (fl 24 7) rfl rfl (any_of HT_.out (by kernel_rfl)) (fun _ _ _ h => h) (Or.inl ⟨by rfl, ?_⟩) ?_ ?_
           rotate_left
           ·intro w'
            go_simp
            with_reducible rfl
           rotate_left
           ·simp only [Act.put, List.setIfInBounds_toArray, List.set_cons_zero, List.set_cons_succ, i64_w, i32_w]
            rfl
           refine pure_ (i := 7) (N := some 80) (v := undef) (a' := ?_) (fl 24 8) rfl rfl (any_of HT_.out (by kernel_rfl)) (fun _ _ _ h => h) (Or.inr ⟨by rfl, rfl⟩) ?_ ?_
           rotate_left
           ·simp only [Act.put, List.setIfInBounds_toArray, List.set_cons_zero, List.set_cons_succ, i64_w, i32_w]
            rfl
           refine pure_ (i := 8) (N := some 81) (v := undef) (a' := ?_) (fl 24 9) rfl rfl (any_of HT_.out (by kernel_rfl)) (fun _ _ _ h => h) (Or.inr ⟨by rfl, rfl⟩) ?_ ?_
           rotate_left
           ·simp only [Act.put, List.setIfInBounds_toArray, List.set_cons_zero, List.set_cons_succ, i64_w, i32_w]
            rfl
           refine pure_ (i := 9) (N := some 82) (v := undef) (a' := ?_) (fl 24 10) rfl rfl (any_of HT_.out (by kernel_rfl)) (fun _ _ _ h => h) (Or.inr ⟨by rfl, rfl⟩) ?_ ?_
           rotate_left
           ·simp only [Act.put, List.setIfInBounds_toArray, List.set_cons_zero, List.set_cons_succ, i64_w, i32_w]
            rfl
           refine pure_ (i := 10) (N := some 83) (v := undef) (a' := ?_) (fl 24 11) rfl rfl (any_of HT_.out (by kernel_rfl)) (fun _ _ _ h => h) (Or.inr ⟨by rfl, rfl⟩) ?_ ?_
           rotate_left
           ·simp only [Act.put, List.setIfInBounds_toArray, List.set_cons_zero, List.set_cons_succ, i64_w, i32_w]
            rfl
           refine pure_ (i := 11) (N := some 84) (v := undef) (a' := ?_) (fl 24 12) rfl rfl (any_of HT_.out (by kernel_rfl)) (fun _ _ _ h => h) (Or.inr ⟨by rfl, rfl⟩) ?_ ?_
           rotate_left
           ·simp only [Act.put, List.setIfInBounds_toArray, List.set_cons_zero, List.set_cons_succ, i64_w, i32_w]
            rfl
           refine pure_ (i := 12) (N := some 85) (v := undef) (a' := ?_) (fl 24 13) rfl rfl (any_of HT_.out (by kernel_rfl)) (fun _ _ _ h => h) (Or.inr ⟨by rfl, rfl⟩) ?_ ?_
           rotate_left
           ·simp only [Act.put, List.setIfInBounds_toArray, List.set_cons_zero, List.set_cons_succ, i64_w, i32_w]
            rfl
           refine pure_ (i := 13) (N := some 86) (v := undef) (a' := ?_) (fl 24 14) rfl rfl (any_of HT_.out (by kernel_rfl)) (fun _ _ _ h => h) (Or.inr ⟨by rfl, rfl⟩) ?_ ?_
           rotate_left
           ·simp only [Act.put, List.setIfInBounds_toArray, List.set_cons_zero, List.set_cons_succ, i64_w, i32_w]
            rfl
           refine pure_ (i := 14) (N := some 87) (v := undef) (a' := ?_) (fl 24 15) rfl rfl (any_of HT_.out (by kernel_rfl)) (fun _ _ _ h => h) (Or.inr ⟨by rfl, rfl⟩) ?_ ?_
           rotate_left
           ·simp only [Act.put, List.setIfInBounds_toArray, List.set_cons_zero, List.set_cons_succ, i64_w, i32_w]
            rfl
           refine pure_ (i := 15) (N := some 88) (v := undef) (a' := ?_) (fl 24 16) rfl rfl (any_of HT_.out (by kernel_rfl)) (fun _ _ _ h => h) (Or.inr ⟨by rfl, rfl⟩) ?_ ?_
           rotate_left
           ·simp only [Act.put, List.setIfInBounds_toArray, List.set_cons_zero, List.set_cons_succ, i64_w, i32_w]
            rfl
           refine pure_ (i := 16) (N := some 89) (v := undef) (a' := ?_) (fl 24 17) rfl rfl (any_of HT_.out (by kernel_rfl)) (fun _ _ _ h => h) (Or.inr ⟨by rfl, rfl⟩) ?_ ?_
           rotate_left
           ·simp only [Act.put, List.setIfInBounds_toArray, List.set_cons_zero, List.set_cons_succ, i64_w, i32_w]
            rfl
           refine pure_ (i := 17) (N := some 90) (v := undef) (a' := ?_) (fl 24 18) rfl rfl (any_of HT_.out (by kernel_rfl)) (fun _ _ _ h => h) (Or.inr ⟨by rfl, rfl⟩) ?_ ?_
           rotate_left
           ·simp only [Act.put, List.setIfInBounds_toArray, List.set_cons_zero, List.set_cons_succ, i64_w, i32_w]
            rfl
           refine pure_ (i := 18) (N := some 91) (v := undef) (a' := ?_) (fl 24 19) rfl rfl (any_of HT_.out (by kernel_rfl)) (fun _ _ _ h => h) (Or.inr ⟨by rfl, rfl⟩) ?_ ?_
           rotate_left
           ·simp only [Act.put, List.setIfInBounds_toArray, List.set_cons_zero, List.set_cons_succ, i64_w, i32_w]
            rfl
           refine pure_ (i := 19) (N := some 92) (v := undef) (a' := ?_) (fl 24 20) rfl rfl (any_of HT_.out (by kernel_rfl)) (fun _ _ _ h => h) (Or.inr ⟨by rfl, rfl⟩) ?_ ?_
           rotate_left
           ·simp only [Act.put, List.setIfInBounds_toArray, List.set_cons_zero, List.set_cons_succ, i64_w, i32_w]
            rfl
           refine pure_ (i := 20) (N := some 93) (v := undef) (a' := ?_) (fl 24 21) rfl rfl (any_of HT_.out (by kernel_rfl)) (fun _ _ _ h => h) (Or.inr ⟨by rfl, rfl⟩) ?_ ?_
           rotate_left
           ·simp only [Act.put, List.setIfInBounds_toArray, List.set_cons_zero, List.set_cons_succ, i64_w, i32_w]
            rfl
           refine pure_ (i := 21) (N := some 94) (v := undef) (a' := ?_) (fl 24 22) rfl rfl (any_of HT_.out (by kernel_rfl)) (fun _ _ _ h => h) (Or.inr ⟨by rfl, rfl⟩) ?_ ?_
           rotate_left
           ·simp only [Act.put, List.setIfInBounds_toArray, List.set_cons_zero, List.set_cons_succ, i64_w, i32_w]
            rfl
           refine pure_ (i := 22) (N := some 95) (v := undef) (a' := ?_) (fl 24 23) rfl rfl (any_of HT_.out (by kernel_rfl)) (fun _ _ _ h => h) (Or.inr ⟨by rfl, rfl⟩) ?_ ?_
           rotate_left
           ·simp only [Act.put, List.setIfInBounds_toArray, List.set_cons_zero, List.set_cons_succ, i64_w, i32_w]
            rfl
           refine pure_ (i := 23) (N := some 96) (v := ?_) (a' := ?_) (fl 24 24) rfl rfl (any_of HT_.out (by kernel_rfl)) (fun _ _ _ h => h) (Or.inl ⟨by rfl, ?_⟩) ?_ ?_
           rotate_left
           ·intro w'
            go_simp
            with_reducible rfl
           rotate_left
           ·simp only [Act.put, List.setIfInBounds_toArray, List.set_cons_zero, List.set_cons_succ, i64_w, i32_w]
            rfl
           refine done_ (done_of HT_.out (by kernel_rfl)) ?_
           try go_wp2
           go_roundg k2
           case measure => have := HK1.out; have := HK2.out; omega
           case rel => exact ⟨(wrap64 (x8_2 + 1)), (by first | rfl | (simp; done) | (simp [*]; done)), H', ⟨by have := HK1.out; have := HK2.out; omega⟩, ⟨by (with_reducible repeat (first | apply Kd.R_alloc | apply Kd.R_drewN | apply Kd.R_drew)); exact HO_7.out⟩, ⟨by repeat (first | (with_reducible first | exact HB.out | apply below_alloc | apply pw_below_drewN | apply below_drew1) | exact HB.out)⟩⟩
         ·rw [if_neg c27] at H
          exact absurd H (by simp)
        ·rw [if_neg c26] at H
         have c26b0 : decide (x8_2 < (l0.length : Int)) = false := decide_eq_false c26
         clear c26
         replace H := Option.bind_eq_some_iff.mp H
         obtain ⟨⟨t340, t341⟩, A360, H⟩ := H
         replace H : ((spinnakerref09_Expand.f k2 l0).bind fun t342 => ((spinnakerref09_Same.f k2 t323 t342).bind fun t345 => (if t345 = true then ((unit_Labels.f k2 l0).bind fun t346 => (if t346 = x5_1 then ((unit_Labels.f k2 t323).bind fun t347 => (if t347 = x5_1 then (if t341 = 0 then ((spinnakerlaw09_awake.f k2).bind fun t348 => (some t348)) else (some false)) else (some false))) else (some false))) else (some false)))) = some r := H
         have A36 := Aside0.mk A360
         clear A360
         replace H := Option.bind_eq_some_iff.mp H
         obtain ⟨t342, A370, H⟩ := H
         replace H : ((spinnakerref09_Same.f k2 t323 t342).bind fun t345 => (if t345 = true then ((unit_Labels.f k2 l0).bind fun t346 => (if t346 = x5_1 then ((unit_Labels.f k2 t323).bind fun t347 => (if t347 = x5_1 then (if t341 = 0 then ((spinnakerlaw09_awake.f k2).bind fun t348 => (some t348)) else (some false)) else (some false))) else (some false))) else (some false))) = some r := H
         have A37 := Aside0.mk A370
         clear A370
         replace H := Option.bind_eq_some_iff.mp H
         obtain ⟨t345, A380, H⟩ := H
         replace H : (if t345 = true then ((unit_Labels.f k2 l0).bind fun t346 => (if t346 = x5_1 then ((unit_Labels.f k2 t323).bind fun t347 => (if t347 = x5_1 then (if t341 = 0 then ((spinnakerlaw09_awake.f k2).bind fun t348 => (some t348)) else (some false)) else (some false))) else (some false))) else (some false)) = some r := H
         have A38 := Aside0.mk A380
         clear A380
         by_cases c39 : t345 = true
         ·subst c39
          have H1 : ((unit_Labels.f k2 l0).bind fun t346 => (if t346 = x5_1 then ((unit_Labels.f k2 t323).bind fun t347 => (if t347 = x5_1 then (if t341 = 0 then ((spinnakerlaw09_awake.f k2).bind fun t348 => (some t348)) else (some false)) else (some false))) else (some false))) = some r := by rw [if_pos rfl] at H; exact H
          clear H
          have H := H1
          clear H1
          replace H := Option.bind_eq_some_iff.mp H
          obtain ⟨t346, A400, H⟩ := H
          replace H : (if t346 = x5_1 then ((unit_Labels.f k2 t323).bind fun t347 => (if t347 = x5_1 then (if t341 = 0 then ((spinnakerlaw09_awake.f k2).bind fun t348 => (some t348)) else (some false)) else (some false))) else (some false)) = some r := H
          have A40 := Aside0.mk A400
          clear A400
          by_cases c41 : t346 = x5_1
          ·rw [if_pos c41] at H
           have c41b0 : (t346 == x5_1) = true := beq_iff_eq.mpr c41
           have c41b1 : (t346 != x5_1) = false := bne_eq_false_iff_eq.mpr c41
           clear c41
           replace H := Option.bind_eq_some_iff.mp H
           obtain ⟨t347, A420, H⟩ := H
           replace H : (if t347 = x5_1 then (if t341 = 0 then ((spinnakerlaw09_awake.f k2).bind fun t348 => (some t348)) else (some false)) else (some false)) = some r := H
           have A42 := Aside0.mk A420
           clear A420
           by_cases c43 : t347 = x5_1
           ·rw [if_pos c43] at H
            have c43b0 : (t347 == x5_1) = true := beq_iff_eq.mpr c43
            have c43b1 : (t347 != x5_1) = false := bne_eq_false_iff_eq.mpr c43
            clear c43
            by_cases c44 : t341 = 0
            ·rw [if_pos c44] at H
             have c44b0 : (t341 == 0) = true := beq_iff_eq.mpr c44
             have c44b1 : (t341 != 0) = false := bne_eq_false_iff_eq.mpr c44
             clear c44
             replace H := Option.bind_eq_some_iff.mp H
             obtain ⟨t348, A450, H⟩ := H
             replace H : (some t348) = some r := H
             have A45 := Aside0.mk A450
             clear A450
             obtain rfl := Option.some.inj H
             obtain ⟨Ao46, co46, eo46⟩ := Kd.R_slice HO_7.out
             subst eo46
             go_wp2_with (first | ((with_reducible refine gate_callee (f := 47) rfl ?_); refine goesL_ (some 99) rfl rfl Tryd.func47 (by kernel_rfl) rfl #[.slice Ao46 t323.length co46] rfl (by (try simp only [List.map_toArray, List.map_cons, List.map_nil]); first | done | rfl | (simp only [List.length_drop, List.length_take]; rfl)) ?_; (with_reducible refine (unit_Check.calls k2 _ _ t323 t340 t341 _ (by first | exact HL.out | exact laid_drewN HL.out | exact laid_below HL.out (by repeat (first | (with_reducible first | exact HB.out | apply below_alloc | apply pw_below_drewN | apply below_drew1 | refine below_set ?_ (Aside0.out (by assumption))) | exact HB.out)) | exact laid_below HL.out HB.out | exact laid_belowd HL.out HB.out) ?side1 ?side2 A36.out).mono ?_); (case side1 => repeat (first | exact (Kd.R_reads' HO_7.out).2.2 | (with_reducible refine Kd.C_alloc ?_ _) | (with_reducible refine Kd.C_drewN ?_ _) | (with_reducible refine Kd.C_drew ?_))); (case side2 => exact (Kd.R_reads' HO_7.out).2.1); rintro e w47 ⟨rfl, hb⟩; refine ⟨_, rfl, ?_⟩; have n0_ := Aside0.mk (Kd.R_below (by (with_reducible repeat (first | apply Kd.R_alloc | apply Kd.R_drewN | apply Kd.R_drew)); exact HO_7.out) hb); have n1_ := Aside0.mk (below_step (by repeat (first | (with_reducible first | exact HB.out | apply below_alloc | apply pw_below_drewN | apply below_drew1) | exact HB.out)) hb); clear HO_7; clear HB; have HO_7 := n0_; have HB := n1_; clear n0_ n1_; (try clear hb)) | ((with_reducible refine gate_callee (f := 52) rfl ?_); refine goesL_ (some 104) rfl rfl Tryd.func52 (by kernel_rfl) rfl #[.slice A0 l0.length c0] rfl (by (try simp only [List.map_toArray, List.map_cons, List.map_nil]); first | done | rfl | (simp only [List.length_drop, List.length_take]; rfl)) ?_; (with_reducible refine (spinnakerref09_Expand.calls k2 _ _ l0 t342 _ ?side1 ?side2 A37.out).mono ?_); (case side1 => repeat (first | exact (Kd.C_below HR0.out HB.out) | (with_reducible refine Kd.C_alloc ?_ _) | (with_reducible refine Kd.C_drewN ?_ _) | (with_reducible refine Kd.C_drew ?_))); (case side2 => exact HC0.out); rintro e w48 ⟨v343, rfl, ho0, hb⟩; refine ⟨_, rfl, ?_⟩; have n0_ := Aside0.mk (Kd.R_elder' (by (with_reducible repeat (first | apply Kd.R_alloc | apply Kd.R_drewN | apply Kd.R_drew)); exact HO_7.out) (Kd.R_base ho0) hb); have n1_ := Aside0.mk (Kd.R_lower (Kd.R_new' ho0 (Kd.R_lt (by (with_reducible repeat (first | apply Kd.R_alloc | apply Kd.R_drewN | apply Kd.R_drew)); exact HO_7.out))) (below_size (by repeat (first | (with_reducible first | exact HB.out | apply below_alloc | apply pw_below_drewN | apply below_drew1) | exact HB.out)))); have n2_ := Aside0.mk (below_step (by repeat (first | (with_reducible first | exact HB.out | apply below_alloc | apply pw_below_drewN | apply below_drew1) | exact HB.out)) hb); clear HO_7; clear HB; have HO_7 := n0_; have HO344 := n1_; have HB := n2_; clear n0_ n1_ n2_; (try clear hb); (try clear ho0); obtain ⟨Ao49, co49, eo49⟩ := Kd.R_slice HO344.out; subst eo49) | ((with_reducible refine gate_callee (f := 51) rfl ?_); refine goesL_ (some 105) rfl rfl Tryd.func51 (by kernel_rfl) rfl #[.slice Ao46 t323.length co46, .slice Ao49 t342.length co49] rfl (by (try simp only [List.map_toArray, List.map_cons, List.map_nil]); first | done | rfl | (simp only [List.length_drop, List.length_take]; rfl)) ?_; (with_reducible refine (spinnakerref09_Same.calls k2 _ _ t323 _ _ t342 true _ ?side1 ?side2 ?side3 ?side4 A38.out).mono ?_); (case side1 => repeat (first | exact (Kd.R_reads' HO_7.out).2.2 | (with_reducible refine Kd.C_alloc ?_ _) | (with_reducible refine Kd.C_drewN ?_ _) | (with_reducible refine Kd.C_drew ?_))); (case side2 => exact (Kd.R_reads' HO_7.out).2.1); (case side3 => repeat (first | exact (Kd.R_reads' HO344.out).2.2 | (with_reducible refine Kd.C_alloc ?_ _) | (with_reducible refine Kd.C_drewN ?_ _) | (with_reducible refine Kd.C_drew ?_))); (case side4 => exact (Kd.R_reads' HO344.out).2.1); rintro e w' ⟨rfl, ⟨nd, rfl⟩⟩; refine ⟨_, rfl, ?_⟩) | (go_at_call 53; (with_reducible refine (unit_Labels.calls k2 _ _ l0 t346 _ ?side1 ?side2 A40.out).mono ?_); (case side1 => repeat (first | exact (Kd.C_below HR0.out (by repeat (first | (with_reducible first | exact HB.out | apply below_alloc | apply pw_below_drewN | apply below_drew1) | exact HB.out))) | (with_reducible refine Kd.C_alloc ?_ _) | (with_reducible refine Kd.C_drewN ?_ _) | (with_reducible refine Kd.C_drew ?_))); (case side2 => exact HC0.out); rintro e w50 ⟨rfl, hb⟩; have n0_ := Aside0.mk (Kd.R_below (by (with_reducible repeat (first | apply Kd.R_alloc | apply Kd.R_drewN | apply Kd.R_drew)); exact HO_7.out) hb); have n1_ := Aside0.mk (Kd.R_below (by (with_reducible repeat (first | apply Kd.R_alloc | apply Kd.R_drewN | apply Kd.R_drew)); exact HO344.out) hb); have n2_ := Aside0.mk (below_step (by repeat (first | (with_reducible first | exact HB.out | apply below_alloc | apply pw_below_drewN | apply below_drew1) | exact HB.out)) hb); clear HO_7; clear HO344; clear HB; have HO_7 := n0_; have HO344 := n1_; have HB := n2_; clear n0_ n1_ n2_; (try clear hb)) | (go_at_call 53; (with_reducible refine (unit_Labels.calls k2 _ _ t323 t347 _ ?side1 ?side2 A42.out).mono ?_); (case side1 => repeat (first | exact (Kd.R_reads' HO_7.out).2.2 | (with_reducible refine Kd.C_alloc ?_ _) | (with_reducible refine Kd.C_drewN ?_ _) | (with_reducible refine Kd.C_drew ?_))); (case side2 => exact (Kd.R_reads' HO_7.out).2.1); rintro e w51 ⟨rfl, hb⟩; have n0_ := Aside0.mk (Kd.R_below (by (with_reducible repeat (first | apply Kd.R_alloc | apply Kd.R_drewN | apply Kd.R_drew)); exact HO_7.out) hb); have n1_ := Aside0.mk (Kd.R_below (by (with_reducible repeat (first | apply Kd.R_alloc | apply Kd.R_drewN | apply Kd.R_drew)); exact HO344.out) hb); have n2_ := Aside0.mk (below_step (by repeat (first | (with_reducible first | exact HB.out | apply below_alloc | apply pw_below_drewN | apply below_drew1) | exact HB.out)) hb); clear HO_7; clear HO344; clear HB; have HO_7 := n0_; have HO344 := n1_; have HB := n2_; clear n0_ n1_ n2_; (try clear hb)) | (go_at_call 46; (with_reducible refine (spinnakerlaw09_awake.calls k2  t348 _ (by first | exact HL.out | exact laid_drewN HL.out | exact laid_below HL.out (by repeat (first | (with_reducible first | exact HB.out | apply below_alloc | apply pw_below_drewN | apply below_drew1 | refine below_set ?_ (Aside0.out (by assumption))) | exact HB.out)) | exact laid_below HL.out HB.out | exact laid_belowd HL.out HB.out) A45.out).mono ?_); rintro e w52 ⟨rfl, hb⟩; have n0_ := Aside0.mk (Kd.R_below (by (with_reducible repeat (first | apply Kd.R_alloc | apply Kd.R_drewN | apply Kd.R_drew)); exact HO_7.out) hb); have n1_ := Aside0.mk (Kd.R_below (by (with_reducible repeat (first | apply Kd.R_alloc | apply Kd.R_drewN | apply Kd.R_drew)); exact HO344.out) hb); have n2_ := Aside0.mk (below_step (by repeat (first | (with_reducible first | exact HB.out | apply below_alloc | apply pw_below_drewN | apply below_drew1) | exact HB.out)) hb); clear HO_7; clear HO344; clear HB; have HO_7 := n0_; have HO344 := n1_; have HB := n2_; clear n0_ n1_ n2_; (try clear hb)))
             go_ret
             exact ⟨by first | rfl | (simp [errW_none, errW_some] <;> rfl) | (simp [*, errW_none, errW_some] <;> rfl), by repeat (first | (with_reducible first | exact HB.out | apply below_alloc | apply pw_below_drewN | apply below_drew1) | exact HB.out)⟩
            ·rw [if_neg c44] at H
             have c44b0 : (t341 == 0) = false := beq_eq_false_iff_ne.mpr c44
             have c44b1 : (t341 != 0) = true := bne_iff_ne.mpr c44
             obtain rfl := Option.some.inj H
             obtain ⟨Ao53, co53, eo53⟩ := Kd.R_slice HO_7.out
             subst eo53
             go_wp2_with (first | ((with_reducible refine gate_callee (f := 47) rfl ?_); refine goesL_ (some 99) rfl rfl Tryd.func47 (by kernel_rfl) rfl #[.slice Ao53 t323.length co53] rfl (by (try simp only [List.map_toArray, List.map_cons, List.map_nil]); first | done | rfl | (simp only [List.length_drop, List.length_take]; rfl)) ?_; (with_reducible refine (unit_Check.calls k2 _ _ t323 t340 t341 _ (by first | exact HL.out | exact laid_drewN HL.out | exact laid_below HL.out (by repeat (first | (with_reducible first | exact HB.out | apply below_alloc | apply pw_below_drewN | apply below_drew1 | refine below_set ?_ (Aside0.out (by assumption))) | exact HB.out)) | exact laid_below HL.out HB.out | exact laid_belowd HL.out HB.out) ?side1 ?side2 A36.out).mono ?_); (case side1 => repeat (first | exact (Kd.R_reads' HO_7.out).2.2 | (with_reducible refine Kd.C_alloc ?_ _) | (with_reducible refine Kd.C_drewN ?_ _) | (with_reducible refine Kd.C_drew ?_))); (case side2 => exact (Kd.R_reads' HO_7.out).2.1); rintro e w54 ⟨rfl, hb⟩; refine ⟨_, rfl, ?_⟩; have n0_ := Aside0.mk (Kd.R_below (by (with_reducible repeat (first | apply Kd.R_alloc | apply Kd.R_drewN | apply Kd.R_drew)); exact HO_7.out) hb); have n1_ := Aside0.mk (below_step (by repeat (first | (with_reducible first | exact HB.out | apply below_alloc | apply pw_below_drewN | apply below_drew1) | exact HB.out)) hb); clear HO_7; clear HB; have HO_7 := n0_; have HB := n1_; clear n0_ n1_; (try clear hb)) | ((with_reducible refine gate_callee (f := 52) rfl ?_); refine goesL_ (some 104) rfl rfl Tryd.func52 (by kernel_rfl) rfl #[.slice A0 l0.length c0] rfl (by (try simp only [List.map_toArray, List.map_cons, List.map_nil]); first | done | rfl | (simp only [List.length_drop, List.length_take]; rfl)) ?_; (with_reducible refine (spinnakerref09_Expand.calls k2 _ _ l0 t342 _ ?side1 ?side2 A37.out).mono ?_); (case side1 => repeat (first | exact (Kd.C_below HR0.out HB.out) | (with_reducible refine Kd.C_alloc ?_ _) | (with_reducible refine Kd.C_drewN ?_ _) | (with_reducible refine Kd.C_drew ?_))); (case side2 => exact HC0.out); rintro e w55 ⟨v343, rfl, ho0, hb⟩; refine ⟨_, rfl, ?_⟩; have n0_ := Aside0.mk (Kd.R_elder' (by (with_reducible repeat (first | apply Kd.R_alloc | apply Kd.R_drewN | apply Kd.R_drew)); exact HO_7.out) (Kd.R_base ho0) hb); have n1_ := Aside0.mk (Kd.R_lower (Kd.R_new' ho0 (Kd.R_lt (by (with_reducible repeat (first | apply Kd.R_alloc | apply Kd.R_drewN | apply Kd.R_drew)); exact HO_7.out))) (below_size (by repeat (first | (with_reducible first | exact HB.out | apply below_alloc | apply pw_below_drewN | apply below_drew1) | exact HB.out)))); have n2_ := Aside0.mk (below_step (by repeat (first | (with_reducible first | exact HB.out | apply below_alloc | apply pw_below_drewN | apply below_drew1) | exact HB.out)) hb); clear HO_7; clear HB; have HO_7 := n0_; have HO344 := n1_; have HB := n2_; clear n0_ n1_ n2_; (try clear hb); (try clear ho0); obtain ⟨Ao56, co56, eo56⟩ := Kd.R_slice HO344.out; subst eo56) | ((with_reducible refine gate_callee (f := 51) rfl ?_); refine goesL_ (some 105) rfl rfl Tryd.func51 (by kernel_rfl) rfl #[.slice Ao53 t323.length co53, .slice Ao56 t342.length co56] rfl (by (try simp only [List.map_toArray, List.map_cons, List.map_nil]); first | done | rfl | (simp only [List.length_drop, List.length_take]; rfl)) ?_; (with_reducible refine (spinnakerref09_Same.calls k2 _ _ t323 _ _ t342 true _ ?side1 ?side2 ?side3 ?side4 A38.out).mono ?_); (case side1 => repeat (first | exact (Kd.R_reads' HO_7.out).2.2 | (with_reducible refine Kd.C_alloc ?_ _) | (with_reducible refine Kd.C_drewN ?_ _) | (with_reducible refine Kd.C_drew ?_))); (case side2 => exact (Kd.R_reads' HO_7.out).2.1); (case side3 => repeat (first | exact (Kd.R_reads' HO344.out).2.2 | (with_reducible refine Kd.C_alloc ?_ _) | (with_reducible refine Kd.C_drewN ?_ _) | (with_reducible refine Kd.C_drew ?_))); (case side4 => exact (Kd.R_reads' HO344.out).2.1); rintro e w' ⟨rfl, ⟨nd, rfl⟩⟩; refine ⟨_, rfl, ?_⟩) | (go_at_call 53; (with_reducible refine (unit_Labels.calls k2 _ _ l0 t346 _ ?side1 ?side2 A40.out).mono ?_); (case side1 => repeat (first | exact (Kd.C_below HR0.out (by repeat (first | (with_reducible first | exact HB.out | apply below_alloc | apply pw_below_drewN | apply below_drew1) | exact HB.out))) | (with_reducible refine Kd.C_alloc ?_ _) | (with_reducible refine Kd.C_drewN ?_ _) | (with_reducible refine Kd.C_drew ?_))); (case side2 => exact HC0.out); rintro e w57 ⟨rfl, hb⟩; have n0_ := Aside0.mk (Kd.R_below (by (with_reducible repeat (first | apply Kd.R_alloc | apply Kd.R_drewN | apply Kd.R_drew)); exact HO_7.out) hb); have n1_ := Aside0.mk (Kd.R_below (by (with_reducible repeat (first | apply Kd.R_alloc | apply Kd.R_drewN | apply Kd.R_drew)); exact HO344.out) hb); have n2_ := Aside0.mk (below_step (by repeat (first | (with_reducible first | exact HB.out | apply below_alloc | apply pw_below_drewN | apply below_drew1) | exact HB.out)) hb); clear HO_7; clear HO344; clear HB; have HO_7 := n0_; have HO344 := n1_; have HB := n2_; clear n0_ n1_ n2_; (try clear hb)) | (go_at_call 53; (with_reducible refine (unit_Labels.calls k2 _ _ t323 t347 _ ?side1 ?side2 A42.out).mono ?_); (case side1 => repeat (first | exact (Kd.R_reads' HO_7.out).2.2 | (with_reducible refine Kd.C_alloc ?_ _) | (with_reducible refine Kd.C_drewN ?_ _) | (with_reducible refine Kd.C_drew ?_))); (case side2 => exact (Kd.R_reads' HO_7.out).2.1); rintro e w58 ⟨rfl, hb⟩; have n0_ := Aside0.mk (Kd.R_below (by (with_reducible repeat (first | apply Kd.R_alloc | apply Kd.R_drewN | apply Kd.R_drew)); exact HO_7.out) hb); have n1_ := Aside0.mk (Kd.R_below (by (with_reducible repeat (first | apply Kd.R_alloc | apply Kd.R_drewN | apply Kd.R_drew)); exact HO344.out) hb); have n2_ := Aside0.mk (below_step (by repeat (first | (with_reducible first | exact HB.out | apply below_alloc | apply pw_below_drewN | apply below_drew1) | exact HB.out)) hb); clear HO_7; clear HO344; clear HB; have HO_7 := n0_; have HO344 := n1_; have HB := n2_; clear n0_ n1_ n2_; (try clear hb)))
             go_ret
             exact ⟨by first | rfl | (simp [errW_none, errW_some] <;> rfl) | (simp [*, errW_none, errW_some] <;> rfl), by repeat (first | (with_reducible first | exact HB.out | apply below_alloc | apply pw_below_drewN | apply below_drew1) | exact HB.out)⟩
           ·rw [if_neg c43] at H
            have c43b0 : (t347 == x5_1) = false := beq_eq_false_iff_ne.mpr c43
            have c43b1 : (t347 != x5_1) = true := bne_iff_ne.mpr c43
            obtain rfl := Option.some.inj H
            obtain ⟨Ao59, co59, eo59⟩ := Kd.R_slice HO_7.out
            subst eo59
            go_wp2_with (first | ((with_reducible refine gate_callee (f := 47) rfl ?_); refine goesL_ (some 99) rfl rfl Tryd.func47 (by kernel_rfl) rfl #[.slice Ao59 t323.length co59] rfl (by (try simp only [List.map_toArray, List.map_cons, List.map_nil]); first | done | rfl | (simp only [List.length_drop, List.length_take]; rfl)) ?_; (with_reducible refine (unit_Check.calls k2 _ _ t323 t340 t341 _ (by first | exact HL.out | exact laid_drewN HL.out | exact laid_below HL.out (by repeat (first | (with_reducible first | exact HB.out | apply below_alloc | apply pw_below_drewN | apply below_drew1 | refine below_set ?_ (Aside0.out (by assumption))) | exact HB.out)) | exact laid_below HL.out HB.out | exact laid_belowd HL.out HB.out) ?side1 ?side2 A36.out).mono ?_); (case side1 => repeat (first | exact (Kd.R_reads' HO_7.out).2.2 | (with_reducible refine Kd.C_alloc ?_ _) | (with_reducible refine Kd.C_drewN ?_ _) | (with_reducible refine Kd.C_drew ?_))); (case side2 => exact (Kd.R_reads' HO_7.out).2.1); rintro e w60 ⟨rfl, hb⟩; refine ⟨_, rfl, ?_⟩; have n0_ := Aside0.mk (Kd.R_below (by (with_reducible repeat (first | apply Kd.R_alloc | apply Kd.R_drewN | apply Kd.R_drew)); exact HO_7.out) hb); have n1_ := Aside0.mk (below_step (by repeat (first | (with_reducible first | exact HB.out | apply below_alloc | apply pw_below_drewN | apply below_drew1) | exact HB.out)) hb); clear HO_7; clear HB; have HO_7 := n0_; have HB := n1_; clear n0_ n1_; (try clear hb)) | ((with_reducible refine gate_callee (f := 52) rfl ?_); refine goesL_ (some 104) rfl rfl Tryd.func52 (by kernel_rfl) rfl #[.slice A0 l0.length c0] rfl (by (try simp only [List.map_toArray, List.map_cons, List.map_nil]); first | done | rfl | (simp only [List.length_drop, List.length_take]; rfl)) ?_; (with_reducible refine (spinnakerref09_Expand.calls k2 _ _ l0 t342 _ ?side1 ?side2 A37.out).mono ?_); (case side1 => repeat (first | exact (Kd.C_below HR0.out HB.out) | (with_reducible refine Kd.C_alloc ?_ _) | (with_reducible refine Kd.C_drewN ?_ _) | (with_reducible refine Kd.C_drew ?_))); (case side2 => exact HC0.out); rintro e w61 ⟨v343, rfl, ho0, hb⟩; refine ⟨_, rfl, ?_⟩; have n0_ := Aside0.mk (Kd.R_elder' (by (with_reducible repeat (first | apply Kd.R_alloc | apply Kd.R_drewN | apply Kd.R_drew)); exact HO_7.out) (Kd.R_base ho0) hb); have n1_ := Aside0.mk (Kd.R_lower (Kd.R_new' ho0 (Kd.R_lt (by (with_reducible repeat (first | apply Kd.R_alloc | apply Kd.R_drewN | apply Kd.R_drew)); exact HO_7.out))) (below_size (by repeat (first | (with_reducible first | exact HB.out | apply below_alloc | apply pw_below_drewN | apply below_drew1) | exact HB.out)))); have n2_ := Aside0.mk (below_step (by repeat (first | (with_reducible first | exact HB.out | apply below_alloc | apply pw_below_drewN | apply below_drew1) | exact HB.out)) hb); clear HO_7; clear HB; have HO_7 := n0_; have HO344 := n1_; have HB := n2_; clear n0_ n1_ n2_; (try clear hb); (try clear ho0); obtain ⟨Ao62, co62, eo62⟩ := Kd.R_slice HO344.out; subst eo62) | ((with_reducible refine gate_callee (f := 51) rfl ?_); refine goesL_ (some 105) rfl rfl Tryd.func51 (by kernel_rfl) rfl #[.slice Ao59 t323.length co59, .slice Ao62 t342.length co62] rfl (by (try simp only [List.map_toArray, List.map_cons, List.map_nil]); first | done | rfl | (simp only [List.length_drop, List.length_take]; rfl)) ?_; (with_reducible refine (spinnakerref09_Same.calls k2 _ _ t323 _ _ t342 true _ ?side1 ?side2 ?side3 ?side4 A38.out).mono ?_); (case side1 => repeat (first | exact (Kd.R_reads' HO_7.out).2.2 | (with_reducible refine Kd.C_alloc ?_ _) | (with_reducible refine Kd.C_drewN ?_ _) | (with_reducible refine Kd.C_drew ?_))); (case side2 => exact (Kd.R_reads' HO_7.out).2.1); (case side3 => repeat (first | exact (Kd.R_reads' HO344.out).2.2 | (with_reducible refine Kd.C_alloc ?_ _) | (with_reducible refine Kd.C_drewN ?_ _) | (with_reducible refine Kd.C_drew ?_))); (case side4 => exact (Kd.R_reads' HO344.out).2.1); rintro e w' ⟨rfl, ⟨nd, rfl⟩⟩; refine ⟨_, rfl, ?_⟩) | (go_at_call 53; (with_reducible refine (unit_Labels.calls k2 _ _ l0 t346 _ ?side1 ?side2 A40.out).mono ?_); (case side1 => repeat (first | exact (Kd.C_below HR0.out (by repeat (first | (with_reducible first | exact HB.out | apply below_alloc | apply pw_below_drewN | apply below_drew1) | exact HB.out))) | (with_reducible refine Kd.C_alloc ?_ _) | (with_reducible refine Kd.C_drewN ?_ _) | (with_reducible refine Kd.C_drew ?_))); (case side2 => exact HC0.out); rintro e w63 ⟨rfl, hb⟩; have n0_ := Aside0.mk (Kd.R_below (by (with_reducible repeat (first | apply Kd.R_alloc | apply Kd.R_drewN | apply Kd.R_drew)); exact HO_7.out) hb); have n1_ := Aside0.mk (Kd.R_below (by (with_reducible repeat (first | apply Kd.R_alloc | apply Kd.R_drewN | apply Kd.R_drew)); exact HO344.out) hb); have n2_ := Aside0.mk (below_step (by repeat (first | (with_reducible first | exact HB.out | apply below_alloc | apply pw_below_drewN | apply below_drew1) | exact HB.out)) hb); clear HO_7; clear HO344; clear HB; have HO_7 := n0_; have HO344 := n1_; have HB := n2_; clear n0_ n1_ n2_; (try clear hb)) | (go_at_call 53; (with_reducible refine (unit_Labels.calls k2 _ _ t323 t347 _ ?side1 ?side2 A42.out).mono ?_); (case side1 => repeat (first | exact (Kd.R_reads' HO_7.out).2.2 | (with_reducible refine Kd.C_alloc ?_ _) | (with_reducible refine Kd.C_drewN ?_ _) | (with_reducible refine Kd.C_drew ?_))); (case side2 => exact (Kd.R_reads' HO_7.out).2.1); rintro e w64 ⟨rfl, hb⟩; have n0_ := Aside0.mk (Kd.R_below (by (with_reducible repeat (first | apply Kd.R_alloc | apply Kd.R_drewN | apply Kd.R_drew)); exact HO_7.out) hb); have n1_ := Aside0.mk (Kd.R_below (by (with_reducible repeat (first | apply Kd.R_alloc | apply Kd.R_drewN | apply Kd.R_drew)); exact HO344.out) hb); have n2_ := Aside0.mk (below_step (by repeat (first | (with_reducible first | exact HB.out | apply below_alloc | apply pw_below_drewN | apply below_drew1) | exact HB.out)) hb); clear HO_7; clear HO344; clear HB; have HO_7 := n0_; have HO344 := n1_; have HB := n2_; clear n0_ n1_ n2_; (try clear hb)))
            go_ret
            exact ⟨by first | rfl | (simp [errW_none, errW_some] <;> rfl) | (simp [*, errW_none, errW_some] <;> rfl), by repeat (first | (with_reducible first | exact HB.out | apply below_alloc | apply pw_below_drewN | apply below_drew1) | exact HB.out)⟩
          ·rw [if_neg c41] at H
           have c41b0 : (t346 == x5_1) = false := beq_eq_false_iff_ne.mpr c41
           have c41b1 : (t346 != x5_1) = true := bne_iff_ne.mpr c41
           obtain rfl := Option.some.inj H
           obtain ⟨Ao65, co65, eo65⟩ := Kd.R_slice HO_7.out
           subst eo65
           go_wp2_with (first | ((with_reducible refine gate_callee (f := 47) rfl ?_); refine goesL_ (some 99) rfl rfl Tryd.func47 (by kernel_rfl) rfl #[.slice Ao65 t323.length co65] rfl (by (try simp only [List.map_toArray, List.map_cons, List.map_nil]); first | done | rfl | (simp only [List.length_drop, List.length_take]; rfl)) ?_; (with_reducible refine (unit_Check.calls k2 _ _ t323 t340 t341 _ (by first | exact HL.out | exact laid_drewN HL.out | exact laid_below HL.out (by repeat (first | (with_reducible first | exact HB.out | apply below_alloc | apply pw_below_drewN | apply below_drew1 | refine below_set ?_ (Aside0.out (by assumption))) | exact HB.out)) | exact laid_below HL.out HB.out | exact laid_belowd HL.out HB.out) ?side1 ?side2 A36.out).mono ?_); (case side1 => repeat (first | exact (Kd.R_reads' HO_7.out).2.2 | (with_reducible refine Kd.C_alloc ?_ _) | (with_reducible refine Kd.C_drewN ?_ _) | (with_reducible refine Kd.C_drew ?_))); (case side2 => exact (Kd.R_reads' HO_7.out).2.1); rintro e w66 ⟨rfl, hb⟩; refine ⟨_, rfl, ?_⟩; have n0_ := Aside0.mk (Kd.R_below (by (with_reducible repeat (first | apply Kd.R_alloc | apply Kd.R_drewN | apply Kd.R_drew)); exact HO_7.out) hb); have n1_ := Aside0.mk (below_step (by repeat (first | (with_reducible first | exact HB.out | apply below_alloc | apply pw_below_drewN | apply below_drew1) | exact HB.out)) hb); clear HO_7; clear HB; have HO_7 := n0_; have HB := n1_; clear n0_ n1_; (try clear hb)) | ((with_reducible refine gate_callee (f := 52) rfl ?_); refine goesL_ (some 104) rfl rfl Tryd.func52 (by kernel_rfl) rfl #[.slice A0 l0.length c0] rfl (by (try simp only [List.map_toArray, List.map_cons, List.map_nil]); first | done | rfl | (simp only [List.length_drop, List.length_take]; rfl)) ?_; (with_reducible refine (spinnakerref09_Expand.calls k2 _ _ l0 t342 _ ?side1 ?side2 A37.out).mono ?_); (case side1 => repeat (first | exact (Kd.C_below HR0.out HB.out) | (with_reducible refine Kd.C_alloc ?_ _) | (with_reducible refine Kd.C_drewN ?_ _) | (with_reducible refine Kd.C_drew ?_))); (case side2 => exact HC0.out); rintro e w67 ⟨v343, rfl, ho0, hb⟩; refine ⟨_, rfl, ?_⟩; have n0_ := Aside0.mk (Kd.R_elder' (by (with_reducible repeat (first | apply Kd.R_alloc | apply Kd.R_drewN | apply Kd.R_drew)); exact HO_7.out) (Kd.R_base ho0) hb); have n1_ := Aside0.mk (Kd.R_lower (Kd.R_new' ho0 (Kd.R_lt (by (with_reducible repeat (first | apply Kd.R_alloc | apply Kd.R_drewN | apply Kd.R_drew)); exact HO_7.out))) (below_size (by repeat (first | (with_reducible first | exact HB.out | apply below_alloc | apply pw_below_drewN | apply below_drew1) | exact HB.out)))); have n2_ := Aside0.mk (below_step (by repeat (first | (with_reducible first | exact HB.out | apply below_alloc | apply pw_below_drewN | apply below_drew1) | exact HB.out)) hb); clear HO_7; clear HB; have HO_7 := n0_; have HO344 := n1_; have HB := n2_; clear n0_ n1_ n2_; (try clear hb); (try clear ho0); obtain ⟨Ao68, co68, eo68⟩ := Kd.R_slice HO344.out; subst eo68) | ((with_reducible refine gate_callee (f := 51) rfl ?_); refine goesL_ (some 105) rfl rfl Tryd.func51 (by kernel_rfl) rfl #[.slice Ao65 t323.length co65, .slice Ao68 t342.length co68] rfl (by (try simp only [List.map_toArray, List.map_cons, List.map_nil]); first | done | rfl | (simp only [List.length_drop, List.length_take]; rfl)) ?_; (with_reducible refine (spinnakerref09_Same.calls k2 _ _ t323 _ _ t342 true _ ?side1 ?side2 ?side3 ?side4 A38.out).mono ?_); (case side1 => repeat (first | exact (Kd.R_reads' HO_7.out).2.2 | (with_reducible refine Kd.C_alloc ?_ _) | (with_reducible refine Kd.C_drewN ?_ _) | (with_reducible refine Kd.C_drew ?_))); (case side2 => exact (Kd.R_reads' HO_7.out).2.1); (case side3 => repeat (first | exact (Kd.R_reads' HO344.out).2.2 | (with_reducible refine Kd.C_alloc ?_ _) | (with_reducible refine Kd.C_drewN ?_ _) | (with_reducible refine Kd.C_drew ?_))); (case side4 => exact (Kd.R_reads' HO344.out).2.1); rintro e w' ⟨rfl, ⟨nd, rfl⟩⟩; refine ⟨_, rfl, ?_⟩) | (go_at_call 53; (with_reducible refine (unit_Labels.calls k2 _ _ l0 t346 _ ?side1 ?side2 A40.out).mono ?_); (case side1 => repeat (first | exact (Kd.C_below HR0.out (by repeat (first | (with_reducible first | exact HB.out | apply below_alloc | apply pw_below_drewN | apply below_drew1) | exact HB.out))) | (with_reducible refine Kd.C_alloc ?_ _) | (with_reducible refine Kd.C_drewN ?_ _) | (with_reducible refine Kd.C_drew ?_))); (case side2 => exact HC0.out); rintro e w69 ⟨rfl, hb⟩; have n0_ := Aside0.mk (Kd.R_below (by (with_reducible repeat (first | apply Kd.R_alloc | apply Kd.R_drewN | apply Kd.R_drew)); exact HO_7.out) hb); have n1_ := Aside0.mk (Kd.R_below (by (with_reducible repeat (first | apply Kd.R_alloc | apply Kd.R_drewN | apply Kd.R_drew)); exact HO344.out) hb); have n2_ := Aside0.mk (below_step (by repeat (first | (with_reducible first | exact HB.out | apply below_alloc | apply pw_below_drewN | apply below_drew1) | exact HB.out)) hb); clear HO_7; clear HO344; clear HB; have HO_7 := n0_; have HO344 := n1_; have HB := n2_; clear n0_ n1_ n2_; (try clear hb)))
           go_ret
           exact ⟨by first | rfl | (simp [errW_none, errW_some] <;> rfl) | (simp [*, errW_none, errW_some] <;> rfl), by repeat (first | (with_reducible first | exact HB.out | apply below_alloc | apply pw_below_drewN | apply below_drew1) | exact HB.out)⟩
         ·replace c39 := Bool.eq_false_iff.mpr c39
          subst c39
          have H1 : (some false) = some r := by rw [if_neg (show ¬ (false = true) by decide)] at H; exact H
          clear H
          have H := H1
          clear H1
          obtain rfl := Option.some.inj H
          obtain ⟨Ao70, co70, eo70⟩ := Kd.R_slice HO_7.out
          subst eo70
          go_wp2_with (first | ((with_reducible refine gate_callee (f := 47) rfl ?_); refine goesL_ (some 99) rfl rfl Tryd.func47 (by kernel_rfl) rfl #[.slice Ao70 t323.length co70] rfl (by (try simp only [List.map_toArray, List.map_cons, List.map_nil]); first | done | rfl | (simp only [List.length_drop, List.length_take]; rfl)) ?_; (with_reducible refine (unit_Check.calls k2 _ _ t323 t340 t341 _ (by first | exact HL.out | exact laid_drewN HL.out | exact laid_below HL.out (by repeat (first | (with_reducible first | exact HB.out | apply below_alloc | apply pw_below_drewN | apply below_drew1 | refine below_set ?_ (Aside0.out (by assumption))) | exact HB.out)) | exact laid_below HL.out HB.out | exact laid_belowd HL.out HB.out) ?side1 ?side2 A36.out).mono ?_); (case side1 => repeat (first | exact (Kd.R_reads' HO_7.out).2.2 | (with_reducible refine Kd.C_alloc ?_ _) | (with_reducible refine Kd.C_drewN ?_ _) | (with_reducible refine Kd.C_drew ?_))); (case side2 => exact (Kd.R_reads' HO_7.out).2.1); rintro e w71 ⟨rfl, hb⟩; refine ⟨_, rfl, ?_⟩; have n0_ := Aside0.mk (Kd.R_below (by (with_reducible repeat (first | apply Kd.R_alloc | apply Kd.R_drewN | apply Kd.R_drew)); exact HO_7.out) hb); have n1_ := Aside0.mk (below_step (by repeat (first | (with_reducible first | exact HB.out | apply below_alloc | apply pw_below_drewN | apply below_drew1) | exact HB.out)) hb); clear HO_7; clear HB; have HO_7 := n0_; have HB := n1_; clear n0_ n1_; (try clear hb)) | ((with_reducible refine gate_callee (f := 52) rfl ?_); refine goesL_ (some 104) rfl rfl Tryd.func52 (by kernel_rfl) rfl #[.slice A0 l0.length c0] rfl (by (try simp only [List.map_toArray, List.map_cons, List.map_nil]); first | done | rfl | (simp only [List.length_drop, List.length_take]; rfl)) ?_; (with_reducible refine (spinnakerref09_Expand.calls k2 _ _ l0 t342 _ ?side1 ?side2 A37.out).mono ?_); (case side1 => repeat (first | exact (Kd.C_below HR0.out HB.out) | (with_reducible refine Kd.C_alloc ?_ _) | (with_reducible refine Kd.C_drewN ?_ _) | (with_reducible refine Kd.C_drew ?_))); (case side2 => exact HC0.out); rintro e w72 ⟨v343, rfl, ho0, hb⟩; refine ⟨_, rfl, ?_⟩; have n0_ := Aside0.mk (Kd.R_elder' (by (with_reducible repeat (first | apply Kd.R_alloc | apply Kd.R_drewN | apply Kd.R_drew)); exact HO_7.out) (Kd.R_base ho0) hb); have n1_ := Aside0.mk (Kd.R_lower (Kd.R_new' ho0 (Kd.R_lt (by (with_reducible repeat (first | apply Kd.R_alloc | apply Kd.R_drewN | apply Kd.R_drew)); exact HO_7.out))) (below_size (by repeat (first | (with_reducible first | exact HB.out | apply below_alloc | apply pw_below_drewN | apply below_drew1) | exact HB.out)))); have n2_ := Aside0.mk (below_step (by repeat (first | (with_reducible first | exact HB.out | apply below_alloc | apply pw_below_drewN | apply below_drew1) | exact HB.out)) hb); clear HO_7; clear HB; have HO_7 := n0_; have HO344 := n1_; have HB := n2_; clear n0_ n1_ n2_; (try clear hb); (try clear ho0); obtain ⟨Ao73, co73, eo73⟩ := Kd.R_slice HO344.out; subst eo73) | ((with_reducible refine gate_callee (f := 51) rfl ?_); refine goesL_ (some 105) rfl rfl Tryd.func51 (by kernel_rfl) rfl #[.slice Ao70 t323.length co70, .slice Ao73 t342.length co73] rfl (by (try simp only [List.map_toArray, List.map_cons, List.map_nil]); first | done | rfl | (simp only [List.length_drop, List.length_take]; rfl)) ?_; (with_reducible refine (spinnakerref09_Same.calls k2 _ _ t323 _ _ t342 false _ ?side1 ?side2 ?side3 ?side4 A38.out).mono ?_); (case side1 => repeat (first | exact (Kd.R_reads' HO_7.out).2.2 | (with_reducible refine Kd.C_alloc ?_ _) | (with_reducible refine Kd.C_drewN ?_ _) | (with_reducible refine Kd.C_drew ?_))); (case side2 => exact (Kd.R_reads' HO_7.out).2.1); (case side3 => repeat (first | exact (Kd.R_reads' HO344.out).2.2 | (with_reducible refine Kd.C_alloc ?_ _) | (with_reducible refine Kd.C_drewN ?_ _) | (with_reducible refine Kd.C_drew ?_))); (case side4 => exact (Kd.R_reads' HO344.out).2.1); rintro e w' ⟨rfl, ⟨nd, rfl⟩⟩; refine ⟨_, rfl, ?_⟩))
          go_ret
          exact ⟨by first | rfl | (simp [errW_none, errW_some] <;> rfl) | (simp [*, errW_none, errW_some] <;> rfl), by repeat (first | (with_reducible first | exact HB.out | apply below_alloc | apply pw_below_drewN | apply below_drew1) | exact HB.out)⟩
  ·rw [if_neg c6] at H
   have c6b0 : (t313 == 0) = false := beq_eq_false_iff_ne.mpr c6
   have c6b1 : (t313 != 0) = true := bne_iff_ne.mpr c6
   replace H := Option.bind_eq_some_iff.mp H
   obtain ⟨t314, A740, H⟩ := H
   replace H : (some t314) = some r := H
   have A74 := Aside0.mk A740
   clear A740
   obtain rfl := Option.some.inj H
   go_enter Tryd.func14, Tryd.ntmps14
   go_wp2_with (first | ((with_reducible refine gate_callee (f := 48) rfl ?_); refine goesL_ (some 17) rfl rfl Tryd.func48 (by kernel_rfl) rfl #[.slice A0 l0.length c0] rfl (by (try simp only [List.map_toArray, List.map_cons, List.map_nil]); first | done | rfl | (simp only [List.length_drop, List.length_take]; rfl)) ?_; (with_reducible refine (spinnakerref09_Check.calls k _ _ l0 t312 t313 _ ?side1 ?side2 A5.out).mono ?_); (case side1 => repeat (first | exact HR0.out | (with_reducible refine Kd.C_alloc ?_ _) | (with_reducible refine Kd.C_drewN ?_ _) | (with_reducible refine Kd.C_drew ?_))); (case side2 => exact HC0.out); rintro e w75 ⟨rfl, hb⟩; refine ⟨_, rfl, ?_⟩; have n0_ := Aside0.mk (below_step (by repeat (first | (with_reducible first | exact HB.out | apply below_alloc | apply pw_below_drewN | apply below_drew1) | exact HB.out)) hb); clear HB; have HB := n0_; clear n0_; (try clear hb)) | ((with_reducible refine gate_callee (f := 46) rfl ?_); refine goesL_ (some 22) rfl rfl Tryd.func46 (by kernel_rfl) rfl #[] rfl (by (try simp only [List.map_toArray, List.map_cons, List.map_nil]); first | done | rfl | (simp only [List.length_drop, List.length_take]; rfl)) ?_; (with_reducible refine (spinnakerlaw09_awake.calls k  t314 _ (by first | exact HL.out | exact laid_drewN HL.out | exact laid_below HL.out (by repeat (first | (with_reducible first | exact HB.out | apply below_alloc | apply pw_below_drewN | apply below_drew1 | refine below_set ?_ (Aside0.out (by assumption))) | exact HB.out)) | exact laid_below HL.out HB.out | exact laid_belowd HL.out HB.out) A74.out).mono ?_); rintro e w76 ⟨rfl, hb⟩; refine ⟨_, rfl, ?_⟩; have n0_ := Aside0.mk (below_step (by repeat (first | (with_reducible first | exact HB.out | apply below_alloc | apply pw_below_drewN | apply below_drew1) | exact HB.out)) hb); clear HB; have HB := n0_; clear n0_; (try clear hb)))
   go_ret
   exact ⟨by first | rfl | (simp [errW_none, errW_some] <;> rfl) | (simp [*, errW_none, errW_some] <;> rfl), by repeat (first | (with_reducible first | exact HB.out | apply below_alloc | apply pw_below_drewN | apply below_drew1) | exact HB.out)⟩

end Go.Proofs.YtbmjbidekmkboaaDoor.GUnitExpands
