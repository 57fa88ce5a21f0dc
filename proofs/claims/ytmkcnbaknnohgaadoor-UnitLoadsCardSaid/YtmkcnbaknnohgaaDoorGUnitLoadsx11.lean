-- Written by wip/stub.py of this repo.
import Derived.Test.YtmkcnbaknnohgaaDoorGUnitLoadsx0
import Derived.Test.YtmkcnbaknnohgaaDoorGUnitLoadsx1
import Derived.Test.YtmkcnbaknnohgaaDoorGUnitLoadsx2
import Derived.Test.YtmkcnbaknnohgaaDoorGUnitLoadsx3
import Derived.Test.YtmkcnbaknnohgaaDoorGUnitLoadsx5
import Derived.Test.YtmkcnbaknnohgaaDoorGUnitLoadsx10
namespace Go.Proofs.YtmkcnbaknnohgaaDoor.GUnitLoads
open Go.RowKit Go.Proofs.YtmkcnbaknnohgaaDoorW.PrintWords Go.Proofs.YtmkcnbaknnohgaaDoorW.PrintLast Go.Proofs.YtmkcnbaknnohgaaDoorW.PrintMore
attribute [local go_sem] max2_int min2_int max_two min_two max_three min_three max_four min_four   -- for this text's walks alone
set_option linter.unusedVariables false
set_option linter.unusedSimpArgs false

attribute [local go_sem high] eqA27
/-! ### spinnakerlaw09_UnitLoads: function 3 -/
mutual
def spinnakerlaw09_UnitLoads.j0 : Nat → Int → Int → List Int → List (S27) → Bool → Option (Bool)
  | 0, _, _, _, _, _ => none
  | k + 1, x0, x1, x5, x7, x19 => if x19 = true then (if (x7.length : Int) = 0 then ((spinnakerlaw09_awake.f k).bind fun t329 => (some t329)) else (some false)) else ((spinnakerref09_Load.f k x0 x1).bind fun t330 => (if (x7.length : Int) = (t330.length : Int) then (spinnakerlaw09_UnitLoads.j1 k x0 x1 x5 x7 t330 (decide ((x7.length : Int) > 8))) else (spinnakerlaw09_UnitLoads.j1 k x0 x1 x5 x7 t330 true)))
def spinnakerlaw09_UnitLoads.j1 : Nat → Int → Int → List Int → List (S27) → List (S27) → Bool → Option (Bool)
  | 0, _, _, _, _, _, _ => none
  | k + 1, x0, x1, x5, x7, x8, x38 => if x38 = true then (some false) else (spinnakerlaw09_UnitLoads.l0 k x0 x1 x5 x7 x8 0)
def spinnakerlaw09_UnitLoads.l0 : Nat → Int → Int → List Int → List (S27) → List (S27) → Int → Option (Bool)
  | 0, _, _, _, _, _, _ => none
  | k + 1, x0, x1, x5, x7, x8, x9 => if x9 < (x7.length : Int) then (if 0 ≤ x9 then (if x9 < (x8.length : Int) then (if (!(((rd_T27 x7 x9).f0) == ((rd_T27 x8 x9).f0)) || (!(((rd_T27 x7 x9).f1) == ((rd_T27 x8 x9).f1)) || (!(((rd_T27 x7 x9).f2) == ((rd_T27 x8 x9).f2)) || (!(((rd_T27 x7 x9).f3) == ((rd_T27 x8 x9).f3)) || (!(((rd_T27 x7 x9).f4) == ((rd_T27 x8 x9).f4)) || (!(((rd_T27 x7 x9).f5) == ((rd_T27 x8 x9).f5)) || (!(((rd_T27 x7 x9).f6) == ((rd_T27 x8 x9).f6))))))))) = true then (some false) else ((spinnakerref03_May.f k ((rd_T27 x7 x9).f0) ((rd_T27 x7 x9).f1) ((rd_T27 x7 x9).f2) ((rd_T27 x7 x9).f3) ((rd_T27 x7 x9).f4) ((rd_T27 x7 x9).f5) ((rd_T27 x7 x9).f6)).bind fun t336 => (if t336 = true then (if ((rd_T27 x7 x9).f0) = 1 then (spinnakerlaw09_UnitLoads.l0 k x0 x1 x5 x7 x8 (wrap64 (x9 + 1))) else (if ((rd_T27 x7 x9).f0) < 22 then (some false) else (if ((rd_T27 x7 x9).f0) > 31 then (some false) else (spinnakerlaw09_UnitLoads.l0 k x0 x1 x5 x7 x8 (wrap64 (x9 + 1)))))) else (some false)))) else (none)) else (none)) else (if 0 < (x5.length : Int) then ((some (x5.set (0 : Int).toNat 0 : List Int)).bind fun y340 => ((spinnakerref09_Does.f k x7 y340).bind fun t341 => (if x0 = 0 then ((arr_same.f t341 y340).bind fun t344 => (if t344 = true then ((spinnakerlaw09_awake.f k).bind fun t345 => (some t345)) else (some false))) else (if 0 ≤ x0 then (if x0 < (x5.length : Int) then ((arr_same.f t341 (y340.set (x0 : Int).toNat x1)).bind fun t347 => (if t347 = true then ((spinnakerlaw09_awake.f k).bind fun t348 => (some t348)) else (some false))) else (none)) else (none))))) else (none))
end
def spinnakerlaw09_UnitLoads.f (k : Nat) (a0 : Int) (a1 : Int) (l2 : List Int) : Option (Bool) := if ([] : List Int).length + l2.length < 17592186044416 then ((some (([] : List Int) ++ l2 : List Int)).bind fun y323 => ((unit_Load.f k a0 a1).bind fun t326 => (if a0 < 0 then (spinnakerlaw09_UnitLoads.j0 k a0 a1 y323 t326 true) else (spinnakerlaw09_UnitLoads.j0 k a0 a1 y323 t326 (decide (a0 > 31)))))) else (none)
theorem spinnakerlaw09_UnitLoads.mono_l : ∀ k, (∀ y0 y1 y2 y3 y4, LeO (spinnakerlaw09_UnitLoads.j0 k y0 y1 y2 y3 y4) (spinnakerlaw09_UnitLoads.j0 (k + 1) y0 y1 y2 y3 y4)) ∧ (∀ y0 y1 y2 y3 y4 y5, LeO (spinnakerlaw09_UnitLoads.j1 k y0 y1 y2 y3 y4 y5) (spinnakerlaw09_UnitLoads.j1 (k + 1) y0 y1 y2 y3 y4 y5)) ∧ (∀ y0 y1 y2 y3 y4 y5, LeO (spinnakerlaw09_UnitLoads.l0 k y0 y1 y2 y3 y4 y5) (spinnakerlaw09_UnitLoads.l0 (k + 1) y0 y1 y2 y3 y4 y5))
 | 0 => ⟨fun _ _ _ _ _ r h => by simp [spinnakerlaw09_UnitLoads.j0] at h, fun _ _ _ _ _ _ r h => by simp [spinnakerlaw09_UnitLoads.j1] at h, fun _ _ _ _ _ _ r h => by simp [spinnakerlaw09_UnitLoads.l0] at h⟩
 | k + 1 => by
  obtain ⟨ih0, ih1, ih2⟩ := spinnakerlaw09_UnitLoads.mono_l k
  refine ⟨?_, ?_, ?_⟩
  all_goals (intros; (first | unfold spinnakerlaw09_UnitLoads.j0 | unfold spinnakerlaw09_UnitLoads.j1 | unfold spinnakerlaw09_UnitLoads.l0); repeat' first | (with_reducible first | exact ih0 _ _ _ _ _ | exact ih1 _ _ _ _ _ _ | exact ih2 _ _ _ _ _ _ | exact spinnakerlaw09_awake.mono _ | exact spinnakerref03_May.mono _ _ _ _ _ _ _ _ | exact spinnakerref09_Does.mono _ _ _ | exact spinnakerref09_Load.mono _ _ _ | exact unit_Load.mono _ _ _ | exact LeO.refl _ | exact LeO.none _ | refine LeO.ite ?_ ?_ | refine LeO.bind ?_ (fun _ => ?_)) | exact ih0 _ _ _ _ _ | exact ih1 _ _ _ _ _ _ | exact ih2 _ _ _ _ _ _ | exact spinnakerlaw09_awake.mono _ | exact spinnakerref03_May.mono _ _ _ _ _ _ _ _ | exact spinnakerref09_Does.mono _ _ _ | exact spinnakerref09_Load.mono _ _ _ | exact unit_Load.mono _ _ _ | exact LeO.none _ | refine LeO.ite ?_ ?_ | refine LeO.bind ?_ (fun _ => ?_))
theorem spinnakerlaw09_UnitLoads.mono : ∀ a0 a1 a2 k, LeO (spinnakerlaw09_UnitLoads.f k a0 a1 a2) (spinnakerlaw09_UnitLoads.f (k + 1) a0 a1 a2) := by
 intro a0 a1 a2 k
 obtain ⟨ih0, ih1, ih2⟩ := spinnakerlaw09_UnitLoads.mono_l k
 unfold spinnakerlaw09_UnitLoads.f
 repeat' first | (with_reducible first | exact ih0 _ _ _ _ _ | exact ih1 _ _ _ _ _ _ | exact ih2 _ _ _ _ _ _ | exact spinnakerlaw09_awake.mono _ | exact spinnakerref03_May.mono _ _ _ _ _ _ _ _ | exact spinnakerref09_Does.mono _ _ _ | exact spinnakerref09_Load.mono _ _ _ | exact unit_Load.mono _ _ _ | exact LeO.refl _ | exact LeO.none _ | refine LeO.ite ?_ ?_ | refine LeO.bind ?_ (fun _ => ?_)) | exact ih0 _ _ _ _ _ | exact ih1 _ _ _ _ _ _ | exact ih2 _ _ _ _ _ _ | exact spinnakerlaw09_awake.mono _ | exact spinnakerref03_May.mono _ _ _ _ _ _ _ _ | exact spinnakerref09_Does.mono _ _ _ | exact spinnakerref09_Load.mono _ _ _ | exact unit_Load.mono _ _ _ | exact LeO.none _ | refine LeO.ite ?_ ?_ | refine LeO.bind ?_ (fun _ => ?_)
def spinnakerlaw09_UnitLoads.T10 : Bool × List (List Nat × List Nat) := (true, [([], []), ([], []), ([0, 1], [0, 1]), ([2], [2]), ([], []), ([], []), ([4, 5], [4, 5]), ([6], [6]), ([3, 7], [3, 7]), ([8], [8]), ([9], [9]), ([9], [9]), ([10, 11, 9], [9, 10, 11]), ([12, 9], [9, 12]), ([13, 9, 9], [9, 13]), ([14, 9], [9, 14]), ([9, 15], [9, 15]), ([16, 14], [16]), ([17], [17]), ([17], [17]), ([18, 19, 17], [17, 18, 19]), ([20, 17], [17, 20]), ([21, 17], [17, 21]), ([22, 17], [17, 22]), ([23, 17, 17], [17, 23]), ([24], [24]), ([24], [24]), ([25, 26, 24], [24, 25, 26]), ([27, 24], [24, 27]), ([28, 24], [24, 28]), ([29, 24], [24, 29]), ([30, 24, 24], [24, 30]), ([31], [31]), ([31], [31]), ([32, 33, 31], [31, 32, 33]), ([34, 31], [31, 34]), ([35, 31], [31, 35]), ([36, 31], [31, 36]), ([31, 37, 24], [24, 31, 37]), ([24, 38, 17], [17, 24, 38]), ([17, 39], [17, 39])])
def spinnakerlaw09_UnitLoads.B10 : List Nat := [0, 0, 3, 7, 0, 0, 48, 112, 255, 511, 1023, 1023, 4095, 8191, 16383, 32767, 65535, 131071, 262143, 262143, 1048575, 2097151, 4194303, 8388607, 16777215, 33554431, 33554431, 134217727, 268435455, 536870911, 1073741823, 2147483647, 4294967295, 4294967295, 17179869183, 34359738367, 68719476735, 137438953471, 274877906943, 549755813887, 1099511627775]
theorem spinnakerlaw09_UnitLoads.tab10 : rtab .any (opsOf Tryd.f3 10) = spinnakerlaw09_UnitLoads.T10 := by kernel_rfl
theorem spinnakerlaw09_UnitLoads.bits10 : waitsOk spinnakerlaw09_UnitLoads.T10.2 spinnakerlaw09_UnitLoads.B10 = true := by kernel_rfl
set_option maxHeartbeats 8000000 in
set_option maxRecDepth 100000 in
theorem spinnakerlaw09_UnitLoads.calls (k : Nat) (a0 : Int) (a1 : Int) (l2 : List Int) (r : Bool) (w : World) (hL : Laid w) (hn2 : l2.length = 32) (h : spinnakerlaw09_UnitLoads.f k a0 a1 l2 = some r) :
  Calls Tryd.prog 3 #[.int .i64 a0, .int .i64 a1, .agg (nums .i64 l2).toArray] w fun e w' => e = .returned (.bool r) ∧ Below w.heap.size w w' := by
 have HL := Aside0.mk hL
 clear hL
 have hu27 := Tryd.underlying27
 have HN2 := Aside0.mk hn2
 clear hn2
 have hu22 := Tryd.underlying22
 have HB := Aside0.mk (Below.refl w.heap.size w)
 have H : (if ([] : List Int).length + l2.length < 17592186044416 then ((some (([] : List Int) ++ l2 : List Int)).bind fun y323 => ((unit_Load.f k a0 a1).bind fun t326 => (if a0 < 0 then (spinnakerlaw09_UnitLoads.j0 k a0 a1 y323 t326 true) else (spinnakerlaw09_UnitLoads.j0 k a0 a1 y323 t326 (decide (a0 > 31)))))) else (none)) = some r := h
 clear h
 by_cases c4 : ([] : List Int).length + l2.length < 17592186044416
 ·rw [if_pos c4] at H
  have LMc4 := Aside0.mk c4
  clear c4
  obtain ⟨y323, hy323⟩ : ∃ y_ : List Int, y_ = (([] : List Int) ++ l2) := ⟨_, rfl⟩
  replace H : ((unit_Load.f k a0 a1).bind fun t326 => (if a0 < 0 then (spinnakerlaw09_UnitLoads.j0 k a0 a1 y323 t326 true) else (spinnakerlaw09_UnitLoads.j0 k a0 a1 y323 t326 (decide (a0 > 31))))) = some r := by first | (rw [hy323]; with_reducible exact H) | (have H2_ := (Option.bind_some _ _).symm.trans H; rw [hy323]; with_reducible exact H2_) | (have H2_ := (Option.bind_some _ _).symm.trans H; with_reducible exact H2_) | with_reducible exact H | (rw [hy323]; exact H) | exact H
  have Ny323 := Aside0.mk hy323
  clear hy323
  replace H := be H
  obtain ⟨t326, A5, H⟩ := H
  have HC6 := Aside0.mk H
  clear H
  go_enter Tryd.func3, Tryd.ntmps3
  go_upto_region 2 with (first | ((with_reducible refine gate_dst (N := 5) rfl ?_); refine ari_new ?hg (N := 5) ?hd 22 y323 32 (by rw [Ny323.out, List.nil_append]; exact HN2.out) (by decide) ?hr ?_; (case hd => rfl); (case hg => rfl); (case hr => rw [Ny323.out, List.nil_append]; first | (go_simp; done) | (go_simp; rfl)); intro ga324 w7 ho hb hg; have n0_ := Aside0.mk (below_step bl hb); have n1_ := Aside0.mk ho; clear HB; have HB := n0_; have HO325 := n1_; clear n0_ n1_; clear ho hb hg) | ((with_reducible refine gate_callee (f := 4) rfl ?_); refine goesL_ (some 13) rfl rfl Tryd.func4 (by kernel_rfl) rfl #[.int .i64 a0, .int .i64 a1] rfl ga ?_; (with_reducible refine (unit_Load.calls k a0 a1 t326 _ (by first | exact HL.out | exact laid_drewN HL.out | exact laid_below HL.out bl | exact laid_below HL.out HB.out | exact laid_belowd HL.out HB.out) A5.out).mono ?_); rintro e w8 ⟨v327, rfl, ho0, hb⟩; refine ⟨_, rfl, ?_⟩; have n0_ := Aside0.mk (Kd.R_below (by (with_reducible repeat (first | apply Kd.R_alloc | apply Kd.R_drewN | apply Kd.R_drew)); exact HO325.out) hb); have n1_ := Aside0.mk (Kd.R_lower ho0 (below_size bl)); have n2_ := Aside0.mk (below_step bl hb); clear HO325; clear HB; have HO325 := n0_; have HO328 := n1_; have HB := n2_; clear n0_ n1_ n2_; (try clear hb); (try clear ho0)))
  (try simp only [Act.put, List.setIfInBounds_toArray, List.set_cons_zero, List.set_cons_succ])
  go_cut [19] (fun v19 wc => ∃ (kq : Nat) (x19_5 : Bool), v19 = .bool x19_5 ∧ Aside0 (spinnakerlaw09_UnitLoads.j0 kq a0 a1 y323 t326 x19_5 = some r) ∧ Aside0 (kq ≤ k) ∧ Aside0 (Kd.R (Kd.int .i64) 22 wc w.heap.size (fun _ => True) (.slice (some ⟨ga324, 0, none⟩) 32 32) y323) ∧ Aside0 (Kd.R k27 27 wc w.heap.size (fun _ => True) v327 t326) ∧ Aside0 (Below w.heap.size w wc))
  case first =>
   have H := HC6.out
   clear HC6
   by_cases c9 : a0 < 0
   ·rw [if_pos c9] at H
    have c9b0 := decide_eq_true c9
    clear c9
    (first | rw [c9b0] | (simp only [i64_w, i32_w]; rw [c9b0]) | skip)
    have H' := Aside0.mk H
    clear H
    go_wp2
    go_meet
    case rel => exact ⟨_, (true), fj, H', ⟨by first | omega | exact Nat.le_refl _⟩, ⟨by (with_reducible repeat (first | apply Kd.R_alloc | apply Kd.R_drewN | apply Kd.R_drew)); exact HO325.out⟩, ⟨by (with_reducible repeat (first | apply Kd.R_alloc | apply Kd.R_drewN | apply Kd.R_drew)); exact HO328.out⟩, ⟨bl⟩⟩
   ·rw [if_neg c9] at H
    have c9b0 := decide_eq_false c9
    clear c9
    (first | rw [c9b0] | (simp only [i64_w, i32_w]; rw [c9b0]) | skip)
    have H' := Aside0.mk H
    clear H
    go_wp2
    go_meet
    case rel => exact ⟨_, (decide (a0 > 31)), fj, H', ⟨by first | omega | exact Nat.le_refl _⟩, ⟨by (with_reducible repeat (first | apply Kd.R_alloc | apply Kd.R_drewN | apply Kd.R_drew)); exact HO325.out⟩, ⟨by (with_reducible repeat (first | apply Kd.R_alloc | apply Kd.R_drewN | apply Kd.R_drew)); exact HO328.out⟩, ⟨bl⟩⟩
  case rest =>
   clear HC6
   try clear c2
   try clear p2
   try clear c3
   try clear c4
   try clear c9
   try clear c9b0
   obtain ⟨kq, x19_5, rfl, HA, HJ5, HO_5, HO_7, HB⟩ := hcut
   cases kq with
   | zero => exact absurd HA.out (by simp [spinnakerlaw09_UnitLoads.j0])
   | succ kj5 =>
    have H := HA.out
    clear HA
    simp only [spinnakerlaw09_UnitLoads.j0] at H
    by_cases c10 : x19_5 = true
    ·subst c10
     have H1 : (if (t326.length : Int) = 0 then ((spinnakerlaw09_awake.f kj5).bind fun t329 => (some t329)) else (some false)) = some r := by rw [if_pos rfl] at H; exact H
     clear H
     have H := H1
     clear H1
     by_cases c11 : (t326.length : Int) = 0
     ·rw [if_pos c11] at H
      obtain ⟨c11b0, c11b1⟩ := eqs c11
      clear c11
      replace H := be H
      obtain ⟨t329, A12, H⟩ := H
      obtain rfl := Option.some.inj H
      obtain ⟨Ao13, co13, eo13⟩ := Kd.R_slice HO_7.out
      subst eo13
      go_wp2_with (first | (go_at_call 5; (with_reducible refine (spinnakerlaw09_awake.calls kj5  t329 _ (by first | exact HL.out | exact laid_drewN HL.out | exact laid_below HL.out bl | exact laid_below HL.out HB.out | exact laid_belowd HL.out HB.out) A12.out).mono ?_); rintro e w14 ⟨rfl, hb⟩; have n0_ := Aside0.mk (Kd.R_below (by (with_reducible repeat (first | apply Kd.R_alloc | apply Kd.R_drewN | apply Kd.R_drew)); exact HO_5.out) hb); have n1_ := Aside0.mk (Kd.R_below (by (with_reducible repeat (first | apply Kd.R_alloc | apply Kd.R_drewN | apply Kd.R_drew)); exact HO_7.out) hb); have n2_ := Aside0.mk (below_step bl hb); clear HO_5; clear HO_7; clear HB; have HO_5 := n0_; have HO_7 := n1_; have HB := n2_; clear n0_ n1_ n2_; (try clear hb)))
      go_ret
      exact ⟨fi, bl⟩
     ·rw [if_neg c11] at H
      have c11b0 : ((t326.length : Int) == 0) = false := beq_eq_false_iff_ne.mpr c11
      have c11b1 : ((t326.length : Int) != 0) = true := bne_iff_ne.mpr c11
      have c11b2 : ¬ (t326 = []) := fun h_ => c11 (by rw [h_]; rfl)
      obtain rfl := Option.some.inj H
      obtain ⟨Ao15, co15, eo15⟩ := Kd.R_slice HO_7.out
      subst eo15
      go_wp2
      go_ret
      exact ⟨fi, bl⟩
    ·replace c10 := Bool.eq_false_iff.mpr c10
     subst c10
     have H1 : ((spinnakerref09_Load.f kj5 a0 a1).bind fun t330 => (if (t326.length : Int) = (t330.length : Int) then (spinnakerlaw09_UnitLoads.j1 kj5 a0 a1 y323 t326 t330 (decide ((t326.length : Int) > 8))) else (spinnakerlaw09_UnitLoads.j1 kj5 a0 a1 y323 t326 t330 true))) = some r := by rw [if_neg (show ¬ (false = true) by decide)] at H; exact H
     clear H
     have H := H1
     clear H1
     replace H := be H
     obtain ⟨t330, A16, H⟩ := H
     have HC17 := Aside0.mk H
     clear H
     go_upto_region 5 with (first | ((with_reducible refine gate_callee (f := 6) rfl ?_); refine goesL_ (some 28) rfl rfl Tryd.func6 (by kernel_rfl) rfl #[.int .i64 a0, .int .i64 a1] rfl ga ?_; (with_reducible refine (spinnakerref09_Load.calls kj5 a0 a1 t330 _ A16.out).mono ?_); rintro e w18 ⟨v331, rfl, ho0, hb⟩; refine ⟨_, rfl, ?_⟩; have n0_ := Aside0.mk (Kd.R_below (by (with_reducible repeat (first | apply Kd.R_alloc | apply Kd.R_drewN | apply Kd.R_drew)); exact HO_5.out) hb); have n1_ := Aside0.mk (Kd.R_elder' (by (with_reducible repeat (first | apply Kd.R_alloc | apply Kd.R_drewN | apply Kd.R_drew)); exact HO_7.out) (Kd.R_base ho0) hb); have n2_ := Aside0.mk (Kd.R_lower (Kd.R_new' ho0 (Kd.R_lt (by (with_reducible repeat (first | apply Kd.R_alloc | apply Kd.R_drewN | apply Kd.R_drew)); exact HO_7.out))) (below_size bl)); have n3_ := Aside0.mk (below_step bl hb); clear HO_5; clear HO_7; clear HB; have HO_5 := n0_; have HO_7 := n1_; have HO332 := n2_; have HB := n3_; clear n0_ n1_ n2_ n3_; (try clear hb); (try clear ho0)))
     (try simp only [Act.put, List.setIfInBounds_toArray, List.set_cons_zero, List.set_cons_succ])
     go_cut [38] (fun v38 wc => ∃ (kq : Nat) (x38_16 : Bool), v38 = .bool x38_16 ∧ Aside0 (spinnakerlaw09_UnitLoads.j1 kq a0 a1 y323 t326 t330 x38_16 = some r) ∧ Aside0 (kq ≤ kj5) ∧ Aside0 (Kd.R (Kd.int .i64) 22 wc w.heap.size (fun _ => True) (.slice (some ⟨ga324, 0, none⟩) 32 32) y323) ∧ Aside0 (Kd.R k27 27 wc w.heap.size (fun k_ => some k_ ≠ (v331 : Value).ownBlock) v327 t326) ∧ Aside0 (Kd.R k27 27 wc w.heap.size (fun k_ => some k_ ≠ (v327 : Value).ownBlock) v331 t330) ∧ Aside0 (Below w.heap.size w wc))
     case first =>
      have H := HC17.out
      clear HC17
      by_cases c19 : (t326.length : Int) = (t330.length : Int)
      ·rw [if_pos c19] at H
       have c19b0 : ((t326.length : Int) == (t330.length : Int)) = true := beq_iff_eq.mpr c19
       have c19b1 : ((t326.length : Int) != (t330.length : Int)) = false := bne_eq_false_iff_eq.mpr c19
       have c19b2 : (t326.length == t330.length) = true := by first | simpa using c19 | (simp at c19 ⊢; omega)
       clear c19
       (first | rw [c19b0] | (simp only [i64_w, i32_w]; rw [c19b0]) | skip)
       have H' := Aside0.mk H
       clear H
       obtain ⟨Ao20, co20, eo20⟩ := Kd.R_slice HO_7.out
       subst eo20
       obtain ⟨Ao21, co21, eo21⟩ := Kd.R_slice HO332.out
       subst eo21
       go_wp2
       go_meet
       case rel => exact ⟨_, (decide ((t326.length : Int) > 8)), fj, H', ⟨by have := HJ5.out; first | omega | exact Nat.le_refl _⟩, ⟨by (with_reducible repeat (first | apply Kd.R_alloc | apply Kd.R_drewN | apply Kd.R_drew)); exact HO_5.out⟩, ⟨by (with_reducible repeat (first | apply Kd.R_alloc | apply Kd.R_drewN | apply Kd.R_drew)); exact Kd.R_mono HO_7.out (fun _ hk => hk.2)⟩, ⟨by (with_reducible repeat (first | apply Kd.R_alloc | apply Kd.R_drewN | apply Kd.R_drew)); exact Kd.R_mono HO332.out (fun _ hk => hk.2)⟩, ⟨bl⟩⟩
      ·rw [if_neg c19] at H
       have c19b0 : ((t326.length : Int) == (t330.length : Int)) = false := beq_eq_false_iff_ne.mpr c19
       have c19b1 : ((t326.length : Int) != (t330.length : Int)) = true := bne_iff_ne.mpr c19
       have c19b2 : (t326.length == t330.length) = false := by first | simpa using c19 | (simp at c19 ⊢; omega)
       (first | rw [c19b0] | (simp only [i64_w, i32_w]; rw [c19b0]) | skip)
       have H' := Aside0.mk H
       clear H
       obtain ⟨Ao22, co22, eo22⟩ := Kd.R_slice HO_7.out
       subst eo22
       obtain ⟨Ao23, co23, eo23⟩ := Kd.R_slice HO332.out
       subst eo23
       go_wp2
       go_meet
       case rel => exact ⟨_, (true), fj, H', ⟨by have := HJ5.out; first | omega | exact Nat.le_refl _⟩, ⟨by (with_reducible repeat (first | apply Kd.R_alloc | apply Kd.R_drewN | apply Kd.R_drew)); exact HO_5.out⟩, ⟨by (with_reducible repeat (first | apply Kd.R_alloc | apply Kd.R_drewN | apply Kd.R_drew)); exact Kd.R_mono HO_7.out (fun _ hk => hk.2)⟩, ⟨by (with_reducible repeat (first | apply Kd.R_alloc | apply Kd.R_drewN | apply Kd.R_drew)); exact Kd.R_mono HO332.out (fun _ hk => hk.2)⟩, ⟨bl⟩⟩
     case rest =>
      clear HC17
      try clear c1
      try clear c2
      try clear p2
      try clear c3
      try clear c4
      try clear c6
      try clear c9
      try clear c9b0
      try clear c10
      try clear c11
      try clear c11b0
      try clear c11b1
      try clear c11b2
      try clear c19
      try clear c19b0
      try clear c19b1
      try clear c19b2
      try clear p2
      obtain ⟨kq, x38_16, rfl, HA, HJ16, HO_5, HO_7, HO_8, HB⟩ := hcut
      cases kq with
      | zero => exact absurd HA.out (by simp [spinnakerlaw09_UnitLoads.j1])
      | succ kj16 =>
       have H := HA.out
       clear HA
       simp only [spinnakerlaw09_UnitLoads.j1] at H
       by_cases c24 : x38_16 = true
       ·subst c24
        have H1 : (some false) = some r := by rw [if_pos rfl] at H; exact H
        clear H
        have H := H1
        clear H1
        obtain rfl := Option.some.inj H
        go_wp2
        go_ret
        exact ⟨fi, bl⟩
       ·replace c24 := Bool.eq_false_iff.mpr c24
        subst c24
        have H1 : (spinnakerlaw09_UnitLoads.l0 kj16 a0 a1 y323 t326 t330 0) = some r := by rw [if_neg (show ¬ (false = true) by decide)] at H; exact H
        clear H
        have H := H1
        clear H1
        have H' := Aside0.mk H
        clear H
        go_wp2
        go_loopg [9] kj16 (fun kq v9 w' => ∃ (x9_3 : Int), v9 = .int .i64 x9_3 ∧ Aside0 (spinnakerlaw09_UnitLoads.l0 kq a0 a1 y323 t326 t330 x9_3 = some r) ∧ Aside0 (kq ≤ kj16) ∧ Aside0 (Kd.R (Kd.int .i64) 22 w' w.heap.size (fun _ => True) (.slice (some ⟨ga324, 0, none⟩) 32 32) y323) ∧ Aside0 (Kd.R k27 27 w' w.heap.size (fun k_ => some k_ ≠ (v331 : Value).ownBlock) v327 t326) ∧ Aside0 (Kd.R k27 27 w' w.heap.size (fun k_ => some k_ ≠ (v327 : Value).ownBlock) v331 t330) ∧ Aside0 (Below w.heap.size w w'))
        case atStart => exact ⟨(0), fj, H', ⟨Nat.le_refl _⟩, ⟨by (with_reducible repeat (first | apply Kd.R_alloc | apply Kd.R_drewN | apply Kd.R_drew)); exact HO_5.out⟩, ⟨by (with_reducible repeat (first | apply Kd.R_alloc | apply Kd.R_drewN | apply Kd.R_drew)); exact HO_7.out⟩, ⟨by (with_reducible repeat (first | apply Kd.R_alloc | apply Kd.R_drewN | apply Kd.R_drew)); exact HO_8.out⟩, ⟨bl⟩⟩
        case round =>
         clear H'
         try clear c1
         try clear c2
         try clear p2
         try clear c3
         try clear c4
         try clear c6
         try clear c9
         try clear c9b0
         try clear c10
         try clear c11
         try clear c11b0
         try clear c11b1
         try clear c11b2
         try clear c19
         try clear c19b0
         try clear c19b1
         try clear c19b2
         try clear c24
         try clear p2
         obtain ⟨x9_3, rfl, HA, HK3, HO_5, HO_7, HO_8, HB⟩ := hrel
         cases gk with
         | zero => exact absurd HA.out (by simp [spinnakerlaw09_UnitLoads.l0])
         | succ k3 =>
          have H := HA.out
          clear HA
          simp only [spinnakerlaw09_UnitLoads.l0] at H
          by_cases c25 : x9_3 < (t326.length : Int)
          ·rw [if_pos c25] at H
           have c25b0 := decide_eq_true c25
           clear c25
           by_cases c26 : 0 ≤ x9_3
           ·rw [if_pos c26] at H
            have c26b0 := decide_eq_true c26
            clear c26
            by_cases c27 : x9_3 < (t330.length : Int)
            ·rw [if_pos c27] at H
             have c27b0 := decide_eq_true c27
             clear c27
             by_cases c28 : (!(((rd_T27 t326 x9_3).f0) == ((rd_T27 t330 x9_3).f0)) || (!(((rd_T27 t326 x9_3).f1) == ((rd_T27 t330 x9_3).f1)) || (!(((rd_T27 t326 x9_3).f2) == ((rd_T27 t330 x9_3).f2)) || (!(((rd_T27 t326 x9_3).f3) == ((rd_T27 t330 x9_3).f3)) || (!(((rd_T27 t326 x9_3).f4) == ((rd_T27 t330 x9_3).f4)) || (!(((rd_T27 t326 x9_3).f5) == ((rd_T27 t330 x9_3).f5)) || (!(((rd_T27 t326 x9_3).f6) == ((rd_T27 t330 x9_3).f6))))))))) = true
             ·rw [if_pos c28] at H
              have c28b0 : (!(((rd_T27 t326 x9_3).f0) == ((rd_T27 t330 x9_3).f0)) || (!(((rd_T27 t326 x9_3).f1) == ((rd_T27 t330 x9_3).f1)) || (!(((rd_T27 t326 x9_3).f2) == ((rd_T27 t330 x9_3).f2)) || (!(((rd_T27 t326 x9_3).f3) == ((rd_T27 t330 x9_3).f3)) || (!(((rd_T27 t326 x9_3).f4) == ((rd_T27 t330 x9_3).f4)) || (!(((rd_T27 t326 x9_3).f5) == ((rd_T27 t330 x9_3).f5)) || (!(((rd_T27 t326 x9_3).f6) == ((rd_T27 t330 x9_3).f6))))))))) = true := c28
              clear c28
              obtain rfl := Option.some.inj H
              obtain ⟨Ao29, co29, eo29⟩ := Kd.R_slice HO_7.out
              subst eo29
              try go_wp2
              have n0_ := Aside0.mk (Kd.R_drew HO_5.out)
              have n1_ := Aside0.mk (Kd.R_drew HO_7.out)
              have n2_ := Aside0.mk (Kd.R_drew HO_8.out)
              have n3_ := Aside0.mk (below_drew1 HB.out)
              clear HO_5
              clear HO_7
              clear HO_8
              clear HB
              have HO_5 := n0_
              have HO_7 := n1_
              have HO_8 := n2_
              have HB := n3_
              clear n0_ n1_ n2_ n3_
              have p333 : 0 ≤ (x9_3 : Int) := of_decide_eq_true (by first | (with_reducible assumption) | assumption)
              have q333 : x9_3 < (t326.length : Int) := of_decide_eq_true (by first | (with_reducible assumption) | assumption)
              obtain ⟨ad333, e333, hx333_0, hx333_1, hx333_2, hx333_3, hx333_4, hx333_5, hx333_6⟩ := at_T27 (Kd.R_reads' HO_7.out).2.2 x9_3 p333 q333
              cases e333
              replace p333 := eq_true p333
              replace q333 := eq_true q333
              obtain ⟨Ao31, co31, eo31⟩ := Kd.R_slice HO_8.out
              (first | subst eo31 | (injection eo31 with f1_ f2_ f3_; have f4_ := f1_.symm; have f5_ := f3_.symm; clear f1_ f2_ f3_; subst f4_; subst f5_))
              have p334 : 0 ≤ (x9_3 : Int) := of_decide_eq_true (by first | (with_reducible assumption) | assumption)
              have q334 : x9_3 < (t330.length : Int) := of_decide_eq_true (by first | (with_reducible assumption) | assumption)
              obtain ⟨ad334, e334, hx334_0, hx334_1, hx334_2, hx334_3, hx334_4, hx334_5, hx334_6⟩ := at_T27 (Kd.R_reads' HO_8.out).2.2 x9_3 p334 q334
              cases e334
              replace p334 := eq_true p334
              replace q334 := eq_true q334
              refine start_ (n := 41) (S := fun w' => w'.cell? (ad333.add ((x9_3).toNat * 7)) = some (.int .i64 ((rd_T27 t326 x9_3).f0)) ∧ w'.cell? ⟨(ad333.add ((x9_3).toNat * 7)).block, (ad333.add ((x9_3).toNat * 7)).off + 1, none⟩ = some (.int .i64 ((rd_T27 t326 x9_3).f1)) ∧ w'.cell? ⟨(ad333.add ((x9_3).toNat * 7)).block, (ad333.add ((x9_3).toNat * 7)).off + 2, none⟩ = some (.int .i64 ((rd_T27 t326 x9_3).f2)) ∧ w'.cell? ⟨(ad333.add ((x9_3).toNat * 7)).block, (ad333.add ((x9_3).toNat * 7)).off + 3, none⟩ = some (.int .i64 ((rd_T27 t326 x9_3).f3)) ∧ w'.cell? ⟨(ad333.add ((x9_3).toNat * 7)).block, (ad333.add ((x9_3).toNat * 7)).off + 4, none⟩ = some (.int .i64 ((rd_T27 t326 x9_3).f4)) ∧ w'.cell? ⟨(ad333.add ((x9_3).toNat * 7)).block, (ad333.add ((x9_3).toNat * 7)).off + 5, none⟩ = some (.bool ((rd_T27 t326 x9_3).f5)) ∧ w'.cell? ⟨(ad333.add ((x9_3).toNat * 7)).block, (ad333.add ((x9_3).toNat * 7)).off + 6, none⟩ = some (.bool ((rd_T27 t326 x9_3).f6)) ∧ w'.cell? (ad334.add ((x9_3).toNat * 7)) = some (.int .i64 ((rd_T27 t330 x9_3).f0)) ∧ w'.cell? ⟨(ad334.add ((x9_3).toNat * 7)).block, (ad334.add ((x9_3).toNat * 7)).off + 1, none⟩ = some (.int .i64 ((rd_T27 t330 x9_3).f1)) ∧ w'.cell? ⟨(ad334.add ((x9_3).toNat * 7)).block, (ad334.add ((x9_3).toNat * 7)).off + 2, none⟩ = some (.int .i64 ((rd_T27 t330 x9_3).f2)) ∧ w'.cell? ⟨(ad334.add ((x9_3).toNat * 7)).block, (ad334.add ((x9_3).toNat * 7)).off + 3, none⟩ = some (.int .i64 ((rd_T27 t330 x9_3).f3)) ∧ w'.cell? ⟨(ad334.add ((x9_3).toNat * 7)).block, (ad334.add ((x9_3).toNat * 7)).off + 4, none⟩ = some (.int .i64 ((rd_T27 t330 x9_3).f4)) ∧ w'.cell? ⟨(ad334.add ((x9_3).toNat * 7)).block, (ad334.add ((x9_3).toNat * 7)).off + 5, none⟩ = some (.bool ((rd_T27 t330 x9_3).f5)) ∧ w'.cell? ⟨(ad334.add ((x9_3).toNat * 7)).block, (ad334.add ((x9_3).toNat * 7)).off + 6, none⟩ = some (.bool ((rd_T27 t330 x9_3).f6))) (ds := []) (fl 41 0) (by kernel_rfl) rfl rfl ⟨hx333_0, hx333_1, hx333_2, hx333_3, hx333_4, hx333_5, hx333_6, hx334_0, hx334_1, hx334_2, hx334_3, hx334_4, hx334_5, hx334_6⟩ (fun hHeld => ?_); refine with_tabW spinnakerlaw09_UnitLoads.tab10 spinnakerlaw09_UnitLoads.bits10 (fun HT_ HW_ => ?_)
              generalize wr.drew = w30 at HO_5 HO_7 HO_8 HB hx333_0 hx333_1 hx333_2 hx333_3 hx333_4 hx333_5 hx333_6 hx334_0 hx334_1 hx334_2 hx334_3 hx334_4 hx334_5 hx334_6 hHeld ⊢
              refine pq 0 (some 45) ?_ (fl 41 1) HT_.out rfl rfl ?_ ?_ ?_ ?_
              rotate_left
              ·intro w'
               go_simp
               with_reducible rfl
              rotate_left
              ·refine pt ?_
               rfl
              refine pq 1 (some 46) ?_ (fl 41 2) HT_.out rfl rfl ?_ ?_ ?_ ?_
              rotate_left
              ·intro w'
               go_simp
               with_reducible rfl
              rotate_left
              ·refine pt ?_
               rfl
              refine pq 2 (some 47) ?_ (fl 41 3) HT_.out rfl rfl ?_ ?_ ?_ ?_
              rotate_left
              ·intro w'
               go_simp
               with_reducible rfl
              rotate_left
              ·refine pt ?_
               rfl
              refine pq 4 (some 49) ?_ #[true, true, true, false, true, false, false, false, false, false, false, false, false, false, false, false, false, false, false, false, false, false, false, false, false, false, false, false, false, false, false, false, false, false, false, false, false, false, false, false, false] HT_.out rfl rfl ?_ ?_ ?_ ?_
              rotate_left
              ·intro w'
               go_simp
               with_reducible rfl
              rotate_left
              ·refine pt ?_
               rfl
              refine pq 5 (some 50) ?_ #[true, true, true, false, true, true, false, false, false, false, false, false, false, false, false, false, false, false, false, false, false, false, false, false, false, false, false, false, false, false, false, false, false, false, false, false, false, false, false, false, false] HT_.out rfl rfl ?_ ?_ ?_ ?_
              rotate_left
              ·intro w'
               go_simp
               with_reducible rfl
              rotate_left
              ·refine pt ?_
               rfl
              refine pq 6 (some 51) ?_ #[true, true, true, false, true, true, true, false, false, false, false, false, false, false, false, false, false, false, false, false, false, false, false, false, false, false, false, false, false, false, false, false, false, false, false, false, false, false, false, false, false] HT_.out rfl rfl ?_ ?_ ?_ ?_
              rotate_left
              ·intro w'
               go_simp
               with_reducible rfl
              rotate_left
              ·refine pt ?_
               rfl
              refine pk 3 (some 48) ?_ (fl 41 7) HT_.out HW_.out rfl rfl ?_ hHeld ?_ ?_ ?_
              rotate_left
              ·rintro w' ⟨s0, s1, s2, s3, s4, s5, s6, s7, s8, s9, s10, s11, s12, s13⟩
               go_simp
               with_reducible rfl
              rotate_left
              ·refine pt ?_
               rfl
              refine pk 7 (some 52) ?_ (fl 41 8) HT_.out HW_.out rfl rfl ?_ hHeld ?_ ?_ ?_
              rotate_left
              ·rintro w' ⟨s0, s1, s2, s3, s4, s5, s6, s7, s8, s9, s10, s11, s12, s13⟩
               go_simp
               with_reducible rfl
              rotate_left
              ·refine pt ?_
               rfl
              refine pq 8 (some 53) ?_ (fl 41 9) HT_.out rfl rfl ?_ ?_ ?_ ?_
              rotate_left
              ·intro w'
               go_simp
               with_reducible rfl
              rotate_left
              ·refine pt ?_
               rfl
              refine pq 9 (some 54) ?_ (fl 41 10) HT_.out rfl rfl ?_ ?_ ?_ ?_
              rotate_left
              ·intro w'
               go_simp
               with_reducible rfl
              rotate_left
              ·refine pt ?_
               rfl
              refine pr 10 (some 55) ?_ (fl 41 11) HT_.out rfl rfl ?_ ?_
              rotate_left
              ·refine pt ?_
               rfl
              refine pr 11 (some 56) ?_ (fl 41 12) HT_.out rfl rfl ?_ ?_
              rotate_left
              ·refine pt ?_
               rfl
              refine pr 12 (some 57) ?_ (fl 41 13) HT_.out rfl rfl ?_ ?_
              rotate_left
              ·refine pt ?_
               rfl
              refine pr 13 (some 58) ?_ (fl 41 14) HT_.out rfl rfl ?_ ?_
              rotate_left
              ·refine pt ?_
               rfl
              refine pr 14 (some 59) ?_ (fl 41 15) HT_.out rfl rfl ?_ ?_
              rotate_left
              ·refine pt ?_
               rfl
              refine pr 15 (some 60) ?_ (fl 41 16) HT_.out rfl rfl ?_ ?_
              rotate_left
              ·refine pt ?_
               rfl
              refine pq 16 (some 61) ?_ (fl 41 17) HT_.out rfl rfl ?_ ?_ ?_ ?_
              rotate_left
              ·intro w'
               go_simp
               with_reducible rfl
              rotate_left
              ·refine pt ?_
               rfl
              refine pq 17 (some 62) ?_ (fl 41 18) HT_.out rfl rfl ?_ ?_ ?_ ?_
              rotate_left
              ·intro w'
               go_simp
               with_reducible rfl
              rotate_left
              ·refine pt ?_
               rfl
              refine pr 18 (some 63) ?_ (fl 41 19) HT_.out rfl rfl ?_ ?_
              rotate_left
              ·refine pt ?_
               rfl
              refine pr 19 (some 64) ?_ (fl 41 20) HT_.out rfl rfl ?_ ?_
              rotate_left
              ·refine pt ?_
               rfl
              refine pr 20 (some 65) ?_ (fl 41 21) HT_.out rfl rfl ?_ ?_
              rotate_left
              ·refine pt ?_
               rfl
              refine pr 21 (some 66) ?_ (fl 41 22) HT_.out rfl rfl ?_ ?_
              rotate_left
              ·refine pt ?_
               rfl
              refine pr 22 (some 67) ?_ (fl 41 23) HT_.out rfl rfl ?_ ?_
              rotate_left
              ·refine pt ?_
               rfl
              refine pr 23 (some 68) ?_ (fl 41 24) HT_.out rfl rfl ?_ ?_
              rotate_left
              ·refine pt ?_
               rfl
              refine pr 24 (some 69) ?_ (fl 41 25) HT_.out rfl rfl ?_ ?_
              rotate_left
              ·refine pt ?_
               rfl
              refine pr 25 (some 70) ?_ (fl 41 26) HT_.out rfl rfl ?_ ?_
              rotate_left
              ·refine pt ?_
               rfl
              refine pr 26 (some 71) ?_ (fl 41 27) HT_.out rfl rfl ?_ ?_
              rotate_left
              ·refine pt ?_
               rfl
              refine pr 27 (some 72) ?_ (fl 41 28) HT_.out rfl rfl ?_ ?_
              rotate_left
              ·refine pt ?_
               rfl
              refine pr 28 (some 73) ?_ (fl 41 29) HT_.out rfl rfl ?_ ?_
              rotate_left
              ·refine pt ?_
               rfl
              refine pr 29 (some 74) ?_ (fl 41 30) HT_.out rfl rfl ?_ ?_
              rotate_left
              ·refine pt ?_
               rfl
              refine pr 30 (some 75) ?_ (fl 41 31) HT_.out rfl rfl ?_ ?_
              rotate_left
              ·refine pt ?_
               rfl
              refine pr 31 (some 76) ?_ (fl 41 32) HT_.out rfl rfl ?_ ?_
              rotate_left
              ·refine pt ?_
               rfl
              refine pr 32 (some 77) ?_ (fl 41 33) HT_.out rfl rfl ?_ ?_
              rotate_left
              ·refine pt ?_
               rfl
              refine pr 33 (some 78) ?_ (fl 41 34) HT_.out rfl rfl ?_ ?_
              rotate_left
              ·refine pt ?_
               rfl
              refine pr 34 (some 79) ?_ (fl 41 35) HT_.out rfl rfl ?_ ?_
              rotate_left
              ·refine pt ?_
               rfl
              refine pr 35 (some 80) ?_ (fl 41 36) HT_.out rfl rfl ?_ ?_
              rotate_left
              ·refine pt ?_
               rfl
              refine pr 36 (some 81) ?_ (fl 41 37) HT_.out rfl rfl ?_ ?_
              rotate_left
              ·refine pt ?_
               rfl
              refine pr 37 (some 82) ?_ (fl 41 38) HT_.out rfl rfl ?_ ?_
              rotate_left
              ·refine pt ?_
               rfl
              refine pr 38 (some 83) ?_ (fl 41 39) HT_.out rfl rfl ?_ ?_
              rotate_left
              ·refine pt ?_
               rfl
              refine pr 39 (some 84) ?_ (fl 41 40) HT_.out rfl rfl ?_ ?_
              rotate_left
              ·refine pt ?_
               rfl
              refine pq 40 (some 85) ?_ (fl 41 41) HT_.out rfl rfl ?_ ?_ ?_ ?_
              rotate_left
              ·intro w'
               go_simp
               with_reducible rfl
              rotate_left
              ·refine pt ?_
               rfl
              refine done_ (done_of HT_.out (by kernel_rfl)) ?_
              try go_wp2
              go_ret
              exact ⟨fi, bl⟩
             ·rw [if_neg c28] at H
              have c28b0 : (!(((rd_T27 t326 x9_3).f0) == ((rd_T27 t330 x9_3).f0)) || (!(((rd_T27 t326 x9_3).f1) == ((rd_T27 t330 x9_3).f1)) || (!(((rd_T27 t326 x9_3).f2) == ((rd_T27 t330 x9_3).f2)) || (!(((rd_T27 t326 x9_3).f3) == ((rd_T27 t330 x9_3).f3)) || (!(((rd_T27 t326 x9_3).f4) == ((rd_T27 t330 x9_3).f4)) || (!(((rd_T27 t326 x9_3).f5) == ((rd_T27 t330 x9_3).f5)) || (!(((rd_T27 t326 x9_3).f6) == ((rd_T27 t330 x9_3).f6))))))))) = false := by simpa using c28
              clear c28
              replace H := be H
              obtain ⟨t336, A32, H⟩ := H
              by_cases c33 : t336 = true
              ·subst c33
               have H1 : (if ((rd_T27 t326 x9_3).f0) = 1 then (spinnakerlaw09_UnitLoads.l0 k3 a0 a1 y323 t326 t330 (wrap64 (x9_3 + 1))) else (if ((rd_T27 t326 x9_3).f0) < 22 then (some false) else (if ((rd_T27 t326 x9_3).f0) > 31 then (some false) else (spinnakerlaw09_UnitLoads.l0 k3 a0 a1 y323 t326 t330 (wrap64 (x9_3 + 1)))))) = some r := by rw [if_pos rfl] at H; exact H
               clear H
               have H := H1
               clear H1
               by_cases c34 : ((rd_T27 t326 x9_3).f0) = 1
               ·rw [if_pos c34] at H
                obtain ⟨c34b0, c34b1⟩ := eqs c34
                clear c34
                have H' := Aside0.mk H
                clear H
                obtain ⟨Ao35, co35, eo35⟩ := Kd.R_slice HO_7.out
                subst eo35
                try go_wp2
                have n0_ := Aside0.mk (Kd.R_drew HO_5.out)
                have n1_ := Aside0.mk (Kd.R_drew HO_7.out)
                have n2_ := Aside0.mk (Kd.R_drew HO_8.out)
                have n3_ := Aside0.mk (below_drew1 HB.out)
                clear HO_5
                clear HO_7
                clear HO_8
                clear HB
                have HO_5 := n0_
                have HO_7 := n1_
                have HO_8 := n2_
                have HB := n3_
                clear n0_ n1_ n2_ n3_
                have p333 : 0 ≤ (x9_3 : Int) := of_decide_eq_true (by first | (with_reducible assumption) | assumption)
                have q333 : x9_3 < (t326.length : Int) := of_decide_eq_true (by first | (with_reducible assumption) | assumption)
                obtain ⟨ad333, e333, hx333_0, hx333_1, hx333_2, hx333_3, hx333_4, hx333_5, hx333_6⟩ := at_T27 (Kd.R_reads' HO_7.out).2.2 x9_3 p333 q333
                cases e333
                replace p333 := eq_true p333
                replace q333 := eq_true q333
                obtain ⟨Ao37, co37, eo37⟩ := Kd.R_slice HO_8.out
                (first | subst eo37 | (injection eo37 with f1_ f2_ f3_; have f4_ := f1_.symm; have f5_ := f3_.symm; clear f1_ f2_ f3_; subst f4_; subst f5_))
                have p334 : 0 ≤ (x9_3 : Int) := of_decide_eq_true (by first | (with_reducible assumption) | assumption)
                have q334 : x9_3 < (t330.length : Int) := of_decide_eq_true (by first | (with_reducible assumption) | assumption)
                obtain ⟨ad334, e334, hx334_0, hx334_1, hx334_2, hx334_3, hx334_4, hx334_5, hx334_6⟩ := at_T27 (Kd.R_reads' HO_8.out).2.2 x9_3 p334 q334
                cases e334
                replace p334 := eq_true p334
                replace q334 := eq_true q334
                have p335 : 0 ≤ (x9_3 : Int) := of_decide_eq_true (by first | (with_reducible assumption) | assumption)
                have q335 : x9_3 < (t326.length : Int) := of_decide_eq_true (by first | (with_reducible assumption) | assumption)
                obtain ⟨ad335, e335, hx335_0, hx335_1, hx335_2, hx335_3, hx335_4, hx335_5, hx335_6⟩ := at_T27 (Kd.R_reads' HO_7.out).2.2 x9_3 p335 q335
                obtain rfl : ad333 = ad335 := (by injection e335)
                replace p335 := eq_true p335
                replace q335 := eq_true q335
                have p337 : 0 ≤ (x9_3 : Int) := of_decide_eq_true (by first | (with_reducible assumption) | assumption)
                have q337 : x9_3 < (t326.length : Int) := of_decide_eq_true (by first | (with_reducible assumption) | assumption)
                obtain ⟨ad337, e337, hx337_0, hx337_1, hx337_2, hx337_3, hx337_4, hx337_5, hx337_6⟩ := at_T27 (Kd.R_reads' HO_7.out).2.2 x9_3 p337 q337
                obtain rfl : ad333 = ad337 := (by injection e337)
                replace p337 := eq_true p337
                replace q337 := eq_true q337
                refine start_ (n := 41) (S := fun w' => w'.cell? (ad333.add ((x9_3).toNat * 7)) = some (.int .i64 ((rd_T27 t326 x9_3).f0)) ∧ w'.cell? ⟨(ad333.add ((x9_3).toNat * 7)).block, (ad333.add ((x9_3).toNat * 7)).off + 1, none⟩ = some (.int .i64 ((rd_T27 t326 x9_3).f1)) ∧ w'.cell? ⟨(ad333.add ((x9_3).toNat * 7)).block, (ad333.add ((x9_3).toNat * 7)).off + 2, none⟩ = some (.int .i64 ((rd_T27 t326 x9_3).f2)) ∧ w'.cell? ⟨(ad333.add ((x9_3).toNat * 7)).block, (ad333.add ((x9_3).toNat * 7)).off + 3, none⟩ = some (.int .i64 ((rd_T27 t326 x9_3).f3)) ∧ w'.cell? ⟨(ad333.add ((x9_3).toNat * 7)).block, (ad333.add ((x9_3).toNat * 7)).off + 4, none⟩ = some (.int .i64 ((rd_T27 t326 x9_3).f4)) ∧ w'.cell? ⟨(ad333.add ((x9_3).toNat * 7)).block, (ad333.add ((x9_3).toNat * 7)).off + 5, none⟩ = some (.bool ((rd_T27 t326 x9_3).f5)) ∧ w'.cell? ⟨(ad333.add ((x9_3).toNat * 7)).block, (ad333.add ((x9_3).toNat * 7)).off + 6, none⟩ = some (.bool ((rd_T27 t326 x9_3).f6)) ∧ w'.cell? (ad334.add ((x9_3).toNat * 7)) = some (.int .i64 ((rd_T27 t330 x9_3).f0)) ∧ w'.cell? ⟨(ad334.add ((x9_3).toNat * 7)).block, (ad334.add ((x9_3).toNat * 7)).off + 1, none⟩ = some (.int .i64 ((rd_T27 t330 x9_3).f1)) ∧ w'.cell? ⟨(ad334.add ((x9_3).toNat * 7)).block, (ad334.add ((x9_3).toNat * 7)).off + 2, none⟩ = some (.int .i64 ((rd_T27 t330 x9_3).f2)) ∧ w'.cell? ⟨(ad334.add ((x9_3).toNat * 7)).block, (ad334.add ((x9_3).toNat * 7)).off + 3, none⟩ = some (.int .i64 ((rd_T27 t330 x9_3).f3)) ∧ w'.cell? ⟨(ad334.add ((x9_3).toNat * 7)).block, (ad334.add ((x9_3).toNat * 7)).off + 4, none⟩ = some (.int .i64 ((rd_T27 t330 x9_3).f4)) ∧ w'.cell? ⟨(ad334.add ((x9_3).toNat * 7)).block, (ad334.add ((x9_3).toNat * 7)).off + 5, none⟩ = some (.bool ((rd_T27 t330 x9_3).f5)) ∧ w'.cell? ⟨(ad334.add ((x9_3).toNat * 7)).block, (ad334.add ((x9_3).toNat * 7)).off + 6, none⟩ = some (.bool ((rd_T27 t330 x9_3).f6)) ∧ w'.cell? (ad333.add ((x9_3).toNat * 7)) = some (.int .i64 ((rd_T27 t326 x9_3).f0)) ∧ w'.cell? ⟨(ad333.add ((x9_3).toNat * 7)).block, (ad333.add ((x9_3).toNat * 7)).off + 1, none⟩ = some (.int .i64 ((rd_T27 t326 x9_3).f1)) ∧ w'.cell? ⟨(ad333.add ((x9_3).toNat * 7)).block, (ad333.add ((x9_3).toNat * 7)).off + 2, none⟩ = some (.int .i64 ((rd_T27 t326 x9_3).f2)) ∧ w'.cell? ⟨(ad333.add ((x9_3).toNat * 7)).block, (ad333.add ((x9_3).toNat * 7)).off + 3, none⟩ = some (.int .i64 ((rd_T27 t326 x9_3).f3)) ∧ w'.cell? ⟨(ad333.add ((x9_3).toNat * 7)).block, (ad333.add ((x9_3).toNat * 7)).off + 4, none⟩ = some (.int .i64 ((rd_T27 t326 x9_3).f4)) ∧ w'.cell? ⟨(ad333.add ((x9_3).toNat * 7)).block, (ad333.add ((x9_3).toNat * 7)).off + 5, none⟩ = some (.bool ((rd_T27 t326 x9_3).f5)) ∧ w'.cell? ⟨(ad333.add ((x9_3).toNat * 7)).block, (ad333.add ((x9_3).toNat * 7)).off + 6, none⟩ = some (.bool ((rd_T27 t326 x9_3).f6)) ∧ w'.cell? (ad333.add ((x9_3).toNat * 7)) = some (.int .i64 ((rd_T27 t326 x9_3).f0)) ∧ w'.cell? ⟨(ad333.add ((x9_3).toNat * 7)).block, (ad333.add ((x9_3).toNat * 7)).off + 1, none⟩ = some (.int .i64 ((rd_T27 t326 x9_3).f1)) ∧ w'.cell? ⟨(ad333.add ((x9_3).toNat * 7)).block, (ad333.add ((x9_3).toNat * 7)).off + 2, none⟩ = some (.int .i64 ((rd_T27 t326 x9_3).f2)) ∧ w'.cell? ⟨(ad333.add ((x9_3).toNat * 7)).block, (ad333.add ((x9_3).toNat * 7)).off + 3, none⟩ = some (.int .i64 ((rd_T27 t326 x9_3).f3)) ∧ w'.cell? ⟨(ad333.add ((x9_3).toNat * 7)).block, (ad333.add ((x9_3).toNat * 7)).off + 4, none⟩ = some (.int .i64 ((rd_T27 t326 x9_3).f4)) ∧ w'.cell? ⟨(ad333.add ((x9_3).toNat * 7)).block, (ad333.add ((x9_3).toNat * 7)).off + 5, none⟩ = some (.bool ((rd_T27 t326 x9_3).f5)) ∧ w'.cell? ⟨(ad333.add ((x9_3).toNat * 7)).block, (ad333.add ((x9_3).toNat * 7)).off + 6, none⟩ = some (.bool ((rd_T27 t326 x9_3).f6))) (ds := []) (fl 41 0) (by kernel_rfl) rfl rfl ⟨hx333_0, hx333_1, hx333_2, hx333_3, hx333_4, hx333_5, hx333_6, hx334_0, hx334_1, hx334_2, hx334_3, hx334_4, hx334_5, hx334_6, hx335_0, hx335_1, hx335_2, hx335_3, hx335_4, hx335_5, hx335_6, hx337_0, hx337_1, hx337_2, hx337_3, hx337_4, hx337_5, hx337_6⟩ (fun hHeld => ?_); refine with_tabW spinnakerlaw09_UnitLoads.tab10 spinnakerlaw09_UnitLoads.bits10 (fun HT_ HW_ => ?_)
                generalize wr.drew = w36 at HO_5 HO_7 HO_8 HB hx333_0 hx333_1 hx333_2 hx333_3 hx333_4 hx333_5 hx333_6 hx334_0 hx334_1 hx334_2 hx334_3 hx334_4 hx334_5 hx334_6 hx335_0 hx335_1 hx335_2 hx335_3 hx335_4 hx335_5 hx335_6 hx337_0 hx337_1 hx337_2 hx337_3 hx337_4 hx337_5 hx337_6 hHeld ⊢
                refine pq 0 (some 45) ?_ (fl 41 1) HT_.out rfl rfl ?_ ?_ ?_ ?_
                rotate_left
                ·intro w'
                 go_simp
                 with_reducible rfl
                rotate_left
                ·refine pt ?_
                 rfl
                refine pq 1 (some 46) ?_ (fl 41 2) HT_.out rfl rfl ?_ ?_ ?_ ?_
                rotate_left
                ·intro w'
                 go_simp
                 with_reducible rfl
                rotate_left
                ·refine pt ?_
                 rfl
                refine pq 2 (some 47) ?_ (fl 41 3) HT_.out rfl rfl ?_ ?_ ?_ ?_
                rotate_left
                ·intro w'
                 go_simp
                 with_reducible rfl
                rotate_left
                ·refine pt ?_
                 rfl
                refine pq 4 (some 49) ?_ #[true, true, true, false, true, false, false, false, false, false, false, false, false, false, false, false, false, false, false, false, false, false, false, false, false, false, false, false, false, false, false, false, false, false, false, false, false, false, false, false, false] HT_.out rfl rfl ?_ ?_ ?_ ?_
                rotate_left
                ·intro w'
                 go_simp
                 with_reducible rfl
                rotate_left
                ·refine pt ?_
                 rfl
                refine pq 5 (some 50) ?_ #[true, true, true, false, true, true, false, false, false, false, false, false, false, false, false, false, false, false, false, false, false, false, false, false, false, false, false, false, false, false, false, false, false, false, false, false, false, false, false, false, false] HT_.out rfl rfl ?_ ?_ ?_ ?_
                rotate_left
                ·intro w'
                 go_simp
                 with_reducible rfl
                rotate_left
                ·refine pt ?_
                 rfl
                refine pq 6 (some 51) ?_ #[true, true, true, false, true, true, true, false, false, false, false, false, false, false, false, false, false, false, false, false, false, false, false, false, false, false, false, false, false, false, false, false, false, false, false, false, false, false, false, false, false] HT_.out rfl rfl ?_ ?_ ?_ ?_
                rotate_left
                ·intro w'
                 go_simp
                 with_reducible rfl
                rotate_left
                ·refine pt ?_
                 rfl
                refine pk 3 (some 48) ?_ (fl 41 7) HT_.out HW_.out rfl rfl ?_ hHeld ?_ ?_ ?_
                rotate_left
                ·rintro w' ⟨s0, s1, s2, s3, s4, s5, s6, s7, s8, s9, s10, s11, s12, s13, s14, s15, s16, s17, s18, s19, s20, s21, s22, s23, s24, s25, s26, s27⟩
                 go_simp
                 with_reducible rfl
                rotate_left
                ·refine pt ?_
                 rfl
                refine pk 7 (some 52) ?_ (fl 41 8) HT_.out HW_.out rfl rfl ?_ hHeld ?_ ?_ ?_
                rotate_left
                ·rintro w' ⟨s0, s1, s2, s3, s4, s5, s6, s7, s8, s9, s10, s11, s12, s13, s14, s15, s16, s17, s18, s19, s20, s21, s22, s23, s24, s25, s26, s27⟩
                 go_simp
                 with_reducible rfl
                rotate_left
                ·refine pt ?_
                 rfl
                refine pq 8 (some 53) ?_ (fl 41 9) HT_.out rfl rfl ?_ ?_ ?_ ?_
                rotate_left
                ·intro w'
                 go_simp
                 with_reducible rfl
                rotate_left
                ·refine pt ?_
                 rfl
                refine pq 9 (some 54) ?_ (fl 41 10) HT_.out rfl rfl ?_ ?_ ?_ ?_
                rotate_left
                ·intro w'
                 go_simp
                 with_reducible rfl
                rotate_left
                ·refine pt ?_
                 rfl
                refine pq 10 (some 55) ?_ (fl 41 11) HT_.out rfl rfl ?_ ?_ ?_ ?_
                rotate_left
                ·intro w'
                 go_simp
                 with_reducible rfl
                rotate_left
                ·refine pt ?_
                 rfl
                refine pq 11 (some 56) ?_ (fl 41 12) HT_.out rfl rfl ?_ ?_ ?_ ?_
                rotate_left
                ·intro w'
                 go_simp
                 with_reducible rfl
                rotate_left
                ·refine pt ?_
                 rfl
                refine pq 12 (some 57) ?_ (fl 41 13) HT_.out rfl rfl ?_ ?_ ?_ ?_
                rotate_left
                ·intro w'
                 go_simp
                 with_reducible rfl
                rotate_left
                ·refine pt ?_
                 rfl
                refine pk 13 (some 58) ?_ (fl 41 14) HT_.out HW_.out rfl rfl ?_ hHeld ?_ ?_ ?_
                rotate_left
                ·rintro w' ⟨s0, s1, s2, s3, s4, s5, s6, s7, s8, s9, s10, s11, s12, s13, s14, s15, s16, s17, s18, s19, s20, s21, s22, s23, s24, s25, s26, s27⟩
                 go_simp
                 with_reducible rfl
                rotate_left
                ·refine pt ?_
                 rfl
                refine one_ (i := 14) (N := some 59) (fl 41 15) rfl rfl (one_of HT_.out (by kernel_rfl)) (by decide) (fun K hK => ?_)
                refine goes_ Tryd.func7 (by kernel_rfl) rfl #[.agg #[.int .i64 ((rd_T27 t326 x9_3).f0), .int .i64 ((rd_T27 t326 x9_3).f1), .int .i64 ((rd_T27 t326 x9_3).f2), .int .i64 ((rd_T27 t326 x9_3).f3), .int .i64 ((rd_T27 t326 x9_3).f4), .bool ((rd_T27 t326 x9_3).f5), .bool ((rd_T27 t326 x9_3).f6)]] (by rfl) rfl rfl ga ?_
                with_reducible refine (spinnakerref03_May.calls k3 ((rd_T27 t326 x9_3).f0) ((rd_T27 t326 x9_3).f1) ((rd_T27 t326 x9_3).f2) ((rd_T27 t326 x9_3).f3) ((rd_T27 t326 x9_3).f4) ((rd_T27 t326 x9_3).f5) ((rd_T27 t326 x9_3).f6) true _ A32.out).mono ?_
                rintro e w38 ⟨rfl, hb⟩
                have HS0_ := (hb.cell (World.block_lt_of_cell? _ _ (hHeld.1))).trans (hHeld.1)
                have HS1_ := (hb.cell (World.block_lt_of_cell? _ _ (hHeld.2.1))).trans (hHeld.2.1)
                have HS2_ := (hb.cell (World.block_lt_of_cell? _ _ (hHeld.2.2.1))).trans (hHeld.2.2.1)
                have HS3_ := (hb.cell (World.block_lt_of_cell? _ _ (hHeld.2.2.2.1))).trans (hHeld.2.2.2.1)
                have HS4_ := (hb.cell (World.block_lt_of_cell? _ _ (hHeld.2.2.2.2.1))).trans (hHeld.2.2.2.2.1)
                have HS5_ := (hb.cell (World.block_lt_of_cell? _ _ (hHeld.2.2.2.2.2.1))).trans (hHeld.2.2.2.2.2.1)
                have HS6_ := (hb.cell (World.block_lt_of_cell? _ _ (hHeld.2.2.2.2.2.2.1))).trans (hHeld.2.2.2.2.2.2.1)
                have HS7_ := (hb.cell (World.block_lt_of_cell? _ _ (hHeld.2.2.2.2.2.2.2.1))).trans (hHeld.2.2.2.2.2.2.2.1)
                have HS8_ := (hb.cell (World.block_lt_of_cell? _ _ (hHeld.2.2.2.2.2.2.2.2.1))).trans (hHeld.2.2.2.2.2.2.2.2.1)
                have HS9_ := (hb.cell (World.block_lt_of_cell? _ _ (hHeld.2.2.2.2.2.2.2.2.2.1))).trans (hHeld.2.2.2.2.2.2.2.2.2.1)
                have HS10_ := (hb.cell (World.block_lt_of_cell? _ _ (hHeld.2.2.2.2.2.2.2.2.2.2.1))).trans (hHeld.2.2.2.2.2.2.2.2.2.2.1)
                have HS11_ := (hb.cell (World.block_lt_of_cell? _ _ (hHeld.2.2.2.2.2.2.2.2.2.2.2.1))).trans (hHeld.2.2.2.2.2.2.2.2.2.2.2.1)
                have HS12_ := (hb.cell (World.block_lt_of_cell? _ _ (hHeld.2.2.2.2.2.2.2.2.2.2.2.2.1))).trans (hHeld.2.2.2.2.2.2.2.2.2.2.2.2.1)
                have HS13_ := (hb.cell (World.block_lt_of_cell? _ _ (hHeld.2.2.2.2.2.2.2.2.2.2.2.2.2.1))).trans (hHeld.2.2.2.2.2.2.2.2.2.2.2.2.2.1)
                have HS14_ := (hb.cell (World.block_lt_of_cell? _ _ (hHeld.2.2.2.2.2.2.2.2.2.2.2.2.2.2.1))).trans (hHeld.2.2.2.2.2.2.2.2.2.2.2.2.2.2.1)
                have HS15_ := (hb.cell (World.block_lt_of_cell? _ _ (hHeld.2.2.2.2.2.2.2.2.2.2.2.2.2.2.2.1))).trans (hHeld.2.2.2.2.2.2.2.2.2.2.2.2.2.2.2.1)
                have HS16_ := (hb.cell (World.block_lt_of_cell? _ _ (hHeld.2.2.2.2.2.2.2.2.2.2.2.2.2.2.2.2.1))).trans (hHeld.2.2.2.2.2.2.2.2.2.2.2.2.2.2.2.2.1)
                have HS17_ := (hb.cell (World.block_lt_of_cell? _ _ (hHeld.2.2.2.2.2.2.2.2.2.2.2.2.2.2.2.2.2.1))).trans (hHeld.2.2.2.2.2.2.2.2.2.2.2.2.2.2.2.2.2.1)
                have HS18_ := (hb.cell (World.block_lt_of_cell? _ _ (hHeld.2.2.2.2.2.2.2.2.2.2.2.2.2.2.2.2.2.2.1))).trans (hHeld.2.2.2.2.2.2.2.2.2.2.2.2.2.2.2.2.2.2.1)
                have HS19_ := (hb.cell (World.block_lt_of_cell? _ _ (hHeld.2.2.2.2.2.2.2.2.2.2.2.2.2.2.2.2.2.2.2.1))).trans (hHeld.2.2.2.2.2.2.2.2.2.2.2.2.2.2.2.2.2.2.2.1)
                have HS20_ := (hb.cell (World.block_lt_of_cell? _ _ (hHeld.2.2.2.2.2.2.2.2.2.2.2.2.2.2.2.2.2.2.2.2.1))).trans (hHeld.2.2.2.2.2.2.2.2.2.2.2.2.2.2.2.2.2.2.2.2.1)
                have HS21_ := (hb.cell (World.block_lt_of_cell? _ _ (hHeld.2.2.2.2.2.2.2.2.2.2.2.2.2.2.2.2.2.2.2.2.2.1))).trans (hHeld.2.2.2.2.2.2.2.2.2.2.2.2.2.2.2.2.2.2.2.2.2.1)
                have HS22_ := (hb.cell (World.block_lt_of_cell? _ _ (hHeld.2.2.2.2.2.2.2.2.2.2.2.2.2.2.2.2.2.2.2.2.2.2.1))).trans (hHeld.2.2.2.2.2.2.2.2.2.2.2.2.2.2.2.2.2.2.2.2.2.2.1)
                have HS23_ := (hb.cell (World.block_lt_of_cell? _ _ (hHeld.2.2.2.2.2.2.2.2.2.2.2.2.2.2.2.2.2.2.2.2.2.2.2.1))).trans (hHeld.2.2.2.2.2.2.2.2.2.2.2.2.2.2.2.2.2.2.2.2.2.2.2.1)
                have HS24_ := (hb.cell (World.block_lt_of_cell? _ _ (hHeld.2.2.2.2.2.2.2.2.2.2.2.2.2.2.2.2.2.2.2.2.2.2.2.2.1))).trans (hHeld.2.2.2.2.2.2.2.2.2.2.2.2.2.2.2.2.2.2.2.2.2.2.2.2.1)
                have HS25_ := (hb.cell (World.block_lt_of_cell? _ _ (hHeld.2.2.2.2.2.2.2.2.2.2.2.2.2.2.2.2.2.2.2.2.2.2.2.2.2.1))).trans (hHeld.2.2.2.2.2.2.2.2.2.2.2.2.2.2.2.2.2.2.2.2.2.2.2.2.2.1)
                have HS26_ := (hb.cell (World.block_lt_of_cell? _ _ (hHeld.2.2.2.2.2.2.2.2.2.2.2.2.2.2.2.2.2.2.2.2.2.2.2.2.2.2.1))).trans (hHeld.2.2.2.2.2.2.2.2.2.2.2.2.2.2.2.2.2.2.2.2.2.2.2.2.2.2.1)
                have HS27_ := (hb.cell (World.block_lt_of_cell? _ _ (hHeld.2.2.2.2.2.2.2.2.2.2.2.2.2.2.2.2.2.2.2.2.2.2.2.2.2.2.2))).trans (hHeld.2.2.2.2.2.2.2.2.2.2.2.2.2.2.2.2.2.2.2.2.2.2.2.2.2.2.2)
                refine ⟨_, rfl, ?_⟩
                have n0_ := Aside0.mk (Kd.R_below (by (with_reducible repeat (first | apply Kd.R_alloc | apply Kd.R_drewN | apply Kd.R_drew)); exact HO_5.out) hb)
                have n1_ := Aside0.mk (Kd.R_below (by (with_reducible repeat (first | apply Kd.R_alloc | apply Kd.R_drewN | apply Kd.R_drew)); exact HO_7.out) hb)
                have n2_ := Aside0.mk (Kd.R_below (by (with_reducible repeat (first | apply Kd.R_alloc | apply Kd.R_drewN | apply Kd.R_drew)); exact HO_8.out) hb)
                have n3_ := Aside0.mk (below_step bl hb)
                clear HO_5
                clear HO_7
                clear HO_8
                clear HB
                have HO_5 := n0_
                have HO_7 := n1_
                have HO_8 := n2_
                have HB := n3_
                clear n0_ n1_ n2_ n3_
                (try clear hb)
                (try clear hb2)
                (try clear hk)
                (try clear hi)
                refine hK.out _ _ ⟨HS0_, HS1_, HS2_, HS3_, HS4_, HS5_, HS6_, HS7_, HS8_, HS9_, HS10_, HS11_, HS12_, HS13_, HS14_, HS15_, HS16_, HS17_, HS18_, HS19_, HS20_, HS21_, HS22_, HS23_, HS24_, HS25_, HS26_, HS27_⟩ (fun hHeld => ?_)
                clear hK K
                refine norm_ (a' := ?_) ?_ ?_
                rotate_left
                ·show Act.put _ (some 59) _ = _
                 refine pt ?_
                 rfl
                refine pq 15 (some 60) ?_ (fl 41 16) HT_.out rfl rfl ?_ ?_ ?_ ?_
                rotate_left
                ·intro w'
                 go_simp
                 with_reducible rfl
                rotate_left
                ·refine pt ?_
                 rfl
                refine pq 16 (some 61) ?_ (fl 41 17) HT_.out rfl rfl ?_ ?_ ?_ ?_
                rotate_left
                ·intro w'
                 go_simp
                 with_reducible rfl
                rotate_left
                ·refine pt ?_
                 rfl
                refine pq 17 (some 62) ?_ (fl 41 18) HT_.out rfl rfl ?_ ?_ ?_ ?_
                rotate_left
                ·intro w'
                 go_simp
                 with_reducible rfl
                rotate_left
                ·refine pt ?_
                 rfl
                refine pq 18 (some 63) ?_ (fl 41 19) HT_.out rfl rfl ?_ ?_ ?_ ?_
                rotate_left
                ·intro w'
                 go_simp
                 with_reducible rfl
                rotate_left
                ·refine pt ?_
                 rfl
                refine pq 19 (some 64) ?_ (fl 41 20) HT_.out rfl rfl ?_ ?_ ?_ ?_
                rotate_left
                ·intro w'
                 go_simp
                 with_reducible rfl
                rotate_left
                ·refine pt ?_
                 rfl
                refine pq 20 (some 65) ?_ (fl 41 21) HT_.out rfl rfl ?_ ?_ ?_ ?_
                rotate_left
                ·intro w'
                 go_simp
                 with_reducible rfl
                rotate_left
                ·refine pt ?_
                 rfl
                refine pq 21 (some 66) ?_ (fl 41 22) HT_.out rfl rfl ?_ ?_ ?_ ?_
                rotate_left
                ·intro w'
                 go_simp
                 with_reducible rfl
                rotate_left
                ·refine pt ?_
                 rfl
                refine pk 22 (some 67) ?_ (fl 41 23) HT_.out HW_.out rfl rfl ?_ hHeld ?_ ?_ ?_
                rotate_left
                ·rintro w' ⟨s0, s1, s2, s3, s4, s5, s6, s7, s8, s9, s10, s11, s12, s13, s14, s15, s16, s17, s18, s19, s20, s21, s22, s23, s24, s25, s26, s27⟩
                 go_simp
                 with_reducible rfl
                rotate_left
                ·refine pt ?_
                 rfl
                refine pq 23 (some 68) ?_ (fl 41 24) HT_.out rfl rfl ?_ ?_ ?_ ?_
                rotate_left
                ·intro w'
                 go_simp
                 with_reducible rfl
                rotate_left
                ·refine pt ?_
                 rfl
                refine pq 24 (some 69) ?_ (fl 41 25) HT_.out rfl rfl ?_ ?_ ?_ ?_
                rotate_left
                ·intro w'
                 go_simp
                 with_reducible rfl
                rotate_left
                ·refine pt ?_
                 rfl
                refine pr 25 (some 70) ?_ (fl 41 26) HT_.out rfl rfl ?_ ?_
                rotate_left
                ·refine pt ?_
                 rfl
                refine pr 26 (some 71) ?_ (fl 41 27) HT_.out rfl rfl ?_ ?_
                rotate_left
                ·refine pt ?_
                 rfl
                refine pr 27 (some 72) ?_ (fl 41 28) HT_.out rfl rfl ?_ ?_
                rotate_left
                ·refine pt ?_
                 rfl
                refine pr 28 (some 73) ?_ (fl 41 29) HT_.out rfl rfl ?_ ?_
                rotate_left
                ·refine pt ?_
                 rfl
                refine pr 29 (some 74) ?_ (fl 41 30) HT_.out rfl rfl ?_ ?_
                rotate_left
                ·refine pt ?_
                 rfl
                refine pr 30 (some 75) ?_ (fl 41 31) HT_.out rfl rfl ?_ ?_
                rotate_left
                ·refine pt ?_
                 rfl
                refine pr 31 (some 76) ?_ (fl 41 32) HT_.out rfl rfl ?_ ?_
                rotate_left
                ·refine pt ?_
                 rfl
                refine pr 32 (some 77) ?_ (fl 41 33) HT_.out rfl rfl ?_ ?_
                rotate_left
                ·refine pt ?_
                 rfl
                refine pr 33 (some 78) ?_ (fl 41 34) HT_.out rfl rfl ?_ ?_
                rotate_left
                ·refine pt ?_
                 rfl
                refine pr 34 (some 79) ?_ (fl 41 35) HT_.out rfl rfl ?_ ?_
                rotate_left
                ·refine pt ?_
                 rfl
                refine pr 35 (some 80) ?_ (fl 41 36) HT_.out rfl rfl ?_ ?_
                rotate_left
                ·refine pt ?_
                 rfl
                refine pr 36 (some 81) ?_ (fl 41 37) HT_.out rfl rfl ?_ ?_
                rotate_left
                ·refine pt ?_
                 rfl
                refine pr 37 (some 82) ?_ (fl 41 38) HT_.out rfl rfl ?_ ?_
                rotate_left
                ·refine pt ?_
                 rfl
                refine pr 38 (some 83) ?_ (fl 41 39) HT_.out rfl rfl ?_ ?_
                rotate_left
                ·refine pt ?_
                 rfl
                refine pq 39 (some 84) ?_ (fl 41 40) HT_.out rfl rfl ?_ ?_ ?_ ?_
                rotate_left
                ·intro w'
                 go_simp
                 with_reducible rfl
                rotate_left
                ·refine pt ?_
                 rfl
                refine pq 40 (some 85) ?_ (fl 41 41) HT_.out rfl rfl ?_ ?_ ?_ ?_
                rotate_left
                ·intro w'
                 go_simp
                 with_reducible rfl
                rotate_left
                ·refine pt ?_
                 rfl
                refine done_ (done_of HT_.out (by kernel_rfl)) ?_
                try go_wp2
                go_roundg k3
                case measure => have := HJ5.out; have := HJ16.out; have := HK3.out; omega
                case rel => exact ⟨(wrap64 (x9_3 + 1)), fj, H', ⟨by have := HJ5.out; have := HJ16.out; have := HK3.out; omega⟩, ⟨by (with_reducible repeat (first | apply Kd.R_alloc | apply Kd.R_drewN | apply Kd.R_drew)); exact HO_5.out⟩, ⟨by (with_reducible repeat (first | apply Kd.R_alloc | apply Kd.R_drewN | apply Kd.R_drew)); exact HO_7.out⟩, ⟨by (with_reducible repeat (first | apply Kd.R_alloc | apply Kd.R_drewN | apply Kd.R_drew)); exact HO_8.out⟩, ⟨bl⟩⟩
               ·rw [if_neg c34] at H
                have c34b0 : (((rd_T27 t326 x9_3).f0) == 1) = false := beq_eq_false_iff_ne.mpr c34
                have c34b1 : (((rd_T27 t326 x9_3).f0) != 1) = true := bne_iff_ne.mpr c34
                by_cases c39 : ((rd_T27 t326 x9_3).f0) < 22
                ·rw [if_pos c39] at H
                 have c39b0 := decide_eq_true c39
                 clear c39
                 obtain rfl := Option.some.inj H
                 obtain ⟨Ao40, co40, eo40⟩ := Kd.R_slice HO_7.out
                 subst eo40
                 try go_wp2
                 have n0_ := Aside0.mk (Kd.R_drew HO_5.out)
                 have n1_ := Aside0.mk (Kd.R_drew HO_7.out)
                 have n2_ := Aside0.mk (Kd.R_drew HO_8.out)
                 have n3_ := Aside0.mk (below_drew1 HB.out)
                 clear HO_5
                 clear HO_7
                 clear HO_8
                 clear HB
                 have HO_5 := n0_
                 have HO_7 := n1_
                 have HO_8 := n2_
                 have HB := n3_
                 clear n0_ n1_ n2_ n3_
                 have p333 : 0 ≤ (x9_3 : Int) := of_decide_eq_true (by first | (with_reducible assumption) | assumption)
                 have q333 : x9_3 < (t326.length : Int) := of_decide_eq_true (by first | (with_reducible assumption) | assumption)
                 obtain ⟨ad333, e333, hx333_0, hx333_1, hx333_2, hx333_3, hx333_4, hx333_5, hx333_6⟩ := at_T27 (Kd.R_reads' HO_7.out).2.2 x9_3 p333 q333
                 cases e333
                 replace p333 := eq_true p333
                 replace q333 := eq_true q333
                 obtain ⟨Ao42, co42, eo42⟩ := Kd.R_slice HO_8.out
                 (first | subst eo42 | (injection eo42 with f1_ f2_ f3_; have f4_ := f1_.symm; have f5_ := f3_.symm; clear f1_ f2_ f3_; subst f4_; subst f5_))
                 have p334 : 0 ≤ (x9_3 : Int) := of_decide_eq_true (by first | (with_reducible assumption) | assumption)
                 have q334 : x9_3 < (t330.length : Int) := of_decide_eq_true (by first | (with_reducible assumption) | assumption)
                 obtain ⟨ad334, e334, hx334_0, hx334_1, hx334_2, hx334_3, hx334_4, hx334_5, hx334_6⟩ := at_T27 (Kd.R_reads' HO_8.out).2.2 x9_3 p334 q334
                 cases e334
                 replace p334 := eq_true p334
                 replace q334 := eq_true q334
                 have p335 : 0 ≤ (x9_3 : Int) := of_decide_eq_true (by first | (with_reducible assumption) | assumption)
                 have q335 : x9_3 < (t326.length : Int) := of_decide_eq_true (by first | (with_reducible assumption) | assumption)
                 obtain ⟨ad335, e335, hx335_0, hx335_1, hx335_2, hx335_3, hx335_4, hx335_5, hx335_6⟩ := at_T27 (Kd.R_reads' HO_7.out).2.2 x9_3 p335 q335
                 obtain rfl : ad333 = ad335 := (by injection e335)
                 replace p335 := eq_true p335
                 replace q335 := eq_true q335
                 have p337 : 0 ≤ (x9_3 : Int) := of_decide_eq_true (by first | (with_reducible assumption) | assumption)
                 have q337 : x9_3 < (t326.length : Int) := of_decide_eq_true (by first | (with_reducible assumption) | assumption)
                 obtain ⟨ad337, e337, hx337_0, hx337_1, hx337_2, hx337_3, hx337_4, hx337_5, hx337_6⟩ := at_T27 (Kd.R_reads' HO_7.out).2.2 x9_3 p337 q337
                 obtain rfl : ad333 = ad337 := (by injection e337)
                 replace p337 := eq_true p337
                 replace q337 := eq_true q337
                 have p338 : 0 ≤ (x9_3 : Int) := of_decide_eq_true (by first | (with_reducible assumption) | assumption)
                 have q338 : x9_3 < (t326.length : Int) := of_decide_eq_true (by first | (with_reducible assumption) | assumption)
                 obtain ⟨ad338, e338, hx338_0, hx338_1, hx338_2, hx338_3, hx338_4, hx338_5, hx338_6⟩ := at_T27 (Kd.R_reads' HO_7.out).2.2 x9_3 p338 q338
                 obtain rfl : ad333 = ad338 := (by injection e338)
                 replace p338 := eq_true p338
                 replace q338 := eq_true q338
                 refine start_ (n := 41) (S := fun w' => w'.cell? (ad333.add ((x9_3).toNat * 7)) = some (.int .i64 ((rd_T27 t326 x9_3).f0)) ∧ w'.cell? ⟨(ad333.add ((x9_3).toNat * 7)).block, (ad333.add ((x9_3).toNat * 7)).off + 1, none⟩ = some (.int .i64 ((rd_T27 t326 x9_3).f1)) ∧ w'.cell? ⟨(ad333.add ((x9_3).toNat * 7)).block, (ad333.add ((x9_3).toNat * 7)).off + 2, none⟩ = some (.int .i64 ((rd_T27 t326 x9_3).f2)) ∧ w'.cell? ⟨(ad333.add ((x9_3).toNat * 7)).block, (ad333.add ((x9_3).toNat * 7)).off + 3, none⟩ = some (.int .i64 ((rd_T27 t326 x9_3).f3)) ∧ w'.cell? ⟨(ad333.add ((x9_3).toNat * 7)).block, (ad333.add ((x9_3).toNat * 7)).off + 4, none⟩ = some (.int .i64 ((rd_T27 t326 x9_3).f4)) ∧ w'.cell? ⟨(ad333.add ((x9_3).toNat * 7)).block, (ad333.add ((x9_3).toNat * 7)).off + 5, none⟩ = some (.bool ((rd_T27 t326 x9_3).f5)) ∧ w'.cell? ⟨(ad333.add ((x9_3).toNat * 7)).block, (ad333.add ((x9_3).toNat * 7)).off + 6, none⟩ = some (.bool ((rd_T27 t326 x9_3).f6)) ∧ w'.cell? (ad334.add ((x9_3).toNat * 7)) = some (.int .i64 ((rd_T27 t330 x9_3).f0)) ∧ w'.cell? ⟨(ad334.add ((x9_3).toNat * 7)).block, (ad334.add ((x9_3).toNat * 7)).off + 1, none⟩ = some (.int .i64 ((rd_T27 t330 x9_3).f1)) ∧ w'.cell? ⟨(ad334.add ((x9_3).toNat * 7)).block, (ad334.add ((x9_3).toNat * 7)).off + 2, none⟩ = some (.int .i64 ((rd_T27 t330 x9_3).f2)) ∧ w'.cell? ⟨(ad334.add ((x9_3).toNat * 7)).block, (ad334.add ((x9_3).toNat * 7)).off + 3, none⟩ = some (.int .i64 ((rd_T27 t330 x9_3).f3)) ∧ w'.cell? ⟨(ad334.add ((x9_3).toNat * 7)).block, (ad334.add ((x9_3).toNat * 7)).off + 4, none⟩ = some (.int .i64 ((rd_T27 t330 x9_3).f4)) ∧ w'.cell? ⟨(ad334.add ((x9_3).toNat * 7)).block, (ad334.add ((x9_3).toNat * 7)).off + 5, none⟩ = some (.bool ((rd_T27 t330 x9_3).f5)) ∧ w'.cell? ⟨(ad334.add ((x9_3).toNat * 7)).block, (ad334.add ((x9_3).toNat * 7)).off + 6, none⟩ = some (.bool ((rd_T27 t330 x9_3).f6)) ∧ w'.cell? (ad333.add ((x9_3).toNat * 7)) = some (.int .i64 ((rd_T27 t326 x9_3).f0)) ∧ w'.cell? ⟨(ad333.add ((x9_3).toNat * 7)).block, (ad333.add ((x9_3).toNat * 7)).off + 1, none⟩ = some (.int .i64 ((rd_T27 t326 x9_3).f1)) ∧ w'.cell? ⟨(ad333.add ((x9_3).toNat * 7)).block, (ad333.add ((x9_3).toNat * 7)).off + 2, none⟩ = some (.int .i64 ((rd_T27 t326 x9_3).f2)) ∧ w'.cell? ⟨(ad333.add ((x9_3).toNat * 7)).block, (ad333.add ((x9_3).toNat * 7)).off + 3, none⟩ = some (.int .i64 ((rd_T27 t326 x9_3).f3)) ∧ w'.cell? ⟨(ad333.add ((x9_3).toNat * 7)).block, (ad333.add ((x9_3).toNat * 7)).off + 4, none⟩ = some (.int .i64 ((rd_T27 t326 x9_3).f4)) ∧ w'.cell? ⟨(ad333.add ((x9_3).toNat * 7)).block, (ad333.add ((x9_3).toNat * 7)).off + 5, none⟩ = some (.bool ((rd_T27 t326 x9_3).f5)) ∧ w'.cell? ⟨(ad333.add ((x9_3).toNat * 7)).block, (ad333.add ((x9_3).toNat * 7)).off + 6, none⟩ = some (.bool ((rd_T27 t326 x9_3).f6)) ∧ w'.cell? (ad333.add ((x9_3).toNat * 7)) = some (.int .i64 ((rd_T27 t326 x9_3).f0)) ∧ w'.cell? ⟨(ad333.add ((x9_3).toNat * 7)).block, (ad333.add ((x9_3).toNat * 7)).off + 1, none⟩ = some (.int .i64 ((rd_T27 t326 x9_3).f1)) ∧ w'.cell? ⟨(ad333.add ((x9_3).toNat * 7)).block, (ad333.add ((x9_3).toNat * 7)).off + 2, none⟩ = some (.int .i64 ((rd_T27 t326 x9_3).f2)) ∧ w'.cell? ⟨(ad333.add ((x9_3).toNat * 7)).block, (ad333.add ((x9_3).toNat * 7)).off + 3, none⟩ = some (.int .i64 ((rd_T27 t326 x9_3).f3)) ∧ w'.cell? ⟨(ad333.add ((x9_3).toNat * 7)).block, (ad333.add ((x9_3).toNat * 7)).off + 4, none⟩ = some (.int .i64 ((rd_T27 t326 x9_3).f4)) ∧ w'.cell? ⟨(ad333.add ((x9_3).toNat * 7)).block, (ad333.add ((x9_3).toNat * 7)).off + 5, none⟩ = some (.bool ((rd_T27 t326 x9_3).f5)) ∧ w'.cell? ⟨(ad333.add ((x9_3).toNat * 7)).block, (ad333.add ((x9_3).toNat * 7)).off + 6, none⟩ = some (.bool ((rd_T27 t326 x9_3).f6)) ∧ w'.cell? (ad333.add ((x9_3).toNat * 7)) = some (.int .i64 ((rd_T27 t326 x9_3).f0)) ∧ w'.cell? ⟨(ad333.add ((x9_3).toNat * 7)).block, (ad333.add ((x9_3).toNat * 7)).off + 1, none⟩ = some (.int .i64 ((rd_T27 t326 x9_3).f1)) ∧ w'.cell? ⟨(ad333.add ((x9_3).toNat * 7)).block, (ad333.add ((x9_3).toNat * 7)).off + 2, none⟩ = some (.int .i64 ((rd_T27 t326 x9_3).f2)) ∧ w'.cell? ⟨(ad333.add ((x9_3).toNat * 7)).block, (ad333.add ((x9_3).toNat * 7)).off + 3, none⟩ = some (.int .i64 ((rd_T27 t326 x9_3).f3)) ∧ w'.cell? ⟨(ad333.add ((x9_3).toNat * 7)).block, (ad333.add ((x9_3).toNat * 7)).off + 4, none⟩ = some (.int .i64 ((rd_T27 t326 x9_3).f4)) ∧ w'.cell? ⟨(ad333.add ((x9_3).toNat * 7)).block, (ad333.add ((x9_3).toNat * 7)).off + 5, none⟩ = some (.bool ((rd_T27 t326 x9_3).f5)) ∧ w'.cell? ⟨(ad333.add ((x9_3).toNat * 7)).block, (ad333.add ((x9_3).toNat * 7)).off + 6, none⟩ = some (.bool ((rd_T27 t326 x9_3).f6))) (ds := []) (fl 41 0) (by kernel_rfl) rfl rfl ⟨hx333_0, hx333_1, hx333_2, hx333_3, hx333_4, hx333_5, hx333_6, hx334_0, hx334_1, hx334_2, hx334_3, hx334_4, hx334_5, hx334_6, hx335_0, hx335_1, hx335_2, hx335_3, hx335_4, hx335_5, hx335_6, hx337_0, hx337_1, hx337_2, hx337_3, hx337_4, hx337_5, hx337_6, hx338_0, hx338_1, hx338_2, hx338_3, hx338_4, hx338_5, hx338_6⟩ (fun hHeld => ?_); refine with_tabW spinnakerlaw09_UnitLoads.tab10 spinnakerlaw09_UnitLoads.bits10 (fun HT_ HW_ => ?_)
                 generalize wr.drew = w41 at HO_5 HO_7 HO_8 HB hx333_0 hx333_1 hx333_2 hx333_3 hx333_4 hx333_5 hx333_6 hx334_0 hx334_1 hx334_2 hx334_3 hx334_4 hx334_5 hx334_6 hx335_0 hx335_1 hx335_2 hx335_3 hx335_4 hx335_5 hx335_6 hx337_0 hx337_1 hx337_2 hx337_3 hx337_4 hx337_5 hx337_6 hx338_0 hx338_1 hx338_2 hx338_3 hx338_4 hx338_5 hx338_6 hHeld ⊢
                 refine pq 0 (some 45) ?_ (fl 41 1) HT_.out rfl rfl ?_ ?_ ?_ ?_
                 rotate_left
                 ·intro w'
                  go_simp
                  with_reducible rfl
                 rotate_left
                 ·refine pt ?_
                  rfl
                 refine pq 1 (some 46) ?_ (fl 41 2) HT_.out rfl rfl ?_ ?_ ?_ ?_
                 rotate_left
                 ·intro w'
                  go_simp
                  with_reducible rfl
                 rotate_left
                 ·refine pt ?_
                  rfl
                 refine pq 2 (some 47) ?_ (fl 41 3) HT_.out rfl rfl ?_ ?_ ?_ ?_
                 rotate_left
                 ·intro w'
                  go_simp
                  with_reducible rfl
                 rotate_left
                 ·refine pt ?_
                  rfl
                 refine pq 4 (some 49) ?_ #[true, true, true, false, true, false, false, false, false, false, false, false, false, false, false, false, false, false, false, false, false, false, false, false, false, false, false, false, false, false, false, false, false, false, false, false, false, false, false, false, false] HT_.out rfl rfl ?_ ?_ ?_ ?_
                 rotate_left
                 ·intro w'
                  go_simp
                  with_reducible rfl
                 rotate_left
                 ·refine pt ?_
                  rfl
                 refine pq 5 (some 50) ?_ #[true, true, true, false, true, true, false, false, false, false, false, false, false, false, false, false, false, false, false, false, false, false, false, false, false, false, false, false, false, false, false, false, false, false, false, false, false, false, false, false, false] HT_.out rfl rfl ?_ ?_ ?_ ?_
                 rotate_left
                 ·intro w'
                  go_simp
                  with_reducible rfl
                 rotate_left
                 ·refine pt ?_
                  rfl
                 refine pq 6 (some 51) ?_ #[true, true, true, false, true, true, true, false, false, false, false, false, false, false, false, false, false, false, false, false, false, false, false, false, false, false, false, false, false, false, false, false, false, false, false, false, false, false, false, false, false] HT_.out rfl rfl ?_ ?_ ?_ ?_
                 rotate_left
                 ·intro w'
                  go_simp
                  with_reducible rfl
                 rotate_left
                 ·refine pt ?_
                  rfl
                 refine pk 3 (some 48) ?_ (fl 41 7) HT_.out HW_.out rfl rfl ?_ hHeld ?_ ?_ ?_
                 rotate_left
                 ·rintro w' ⟨s0, s1, s2, s3, s4, s5, s6, s7, s8, s9, s10, s11, s12, s13, s14, s15, s16, s17, s18, s19, s20, s21, s22, s23, s24, s25, s26, s27, s28, s29, s30, s31, s32, s33, s34⟩
                  go_simp
                  with_reducible rfl
                 rotate_left
                 ·refine pt ?_
                  rfl
                 refine pk 7 (some 52) ?_ (fl 41 8) HT_.out HW_.out rfl rfl ?_ hHeld ?_ ?_ ?_
                 rotate_left
                 ·rintro w' ⟨s0, s1, s2, s3, s4, s5, s6, s7, s8, s9, s10, s11, s12, s13, s14, s15, s16, s17, s18, s19, s20, s21, s22, s23, s24, s25, s26, s27, s28, s29, s30, s31, s32, s33, s34⟩
                  go_simp
                  with_reducible rfl
                 rotate_left
                 ·refine pt ?_
                  rfl
                 refine pq 8 (some 53) ?_ (fl 41 9) HT_.out rfl rfl ?_ ?_ ?_ ?_
                 rotate_left
                 ·intro w'
                  go_simp
                  with_reducible rfl
                 rotate_left
                 ·refine pt ?_
                  rfl
                 refine pq 9 (some 54) ?_ (fl 41 10) HT_.out rfl rfl ?_ ?_ ?_ ?_
                 rotate_left
                 ·intro w'
                  go_simp
                  with_reducible rfl
                 rotate_left
                 ·refine pt ?_
                  rfl
                 refine pq 10 (some 55) ?_ (fl 41 11) HT_.out rfl rfl ?_ ?_ ?_ ?_
                 rotate_left
                 ·intro w'
                  go_simp
                  with_reducible rfl
                 rotate_left
                 ·refine pt ?_
                  rfl
                 refine pq 11 (some 56) ?_ (fl 41 12) HT_.out rfl rfl ?_ ?_ ?_ ?_
                 rotate_left
                 ·intro w'
                  go_simp
                  with_reducible rfl
                 rotate_left
                 ·refine pt ?_
                  rfl
                 refine pq 12 (some 57) ?_ (fl 41 13) HT_.out rfl rfl ?_ ?_ ?_ ?_
                 rotate_left
                 ·intro w'
                  go_simp
                  with_reducible rfl
                 rotate_left
                 ·refine pt ?_
                  rfl
                 refine pk 13 (some 58) ?_ (fl 41 14) HT_.out HW_.out rfl rfl ?_ hHeld ?_ ?_ ?_
                 rotate_left
                 ·rintro w' ⟨s0, s1, s2, s3, s4, s5, s6, s7, s8, s9, s10, s11, s12, s13, s14, s15, s16, s17, s18, s19, s20, s21, s22, s23, s24, s25, s26, s27, s28, s29, s30, s31, s32, s33, s34⟩
                  go_simp
                  with_reducible rfl
                 rotate_left
                 ·refine pt ?_
                  rfl
                 refine one_ (i := 14) (N := some 59) (fl 41 15) rfl rfl (one_of HT_.out (by kernel_rfl)) (by decide) (fun K hK => ?_)
                 refine goes_ Tryd.func7 (by kernel_rfl) rfl #[.agg #[.int .i64 ((rd_T27 t326 x9_3).f0), .int .i64 ((rd_T27 t326 x9_3).f1), .int .i64 ((rd_T27 t326 x9_3).f2), .int .i64 ((rd_T27 t326 x9_3).f3), .int .i64 ((rd_T27 t326 x9_3).f4), .bool ((rd_T27 t326 x9_3).f5), .bool ((rd_T27 t326 x9_3).f6)]] (by rfl) rfl rfl ga ?_
                 with_reducible refine (spinnakerref03_May.calls k3 ((rd_T27 t326 x9_3).f0) ((rd_T27 t326 x9_3).f1) ((rd_T27 t326 x9_3).f2) ((rd_T27 t326 x9_3).f3) ((rd_T27 t326 x9_3).f4) ((rd_T27 t326 x9_3).f5) ((rd_T27 t326 x9_3).f6) true _ A32.out).mono ?_
                 rintro e w43 ⟨rfl, hb⟩
                 have HS0_ := (hb.cell (World.block_lt_of_cell? _ _ (hHeld.1))).trans (hHeld.1)
                 have HS1_ := (hb.cell (World.block_lt_of_cell? _ _ (hHeld.2.1))).trans (hHeld.2.1)
                 have HS2_ := (hb.cell (World.block_lt_of_cell? _ _ (hHeld.2.2.1))).trans (hHeld.2.2.1)
                 have HS3_ := (hb.cell (World.block_lt_of_cell? _ _ (hHeld.2.2.2.1))).trans (hHeld.2.2.2.1)
                 have HS4_ := (hb.cell (World.block_lt_of_cell? _ _ (hHeld.2.2.2.2.1))).trans (hHeld.2.2.2.2.1)
                 have HS5_ := (hb.cell (World.block_lt_of_cell? _ _ (hHeld.2.2.2.2.2.1))).trans (hHeld.2.2.2.2.2.1)
                 have HS6_ := (hb.cell (World.block_lt_of_cell? _ _ (hHeld.2.2.2.2.2.2.1))).trans (hHeld.2.2.2.2.2.2.1)
                 have HS7_ := (hb.cell (World.block_lt_of_cell? _ _ (hHeld.2.2.2.2.2.2.2.1))).trans (hHeld.2.2.2.2.2.2.2.1)
                 have HS8_ := (hb.cell (World.block_lt_of_cell? _ _ (hHeld.2.2.2.2.2.2.2.2.1))).trans (hHeld.2.2.2.2.2.2.2.2.1)
                 have HS9_ := (hb.cell (World.block_lt_of_cell? _ _ (hHeld.2.2.2.2.2.2.2.2.2.1))).trans (hHeld.2.2.2.2.2.2.2.2.2.1)
                 have HS10_ := (hb.cell (World.block_lt_of_cell? _ _ (hHeld.2.2.2.2.2.2.2.2.2.2.1))).trans (hHeld.2.2.2.2.2.2.2.2.2.2.1)
                 have HS11_ := (hb.cell (World.block_lt_of_cell? _ _ (hHeld.2.2.2.2.2.2.2.2.2.2.2.1))).trans (hHeld.2.2.2.2.2.2.2.2.2.2.2.1)
                 have HS12_ := (hb.cell (World.block_lt_of_cell? _ _ (hHeld.2.2.2.2.2.2.2.2.2.2.2.2.1))).trans (hHeld.2.2.2.2.2.2.2.2.2.2.2.2.1)
                 have HS13_ := (hb.cell (World.block_lt_of_cell? _ _ (hHeld.2.2.2.2.2.2.2.2.2.2.2.2.2.1))).trans (hHeld.2.2.2.2.2.2.2.2.2.2.2.2.2.1)
                 have HS14_ := (hb.cell (World.block_lt_of_cell? _ _ (hHeld.2.2.2.2.2.2.2.2.2.2.2.2.2.2.1))).trans (hHeld.2.2.2.2.2.2.2.2.2.2.2.2.2.2.1)
                 have HS15_ := (hb.cell (World.block_lt_of_cell? _ _ (hHeld.2.2.2.2.2.2.2.2.2.2.2.2.2.2.2.1))).trans (hHeld.2.2.2.2.2.2.2.2.2.2.2.2.2.2.2.1)
                 have HS16_ := (hb.cell (World.block_lt_of_cell? _ _ (hHeld.2.2.2.2.2.2.2.2.2.2.2.2.2.2.2.2.1))).trans (hHeld.2.2.2.2.2.2.2.2.2.2.2.2.2.2.2.2.1)
                 have HS17_ := (hb.cell (World.block_lt_of_cell? _ _ (hHeld.2.2.2.2.2.2.2.2.2.2.2.2.2.2.2.2.2.1))).trans (hHeld.2.2.2.2.2.2.2.2.2.2.2.2.2.2.2.2.2.1)
                 have HS18_ := (hb.cell (World.block_lt_of_cell? _ _ (hHeld.2.2.2.2.2.2.2.2.2.2.2.2.2.2.2.2.2.2.1))).trans (hHeld.2.2.2.2.2.2.2.2.2.2.2.2.2.2.2.2.2.2.1)
                 have HS19_ := (hb.cell (World.block_lt_of_cell? _ _ (hHeld.2.2.2.2.2.2.2.2.2.2.2.2.2.2.2.2.2.2.2.1))).trans (hHeld.2.2.2.2.2.2.2.2.2.2.2.2.2.2.2.2.2.2.2.1)
                 have HS20_ := (hb.cell (World.block_lt_of_cell? _ _ (hHeld.2.2.2.2.2.2.2.2.2.2.2.2.2.2.2.2.2.2.2.2.1))).trans (hHeld.2.2.2.2.2.2.2.2.2.2.2.2.2.2.2.2.2.2.2.2.1)
                 have HS21_ := (hb.cell (World.block_lt_of_cell? _ _ (hHeld.2.2.2.2.2.2.2.2.2.2.2.2.2.2.2.2.2.2.2.2.2.1))).trans (hHeld.2.2.2.2.2.2.2.2.2.2.2.2.2.2.2.2.2.2.2.2.2.1)
                 have HS22_ := (hb.cell (World.block_lt_of_cell? _ _ (hHeld.2.2.2.2.2.2.2.2.2.2.2.2.2.2.2.2.2.2.2.2.2.2.1))).trans (hHeld.2.2.2.2.2.2.2.2.2.2.2.2.2.2.2.2.2.2.2.2.2.2.1)
                 have HS23_ := (hb.cell (World.block_lt_of_cell? _ _ (hHeld.2.2.2.2.2.2.2.2.2.2.2.2.2.2.2.2.2.2.2.2.2.2.2.1))).trans (hHeld.2.2.2.2.2.2.2.2.2.2.2.2.2.2.2.2.2.2.2.2.2.2.2.1)
                 have HS24_ := (hb.cell (World.block_lt_of_cell? _ _ (hHeld.2.2.2.2.2.2.2.2.2.2.2.2.2.2.2.2.2.2.2.2.2.2.2.2.1))).trans (hHeld.2.2.2.2.2.2.2.2.2.2.2.2.2.2.2.2.2.2.2.2.2.2.2.2.1)
                 have HS25_ := (hb.cell (World.block_lt_of_cell? _ _ (hHeld.2.2.2.2.2.2.2.2.2.2.2.2.2.2.2.2.2.2.2.2.2.2.2.2.2.1))).trans (hHeld.2.2.2.2.2.2.2.2.2.2.2.2.2.2.2.2.2.2.2.2.2.2.2.2.2.1)
                 have HS26_ := (hb.cell (World.block_lt_of_cell? _ _ (hHeld.2.2.2.2.2.2.2.2.2.2.2.2.2.2.2.2.2.2.2.2.2.2.2.2.2.2.1))).trans (hHeld.2.2.2.2.2.2.2.2.2.2.2.2.2.2.2.2.2.2.2.2.2.2.2.2.2.2.1)
                 have HS27_ := (hb.cell (World.block_lt_of_cell? _ _ (hHeld.2.2.2.2.2.2.2.2.2.2.2.2.2.2.2.2.2.2.2.2.2.2.2.2.2.2.2.1))).trans (hHeld.2.2.2.2.2.2.2.2.2.2.2.2.2.2.2.2.2.2.2.2.2.2.2.2.2.2.2.1)
                 have HS28_ := (hb.cell (World.block_lt_of_cell? _ _ (hHeld.2.2.2.2.2.2.2.2.2.2.2.2.2.2.2.2.2.2.2.2.2.2.2.2.2.2.2.2.1))).trans (hHeld.2.2.2.2.2.2.2.2.2.2.2.2.2.2.2.2.2.2.2.2.2.2.2.2.2.2.2.2.1)
                 have HS29_ := (hb.cell (World.block_lt_of_cell? _ _ (hHeld.2.2.2.2.2.2.2.2.2.2.2.2.2.2.2.2.2.2.2.2.2.2.2.2.2.2.2.2.2.1))).trans (hHeld.2.2.2.2.2.2.2.2.2.2.2.2.2.2.2.2.2.2.2.2.2.2.2.2.2.2.2.2.2.1)
                 have HS30_ := (hb.cell (World.block_lt_of_cell? _ _ (hHeld.2.2.2.2.2.2.2.2.2.2.2.2.2.2.2.2.2.2.2.2.2.2.2.2.2.2.2.2.2.2.1))).trans (hHeld.2.2.2.2.2.2.2.2.2.2.2.2.2.2.2.2.2.2.2.2.2.2.2.2.2.2.2.2.2.2.1)
                 have HS31_ := (hb.cell (World.block_lt_of_cell? _ _ (hHeld.2.2.2.2.2.2.2.2.2.2.2.2.2.2.2.2.2.2.2.2.2.2.2.2.2.2.2.2.2.2.2.1))).trans (hHeld.2.2.2.2.2.2.2.2.2.2.2.2.2.2.2.2.2.2.2.2.2.2.2.2.2.2.2.2.2.2.2.1)
                 have HS32_ := (hb.cell (World.block_lt_of_cell? _ _ (hHeld.2.2.2.2.2.2.2.2.2.2.2.2.2.2.2.2.2.2.2.2.2.2.2.2.2.2.2.2.2.2.2.2.1))).trans (hHeld.2.2.2.2.2.2.2.2.2.2.2.2.2.2.2.2.2.2.2.2.2.2.2.2.2.2.2.2.2.2.2.2.1)
                 have HS33_ := (hb.cell (World.block_lt_of_cell? _ _ (hHeld.2.2.2.2.2.2.2.2.2.2.2.2.2.2.2.2.2.2.2.2.2.2.2.2.2.2.2.2.2.2.2.2.2.1))).trans (hHeld.2.2.2.2.2.2.2.2.2.2.2.2.2.2.2.2.2.2.2.2.2.2.2.2.2.2.2.2.2.2.2.2.2.1)
                 have HS34_ := (hb.cell (World.block_lt_of_cell? _ _ (hHeld.2.2.2.2.2.2.2.2.2.2.2.2.2.2.2.2.2.2.2.2.2.2.2.2.2.2.2.2.2.2.2.2.2.2))).trans (hHeld.2.2.2.2.2.2.2.2.2.2.2.2.2.2.2.2.2.2.2.2.2.2.2.2.2.2.2.2.2.2.2.2.2.2)
                 refine ⟨_, rfl, ?_⟩
                 have n0_ := Aside0.mk (Kd.R_below (by (with_reducible repeat (first | apply Kd.R_alloc | apply Kd.R_drewN | apply Kd.R_drew)); exact HO_5.out) hb)
                 have n1_ := Aside0.mk (Kd.R_below (by (with_reducible repeat (first | apply Kd.R_alloc | apply Kd.R_drewN | apply Kd.R_drew)); exact HO_7.out) hb)
                 have n2_ := Aside0.mk (Kd.R_below (by (with_reducible repeat (first | apply Kd.R_alloc | apply Kd.R_drewN | apply Kd.R_drew)); exact HO_8.out) hb)
                 have n3_ := Aside0.mk (below_step bl hb)
                 clear HO_5
                 clear HO_7
                 clear HO_8
                 clear HB
                 have HO_5 := n0_
                 have HO_7 := n1_
                 have HO_8 := n2_
                 have HB := n3_
                 clear n0_ n1_ n2_ n3_
                 (try clear hb)
                 (try clear hb2)
                 (try clear hk)
                 (try clear hi)
                 refine hK.out _ _ ⟨HS0_, HS1_, HS2_, HS3_, HS4_, HS5_, HS6_, HS7_, HS8_, HS9_, HS10_, HS11_, HS12_, HS13_, HS14_, HS15_, HS16_, HS17_, HS18_, HS19_, HS20_, HS21_, HS22_, HS23_, HS24_, HS25_, HS26_, HS27_, HS28_, HS29_, HS30_, HS31_, HS32_, HS33_, HS34_⟩ (fun hHeld => ?_)
                 clear hK K
                 refine norm_ (a' := ?_) ?_ ?_
                 rotate_left
                 ·show Act.put _ (some 59) _ = _
                  refine pt ?_
                  rfl
                 refine pq 15 (some 60) ?_ (fl 41 16) HT_.out rfl rfl ?_ ?_ ?_ ?_
                 rotate_left
                 ·intro w'
                  go_simp
                  with_reducible rfl
                 rotate_left
                 ·refine pt ?_
                  rfl
                 refine pq 16 (some 61) ?_ (fl 41 17) HT_.out rfl rfl ?_ ?_ ?_ ?_
                 rotate_left
                 ·intro w'
                  go_simp
                  with_reducible rfl
                 rotate_left
                 ·refine pt ?_
                  rfl
                 refine pq 17 (some 62) ?_ (fl 41 18) HT_.out rfl rfl ?_ ?_ ?_ ?_
                 rotate_left
                 ·intro w'
                  go_simp
                  with_reducible rfl
                 rotate_left
                 ·refine pt ?_
                  rfl
                 refine pq 18 (some 63) ?_ (fl 41 19) HT_.out rfl rfl ?_ ?_ ?_ ?_
                 rotate_left
                 ·intro w'
                  go_simp
                  with_reducible rfl
                 rotate_left
                 ·refine pt ?_
                  rfl
                 refine pq 19 (some 64) ?_ (fl 41 20) HT_.out rfl rfl ?_ ?_ ?_ ?_
                 rotate_left
                 ·intro w'
                  go_simp
                  with_reducible rfl
                 rotate_left
                 ·refine pt ?_
                  rfl
                 refine pq 20 (some 65) ?_ (fl 41 21) HT_.out rfl rfl ?_ ?_ ?_ ?_
                 rotate_left
                 ·intro w'
                  go_simp
                  with_reducible rfl
                 rotate_left
                 ·refine pt ?_
                  rfl
                 refine pq 21 (some 66) ?_ (fl 41 22) HT_.out rfl rfl ?_ ?_ ?_ ?_
                 rotate_left
                 ·intro w'
                  go_simp
                  with_reducible rfl
                 rotate_left
                 ·refine pt ?_
                  rfl
                 refine pk 22 (some 67) ?_ (fl 41 23) HT_.out HW_.out rfl rfl ?_ hHeld ?_ ?_ ?_
                 rotate_left
                 ·rintro w' ⟨s0, s1, s2, s3, s4, s5, s6, s7, s8, s9, s10, s11, s12, s13, s14, s15, s16, s17, s18, s19, s20, s21, s22, s23, s24, s25, s26, s27, s28, s29, s30, s31, s32, s33, s34⟩
                  go_simp
                  with_reducible rfl
                 rotate_left
                 ·refine pt ?_
                  rfl
                 refine pq 23 (some 68) ?_ (fl 41 24) HT_.out rfl rfl ?_ ?_ ?_ ?_
                 rotate_left
                 ·intro w'
                  go_simp
                  with_reducible rfl
                 rotate_left
                 ·refine pt ?_
                  rfl
                 refine pq 24 (some 69) ?_ (fl 41 25) HT_.out rfl rfl ?_ ?_ ?_ ?_
                 rotate_left
                 ·intro w'
                  go_simp
                  with_reducible rfl
                 rotate_left
                 ·refine pt ?_
                  rfl
                 refine pq 25 (some 70) ?_ (fl 41 26) HT_.out rfl rfl ?_ ?_ ?_ ?_
                 rotate_left
                 ·intro w'
                  go_simp
                  with_reducible rfl
                 rotate_left
                 ·refine pt ?_
                  rfl
                 refine pq 26 (some 71) ?_ (fl 41 27) HT_.out rfl rfl ?_ ?_ ?_ ?_
                 rotate_left
                 ·intro w'
                  go_simp
                  with_reducible rfl
                 rotate_left
                 ·refine pt ?_
                  rfl
                 refine pq 27 (some 72) ?_ (fl 41 28) HT_.out rfl rfl ?_ ?_ ?_ ?_
                 rotate_left
                 ·intro w'
                  go_simp
                  with_reducible rfl
                 rotate_left
                 ·refine pt ?_
                  rfl
                 refine pq 28 (some 73) ?_ (fl 41 29) HT_.out rfl rfl ?_ ?_ ?_ ?_
                 rotate_left
                 ·intro w'
                  go_simp
                  with_reducible rfl
                 rotate_left
                 ·refine pt ?_
                  rfl
                 refine pk 29 (some 74) ?_ (fl 41 30) HT_.out HW_.out rfl rfl ?_ hHeld ?_ ?_ ?_
                 rotate_left
                 ·rintro w' ⟨s0, s1, s2, s3, s4, s5, s6, s7, s8, s9, s10, s11, s12, s13, s14, s15, s16, s17, s18, s19, s20, s21, s22, s23, s24, s25, s26, s27, s28, s29, s30, s31, s32, s33, s34⟩
                  go_simp
                  with_reducible rfl
                 rotate_left
                 ·refine pt ?_
                  rfl
                 refine pq 30 (some 75) ?_ (fl 41 31) HT_.out rfl rfl ?_ ?_ ?_ ?_
                 rotate_left
                 ·intro w'
                  go_simp
                  with_reducible rfl
                 rotate_left
                 ·refine pt ?_
                  rfl
                 refine pq 31 (some 76) ?_ (fl 41 32) HT_.out rfl rfl ?_ ?_ ?_ ?_
                 rotate_left
                 ·intro w'
                  go_simp
                  with_reducible rfl
                 rotate_left
                 ·refine pt ?_
                  rfl
                 refine pr 32 (some 77) ?_ (fl 41 33) HT_.out rfl rfl ?_ ?_
                 rotate_left
                 ·refine pt ?_
                  rfl
                 refine pr 33 (some 78) ?_ (fl 41 34) HT_.out rfl rfl ?_ ?_
                 rotate_left
                 ·refine pt ?_
                  rfl
                 refine pr 34 (some 79) ?_ (fl 41 35) HT_.out rfl rfl ?_ ?_
                 rotate_left
                 ·refine pt ?_
                  rfl
                 refine pr 35 (some 80) ?_ (fl 41 36) HT_.out rfl rfl ?_ ?_
                 rotate_left
                 ·refine pt ?_
                  rfl
                 refine pr 36 (some 81) ?_ (fl 41 37) HT_.out rfl rfl ?_ ?_
                 rotate_left
                 ·refine pt ?_
                  rfl
                 refine pr 37 (some 82) ?_ (fl 41 38) HT_.out rfl rfl ?_ ?_
                 rotate_left
                 ·refine pt ?_
                  rfl
                 refine pq 38 (some 83) ?_ (fl 41 39) HT_.out rfl rfl ?_ ?_ ?_ ?_
                 rotate_left
                 ·intro w'
                  go_simp
                  with_reducible rfl
                 rotate_left
                 ·refine pt ?_
                  rfl
                 refine pq 39 (some 84) ?_ (fl 41 40) HT_.out rfl rfl ?_ ?_ ?_ ?_
                 rotate_left
                 ·intro w'
                  go_simp
                  with_reducible rfl
                 rotate_left
                 ·refine pt ?_
                  rfl
                 refine pq 40 (some 85) ?_ (fl 41 41) HT_.out rfl rfl ?_ ?_ ?_ ?_
                 rotate_left
                 ·intro w'
                  go_simp
                  with_reducible rfl
                 rotate_left
                 ·refine pt ?_
                  rfl
                 refine done_ (done_of HT_.out (by kernel_rfl)) ?_
                 try go_wp2
                 go_ret
                 exact ⟨fi, bl⟩
                ·rw [if_neg c39] at H
                 have c39b0 := decide_eq_false c39
                 clear c39
                 by_cases c44 : ((rd_T27 t326 x9_3).f0) > 31
                 ·rw [if_pos c44] at H
                  have c44b0 := decide_eq_true c44
                  clear c44
                  obtain rfl := Option.some.inj H
                  obtain ⟨Ao45, co45, eo45⟩ := Kd.R_slice HO_7.out
                  subst eo45
                  try go_wp2
                  have n0_ := Aside0.mk (Kd.R_drew HO_5.out)
                  have n1_ := Aside0.mk (Kd.R_drew HO_7.out)
                  have n2_ := Aside0.mk (Kd.R_drew HO_8.out)
                  have n3_ := Aside0.mk (below_drew1 HB.out)
                  clear HO_5
                  clear HO_7
                  clear HO_8
                  clear HB
                  have HO_5 := n0_
                  have HO_7 := n1_
                  have HO_8 := n2_
                  have HB := n3_
                  clear n0_ n1_ n2_ n3_
                  have p333 : 0 ≤ (x9_3 : Int) := of_decide_eq_true (by first | (with_reducible assumption) | assumption)
                  have q333 : x9_3 < (t326.length : Int) := of_decide_eq_true (by first | (with_reducible assumption) | assumption)
                  obtain ⟨ad333, e333, hx333_0, hx333_1, hx333_2, hx333_3, hx333_4, hx333_5, hx333_6⟩ := at_T27 (Kd.R_reads' HO_7.out).2.2 x9_3 p333 q333
                  cases e333
                  replace p333 := eq_true p333
                  replace q333 := eq_true q333
                  obtain ⟨Ao47, co47, eo47⟩ := Kd.R_slice HO_8.out
                  (first | subst eo47 | (injection eo47 with f1_ f2_ f3_; have f4_ := f1_.symm; have f5_ := f3_.symm; clear f1_ f2_ f3_; subst f4_; subst f5_))
                  have p334 : 0 ≤ (x9_3 : Int) := of_decide_eq_true (by first | (with_reducible assumption) | assumption)
                  have q334 : x9_3 < (t330.length : Int) := of_decide_eq_true (by first | (with_reducible assumption) | assumption)
                  obtain ⟨ad334, e334, hx334_0, hx334_1, hx334_2, hx334_3, hx334_4, hx334_5, hx334_6⟩ := at_T27 (Kd.R_reads' HO_8.out).2.2 x9_3 p334 q334
                  cases e334
                  replace p334 := eq_true p334
                  replace q334 := eq_true q334
                  have p335 : 0 ≤ (x9_3 : Int) := of_decide_eq_true (by first | (with_reducible assumption) | assumption)
                  have q335 : x9_3 < (t326.length : Int) := of_decide_eq_true (by first | (with_reducible assumption) | assumption)
                  obtain ⟨ad335, e335, hx335_0, hx335_1, hx335_2, hx335_3, hx335_4, hx335_5, hx335_6⟩ := at_T27 (Kd.R_reads' HO_7.out).2.2 x9_3 p335 q335
                  obtain rfl : ad333 = ad335 := (by injection e335)
                  replace p335 := eq_true p335
                  replace q335 := eq_true q335
                  have p337 : 0 ≤ (x9_3 : Int) := of_decide_eq_true (by first | (with_reducible assumption) | assumption)
                  have q337 : x9_3 < (t326.length : Int) := of_decide_eq_true (by first | (with_reducible assumption) | assumption)
                  obtain ⟨ad337, e337, hx337_0, hx337_1, hx337_2, hx337_3, hx337_4, hx337_5, hx337_6⟩ := at_T27 (Kd.R_reads' HO_7.out).2.2 x9_3 p337 q337
                  obtain rfl : ad333 = ad337 := (by injection e337)
                  replace p337 := eq_true p337
                  replace q337 := eq_true q337
                  have p338 : 0 ≤ (x9_3 : Int) := of_decide_eq_true (by first | (with_reducible assumption) | assumption)
                  have q338 : x9_3 < (t326.length : Int) := of_decide_eq_true (by first | (with_reducible assumption) | assumption)
                  obtain ⟨ad338, e338, hx338_0, hx338_1, hx338_2, hx338_3, hx338_4, hx338_5, hx338_6⟩ := at_T27 (Kd.R_reads' HO_7.out).2.2 x9_3 p338 q338
                  obtain rfl : ad333 = ad338 := (by injection e338)
                  replace p338 := eq_true p338
                  replace q338 := eq_true q338
                  have p339 : 0 ≤ (x9_3 : Int) := of_decide_eq_true (by first | (with_reducible assumption) | assumption)
                  have q339 : x9_3 < (t326.length : Int) := of_decide_eq_true (by first | (with_reducible assumption) | assumption)
                  obtain ⟨ad339, e339, hx339_0, hx339_1, hx339_2, hx339_3, hx339_4, hx339_5, hx339_6⟩ := at_T27 (Kd.R_reads' HO_7.out).2.2 x9_3 p339 q339
                  obtain rfl : ad333 = ad339 := (by injection e339)
                  replace p339 := eq_true p339
                  replace q339 := eq_true q339
                  refine start_ (n := 41) (S := fun w' => w'.cell? (ad333.add ((x9_3).toNat * 7)) = some (.int .i64 ((rd_T27 t326 x9_3).f0)) ∧ w'.cell? ⟨(ad333.add ((x9_3).toNat * 7)).block, (ad333.add ((x9_3).toNat * 7)).off + 1, none⟩ = some (.int .i64 ((rd_T27 t326 x9_3).f1)) ∧ w'.cell? ⟨(ad333.add ((x9_3).toNat * 7)).block, (ad333.add ((x9_3).toNat * 7)).off + 2, none⟩ = some (.int .i64 ((rd_T27 t326 x9_3).f2)) ∧ w'.cell? ⟨(ad333.add ((x9_3).toNat * 7)).block, (ad333.add ((x9_3).toNat * 7)).off + 3, none⟩ = some (.int .i64 ((rd_T27 t326 x9_3).f3)) ∧ w'.cell? ⟨(ad333.add ((x9_3).toNat * 7)).block, (ad333.add ((x9_3).toNat * 7)).off + 4, none⟩ = some (.int .i64 ((rd_T27 t326 x9_3).f4)) ∧ w'.cell? ⟨(ad333.add ((x9_3).toNat * 7)).block, (ad333.add ((x9_3).toNat * 7)).off + 5, none⟩ = some (.bool ((rd_T27 t326 x9_3).f5)) ∧ w'.cell? ⟨(ad333.add ((x9_3).toNat * 7)).block, (ad333.add ((x9_3).toNat * 7)).off + 6, none⟩ = some (.bool ((rd_T27 t326 x9_3).f6)) ∧ w'.cell? (ad334.add ((x9_3).toNat * 7)) = some (.int .i64 ((rd_T27 t330 x9_3).f0)) ∧ w'.cell? ⟨(ad334.add ((x9_3).toNat * 7)).block, (ad334.add ((x9_3).toNat * 7)).off + 1, none⟩ = some (.int .i64 ((rd_T27 t330 x9_3).f1)) ∧ w'.cell? ⟨(ad334.add ((x9_3).toNat * 7)).block, (ad334.add ((x9_3).toNat * 7)).off + 2, none⟩ = some (.int .i64 ((rd_T27 t330 x9_3).f2)) ∧ w'.cell? ⟨(ad334.add ((x9_3).toNat * 7)).block, (ad334.add ((x9_3).toNat * 7)).off + 3, none⟩ = some (.int .i64 ((rd_T27 t330 x9_3).f3)) ∧ w'.cell? ⟨(ad334.add ((x9_3).toNat * 7)).block, (ad334.add ((x9_3).toNat * 7)).off + 4, none⟩ = some (.int .i64 ((rd_T27 t330 x9_3).f4)) ∧ w'.cell? ⟨(ad334.add ((x9_3).toNat * 7)).block, (ad334.add ((x9_3).toNat * 7)).off + 5, none⟩ = some (.bool ((rd_T27 t330 x9_3).f5)) ∧ w'.cell? ⟨(ad334.add ((x9_3).toNat * 7)).block, (ad334.add ((x9_3).toNat * 7)).off + 6, none⟩ = some (.bool ((rd_T27 t330 x9_3).f6)) ∧ w'.cell? (ad333.add ((x9_3).toNat * 7)) = some (.int .i64 ((rd_T27 t326 x9_3).f0)) ∧ w'.cell? ⟨(ad333.add ((x9_3).toNat * 7)).block, (ad333.add ((x9_3).toNat * 7)).off + 1, none⟩ = some (.int .i64 ((rd_T27 t326 x9_3).f1)) ∧ w'.cell? ⟨(ad333.add ((x9_3).toNat * 7)).block, (ad333.add ((x9_3).toNat * 7)).off + 2, none⟩ = some (.int .i64 ((rd_T27 t326 x9_3).f2)) ∧ w'.cell? ⟨(ad333.add ((x9_3).toNat * 7)).block, (ad333.add ((x9_3).toNat * 7)).off + 3, none⟩ = some (.int .i64 ((rd_T27 t326 x9_3).f3)) ∧ w'.cell? ⟨(ad333.add ((x9_3).toNat * 7)).block, (ad333.add ((x9_3).toNat * 7)).off + 4, none⟩ = some (.int .i64 ((rd_T27 t326 x9_3).f4)) ∧ w'.cell? ⟨(ad333.add ((x9_3).toNat * 7)).block, (ad333.add ((x9_3).toNat * 7)).off + 5, none⟩ = some (.bool ((rd_T27 t326 x9_3).f5)) ∧ w'.cell? ⟨(ad333.add ((x9_3).toNat * 7)).block, (ad333.add ((x9_3).toNat * 7)).off + 6, none⟩ = some (.bool ((rd_T27 t326 x9_3).f6)) ∧ w'.cell? (ad333.add ((x9_3).toNat * 7)) = some (.int .i64 ((rd_T27 t326 x9_3).f0)) ∧ w'.cell? ⟨(ad333.add ((x9_3).toNat * 7)).block, (ad333.add ((x9_3).toNat * 7)).off + 1, none⟩ = some (.int .i64 ((rd_T27 t326 x9_3).f1)) ∧ w'.cell? ⟨(ad333.add ((x9_3).toNat * 7)).block, (ad333.add ((x9_3).toNat * 7)).off + 2, none⟩ = some (.int .i64 ((rd_T27 t326 x9_3).f2)) ∧ w'.cell? ⟨(ad333.add ((x9_3).toNat * 7)).block, (ad333.add ((x9_3).toNat * 7)).off + 3, none⟩ = some (.int .i64 ((rd_T27 t326 x9_3).f3)) ∧ w'.cell? ⟨(ad333.add ((x9_3).toNat * 7)).block, (ad333.add ((x9_3).toNat * 7)).off + 4, none⟩ = some (.int .i64 ((rd_T27 t326 x9_3).f4)) ∧ w'.cell? ⟨(ad333.add ((x9_3).toNat * 7)).block, (ad333.add ((x9_3).toNat * 7)).off + 5, none⟩ = some (.bool ((rd_T27 t326 x9_3).f5)) ∧ w'.cell? ⟨(ad333.add ((x9_3).toNat * 7)).block, (ad333.add ((x9_3).toNat * 7)).off + 6, none⟩ = some (.bool ((rd_T27 t326 x9_3).f6)) ∧ w'.cell? (ad333.add ((x9_3).toNat * 7)) = some (.int .i64 ((rd_T27 t326 x9_3).f0)) ∧ w'.cell? ⟨(ad333.add ((x9_3).toNat * 7)).block, (ad333.add ((x9_3).toNat * 7)).off + 1, none⟩ = some (.int .i64 ((rd_T27 t326 x9_3).f1)) ∧ w'.cell? ⟨(ad333.add ((x9_3).toNat * 7)).block, (ad333.add ((x9_3).toNat * 7)).off + 2, none⟩ = some (.int .i64 ((rd_T27 t326 x9_3).f2)) ∧ w'.cell? ⟨(ad333.add ((x9_3).toNat * 7)).block, (ad333.add ((x9_3).toNat * 7)).off + 3, none⟩ = some (.int .i64 ((rd_T27 t326 x9_3).f3)) ∧ w'.cell? ⟨(ad333.add ((x9_3).toNat * 7)).block, (ad333.add ((x9_3).toNat * 7)).off + 4, none⟩ = some (.int .i64 ((rd_T27 t326 x9_3).f4)) ∧ w'.cell? ⟨(ad333.add ((x9_3).toNat * 7)).block, (ad333.add ((x9_3).toNat * 7)).off + 5, none⟩ = some (.bool ((rd_T27 t326 x9_3).f5)) ∧ w'.cell? ⟨(ad333.add ((x9_3).toNat * 7)).block, (ad333.add ((x9_3).toNat * 7)).off + 6, none⟩ = some (.bool ((rd_T27 t326 x9_3).f6)) ∧ w'.cell? (ad333.add ((x9_3).toNat * 7)) = some (.int .i64 ((rd_T27 t326 x9_3).f0)) ∧ w'.cell? ⟨(ad333.add ((x9_3).toNat * 7)).block, (ad333.add ((x9_3).toNat * 7)).off + 1, none⟩ = some (.int .i64 ((rd_T27 t326 x9_3).f1)) ∧ w'.cell? ⟨(ad333.add ((x9_3).toNat * 7)).block, (ad333.add ((x9_3).toNat * 7)).off + 2, none⟩ = some (.int .i64 ((rd_T27 t326 x9_3).f2)) ∧ w'.cell? ⟨(ad333.add ((x9_3).toNat * 7)).block, (ad333.add ((x9_3).toNat * 7)).off + 3, none⟩ = some (.int .i64 ((rd_T27 t326 x9_3).f3)) ∧ w'.cell? ⟨(ad333.add ((x9_3).toNat * 7)).block, (ad333.add ((x9_3).toNat * 7)).off + 4, none⟩ = some (.int .i64 ((rd_T27 t326 x9_3).f4)) ∧ w'.cell? ⟨(ad333.add ((x9_3).toNat * 7)).block, (ad333.add ((x9_3).toNat * 7)).off + 5, none⟩ = some (.bool ((rd_T27 t326 x9_3).f5)) ∧ w'.cell? ⟨(ad333.add ((x9_3).toNat * 7)).block, (ad333.add ((x9_3).toNat * 7)).off + 6, none⟩ = some (.bool ((rd_T27 t326 x9_3).f6))) (ds := []) (fl 41 0) (by kernel_rfl) rfl rfl ⟨hx333_0, hx333_1, hx333_2, hx333_3, hx333_4, hx333_5, hx333_6, hx334_0, hx334_1, hx334_2, hx334_3, hx334_4, hx334_5, hx334_6, hx335_0, hx335_1, hx335_2, hx335_3, hx335_4, hx335_5, hx335_6, hx337_0, hx337_1, hx337_2, hx337_3, hx337_4, hx337_5, hx337_6, hx338_0, hx338_1, hx338_2, hx338_3, hx338_4, hx338_5, hx338_6, hx339_0, hx339_1, hx339_2, hx339_3, hx339_4, hx339_5, hx339_6⟩ (fun hHeld => ?_); refine with_tabW spinnakerlaw09_UnitLoads.tab10 spinnakerlaw09_UnitLoads.bits10 (fun HT_ HW_ => ?_)
                  generalize wr.drew = w46 at HO_5 HO_7 HO_8 HB hx333_0 hx333_1 hx333_2 hx333_3 hx333_4 hx333_5 hx333_6 hx334_0 hx334_1 hx334_2 hx334_3 hx334_4 hx334_5 hx334_6 hx335_0 hx335_1 hx335_2 hx335_3 hx335_4 hx335_5 hx335_6 hx337_0 hx337_1 hx337_2 hx337_3 hx337_4 hx337_5 hx337_6 hx338_0 hx338_1 hx338_2 hx338_3 hx338_4 hx338_5 hx338_6 hx339_0 hx339_1 hx339_2 hx339_3 hx339_4 hx339_5 hx339_6 hHeld ⊢
                  refine pq 0 (some 45) ?_ (fl 41 1) HT_.out rfl rfl ?_ ?_ ?_ ?_
                  rotate_left
                  ·intro w'
                   go_simp
                   with_reducible rfl
                  rotate_left
                  ·refine pt ?_
                   rfl
                  refine pq 1 (some 46) ?_ (fl 41 2) HT_.out rfl rfl ?_ ?_ ?_ ?_
                  rotate_left
                  ·intro w'
                   go_simp
                   with_reducible rfl
                  rotate_left
                  ·refine pt ?_
                   rfl
                  refine pq 2 (some 47) ?_ (fl 41 3) HT_.out rfl rfl ?_ ?_ ?_ ?_
                  rotate_left
                  ·intro w'
                   go_simp
                   with_reducible rfl
                  rotate_left
                  ·refine pt ?_
                   rfl
                  refine pq 4 (some 49) ?_ #[true, true, true, false, true, false, false, false, false, false, false, false, false, false, false, false, false, false, false, false, false, false, false, false, false, false, false, false, false, false, false, false, false, false, false, false, false, false, false, false, false] HT_.out rfl rfl ?_ ?_ ?_ ?_
                  rotate_left
                  ·intro w'
                   go_simp
                   with_reducible rfl
                  rotate_left
                  ·refine pt ?_
                   rfl
                  refine pq 5 (some 50) ?_ #[true, true, true, false, true, true, false, false, false, false, false, false, false, false, false, false, false, false, false, false, false, false, false, false, false, false, false, false, false, false, false, false, false, false, false, false, false, false, false, false, false] HT_.out rfl rfl ?_ ?_ ?_ ?_
                  rotate_left
                  ·intro w'
                   go_simp
                   with_reducible rfl
                  rotate_left
                  ·refine pt ?_
                   rfl
                  refine pq 6 (some 51) ?_ #[true, true, true, false, true, true, true, false, false, false, false, false, false, false, false, false, false, false, false, false, false, false, false, false, false, false, false, false, false, false, false, false, false, false, false, false, false, false, false, false, false] HT_.out rfl rfl ?_ ?_ ?_ ?_
                  rotate_left
                  ·intro w'
                   go_simp
                   with_reducible rfl
                  rotate_left
                  ·refine pt ?_
                   rfl
                  refine pk 3 (some 48) ?_ (fl 41 7) HT_.out HW_.out rfl rfl ?_ hHeld ?_ ?_ ?_
                  rotate_left
                  ·rintro w' ⟨s0, s1, s2, s3, s4, s5, s6, s7, s8, s9, s10, s11, s12, s13, s14, s15, s16, s17, s18, s19, s20, s21, s22, s23, s24, s25, s26, s27, s28, s29, s30, s31, s32, s33, s34, s35, s36, s37, s38, s39, s40, s41⟩
                   go_simp
                   with_reducible rfl
                  rotate_left
                  ·refine pt ?_
                   rfl
                  refine pk 7 (some 52) ?_ (fl 41 8) HT_.out HW_.out rfl rfl ?_ hHeld ?_ ?_ ?_
                  rotate_left
                  ·rintro w' ⟨s0, s1, s2, s3, s4, s5, s6, s7, s8, s9, s10, s11, s12, s13, s14, s15, s16, s17, s18, s19, s20, s21, s22, s23, s24, s25, s26, s27, s28, s29, s30, s31, s32, s33, s34, s35, s36, s37, s38, s39, s40, s41⟩
                   go_simp
                   with_reducible rfl
                  rotate_left
                  ·refine pt ?_
                   rfl
                  refine pq 8 (some 53) ?_ (fl 41 9) HT_.out rfl rfl ?_ ?_ ?_ ?_
                  rotate_left
                  ·intro w'
                   go_simp
                   with_reducible rfl
                  rotate_left
                  ·refine pt ?_
                   rfl
                  refine pq 9 (some 54) ?_ (fl 41 10) HT_.out rfl rfl ?_ ?_ ?_ ?_
                  rotate_left
                  ·intro w'
                   go_simp
                   with_reducible rfl
                  rotate_left
                  ·refine pt ?_
                   rfl
                  refine pq 10 (some 55) ?_ (fl 41 11) HT_.out rfl rfl ?_ ?_ ?_ ?_
                  rotate_left
                  ·intro w'
                   go_simp
                   with_reducible rfl
                  rotate_left
                  ·refine pt ?_
                   rfl
                  refine pq 11 (some 56) ?_ (fl 41 12) HT_.out rfl rfl ?_ ?_ ?_ ?_
                  rotate_left
                  ·intro w'
                   go_simp
                   with_reducible rfl
                  rotate_left
                  ·refine pt ?_
                   rfl
                  refine pq 12 (some 57) ?_ (fl 41 13) HT_.out rfl rfl ?_ ?_ ?_ ?_
                  rotate_left
                  ·intro w'
                   go_simp
                   with_reducible rfl
                  rotate_left
                  ·refine pt ?_
                   rfl
                  refine pk 13 (some 58) ?_ (fl 41 14) HT_.out HW_.out rfl rfl ?_ hHeld ?_ ?_ ?_
                  rotate_left
                  ·rintro w' ⟨s0, s1, s2, s3, s4, s5, s6, s7, s8, s9, s10, s11, s12, s13, s14, s15, s16, s17, s18, s19, s20, s21, s22, s23, s24, s25, s26, s27, s28, s29, s30, s31, s32, s33, s34, s35, s36, s37, s38, s39, s40, s41⟩
                   go_simp
                   with_reducible rfl
                  rotate_left
                  ·refine pt ?_
                   rfl
                  refine one_ (i := 14) (N := some 59) (fl 41 15) rfl rfl (one_of HT_.out (by kernel_rfl)) (by decide) (fun K hK => ?_)
                  refine goes_ Tryd.func7 (by kernel_rfl) rfl #[.agg #[.int .i64 ((rd_T27 t326 x9_3).f0), .int .i64 ((rd_T27 t326 x9_3).f1), .int .i64 ((rd_T27 t326 x9_3).f2), .int .i64 ((rd_T27 t326 x9_3).f3), .int .i64 ((rd_T27 t326 x9_3).f4), .bool ((rd_T27 t326 x9_3).f5), .bool ((rd_T27 t326 x9_3).f6)]] (by rfl) rfl rfl ga ?_
                  with_reducible refine (spinnakerref03_May.calls k3 ((rd_T27 t326 x9_3).f0) ((rd_T27 t326 x9_3).f1) ((rd_T27 t326 x9_3).f2) ((rd_T27 t326 x9_3).f3) ((rd_T27 t326 x9_3).f4) ((rd_T27 t326 x9_3).f5) ((rd_T27 t326 x9_3).f6) true _ A32.out).mono ?_
                  rintro e w48 ⟨rfl, hb⟩
                  have HS0_ := (hb.cell (World.block_lt_of_cell? _ _ (hHeld.1))).trans (hHeld.1)
                  have HS1_ := (hb.cell (World.block_lt_of_cell? _ _ (hHeld.2.1))).trans (hHeld.2.1)
                  have HS2_ := (hb.cell (World.block_lt_of_cell? _ _ (hHeld.2.2.1))).trans (hHeld.2.2.1)
                  have HS3_ := (hb.cell (World.block_lt_of_cell? _ _ (hHeld.2.2.2.1))).trans (hHeld.2.2.2.1)
                  have HS4_ := (hb.cell (World.block_lt_of_cell? _ _ (hHeld.2.2.2.2.1))).trans (hHeld.2.2.2.2.1)
                  have HS5_ := (hb.cell (World.block_lt_of_cell? _ _ (hHeld.2.2.2.2.2.1))).trans (hHeld.2.2.2.2.2.1)
                  have HS6_ := (hb.cell (World.block_lt_of_cell? _ _ (hHeld.2.2.2.2.2.2.1))).trans (hHeld.2.2.2.2.2.2.1)
                  have HS7_ := (hb.cell (World.block_lt_of_cell? _ _ (hHeld.2.2.2.2.2.2.2.1))).trans (hHeld.2.2.2.2.2.2.2.1)
                  have HS8_ := (hb.cell (World.block_lt_of_cell? _ _ (hHeld.2.2.2.2.2.2.2.2.1))).trans (hHeld.2.2.2.2.2.2.2.2.1)
                  have HS9_ := (hb.cell (World.block_lt_of_cell? _ _ (hHeld.2.2.2.2.2.2.2.2.2.1))).trans (hHeld.2.2.2.2.2.2.2.2.2.1)
                  have HS10_ := (hb.cell (World.block_lt_of_cell? _ _ (hHeld.2.2.2.2.2.2.2.2.2.2.1))).trans (hHeld.2.2.2.2.2.2.2.2.2.2.1)
                  have HS11_ := (hb.cell (World.block_lt_of_cell? _ _ (hHeld.2.2.2.2.2.2.2.2.2.2.2.1))).trans (hHeld.2.2.2.2.2.2.2.2.2.2.2.1)
                  have HS12_ := (hb.cell (World.block_lt_of_cell? _ _ (hHeld.2.2.2.2.2.2.2.2.2.2.2.2.1))).trans (hHeld.2.2.2.2.2.2.2.2.2.2.2.2.1)
                  have HS13_ := (hb.cell (World.block_lt_of_cell? _ _ (hHeld.2.2.2.2.2.2.2.2.2.2.2.2.2.1))).trans (hHeld.2.2.2.2.2.2.2.2.2.2.2.2.2.1)
                  have HS14_ := (hb.cell (World.block_lt_of_cell? _ _ (hHeld.2.2.2.2.2.2.2.2.2.2.2.2.2.2.1))).trans (hHeld.2.2.2.2.2.2.2.2.2.2.2.2.2.2.1)
                  have HS15_ := (hb.cell (World.block_lt_of_cell? _ _ (hHeld.2.2.2.2.2.2.2.2.2.2.2.2.2.2.2.1))).trans (hHeld.2.2.2.2.2.2.2.2.2.2.2.2.2.2.2.1)
                  have HS16_ := (hb.cell (World.block_lt_of_cell? _ _ (hHeld.2.2.2.2.2.2.2.2.2.2.2.2.2.2.2.2.1))).trans (hHeld.2.2.2.2.2.2.2.2.2.2.2.2.2.2.2.2.1)
                  have HS17_ := (hb.cell (World.block_lt_of_cell? _ _ (hHeld.2.2.2.2.2.2.2.2.2.2.2.2.2.2.2.2.2.1))).trans (hHeld.2.2.2.2.2.2.2.2.2.2.2.2.2.2.2.2.2.1)
                  have HS18_ := (hb.cell (World.block_lt_of_cell? _ _ (hHeld.2.2.2.2.2.2.2.2.2.2.2.2.2.2.2.2.2.2.1))).trans (hHeld.2.2.2.2.2.2.2.2.2.2.2.2.2.2.2.2.2.2.1)
                  have HS19_ := (hb.cell (World.block_lt_of_cell? _ _ (hHeld.2.2.2.2.2.2.2.2.2.2.2.2.2.2.2.2.2.2.2.1))).trans (hHeld.2.2.2.2.2.2.2.2.2.2.2.2.2.2.2.2.2.2.2.1)
                  have HS20_ := (hb.cell (World.block_lt_of_cell? _ _ (hHeld.2.2.2.2.2.2.2.2.2.2.2.2.2.2.2.2.2.2.2.2.1))).trans (hHeld.2.2.2.2.2.2.2.2.2.2.2.2.2.2.2.2.2.2.2.2.1)
                  have HS21_ := (hb.cell (World.block_lt_of_cell? _ _ (hHeld.2.2.2.2.2.2.2.2.2.2.2.2.2.2.2.2.2.2.2.2.2.1))).trans (hHeld.2.2.2.2.2.2.2.2.2.2.2.2.2.2.2.2.2.2.2.2.2.1)
                  have HS22_ := (hb.cell (World.block_lt_of_cell? _ _ (hHeld.2.2.2.2.2.2.2.2.2.2.2.2.2.2.2.2.2.2.2.2.2.2.1))).trans (hHeld.2.2.2.2.2.2.2.2.2.2.2.2.2.2.2.2.2.2.2.2.2.2.1)
                  have HS23_ := (hb.cell (World.block_lt_of_cell? _ _ (hHeld.2.2.2.2.2.2.2.2.2.2.2.2.2.2.2.2.2.2.2.2.2.2.2.1))).trans (hHeld.2.2.2.2.2.2.2.2.2.2.2.2.2.2.2.2.2.2.2.2.2.2.2.1)
                  have HS24_ := (hb.cell (World.block_lt_of_cell? _ _ (hHeld.2.2.2.2.2.2.2.2.2.2.2.2.2.2.2.2.2.2.2.2.2.2.2.2.1))).trans (hHeld.2.2.2.2.2.2.2.2.2.2.2.2.2.2.2.2.2.2.2.2.2.2.2.2.1)
                  have HS25_ := (hb.cell (World.block_lt_of_cell? _ _ (hHeld.2.2.2.2.2.2.2.2.2.2.2.2.2.2.2.2.2.2.2.2.2.2.2.2.2.1))).trans (hHeld.2.2.2.2.2.2.2.2.2.2.2.2.2.2.2.2.2.2.2.2.2.2.2.2.2.1)
                  have HS26_ := (hb.cell (World.block_lt_of_cell? _ _ (hHeld.2.2.2.2.2.2.2.2.2.2.2.2.2.2.2.2.2.2.2.2.2.2.2.2.2.2.1))).trans (hHeld.2.2.2.2.2.2.2.2.2.2.2.2.2.2.2.2.2.2.2.2.2.2.2.2.2.2.1)
                  have HS27_ := (hb.cell (World.block_lt_of_cell? _ _ (hHeld.2.2.2.2.2.2.2.2.2.2.2.2.2.2.2.2.2.2.2.2.2.2.2.2.2.2.2.1))).trans (hHeld.2.2.2.2.2.2.2.2.2.2.2.2.2.2.2.2.2.2.2.2.2.2.2.2.2.2.2.1)
                  have HS28_ := (hb.cell (World.block_lt_of_cell? _ _ (hHeld.2.2.2.2.2.2.2.2.2.2.2.2.2.2.2.2.2.2.2.2.2.2.2.2.2.2.2.2.1))).trans (hHeld.2.2.2.2.2.2.2.2.2.2.2.2.2.2.2.2.2.2.2.2.2.2.2.2.2.2.2.2.1)
                  have HS29_ := (hb.cell (World.block_lt_of_cell? _ _ (hHeld.2.2.2.2.2.2.2.2.2.2.2.2.2.2.2.2.2.2.2.2.2.2.2.2.2.2.2.2.2.1))).trans (hHeld.2.2.2.2.2.2.2.2.2.2.2.2.2.2.2.2.2.2.2.2.2.2.2.2.2.2.2.2.2.1)
                  have HS30_ := (hb.cell (World.block_lt_of_cell? _ _ (hHeld.2.2.2.2.2.2.2.2.2.2.2.2.2.2.2.2.2.2.2.2.2.2.2.2.2.2.2.2.2.2.1))).trans (hHeld.2.2.2.2.2.2.2.2.2.2.2.2.2.2.2.2.2.2.2.2.2.2.2.2.2.2.2.2.2.2.1)
                  have HS31_ := (hb.cell (World.block_lt_of_cell? _ _ (hHeld.2.2.2.2.2.2.2.2.2.2.2.2.2.2.2.2.2.2.2.2.2.2.2.2.2.2.2.2.2.2.2.1))).trans (hHeld.2.2.2.2.2.2.2.2.2.2.2.2.2.2.2.2.2.2.2.2.2.2.2.2.2.2.2.2.2.2.2.1)
                  have HS32_ := (hb.cell (World.block_lt_of_cell? _ _ (hHeld.2.2.2.2.2.2.2.2.2.2.2.2.2.2.2.2.2.2.2.2.2.2.2.2.2.2.2.2.2.2.2.2.1))).trans (hHeld.2.2.2.2.2.2.2.2.2.2.2.2.2.2.2.2.2.2.2.2.2.2.2.2.2.2.2.2.2.2.2.2.1)
                  have HS33_ := (hb.cell (World.block_lt_of_cell? _ _ (hHeld.2.2.2.2.2.2.2.2.2.2.2.2.2.2.2.2.2.2.2.2.2.2.2.2.2.2.2.2.2.2.2.2.2.1))).trans (hHeld.2.2.2.2.2.2.2.2.2.2.2.2.2.2.2.2.2.2.2.2.2.2.2.2.2.2.2.2.2.2.2.2.2.1)
                  have HS34_ := (hb.cell (World.block_lt_of_cell? _ _ (hHeld.2.2.2.2.2.2.2.2.2.2.2.2.2.2.2.2.2.2.2.2.2.2.2.2.2.2.2.2.2.2.2.2.2.2.1))).trans (hHeld.2.2.2.2.2.2.2.2.2.2.2.2.2.2.2.2.2.2.2.2.2.2.2.2.2.2.2.2.2.2.2.2.2.2.1)
                  have HS35_ := (hb.cell (World.block_lt_of_cell? _ _ (hHeld.2.2.2.2.2.2.2.2.2.2.2.2.2.2.2.2.2.2.2.2.2.2.2.2.2.2.2.2.2.2.2.2.2.2.2.1))).trans (hHeld.2.2.2.2.2.2.2.2.2.2.2.2.2.2.2.2.2.2.2.2.2.2.2.2.2.2.2.2.2.2.2.2.2.2.2.1)
                  have HS36_ := (hb.cell (World.block_lt_of_cell? _ _ (hHeld.2.2.2.2.2.2.2.2.2.2.2.2.2.2.2.2.2.2.2.2.2.2.2.2.2.2.2.2.2.2.2.2.2.2.2.2.1))).trans (hHeld.2.2.2.2.2.2.2.2.2.2.2.2.2.2.2.2.2.2.2.2.2.2.2.2.2.2.2.2.2.2.2.2.2.2.2.2.1)
                  have HS37_ := (hb.cell (World.block_lt_of_cell? _ _ (hHeld.2.2.2.2.2.2.2.2.2.2.2.2.2.2.2.2.2.2.2.2.2.2.2.2.2.2.2.2.2.2.2.2.2.2.2.2.2.1))).trans (hHeld.2.2.2.2.2.2.2.2.2.2.2.2.2.2.2.2.2.2.2.2.2.2.2.2.2.2.2.2.2.2.2.2.2.2.2.2.2.1)
                  have HS38_ := (hb.cell (World.block_lt_of_cell? _ _ (hHeld.2.2.2.2.2.2.2.2.2.2.2.2.2.2.2.2.2.2.2.2.2.2.2.2.2.2.2.2.2.2.2.2.2.2.2.2.2.2.1))).trans (hHeld.2.2.2.2.2.2.2.2.2.2.2.2.2.2.2.2.2.2.2.2.2.2.2.2.2.2.2.2.2.2.2.2.2.2.2.2.2.2.1)
                  have HS39_ := (hb.cell (World.block_lt_of_cell? _ _ (hHeld.2.2.2.2.2.2.2.2.2.2.2.2.2.2.2.2.2.2.2.2.2.2.2.2.2.2.2.2.2.2.2.2.2.2.2.2.2.2.2.1))).trans (hHeld.2.2.2.2.2.2.2.2.2.2.2.2.2.2.2.2.2.2.2.2.2.2.2.2.2.2.2.2.2.2.2.2.2.2.2.2.2.2.2.1)
                  have HS40_ := (hb.cell (World.block_lt_of_cell? _ _ (hHeld.2.2.2.2.2.2.2.2.2.2.2.2.2.2.2.2.2.2.2.2.2.2.2.2.2.2.2.2.2.2.2.2.2.2.2.2.2.2.2.2.1))).trans (hHeld.2.2.2.2.2.2.2.2.2.2.2.2.2.2.2.2.2.2.2.2.2.2.2.2.2.2.2.2.2.2.2.2.2.2.2.2.2.2.2.2.1)
                  have HS41_ := (hb.cell (World.block_lt_of_cell? _ _ (hHeld.2.2.2.2.2.2.2.2.2.2.2.2.2.2.2.2.2.2.2.2.2.2.2.2.2.2.2.2.2.2.2.2.2.2.2.2.2.2.2.2.2))).trans (hHeld.2.2.2.2.2.2.2.2.2.2.2.2.2.2.2.2.2.2.2.2.2.2.2.2.2.2.2.2.2.2.2.2.2.2.2.2.2.2.2.2.2)
                  refine ⟨_, rfl, ?_⟩
                  have n0_ := Aside0.mk (Kd.R_below (by (with_reducible repeat (first | apply Kd.R_alloc | apply Kd.R_drewN | apply Kd.R_drew)); exact HO_5.out) hb)
                  have n1_ := Aside0.mk (Kd.R_below (by (with_reducible repeat (first | apply Kd.R_alloc | apply Kd.R_drewN | apply Kd.R_drew)); exact HO_7.out) hb)
                  have n2_ := Aside0.mk (Kd.R_below (by (with_reducible repeat (first | apply Kd.R_alloc | apply Kd.R_drewN | apply Kd.R_drew)); exact HO_8.out) hb)
                  have n3_ := Aside0.mk (below_step bl hb)
                  clear HO_5
                  clear HO_7
                  clear HO_8
                  clear HB
                  have HO_5 := n0_
                  have HO_7 := n1_
                  have HO_8 := n2_
                  have HB := n3_
                  clear n0_ n1_ n2_ n3_
                  (try clear hb)
                  (try clear hb2)
                  (try clear hk)
                  (try clear hi)
                  refine hK.out _ _ ⟨HS0_, HS1_, HS2_, HS3_, HS4_, HS5_, HS6_, HS7_, HS8_, HS9_, HS10_, HS11_, HS12_, HS13_, HS14_, HS15_, HS16_, HS17_, HS18_, HS19_, HS20_, HS21_, HS22_, HS23_, HS24_, HS25_, HS26_, HS27_, HS28_, HS29_, HS30_, HS31_, HS32_, HS33_, HS34_, HS35_, HS36_, HS37_, HS38_, HS39_, HS40_, HS41_⟩ (fun hHeld => ?_)
                  clear hK K
                  refine norm_ (a' := ?_) ?_ ?_
                  rotate_left
                  ·show Act.put _ (some 59) _ = _
                   refine pt ?_
                   rfl
                  refine pq 15 (some 60) ?_ (fl 41 16) HT_.out rfl rfl ?_ ?_ ?_ ?_
                  rotate_left
                  ·intro w'
                   go_simp
                   with_reducible rfl
                  rotate_left
                  ·refine pt ?_
                   rfl
                  refine pq 16 (some 61) ?_ (fl 41 17) HT_.out rfl rfl ?_ ?_ ?_ ?_
                  rotate_left
                  ·intro w'
                   go_simp
                   with_reducible rfl
                  rotate_left
                  ·refine pt ?_
                   rfl
                  refine pq 17 (some 62) ?_ (fl 41 18) HT_.out rfl rfl ?_ ?_ ?_ ?_
                  rotate_left
                  ·intro w'
                   go_simp
                   with_reducible rfl
                  rotate_left
                  ·refine pt ?_
                   rfl
                  refine pq 18 (some 63) ?_ (fl 41 19) HT_.out rfl rfl ?_ ?_ ?_ ?_
                  rotate_left
                  ·intro w'
                   go_simp
                   with_reducible rfl
                  rotate_left
                  ·refine pt ?_
                   rfl
                  refine pq 19 (some 64) ?_ (fl 41 20) HT_.out rfl rfl ?_ ?_ ?_ ?_
                  rotate_left
                  ·intro w'
                   go_simp
                   with_reducible rfl
                  rotate_left
                  ·refine pt ?_
                   rfl
                  refine pq 20 (some 65) ?_ (fl 41 21) HT_.out rfl rfl ?_ ?_ ?_ ?_
                  rotate_left
                  ·intro w'
                   go_simp
                   with_reducible rfl
                  rotate_left
                  ·refine pt ?_
                   rfl
                  refine pq 21 (some 66) ?_ (fl 41 22) HT_.out rfl rfl ?_ ?_ ?_ ?_
                  rotate_left
                  ·intro w'
                   go_simp
                   with_reducible rfl
                  rotate_left
                  ·refine pt ?_
                   rfl
                  refine pk 22 (some 67) ?_ (fl 41 23) HT_.out HW_.out rfl rfl ?_ hHeld ?_ ?_ ?_
                  rotate_left
                  ·rintro w' ⟨s0, s1, s2, s3, s4, s5, s6, s7, s8, s9, s10, s11, s12, s13, s14, s15, s16, s17, s18, s19, s20, s21, s22, s23, s24, s25, s26, s27, s28, s29, s30, s31, s32, s33, s34, s35, s36, s37, s38, s39, s40, s41⟩
                   go_simp
                   with_reducible rfl
                  rotate_left
                  ·refine pt ?_
                   rfl
                  refine pq 23 (some 68) ?_ (fl 41 24) HT_.out rfl rfl ?_ ?_ ?_ ?_
                  rotate_left
                  ·intro w'
                   go_simp
                   with_reducible rfl
                  rotate_left
                  ·refine pt ?_
                   rfl
                  refine pq 24 (some 69) ?_ (fl 41 25) HT_.out rfl rfl ?_ ?_ ?_ ?_
                  rotate_left
                  ·intro w'
                   go_simp
                   with_reducible rfl
                  rotate_left
                  ·refine pt ?_
                   rfl
                  refine pq 25 (some 70) ?_ (fl 41 26) HT_.out rfl rfl ?_ ?_ ?_ ?_
                  rotate_left
                  ·intro w'
                   go_simp
                   with_reducible rfl
                  rotate_left
                  ·refine pt ?_
                   rfl
                  refine pq 26 (some 71) ?_ (fl 41 27) HT_.out rfl rfl ?_ ?_ ?_ ?_
                  rotate_left
                  ·intro w'
                   go_simp
                   with_reducible rfl
                  rotate_left
                  ·refine pt ?_
                   rfl
                  refine pq 27 (some 72) ?_ (fl 41 28) HT_.out rfl rfl ?_ ?_ ?_ ?_
                  rotate_left
                  ·intro w'
                   go_simp
                   with_reducible rfl
                  rotate_left
                  ·refine pt ?_
                   rfl
                  refine pq 28 (some 73) ?_ (fl 41 29) HT_.out rfl rfl ?_ ?_ ?_ ?_
                  rotate_left
                  ·intro w'
                   go_simp
                   with_reducible rfl
                  rotate_left
                  ·refine pt ?_
                   rfl
                  refine pk 29 (some 74) ?_ (fl 41 30) HT_.out HW_.out rfl rfl ?_ hHeld ?_ ?_ ?_
                  rotate_left
                  ·rintro w' ⟨s0, s1, s2, s3, s4, s5, s6, s7, s8, s9, s10, s11, s12, s13, s14, s15, s16, s17, s18, s19, s20, s21, s22, s23, s24, s25, s26, s27, s28, s29, s30, s31, s32, s33, s34, s35, s36, s37, s38, s39, s40, s41⟩
                   go_simp
                   with_reducible rfl
                  rotate_left
                  ·refine pt ?_
                   rfl
                  refine pq 30 (some 75) ?_ (fl 41 31) HT_.out rfl rfl ?_ ?_ ?_ ?_
                  rotate_left
                  ·intro w'
                   go_simp
                   with_reducible rfl
                  rotate_left
                  ·refine pt ?_
                   rfl
                  refine pq 31 (some 76) ?_ (fl 41 32) HT_.out rfl rfl ?_ ?_ ?_ ?_
                  rotate_left
                  ·intro w'
                   go_simp
                   with_reducible rfl
                  rotate_left
                  ·refine pt ?_
                   rfl
                  refine pq 32 (some 77) ?_ (fl 41 33) HT_.out rfl rfl ?_ ?_ ?_ ?_
                  rotate_left
                  ·intro w'
                   go_simp
                   with_reducible rfl
                  rotate_left
                  ·refine pt ?_
                   rfl
                  refine pq 33 (some 78) ?_ (fl 41 34) HT_.out rfl rfl ?_ ?_ ?_ ?_
                  rotate_left
                  ·intro w'
                   go_simp
                   with_reducible rfl
                  rotate_left
                  ·refine pt ?_
                   rfl
                  refine pq 34 (some 79) ?_ (fl 41 35) HT_.out rfl rfl ?_ ?_ ?_ ?_
                  rotate_left
                  ·intro w'
                   go_simp
                   with_reducible rfl
                  rotate_left
                  ·refine pt ?_
                   rfl
                  refine pq 35 (some 80) ?_ (fl 41 36) HT_.out rfl rfl ?_ ?_ ?_ ?_
                  rotate_left
                  ·intro w'
                   go_simp
                   with_reducible rfl
                  rotate_left
                  ·refine pt ?_
                   rfl
                  refine pk 36 (some 81) ?_ (fl 41 37) HT_.out HW_.out rfl rfl ?_ hHeld ?_ ?_ ?_
                  rotate_left
                  ·rintro w' ⟨s0, s1, s2, s3, s4, s5, s6, s7, s8, s9, s10, s11, s12, s13, s14, s15, s16, s17, s18, s19, s20, s21, s22, s23, s24, s25, s26, s27, s28, s29, s30, s31, s32, s33, s34, s35, s36, s37, s38, s39, s40, s41⟩
                   go_simp
                   with_reducible rfl
                  rotate_left
                  ·refine pt ?_
                   rfl
                  refine pq 37 (some 82) ?_ (fl 41 38) HT_.out rfl rfl ?_ ?_ ?_ ?_
                  rotate_left
                  ·intro w'
                   go_simp
                   with_reducible rfl
                  rotate_left
                  ·refine pt ?_
                   rfl
                  refine pq 38 (some 83) ?_ (fl 41 39) HT_.out rfl rfl ?_ ?_ ?_ ?_
                  rotate_left
                  ·intro w'
                   go_simp
                   with_reducible rfl
                  rotate_left
                  ·refine pt ?_
                   rfl
                  refine pq 39 (some 84) ?_ (fl 41 40) HT_.out rfl rfl ?_ ?_ ?_ ?_
                  rotate_left
                  ·intro w'
                   go_simp
                   with_reducible rfl
                  rotate_left
                  ·refine pt ?_
                   rfl
                  refine pq 40 (some 85) ?_ (fl 41 41) HT_.out rfl rfl ?_ ?_ ?_ ?_
                  rotate_left
                  ·intro w'
                   go_simp
                   with_reducible rfl
                  rotate_left
                  ·refine pt ?_
                   rfl
                  refine done_ (done_of HT_.out (by kernel_rfl)) ?_
                  try go_wp2
                  go_ret
                  exact ⟨fi, bl⟩
                 ·rw [if_neg c44] at H
                  have c44b0 := decide_eq_false c44
                  clear c44
                  have H' := Aside0.mk H
                  clear H
                  obtain ⟨Ao49, co49, eo49⟩ := Kd.R_slice HO_7.out
                  subst eo49
                  try go_wp2
                  have n0_ := Aside0.mk (Kd.R_drew HO_5.out)
                  have n1_ := Aside0.mk (Kd.R_drew HO_7.out)
                  have n2_ := Aside0.mk (Kd.R_drew HO_8.out)
                  have n3_ := Aside0.mk (below_drew1 HB.out)
                  clear HO_5
                  clear HO_7
                  clear HO_8
                  clear HB
                  have HO_5 := n0_
                  have HO_7 := n1_
                  have HO_8 := n2_
                  have HB := n3_
                  clear n0_ n1_ n2_ n3_
                  have p333 : 0 ≤ (x9_3 : Int) := of_decide_eq_true (by first | (with_reducible assumption) | assumption)
                  have q333 : x9_3 < (t326.length : Int) := of_decide_eq_true (by first | (with_reducible assumption) | assumption)
                  obtain ⟨ad333, e333, hx333_0, hx333_1, hx333_2, hx333_3, hx333_4, hx333_5, hx333_6⟩ := at_T27 (Kd.R_reads' HO_7.out).2.2 x9_3 p333 q333
                  cases e333
                  replace p333 := eq_true p333
                  replace q333 := eq_true q333
                  obtain ⟨Ao51, co51, eo51⟩ := Kd.R_slice HO_8.out
                  (first | subst eo51 | (injection eo51 with f1_ f2_ f3_; have f4_ := f1_.symm; have f5_ := f3_.symm; clear f1_ f2_ f3_; subst f4_; subst f5_))
                  have p334 : 0 ≤ (x9_3 : Int) := of_decide_eq_true (by first | (with_reducible assumption) | assumption)
                  have q334 : x9_3 < (t330.length : Int) := of_decide_eq_true (by first | (with_reducible assumption) | assumption)
                  obtain ⟨ad334, e334, hx334_0, hx334_1, hx334_2, hx334_3, hx334_4, hx334_5, hx334_6⟩ := at_T27 (Kd.R_reads' HO_8.out).2.2 x9_3 p334 q334
                  cases e334
                  replace p334 := eq_true p334
                  replace q334 := eq_true q334
                  have p335 : 0 ≤ (x9_3 : Int) := of_decide_eq_true (by first | (with_reducible assumption) | assumption)
                  have q335 : x9_3 < (t326.length : Int) := of_decide_eq_true (by first | (with_reducible assumption) | assumption)
                  obtain ⟨ad335, e335, hx335_0, hx335_1, hx335_2, hx335_3, hx335_4, hx335_5, hx335_6⟩ := at_T27 (Kd.R_reads' HO_7.out).2.2 x9_3 p335 q335
                  obtain rfl : ad333 = ad335 := (by injection e335)
                  replace p335 := eq_true p335
                  replace q335 := eq_true q335
                  have p337 : 0 ≤ (x9_3 : Int) := of_decide_eq_true (by first | (with_reducible assumption) | assumption)
                  have q337 : x9_3 < (t326.length : Int) := of_decide_eq_true (by first | (with_reducible assumption) | assumption)
                  obtain ⟨ad337, e337, hx337_0, hx337_1, hx337_2, hx337_3, hx337_4, hx337_5, hx337_6⟩ := at_T27 (Kd.R_reads' HO_7.out).2.2 x9_3 p337 q337
                  obtain rfl : ad333 = ad337 := (by injection e337)
                  replace p337 := eq_true p337
                  replace q337 := eq_true q337
                  have p338 : 0 ≤ (x9_3 : Int) := of_decide_eq_true (by first | (with_reducible assumption) | assumption)
                  have q338 : x9_3 < (t326.length : Int) := of_decide_eq_true (by first | (with_reducible assumption) | assumption)
                  obtain ⟨ad338, e338, hx338_0, hx338_1, hx338_2, hx338_3, hx338_4, hx338_5, hx338_6⟩ := at_T27 (Kd.R_reads' HO_7.out).2.2 x9_3 p338 q338
                  obtain rfl : ad333 = ad338 := (by injection e338)
                  replace p338 := eq_true p338
                  replace q338 := eq_true q338
                  have p339 : 0 ≤ (x9_3 : Int) := of_decide_eq_true (by first | (with_reducible assumption) | assumption)
                  have q339 : x9_3 < (t326.length : Int) := of_decide_eq_true (by first | (with_reducible assumption) | assumption)
                  obtain ⟨ad339, e339, hx339_0, hx339_1, hx339_2, hx339_3, hx339_4, hx339_5, hx339_6⟩ := at_T27 (Kd.R_reads' HO_7.out).2.2 x9_3 p339 q339
                  obtain rfl : ad333 = ad339 := (by injection e339)
                  replace p339 := eq_true p339
                  replace q339 := eq_true q339
                  refine start_ (n := 41) (S := fun w' => w'.cell? (ad333.add ((x9_3).toNat * 7)) = some (.int .i64 ((rd_T27 t326 x9_3).f0)) ∧ w'.cell? ⟨(ad333.add ((x9_3).toNat * 7)).block, (ad333.add ((x9_3).toNat * 7)).off + 1, none⟩ = some (.int .i64 ((rd_T27 t326 x9_3).f1)) ∧ w'.cell? ⟨(ad333.add ((x9_3).toNat * 7)).block, (ad333.add ((x9_3).toNat * 7)).off + 2, none⟩ = some (.int .i64 ((rd_T27 t326 x9_3).f2)) ∧ w'.cell? ⟨(ad333.add ((x9_3).toNat * 7)).block, (ad333.add ((x9_3).toNat * 7)).off + 3, none⟩ = some (.int .i64 ((rd_T27 t326 x9_3).f3)) ∧ w'.cell? ⟨(ad333.add ((x9_3).toNat * 7)).block, (ad333.add ((x9_3).toNat * 7)).off + 4, none⟩ = some (.int .i64 ((rd_T27 t326 x9_3).f4)) ∧ w'.cell? ⟨(ad333.add ((x9_3).toNat * 7)).block, (ad333.add ((x9_3).toNat * 7)).off + 5, none⟩ = some (.bool ((rd_T27 t326 x9_3).f5)) ∧ w'.cell? ⟨(ad333.add ((x9_3).toNat * 7)).block, (ad333.add ((x9_3).toNat * 7)).off + 6, none⟩ = some (.bool ((rd_T27 t326 x9_3).f6)) ∧ w'.cell? (ad334.add ((x9_3).toNat * 7)) = some (.int .i64 ((rd_T27 t330 x9_3).f0)) ∧ w'.cell? ⟨(ad334.add ((x9_3).toNat * 7)).block, (ad334.add ((x9_3).toNat * 7)).off + 1, none⟩ = some (.int .i64 ((rd_T27 t330 x9_3).f1)) ∧ w'.cell? ⟨(ad334.add ((x9_3).toNat * 7)).block, (ad334.add ((x9_3).toNat * 7)).off + 2, none⟩ = some (.int .i64 ((rd_T27 t330 x9_3).f2)) ∧ w'.cell? ⟨(ad334.add ((x9_3).toNat * 7)).block, (ad334.add ((x9_3).toNat * 7)).off + 3, none⟩ = some (.int .i64 ((rd_T27 t330 x9_3).f3)) ∧ w'.cell? ⟨(ad334.add ((x9_3).toNat * 7)).block, (ad334.add ((x9_3).toNat * 7)).off + 4, none⟩ = some (.int .i64 ((rd_T27 t330 x9_3).f4)) ∧ w'.cell? ⟨(ad334.add ((x9_3).toNat * 7)).block, (ad334.add ((x9_3).toNat * 7)).off + 5, none⟩ = some (.bool ((rd_T27 t330 x9_3).f5)) ∧ w'.cell? ⟨(ad334.add ((x9_3).toNat * 7)).block, (ad334.add ((x9_3).toNat * 7)).off + 6, none⟩ = some (.bool ((rd_T27 t330 x9_3).f6)) ∧ w'.cell? (ad333.add ((x9_3).toNat * 7)) = some (.int .i64 ((rd_T27 t326 x9_3).f0)) ∧ w'.cell? ⟨(ad333.add ((x9_3).toNat * 7)).block, (ad333.add ((x9_3).toNat * 7)).off + 1, none⟩ = some (.int .i64 ((rd_T27 t326 x9_3).f1)) ∧ w'.cell? ⟨(ad333.add ((x9_3).toNat * 7)).block, (ad333.add ((x9_3).toNat * 7)).off + 2, none⟩ = some (.int .i64 ((rd_T27 t326 x9_3).f2)) ∧ w'.cell? ⟨(ad333.add ((x9_3).toNat * 7)).block, (ad333.add ((x9_3).toNat * 7)).off + 3, none⟩ = some (.int .i64 ((rd_T27 t326 x9_3).f3)) ∧ w'.cell? ⟨(ad333.add ((x9_3).toNat * 7)).block, (ad333.add ((x9_3).toNat * 7)).off + 4, none⟩ = some (.int .i64 ((rd_T27 t326 x9_3).f4)) ∧ w'.cell? ⟨(ad333.add ((x9_3).toNat * 7)).block, (ad333.add ((x9_3).toNat * 7)).off + 5, none⟩ = some (.bool ((rd_T27 t326 x9_3).f5)) ∧ w'.cell? ⟨(ad333.add ((x9_3).toNat * 7)).block, (ad333.add ((x9_3).toNat * 7)).off + 6, none⟩ = some (.bool ((rd_T27 t326 x9_3).f6)) ∧ w'.cell? (ad333.add ((x9_3).toNat * 7)) = some (.int .i64 ((rd_T27 t326 x9_3).f0)) ∧ w'.cell? ⟨(ad333.add ((x9_3).toNat * 7)).block, (ad333.add ((x9_3).toNat * 7)).off + 1, none⟩ = some (.int .i64 ((rd_T27 t326 x9_3).f1)) ∧ w'.cell? ⟨(ad333.add ((x9_3).toNat * 7)).block, (ad333.add ((x9_3).toNat * 7)).off + 2, none⟩ = some (.int .i64 ((rd_T27 t326 x9_3).f2)) ∧ w'.cell? ⟨(ad333.add ((x9_3).toNat * 7)).block, (ad333.add ((x9_3).toNat * 7)).off + 3, none⟩ = some (.int .i64 ((rd_T27 t326 x9_3).f3)) ∧ w'.cell? ⟨(ad333.add ((x9_3).toNat * 7)).block, (ad333.add ((x9_3).toNat * 7)).off + 4, none⟩ = some (.int .i64 ((rd_T27 t326 x9_3).f4)) ∧ w'.cell? ⟨(ad333.add ((x9_3).toNat * 7)).block, (ad333.add ((x9_3).toNat * 7)).off + 5, none⟩ = some (.bool ((rd_T27 t326 x9_3).f5)) ∧ w'.cell? ⟨(ad333.add ((x9_3).toNat * 7)).block, (ad333.add ((x9_3).toNat * 7)).off + 6, none⟩ = some (.bool ((rd_T27 t326 x9_3).f6)) ∧ w'.cell? (ad333.add ((x9_3).toNat * 7)) = some (.int .i64 ((rd_T27 t326 x9_3).f0)) ∧ w'.cell? ⟨(ad333.add ((x9_3).toNat * 7)).block, (ad333.add ((x9_3).toNat * 7)).off + 1, none⟩ = some (.int .i64 ((rd_T27 t326 x9_3).f1)) ∧ w'.cell? ⟨(ad333.add ((x9_3).toNat * 7)).block, (ad333.add ((x9_3).toNat * 7)).off + 2, none⟩ = some (.int .i64 ((rd_T27 t326 x9_3).f2)) ∧ w'.cell? ⟨(ad333.add ((x9_3).toNat * 7)).block, (ad333.add ((x9_3).toNat * 7)).off + 3, none⟩ = some (.int .i64 ((rd_T27 t326 x9_3).f3)) ∧ w'.cell? ⟨(ad333.add ((x9_3).toNat * 7)).block, (ad333.add ((x9_3).toNat * 7)).off + 4, none⟩ = some (.int .i64 ((rd_T27 t326 x9_3).f4)) ∧ w'.cell? ⟨(ad333.add ((x9_3).toNat * 7)).block, (ad333.add ((x9_3).toNat * 7)).off + 5, none⟩ = some (.bool ((rd_T27 t326 x9_3).f5)) ∧ w'.cell? ⟨(ad333.add ((x9_3).toNat * 7)).block, (ad333.add ((x9_3).toNat * 7)).off + 6, none⟩ = some (.bool ((rd_T27 t326 x9_3).f6)) ∧ w'.cell? (ad333.add ((x9_3).toNat * 7)) = some (.int .i64 ((rd_T27 t326 x9_3).f0)) ∧ w'.cell? ⟨(ad333.add ((x9_3).toNat * 7)).block, (ad333.add ((x9_3).toNat * 7)).off + 1, none⟩ = some (.int .i64 ((rd_T27 t326 x9_3).f1)) ∧ w'.cell? ⟨(ad333.add ((x9_3).toNat * 7)).block, (ad333.add ((x9_3).toNat * 7)).off + 2, none⟩ = some (.int .i64 ((rd_T27 t326 x9_3).f2)) ∧ w'.cell? ⟨(ad333.add ((x9_3).toNat * 7)).block, (ad333.add ((x9_3).toNat * 7)).off + 3, none⟩ = some (.int .i64 ((rd_T27 t326 x9_3).f3)) ∧ w'.cell? ⟨(ad333.add ((x9_3).toNat * 7)).block, (ad333.add ((x9_3).toNat * 7)).off + 4, none⟩ = some (.int .i64 ((rd_T27 t326 x9_3).f4)) ∧ w'.cell? ⟨(ad333.add ((x9_3).toNat * 7)).block, (ad333.add ((x9_3).toNat * 7)).off + 5, none⟩ = some (.bool ((rd_T27 t326 x9_3).f5)) ∧ w'.cell? ⟨(ad333.add ((x9_3).toNat * 7)).block, (ad333.add ((x9_3).toNat * 7)).off + 6, none⟩ = some (.bool ((rd_T27 t326 x9_3).f6))) (ds := []) (fl 41 0) (by kernel_rfl) rfl rfl ⟨hx333_0, hx333_1, hx333_2, hx333_3, hx333_4, hx333_5, hx333_6, hx334_0, hx334_1, hx334_2, hx334_3, hx334_4, hx334_5, hx334_6, hx335_0, hx335_1, hx335_2, hx335_3, hx335_4, hx335_5, hx335_6, hx337_0, hx337_1, hx337_2, hx337_3, hx337_4, hx337_5, hx337_6, hx338_0, hx338_1, hx338_2, hx338_3, hx338_4, hx338_5, hx338_6, hx339_0, hx339_1, hx339_2, hx339_3, hx339_4, hx339_5, hx339_6⟩ (fun hHeld => ?_); refine with_tabW spinnakerlaw09_UnitLoads.tab10 spinnakerlaw09_UnitLoads.bits10 (fun HT_ HW_ => ?_)
                  generalize wr.drew = w50 at HO_5 HO_7 HO_8 HB hx333_0 hx333_1 hx333_2 hx333_3 hx333_4 hx333_5 hx333_6 hx334_0 hx334_1 hx334_2 hx334_3 hx334_4 hx334_5 hx334_6 hx335_0 hx335_1 hx335_2 hx335_3 hx335_4 hx335_5 hx335_6 hx337_0 hx337_1 hx337_2 hx337_3 hx337_4 hx337_5 hx337_6 hx338_0 hx338_1 hx338_2 hx338_3 hx338_4 hx338_5 hx338_6 hx339_0 hx339_1 hx339_2 hx339_3 hx339_4 hx339_5 hx339_6 hHeld ⊢
                  refine pq 0 (some 45) ?_ (fl 41 1) HT_.out rfl rfl ?_ ?_ ?_ ?_
                  rotate_left
                  ·intro w'
                   go_simp
                   with_reducible rfl
                  rotate_left
                  ·refine pt ?_
                   rfl
                  refine pq 1 (some 46) ?_ (fl 41 2) HT_.out rfl rfl ?_ ?_ ?_ ?_
                  rotate_left
                  ·intro w'
                   go_simp
                   with_reducible rfl
                  rotate_left
                  ·refine pt ?_
                   rfl
                  refine pq 2 (some 47) ?_ (fl 41 3) HT_.out rfl rfl ?_ ?_ ?_ ?_
                  rotate_left
                  ·intro w'
                   go_simp
                   with_reducible rfl
                  rotate_left
                  ·refine pt ?_
                   rfl
                  refine pq 4 (some 49) ?_ #[true, true, true, false, true, false, false, false, false, false, false, false, false, false, false, false, false, false, false, false, false, false, false, false, false, false, false, false, false, false, false, false, false, false, false, false, false, false, false, false, false] HT_.out rfl rfl ?_ ?_ ?_ ?_
                  rotate_left
                  ·intro w'
                   go_simp
                   with_reducible rfl
                  rotate_left
                  ·refine pt ?_
                   rfl
                  refine pq 5 (some 50) ?_ #[true, true, true, false, true, true, false, false, false, false, false, false, false, false, false, false, false, false, false, false, false, false, false, false, false, false, false, false, false, false, false, false, false, false, false, false, false, false, false, false, false] HT_.out rfl rfl ?_ ?_ ?_ ?_
                  rotate_left
                  ·intro w'
                   go_simp
                   with_reducible rfl
                  rotate_left
                  ·refine pt ?_
                   rfl
                  refine pq 6 (some 51) ?_ #[true, true, true, false, true, true, true, false, false, false, false, false, false, false, false, false, false, false, false, false, false, false, false, false, false, false, false, false, false, false, false, false, false, false, false, false, false, false, false, false, false] HT_.out rfl rfl ?_ ?_ ?_ ?_
                  rotate_left
                  ·intro w'
                   go_simp
                   with_reducible rfl
                  rotate_left
                  ·refine pt ?_
                   rfl
                  refine pk 3 (some 48) ?_ (fl 41 7) HT_.out HW_.out rfl rfl ?_ hHeld ?_ ?_ ?_
                  rotate_left
                  ·rintro w' ⟨s0, s1, s2, s3, s4, s5, s6, s7, s8, s9, s10, s11, s12, s13, s14, s15, s16, s17, s18, s19, s20, s21, s22, s23, s24, s25, s26, s27, s28, s29, s30, s31, s32, s33, s34, s35, s36, s37, s38, s39, s40, s41⟩
                   go_simp
                   with_reducible rfl
                  rotate_left
                  ·refine pt ?_
                   rfl
                  refine pk 7 (some 52) ?_ (fl 41 8) HT_.out HW_.out rfl rfl ?_ hHeld ?_ ?_ ?_
                  rotate_left
                  ·rintro w' ⟨s0, s1, s2, s3, s4, s5, s6, s7, s8, s9, s10, s11, s12, s13, s14, s15, s16, s17, s18, s19, s20, s21, s22, s23, s24, s25, s26, s27, s28, s29, s30, s31, s32, s33, s34, s35, s36, s37, s38, s39, s40, s41⟩
                   go_simp
                   with_reducible rfl
                  rotate_left
                  ·refine pt ?_
                   rfl
                  refine pq 8 (some 53) ?_ (fl 41 9) HT_.out rfl rfl ?_ ?_ ?_ ?_
                  rotate_left
                  ·intro w'
                   go_simp
                   with_reducible rfl
                  rotate_left
                  ·refine pt ?_
                   rfl
                  refine pq 9 (some 54) ?_ (fl 41 10) HT_.out rfl rfl ?_ ?_ ?_ ?_
                  rotate_left
                  ·intro w'
                   go_simp
                   with_reducible rfl
                  rotate_left
                  ·refine pt ?_
                   rfl
                  refine pq 10 (some 55) ?_ (fl 41 11) HT_.out rfl rfl ?_ ?_ ?_ ?_
                  rotate_left
                  ·intro w'
                   go_simp
                   with_reducible rfl
                  rotate_left
                  ·refine pt ?_
                   rfl
                  refine pq 11 (some 56) ?_ (fl 41 12) HT_.out rfl rfl ?_ ?_ ?_ ?_
                  rotate_left
                  ·intro w'
                   go_simp
                   with_reducible rfl
                  rotate_left
                  ·refine pt ?_
                   rfl
                  refine pq 12 (some 57) ?_ (fl 41 13) HT_.out rfl rfl ?_ ?_ ?_ ?_
                  rotate_left
                  ·intro w'
                   go_simp
                   with_reducible rfl
                  rotate_left
                  ·refine pt ?_
                   rfl
                  refine pk 13 (some 58) ?_ (fl 41 14) HT_.out HW_.out rfl rfl ?_ hHeld ?_ ?_ ?_
                  rotate_left
                  ·rintro w' ⟨s0, s1, s2, s3, s4, s5, s6, s7, s8, s9, s10, s11, s12, s13, s14, s15, s16, s17, s18, s19, s20, s21, s22, s23, s24, s25, s26, s27, s28, s29, s30, s31, s32, s33, s34, s35, s36, s37, s38, s39, s40, s41⟩
                   go_simp
                   with_reducible rfl
                  rotate_left
                  ·refine pt ?_
                   rfl
                  refine one_ (i := 14) (N := some 59) (fl 41 15) rfl rfl (one_of HT_.out (by kernel_rfl)) (by decide) (fun K hK => ?_)
                  refine goes_ Tryd.func7 (by kernel_rfl) rfl #[.agg #[.int .i64 ((rd_T27 t326 x9_3).f0), .int .i64 ((rd_T27 t326 x9_3).f1), .int .i64 ((rd_T27 t326 x9_3).f2), .int .i64 ((rd_T27 t326 x9_3).f3), .int .i64 ((rd_T27 t326 x9_3).f4), .bool ((rd_T27 t326 x9_3).f5), .bool ((rd_T27 t326 x9_3).f6)]] (by rfl) rfl rfl ga ?_
                  with_reducible refine (spinnakerref03_May.calls k3 ((rd_T27 t326 x9_3).f0) ((rd_T27 t326 x9_3).f1) ((rd_T27 t326 x9_3).f2) ((rd_T27 t326 x9_3).f3) ((rd_T27 t326 x9_3).f4) ((rd_T27 t326 x9_3).f5) ((rd_T27 t326 x9_3).f6) true _ A32.out).mono ?_
                  rintro e w52 ⟨rfl, hb⟩
                  have HS0_ := (hb.cell (World.block_lt_of_cell? _ _ (hHeld.1))).trans (hHeld.1)
                  have HS1_ := (hb.cell (World.block_lt_of_cell? _ _ (hHeld.2.1))).trans (hHeld.2.1)
                  have HS2_ := (hb.cell (World.block_lt_of_cell? _ _ (hHeld.2.2.1))).trans (hHeld.2.2.1)
                  have HS3_ := (hb.cell (World.block_lt_of_cell? _ _ (hHeld.2.2.2.1))).trans (hHeld.2.2.2.1)
                  have HS4_ := (hb.cell (World.block_lt_of_cell? _ _ (hHeld.2.2.2.2.1))).trans (hHeld.2.2.2.2.1)
                  have HS5_ := (hb.cell (World.block_lt_of_cell? _ _ (hHeld.2.2.2.2.2.1))).trans (hHeld.2.2.2.2.2.1)
                  have HS6_ := (hb.cell (World.block_lt_of_cell? _ _ (hHeld.2.2.2.2.2.2.1))).trans (hHeld.2.2.2.2.2.2.1)
                  have HS7_ := (hb.cell (World.block_lt_of_cell? _ _ (hHeld.2.2.2.2.2.2.2.1))).trans (hHeld.2.2.2.2.2.2.2.1)
                  have HS8_ := (hb.cell (World.block_lt_of_cell? _ _ (hHeld.2.2.2.2.2.2.2.2.1))).trans (hHeld.2.2.2.2.2.2.2.2.1)
                  have HS9_ := (hb.cell (World.block_lt_of_cell? _ _ (hHeld.2.2.2.2.2.2.2.2.2.1))).trans (hHeld.2.2.2.2.2.2.2.2.2.1)
                  have HS10_ := (hb.cell (World.block_lt_of_cell? _ _ (hHeld.2.2.2.2.2.2.2.2.2.2.1))).trans (hHeld.2.2.2.2.2.2.2.2.2.2.1)
                  have HS11_ := (hb.cell (World.block_lt_of_cell? _ _ (hHeld.2.2.2.2.2.2.2.2.2.2.2.1))).trans (hHeld.2.2.2.2.2.2.2.2.2.2.2.1)
                  have HS12_ := (hb.cell (World.block_lt_of_cell? _ _ (hHeld.2.2.2.2.2.2.2.2.2.2.2.2.1))).trans (hHeld.2.2.2.2.2.2.2.2.2.2.2.2.1)
                  have HS13_ := (hb.cell (World.block_lt_of_cell? _ _ (hHeld.2.2.2.2.2.2.2.2.2.2.2.2.2.1))).trans (hHeld.2.2.2.2.2.2.2.2.2.2.2.2.2.1)
                  have HS14_ := (hb.cell (World.block_lt_of_cell? _ _ (hHeld.2.2.2.2.2.2.2.2.2.2.2.2.2.2.1))).trans (hHeld.2.2.2.2.2.2.2.2.2.2.2.2.2.2.1)
                  have HS15_ := (hb.cell (World.block_lt_of_cell? _ _ (hHeld.2.2.2.2.2.2.2.2.2.2.2.2.2.2.2.1))).trans (hHeld.2.2.2.2.2.2.2.2.2.2.2.2.2.2.2.1)
                  have HS16_ := (hb.cell (World.block_lt_of_cell? _ _ (hHeld.2.2.2.2.2.2.2.2.2.2.2.2.2.2.2.2.1))).trans (hHeld.2.2.2.2.2.2.2.2.2.2.2.2.2.2.2.2.1)
                  have HS17_ := (hb.cell (World.block_lt_of_cell? _ _ (hHeld.2.2.2.2.2.2.2.2.2.2.2.2.2.2.2.2.2.1))).trans (hHeld.2.2.2.2.2.2.2.2.2.2.2.2.2.2.2.2.2.1)
                  have HS18_ := (hb.cell (World.block_lt_of_cell? _ _ (hHeld.2.2.2.2.2.2.2.2.2.2.2.2.2.2.2.2.2.2.1))).trans (hHeld.2.2.2.2.2.2.2.2.2.2.2.2.2.2.2.2.2.2.1)
                  have HS19_ := (hb.cell (World.block_lt_of_cell? _ _ (hHeld.2.2.2.2.2.2.2.2.2.2.2.2.2.2.2.2.2.2.2.1))).trans (hHeld.2.2.2.2.2.2.2.2.2.2.2.2.2.2.2.2.2.2.2.1)
                  have HS20_ := (hb.cell (World.block_lt_of_cell? _ _ (hHeld.2.2.2.2.2.2.2.2.2.2.2.2.2.2.2.2.2.2.2.2.1))).trans (hHeld.2.2.2.2.2.2.2.2.2.2.2.2.2.2.2.2.2.2.2.2.1)
                  have HS21_ := (hb.cell (World.block_lt_of_cell? _ _ (hHeld.2.2.2.2.2.2.2.2.2.2.2.2.2.2.2.2.2.2.2.2.2.1))).trans (hHeld.2.2.2.2.2.2.2.2.2.2.2.2.2.2.2.2.2.2.2.2.2.1)
                  have HS22_ := (hb.cell (World.block_lt_of_cell? _ _ (hHeld.2.2.2.2.2.2.2.2.2.2.2.2.2.2.2.2.2.2.2.2.2.2.1))).trans (hHeld.2.2.2.2.2.2.2.2.2.2.2.2.2.2.2.2.2.2.2.2.2.2.1)
                  have HS23_ := (hb.cell (World.block_lt_of_cell? _ _ (hHeld.2.2.2.2.2.2.2.2.2.2.2.2.2.2.2.2.2.2.2.2.2.2.2.1))).trans (hHeld.2.2.2.2.2.2.2.2.2.2.2.2.2.2.2.2.2.2.2.2.2.2.2.1)
                  have HS24_ := (hb.cell (World.block_lt_of_cell? _ _ (hHeld.2.2.2.2.2.2.2.2.2.2.2.2.2.2.2.2.2.2.2.2.2.2.2.2.1))).trans (hHeld.2.2.2.2.2.2.2.2.2.2.2.2.2.2.2.2.2.2.2.2.2.2.2.2.1)
                  have HS25_ := (hb.cell (World.block_lt_of_cell? _ _ (hHeld.2.2.2.2.2.2.2.2.2.2.2.2.2.2.2.2.2.2.2.2.2.2.2.2.2.1))).trans (hHeld.2.2.2.2.2.2.2.2.2.2.2.2.2.2.2.2.2.2.2.2.2.2.2.2.2.1)
                  have HS26_ := (hb.cell (World.block_lt_of_cell? _ _ (hHeld.2.2.2.2.2.2.2.2.2.2.2.2.2.2.2.2.2.2.2.2.2.2.2.2.2.2.1))).trans (hHeld.2.2.2.2.2.2.2.2.2.2.2.2.2.2.2.2.2.2.2.2.2.2.2.2.2.2.1)
                  have HS27_ := (hb.cell (World.block_lt_of_cell? _ _ (hHeld.2.2.2.2.2.2.2.2.2.2.2.2.2.2.2.2.2.2.2.2.2.2.2.2.2.2.2.1))).trans (hHeld.2.2.2.2.2.2.2.2.2.2.2.2.2.2.2.2.2.2.2.2.2.2.2.2.2.2.2.1)
                  have HS28_ := (hb.cell (World.block_lt_of_cell? _ _ (hHeld.2.2.2.2.2.2.2.2.2.2.2.2.2.2.2.2.2.2.2.2.2.2.2.2.2.2.2.2.1))).trans (hHeld.2.2.2.2.2.2.2.2.2.2.2.2.2.2.2.2.2.2.2.2.2.2.2.2.2.2.2.2.1)
                  have HS29_ := (hb.cell (World.block_lt_of_cell? _ _ (hHeld.2.2.2.2.2.2.2.2.2.2.2.2.2.2.2.2.2.2.2.2.2.2.2.2.2.2.2.2.2.1))).trans (hHeld.2.2.2.2.2.2.2.2.2.2.2.2.2.2.2.2.2.2.2.2.2.2.2.2.2.2.2.2.2.1)
                  have HS30_ := (hb.cell (World.block_lt_of_cell? _ _ (hHeld.2.2.2.2.2.2.2.2.2.2.2.2.2.2.2.2.2.2.2.2.2.2.2.2.2.2.2.2.2.2.1))).trans (hHeld.2.2.2.2.2.2.2.2.2.2.2.2.2.2.2.2.2.2.2.2.2.2.2.2.2.2.2.2.2.2.1)
                  have HS31_ := (hb.cell (World.block_lt_of_cell? _ _ (hHeld.2.2.2.2.2.2.2.2.2.2.2.2.2.2.2.2.2.2.2.2.2.2.2.2.2.2.2.2.2.2.2.1))).trans (hHeld.2.2.2.2.2.2.2.2.2.2.2.2.2.2.2.2.2.2.2.2.2.2.2.2.2.2.2.2.2.2.2.1)
                  have HS32_ := (hb.cell (World.block_lt_of_cell? _ _ (hHeld.2.2.2.2.2.2.2.2.2.2.2.2.2.2.2.2.2.2.2.2.2.2.2.2.2.2.2.2.2.2.2.2.1))).trans (hHeld.2.2.2.2.2.2.2.2.2.2.2.2.2.2.2.2.2.2.2.2.2.2.2.2.2.2.2.2.2.2.2.2.1)
                  have HS33_ := (hb.cell (World.block_lt_of_cell? _ _ (hHeld.2.2.2.2.2.2.2.2.2.2.2.2.2.2.2.2.2.2.2.2.2.2.2.2.2.2.2.2.2.2.2.2.2.1))).trans (hHeld.2.2.2.2.2.2.2.2.2.2.2.2.2.2.2.2.2.2.2.2.2.2.2.2.2.2.2.2.2.2.2.2.2.1)
                  have HS34_ := (hb.cell (World.block_lt_of_cell? _ _ (hHeld.2.2.2.2.2.2.2.2.2.2.2.2.2.2.2.2.2.2.2.2.2.2.2.2.2.2.2.2.2.2.2.2.2.2.1))).trans (hHeld.2.2.2.2.2.2.2.2.2.2.2.2.2.2.2.2.2.2.2.2.2.2.2.2.2.2.2.2.2.2.2.2.2.2.1)
                  have HS35_ := (hb.cell (World.block_lt_of_cell? _ _ (hHeld.2.2.2.2.2.2.2.2.2.2.2.2.2.2.2.2.2.2.2.2.2.2.2.2.2.2.2.2.2.2.2.2.2.2.2.1))).trans (hHeld.2.2.2.2.2.2.2.2.2.2.2.2.2.2.2.2.2.2.2.2.2.2.2.2.2.2.2.2.2.2.2.2.2.2.2.1)
                  have HS36_ := (hb.cell (World.block_lt_of_cell? _ _ (hHeld.2.2.2.2.2.2.2.2.2.2.2.2.2.2.2.2.2.2.2.2.2.2.2.2.2.2.2.2.2.2.2.2.2.2.2.2.1))).trans (hHeld.2.2.2.2.2.2.2.2.2.2.2.2.2.2.2.2.2.2.2.2.2.2.2.2.2.2.2.2.2.2.2.2.2.2.2.2.1)
                  have HS37_ := (hb.cell (World.block_lt_of_cell? _ _ (hHeld.2.2.2.2.2.2.2.2.2.2.2.2.2.2.2.2.2.2.2.2.2.2.2.2.2.2.2.2.2.2.2.2.2.2.2.2.2.1))).trans (hHeld.2.2.2.2.2.2.2.2.2.2.2.2.2.2.2.2.2.2.2.2.2.2.2.2.2.2.2.2.2.2.2.2.2.2.2.2.2.1)
                  have HS38_ := (hb.cell (World.block_lt_of_cell? _ _ (hHeld.2.2.2.2.2.2.2.2.2.2.2.2.2.2.2.2.2.2.2.2.2.2.2.2.2.2.2.2.2.2.2.2.2.2.2.2.2.2.1))).trans (hHeld.2.2.2.2.2.2.2.2.2.2.2.2.2.2.2.2.2.2.2.2.2.2.2.2.2.2.2.2.2.2.2.2.2.2.2.2.2.2.1)
                  have HS39_ := (hb.cell (World.block_lt_of_cell? _ _ (hHeld.2.2.2.2.2.2.2.2.2.2.2.2.2.2.2.2.2.2.2.2.2.2.2.2.2.2.2.2.2.2.2.2.2.2.2.2.2.2.2.1))).trans (hHeld.2.2.2.2.2.2.2.2.2.2.2.2.2.2.2.2.2.2.2.2.2.2.2.2.2.2.2.2.2.2.2.2.2.2.2.2.2.2.2.1)
                  have HS40_ := (hb.cell (World.block_lt_of_cell? _ _ (hHeld.2.2.2.2.2.2.2.2.2.2.2.2.2.2.2.2.2.2.2.2.2.2.2.2.2.2.2.2.2.2.2.2.2.2.2.2.2.2.2.2.1))).trans (hHeld.2.2.2.2.2.2.2.2.2.2.2.2.2.2.2.2.2.2.2.2.2.2.2.2.2.2.2.2.2.2.2.2.2.2.2.2.2.2.2.2.1)
                  have HS41_ := (hb.cell (World.block_lt_of_cell? _ _ (hHeld.2.2.2.2.2.2.2.2.2.2.2.2.2.2.2.2.2.2.2.2.2.2.2.2.2.2.2.2.2.2.2.2.2.2.2.2.2.2.2.2.2))).trans (hHeld.2.2.2.2.2.2.2.2.2.2.2.2.2.2.2.2.2.2.2.2.2.2.2.2.2.2.2.2.2.2.2.2.2.2.2.2.2.2.2.2.2)
                  refine ⟨_, rfl, ?_⟩
                  have n0_ := Aside0.mk (Kd.R_below (by (with_reducible repeat (first | apply Kd.R_alloc | apply Kd.R_drewN | apply Kd.R_drew)); exact HO_5.out) hb)
                  have n1_ := Aside0.mk (Kd.R_below (by (with_reducible repeat (first | apply Kd.R_alloc | apply Kd.R_drewN | apply Kd.R_drew)); exact HO_7.out) hb)
                  have n2_ := Aside0.mk (Kd.R_below (by (with_reducible repeat (first | apply Kd.R_alloc | apply Kd.R_drewN | apply Kd.R_drew)); exact HO_8.out) hb)
                  have n3_ := Aside0.mk (below_step bl hb)
                  clear HO_5
                  clear HO_7
                  clear HO_8
                  clear HB
                  have HO_5 := n0_
                  have HO_7 := n1_
                  have HO_8 := n2_
                  have HB := n3_
                  clear n0_ n1_ n2_ n3_
                  (try clear hb)
                  (try clear hb2)
                  (try clear hk)
                  (try clear hi)
                  refine hK.out _ _ ⟨HS0_, HS1_, HS2_, HS3_, HS4_, HS5_, HS6_, HS7_, HS8_, HS9_, HS10_, HS11_, HS12_, HS13_, HS14_, HS15_, HS16_, HS17_, HS18_, HS19_, HS20_, HS21_, HS22_, HS23_, HS24_, HS25_, HS26_, HS27_, HS28_, HS29_, HS30_, HS31_, HS32_, HS33_, HS34_, HS35_, HS36_, HS37_, HS38_, HS39_, HS40_, HS41_⟩ (fun hHeld => ?_)
                  clear hK K
                  refine norm_ (a' := ?_) ?_ ?_
                  rotate_left
                  ·show Act.put _ (some 59) _ = _
                   refine pt ?_
                   rfl
                  refine pq 15 (some 60) ?_ (fl 41 16) HT_.out rfl rfl ?_ ?_ ?_ ?_
                  rotate_left
                  ·intro w'
                   go_simp
                   with_reducible rfl
                  rotate_left
                  ·refine pt ?_
                   rfl
                  refine pq 16 (some 61) ?_ (fl 41 17) HT_.out rfl rfl ?_ ?_ ?_ ?_
                  rotate_left
                  ·intro w'
                   go_simp
                   with_reducible rfl
                  rotate_left
                  ·refine pt ?_
                   rfl
                  refine pq 17 (some 62) ?_ (fl 41 18) HT_.out rfl rfl ?_ ?_ ?_ ?_
                  rotate_left
                  ·intro w'
                   go_simp
                   with_reducible rfl
                  rotate_left
                  ·refine pt ?_
                   rfl
                  refine pq 18 (some 63) ?_ (fl 41 19) HT_.out rfl rfl ?_ ?_ ?_ ?_
                  rotate_left
                  ·intro w'
                   go_simp
                   with_reducible rfl
                  rotate_left
                  ·refine pt ?_
                   rfl
                  refine pq 19 (some 64) ?_ (fl 41 20) HT_.out rfl rfl ?_ ?_ ?_ ?_
                  rotate_left
                  ·intro w'
                   go_simp
                   with_reducible rfl
                  rotate_left
                  ·refine pt ?_
                   rfl
                  refine pq 20 (some 65) ?_ (fl 41 21) HT_.out rfl rfl ?_ ?_ ?_ ?_
                  rotate_left
                  ·intro w'
                   go_simp
                   with_reducible rfl
                  rotate_left
                  ·refine pt ?_
                   rfl
                  refine pq 21 (some 66) ?_ (fl 41 22) HT_.out rfl rfl ?_ ?_ ?_ ?_
                  rotate_left
                  ·intro w'
                   go_simp
                   with_reducible rfl
                  rotate_left
                  ·refine pt ?_
                   rfl
                  refine pk 22 (some 67) ?_ (fl 41 23) HT_.out HW_.out rfl rfl ?_ hHeld ?_ ?_ ?_
                  rotate_left
                  ·rintro w' ⟨s0, s1, s2, s3, s4, s5, s6, s7, s8, s9, s10, s11, s12, s13, s14, s15, s16, s17, s18, s19, s20, s21, s22, s23, s24, s25, s26, s27, s28, s29, s30, s31, s32, s33, s34, s35, s36, s37, s38, s39, s40, s41⟩
                   go_simp
                   with_reducible rfl
                  rotate_left
                  ·refine pt ?_
                   rfl
                  refine pq 23 (some 68) ?_ (fl 41 24) HT_.out rfl rfl ?_ ?_ ?_ ?_
                  rotate_left
                  ·intro w'
                   go_simp
                   with_reducible rfl
                  rotate_left
                  ·refine pt ?_
                   rfl
                  refine pq 24 (some 69) ?_ (fl 41 25) HT_.out rfl rfl ?_ ?_ ?_ ?_
                  rotate_left
                  ·intro w'
                   go_simp
                   with_reducible rfl
                  rotate_left
                  ·refine pt ?_
                   rfl
                  refine pq 25 (some 70) ?_ (fl 41 26) HT_.out rfl rfl ?_ ?_ ?_ ?_
                  rotate_left
                  ·intro w'
                   go_simp
                   with_reducible rfl
                  rotate_left
                  ·refine pt ?_
                   rfl
                  refine pq 26 (some 71) ?_ (fl 41 27) HT_.out rfl rfl ?_ ?_ ?_ ?_
                  rotate_left
                  ·intro w'
                   go_simp
                   with_reducible rfl
                  rotate_left
                  ·refine pt ?_
                   rfl
                  refine pq 27 (some 72) ?_ (fl 41 28) HT_.out rfl rfl ?_ ?_ ?_ ?_
                  rotate_left
                  ·intro w'
                   go_simp
                   with_reducible rfl
                  rotate_left
                  ·refine pt ?_
                   rfl
                  refine pq 28 (some 73) ?_ (fl 41 29) HT_.out rfl rfl ?_ ?_ ?_ ?_
                  rotate_left
                  ·intro w'
                   go_simp
                   with_reducible rfl
                  rotate_left
                  ·refine pt ?_
                   rfl
                  refine pk 29 (some 74) ?_ (fl 41 30) HT_.out HW_.out rfl rfl ?_ hHeld ?_ ?_ ?_
                  rotate_left
                  ·rintro w' ⟨s0, s1, s2, s3, s4, s5, s6, s7, s8, s9, s10, s11, s12, s13, s14, s15, s16, s17, s18, s19, s20, s21, s22, s23, s24, s25, s26, s27, s28, s29, s30, s31, s32, s33, s34, s35, s36, s37, s38, s39, s40, s41⟩
                   go_simp
                   with_reducible rfl
                  rotate_left
                  ·refine pt ?_
                   rfl
                  refine pq 30 (some 75) ?_ (fl 41 31) HT_.out rfl rfl ?_ ?_ ?_ ?_
                  rotate_left
                  ·intro w'
                   go_simp
                   with_reducible rfl
                  rotate_left
                  ·refine pt ?_
                   rfl
                  refine pq 31 (some 76) ?_ (fl 41 32) HT_.out rfl rfl ?_ ?_ ?_ ?_
                  rotate_left
                  ·intro w'
                   go_simp
                   with_reducible rfl
                  rotate_left
                  ·refine pt ?_
                   rfl
                  refine pq 32 (some 77) ?_ (fl 41 33) HT_.out rfl rfl ?_ ?_ ?_ ?_
                  rotate_left
                  ·intro w'
                   go_simp
                   with_reducible rfl
                  rotate_left
                  ·refine pt ?_
                   rfl
                  refine pq 33 (some 78) ?_ (fl 41 34) HT_.out rfl rfl ?_ ?_ ?_ ?_
                  rotate_left
                  ·intro w'
                   go_simp
                   with_reducible rfl
                  rotate_left
                  ·refine pt ?_
                   rfl
                  refine pq 34 (some 79) ?_ (fl 41 35) HT_.out rfl rfl ?_ ?_ ?_ ?_
                  rotate_left
                  ·intro w'
                   go_simp
                   with_reducible rfl
                  rotate_left
                  ·refine pt ?_
                   rfl
                  refine pq 35 (some 80) ?_ (fl 41 36) HT_.out rfl rfl ?_ ?_ ?_ ?_
                  rotate_left
                  ·intro w'
                   go_simp
                   with_reducible rfl
                  rotate_left
                  ·refine pt ?_
                   rfl
                  refine pk 36 (some 81) ?_ (fl 41 37) HT_.out HW_.out rfl rfl ?_ hHeld ?_ ?_ ?_
                  rotate_left
                  ·rintro w' ⟨s0, s1, s2, s3, s4, s5, s6, s7, s8, s9, s10, s11, s12, s13, s14, s15, s16, s17, s18, s19, s20, s21, s22, s23, s24, s25, s26, s27, s28, s29, s30, s31, s32, s33, s34, s35, s36, s37, s38, s39, s40, s41⟩
                   go_simp
                   with_reducible rfl
                  rotate_left
                  ·refine pt ?_
                   rfl
                  refine pq 37 (some 82) ?_ (fl 41 38) HT_.out rfl rfl ?_ ?_ ?_ ?_
                  rotate_left
                  ·intro w'
                   go_simp
                   with_reducible rfl
                  rotate_left
                  ·refine pt ?_
                   rfl
                  refine pq 38 (some 83) ?_ (fl 41 39) HT_.out rfl rfl ?_ ?_ ?_ ?_
                  rotate_left
                  ·intro w'
                   go_simp
                   with_reducible rfl
                  rotate_left
                  ·refine pt ?_
                   rfl
                  refine pq 39 (some 84) ?_ (fl 41 40) HT_.out rfl rfl ?_ ?_ ?_ ?_
                  rotate_left
                  ·intro w'
                   go_simp
                   with_reducible rfl
                  rotate_left
                  ·refine pt ?_
                   rfl
                  refine pq 40 (some 85) ?_ (fl 41 41) HT_.out rfl rfl ?_ ?_ ?_ ?_
                  rotate_left
                  ·intro w'
                   go_simp
                   with_reducible rfl
                  rotate_left
                  ·refine pt ?_
                   rfl
                  refine done_ (done_of HT_.out (by kernel_rfl)) ?_
                  try go_wp2
                  go_roundg k3
                  case measure => have := HJ5.out; have := HJ16.out; have := HK3.out; omega
                  case rel => exact ⟨(wrap64 (x9_3 + 1)), fj, H', ⟨by have := HJ5.out; have := HJ16.out; have := HK3.out; omega⟩, ⟨by (with_reducible repeat (first | apply Kd.R_alloc | apply Kd.R_drewN | apply Kd.R_drew)); exact HO_5.out⟩, ⟨by (with_reducible repeat (first | apply Kd.R_alloc | apply Kd.R_drewN | apply Kd.R_drew)); exact HO_7.out⟩, ⟨by (with_reducible repeat (first | apply Kd.R_alloc | apply Kd.R_drewN | apply Kd.R_drew)); exact HO_8.out⟩, ⟨bl⟩⟩
              ·replace c33 := Bool.eq_false_iff.mpr c33
               subst c33
               have H1 : (some false) = some r := by rw [if_neg (show ¬ (false = true) by decide)] at H; exact H
               clear H
               have H := H1
               clear H1
               obtain rfl := Option.some.inj H
               obtain ⟨Ao53, co53, eo53⟩ := Kd.R_slice HO_7.out
               subst eo53
               try go_wp2
               have n0_ := Aside0.mk (Kd.R_drew HO_5.out)
               have n1_ := Aside0.mk (Kd.R_drew HO_7.out)
               have n2_ := Aside0.mk (Kd.R_drew HO_8.out)
               have n3_ := Aside0.mk (below_drew1 HB.out)
               clear HO_5
               clear HO_7
               clear HO_8
               clear HB
               have HO_5 := n0_
               have HO_7 := n1_
               have HO_8 := n2_
               have HB := n3_
               clear n0_ n1_ n2_ n3_
               have p333 : 0 ≤ (x9_3 : Int) := of_decide_eq_true (by first | (with_reducible assumption) | assumption)
               have q333 : x9_3 < (t326.length : Int) := of_decide_eq_true (by first | (with_reducible assumption) | assumption)
               obtain ⟨ad333, e333, hx333_0, hx333_1, hx333_2, hx333_3, hx333_4, hx333_5, hx333_6⟩ := at_T27 (Kd.R_reads' HO_7.out).2.2 x9_3 p333 q333
               cases e333
               replace p333 := eq_true p333
               replace q333 := eq_true q333
               obtain ⟨Ao55, co55, eo55⟩ := Kd.R_slice HO_8.out
               (first | subst eo55 | (injection eo55 with f1_ f2_ f3_; have f4_ := f1_.symm; have f5_ := f3_.symm; clear f1_ f2_ f3_; subst f4_; subst f5_))
               have p334 : 0 ≤ (x9_3 : Int) := of_decide_eq_true (by first | (with_reducible assumption) | assumption)
               have q334 : x9_3 < (t330.length : Int) := of_decide_eq_true (by first | (with_reducible assumption) | assumption)
               obtain ⟨ad334, e334, hx334_0, hx334_1, hx334_2, hx334_3, hx334_4, hx334_5, hx334_6⟩ := at_T27 (Kd.R_reads' HO_8.out).2.2 x9_3 p334 q334
               cases e334
               replace p334 := eq_true p334
               replace q334 := eq_true q334
               have p335 : 0 ≤ (x9_3 : Int) := of_decide_eq_true (by first | (with_reducible assumption) | assumption)
               have q335 : x9_3 < (t326.length : Int) := of_decide_eq_true (by first | (with_reducible assumption) | assumption)
               obtain ⟨ad335, e335, hx335_0, hx335_1, hx335_2, hx335_3, hx335_4, hx335_5, hx335_6⟩ := at_T27 (Kd.R_reads' HO_7.out).2.2 x9_3 p335 q335
               obtain rfl : ad333 = ad335 := (by injection e335)
               replace p335 := eq_true p335
               replace q335 := eq_true q335
               refine start_ (n := 41) (S := fun w' => w'.cell? (ad333.add ((x9_3).toNat * 7)) = some (.int .i64 ((rd_T27 t326 x9_3).f0)) ∧ w'.cell? ⟨(ad333.add ((x9_3).toNat * 7)).block, (ad333.add ((x9_3).toNat * 7)).off + 1, none⟩ = some (.int .i64 ((rd_T27 t326 x9_3).f1)) ∧ w'.cell? ⟨(ad333.add ((x9_3).toNat * 7)).block, (ad333.add ((x9_3).toNat * 7)).off + 2, none⟩ = some (.int .i64 ((rd_T27 t326 x9_3).f2)) ∧ w'.cell? ⟨(ad333.add ((x9_3).toNat * 7)).block, (ad333.add ((x9_3).toNat * 7)).off + 3, none⟩ = some (.int .i64 ((rd_T27 t326 x9_3).f3)) ∧ w'.cell? ⟨(ad333.add ((x9_3).toNat * 7)).block, (ad333.add ((x9_3).toNat * 7)).off + 4, none⟩ = some (.int .i64 ((rd_T27 t326 x9_3).f4)) ∧ w'.cell? ⟨(ad333.add ((x9_3).toNat * 7)).block, (ad333.add ((x9_3).toNat * 7)).off + 5, none⟩ = some (.bool ((rd_T27 t326 x9_3).f5)) ∧ w'.cell? ⟨(ad333.add ((x9_3).toNat * 7)).block, (ad333.add ((x9_3).toNat * 7)).off + 6, none⟩ = some (.bool ((rd_T27 t326 x9_3).f6)) ∧ w'.cell? (ad334.add ((x9_3).toNat * 7)) = some (.int .i64 ((rd_T27 t330 x9_3).f0)) ∧ w'.cell? ⟨(ad334.add ((x9_3).toNat * 7)).block, (ad334.add ((x9_3).toNat * 7)).off + 1, none⟩ = some (.int .i64 ((rd_T27 t330 x9_3).f1)) ∧ w'.cell? ⟨(ad334.add ((x9_3).toNat * 7)).block, (ad334.add ((x9_3).toNat * 7)).off + 2, none⟩ = some (.int .i64 ((rd_T27 t330 x9_3).f2)) ∧ w'.cell? ⟨(ad334.add ((x9_3).toNat * 7)).block, (ad334.add ((x9_3).toNat * 7)).off + 3, none⟩ = some (.int .i64 ((rd_T27 t330 x9_3).f3)) ∧ w'.cell? ⟨(ad334.add ((x9_3).toNat * 7)).block, (ad334.add ((x9_3).toNat * 7)).off + 4, none⟩ = some (.int .i64 ((rd_T27 t330 x9_3).f4)) ∧ w'.cell? ⟨(ad334.add ((x9_3).toNat * 7)).block, (ad334.add ((x9_3).toNat * 7)).off + 5, none⟩ = some (.bool ((rd_T27 t330 x9_3).f5)) ∧ w'.cell? ⟨(ad334.add ((x9_3).toNat * 7)).block, (ad334.add ((x9_3).toNat * 7)).off + 6, none⟩ = some (.bool ((rd_T27 t330 x9_3).f6)) ∧ w'.cell? (ad333.add ((x9_3).toNat * 7)) = some (.int .i64 ((rd_T27 t326 x9_3).f0)) ∧ w'.cell? ⟨(ad333.add ((x9_3).toNat * 7)).block, (ad333.add ((x9_3).toNat * 7)).off + 1, none⟩ = some (.int .i64 ((rd_T27 t326 x9_3).f1)) ∧ w'.cell? ⟨(ad333.add ((x9_3).toNat * 7)).block, (ad333.add ((x9_3).toNat * 7)).off + 2, none⟩ = some (.int .i64 ((rd_T27 t326 x9_3).f2)) ∧ w'.cell? ⟨(ad333.add ((x9_3).toNat * 7)).block, (ad333.add ((x9_3).toNat * 7)).off + 3, none⟩ = some (.int .i64 ((rd_T27 t326 x9_3).f3)) ∧ w'.cell? ⟨(ad333.add ((x9_3).toNat * 7)).block, (ad333.add ((x9_3).toNat * 7)).off + 4, none⟩ = some (.int .i64 ((rd_T27 t326 x9_3).f4)) ∧ w'.cell? ⟨(ad333.add ((x9_3).toNat * 7)).block, (ad333.add ((x9_3).toNat * 7)).off + 5, none⟩ = some (.bool ((rd_T27 t326 x9_3).f5)) ∧ w'.cell? ⟨(ad333.add ((x9_3).toNat * 7)).block, (ad333.add ((x9_3).toNat * 7)).off + 6, none⟩ = some (.bool ((rd_T27 t326 x9_3).f6))) (ds := []) (fl 41 0) (by kernel_rfl) rfl rfl ⟨hx333_0, hx333_1, hx333_2, hx333_3, hx333_4, hx333_5, hx333_6, hx334_0, hx334_1, hx334_2, hx334_3, hx334_4, hx334_5, hx334_6, hx335_0, hx335_1, hx335_2, hx335_3, hx335_4, hx335_5, hx335_6⟩ (fun hHeld => ?_); refine with_tabW spinnakerlaw09_UnitLoads.tab10 spinnakerlaw09_UnitLoads.bits10 (fun HT_ HW_ => ?_)
               generalize wr.drew = w54 at HO_5 HO_7 HO_8 HB hx333_0 hx333_1 hx333_2 hx333_3 hx333_4 hx333_5 hx333_6 hx334_0 hx334_1 hx334_2 hx334_3 hx334_4 hx334_5 hx334_6 hx335_0 hx335_1 hx335_2 hx335_3 hx335_4 hx335_5 hx335_6 hHeld ⊢
               refine pq 0 (some 45) ?_ (fl 41 1) HT_.out rfl rfl ?_ ?_ ?_ ?_
               rotate_left
               ·intro w'
                go_simp
                with_reducible rfl
               rotate_left
               ·refine pt ?_
                rfl
               refine pq 1 (some 46) ?_ (fl 41 2) HT_.out rfl rfl ?_ ?_ ?_ ?_
               rotate_left
               ·intro w'
                go_simp
                with_reducible rfl
               rotate_left
               ·refine pt ?_
                rfl
               refine pq 2 (some 47) ?_ (fl 41 3) HT_.out rfl rfl ?_ ?_ ?_ ?_
               rotate_left
               ·intro w'
                go_simp
                with_reducible rfl
               rotate_left
               ·refine pt ?_
                rfl
               refine pq 4 (some 49) ?_ #[true, true, true, false, true, false, false, false, false, false, false, false, false, false, false, false, false, false, false, false, false, false, false, false, false, false, false, false, false, false, false, false, false, false, false, false, false, false, false, false, false] HT_.out rfl rfl ?_ ?_ ?_ ?_
               rotate_left
               ·intro w'
                go_simp
                with_reducible rfl
               rotate_left
               ·refine pt ?_
                rfl
               refine pq 5 (some 50) ?_ #[true, true, true, false, true, true, false, false, false, false, false, false, false, false, false, false, false, false, false, false, false, false, false, false, false, false, false, false, false, false, false, false, false, false, false, false, false, false, false, false, false] HT_.out rfl rfl ?_ ?_ ?_ ?_
               rotate_left
               ·intro w'
                go_simp
                with_reducible rfl
               rotate_left
               ·refine pt ?_
                rfl
               refine pq 6 (some 51) ?_ #[true, true, true, false, true, true, true, false, false, false, false, false, false, false, false, false, false, false, false, false, false, false, false, false, false, false, false, false, false, false, false, false, false, false, false, false, false, false, false, false, false] HT_.out rfl rfl ?_ ?_ ?_ ?_
               rotate_left
               ·intro w'
                go_simp
                with_reducible rfl
               rotate_left
               ·refine pt ?_
                rfl
               refine pk 3 (some 48) ?_ (fl 41 7) HT_.out HW_.out rfl rfl ?_ hHeld ?_ ?_ ?_
               rotate_left
               ·rintro w' ⟨s0, s1, s2, s3, s4, s5, s6, s7, s8, s9, s10, s11, s12, s13, s14, s15, s16, s17, s18, s19, s20⟩
                go_simp
                with_reducible rfl
               rotate_left
               ·refine pt ?_
                rfl
               refine pk 7 (some 52) ?_ (fl 41 8) HT_.out HW_.out rfl rfl ?_ hHeld ?_ ?_ ?_
               rotate_left
               ·rintro w' ⟨s0, s1, s2, s3, s4, s5, s6, s7, s8, s9, s10, s11, s12, s13, s14, s15, s16, s17, s18, s19, s20⟩
                go_simp
                with_reducible rfl
               rotate_left
               ·refine pt ?_
                rfl
               refine pq 8 (some 53) ?_ (fl 41 9) HT_.out rfl rfl ?_ ?_ ?_ ?_
               rotate_left
               ·intro w'
                go_simp
                with_reducible rfl
               rotate_left
               ·refine pt ?_
                rfl
               refine pq 9 (some 54) ?_ (fl 41 10) HT_.out rfl rfl ?_ ?_ ?_ ?_
               rotate_left
               ·intro w'
                go_simp
                with_reducible rfl
               rotate_left
               ·refine pt ?_
                rfl
               refine pq 10 (some 55) ?_ (fl 41 11) HT_.out rfl rfl ?_ ?_ ?_ ?_
               rotate_left
               ·intro w'
                go_simp
                with_reducible rfl
               rotate_left
               ·refine pt ?_
                rfl
               refine pq 11 (some 56) ?_ (fl 41 12) HT_.out rfl rfl ?_ ?_ ?_ ?_
               rotate_left
               ·intro w'
                go_simp
                with_reducible rfl
               rotate_left
               ·refine pt ?_
                rfl
               refine pq 12 (some 57) ?_ (fl 41 13) HT_.out rfl rfl ?_ ?_ ?_ ?_
               rotate_left
               ·intro w'
                go_simp
                with_reducible rfl
               rotate_left
               ·refine pt ?_
                rfl
               refine pk 13 (some 58) ?_ (fl 41 14) HT_.out HW_.out rfl rfl ?_ hHeld ?_ ?_ ?_
               rotate_left
               ·rintro w' ⟨s0, s1, s2, s3, s4, s5, s6, s7, s8, s9, s10, s11, s12, s13, s14, s15, s16, s17, s18, s19, s20⟩
                go_simp
                with_reducible rfl
               rotate_left
               ·refine pt ?_
                rfl
               refine one_ (i := 14) (N := some 59) (fl 41 15) rfl rfl (one_of HT_.out (by kernel_rfl)) (by decide) (fun K hK => ?_)
               refine goes_ Tryd.func7 (by kernel_rfl) rfl #[.agg #[.int .i64 ((rd_T27 t326 x9_3).f0), .int .i64 ((rd_T27 t326 x9_3).f1), .int .i64 ((rd_T27 t326 x9_3).f2), .int .i64 ((rd_T27 t326 x9_3).f3), .int .i64 ((rd_T27 t326 x9_3).f4), .bool ((rd_T27 t326 x9_3).f5), .bool ((rd_T27 t326 x9_3).f6)]] (by rfl) rfl rfl ga ?_
               with_reducible refine (spinnakerref03_May.calls k3 ((rd_T27 t326 x9_3).f0) ((rd_T27 t326 x9_3).f1) ((rd_T27 t326 x9_3).f2) ((rd_T27 t326 x9_3).f3) ((rd_T27 t326 x9_3).f4) ((rd_T27 t326 x9_3).f5) ((rd_T27 t326 x9_3).f6) false _ A32.out).mono ?_
               rintro e w56 ⟨rfl, hb⟩
               have HS0_ := (hb.cell (World.block_lt_of_cell? _ _ (hHeld.1))).trans (hHeld.1)
               have HS1_ := (hb.cell (World.block_lt_of_cell? _ _ (hHeld.2.1))).trans (hHeld.2.1)
               have HS2_ := (hb.cell (World.block_lt_of_cell? _ _ (hHeld.2.2.1))).trans (hHeld.2.2.1)
               have HS3_ := (hb.cell (World.block_lt_of_cell? _ _ (hHeld.2.2.2.1))).trans (hHeld.2.2.2.1)
               have HS4_ := (hb.cell (World.block_lt_of_cell? _ _ (hHeld.2.2.2.2.1))).trans (hHeld.2.2.2.2.1)
               have HS5_ := (hb.cell (World.block_lt_of_cell? _ _ (hHeld.2.2.2.2.2.1))).trans (hHeld.2.2.2.2.2.1)
               have HS6_ := (hb.cell (World.block_lt_of_cell? _ _ (hHeld.2.2.2.2.2.2.1))).trans (hHeld.2.2.2.2.2.2.1)
               have HS7_ := (hb.cell (World.block_lt_of_cell? _ _ (hHeld.2.2.2.2.2.2.2.1))).trans (hHeld.2.2.2.2.2.2.2.1)
               have HS8_ := (hb.cell (World.block_lt_of_cell? _ _ (hHeld.2.2.2.2.2.2.2.2.1))).trans (hHeld.2.2.2.2.2.2.2.2.1)
               have HS9_ := (hb.cell (World.block_lt_of_cell? _ _ (hHeld.2.2.2.2.2.2.2.2.2.1))).trans (hHeld.2.2.2.2.2.2.2.2.2.1)
               have HS10_ := (hb.cell (World.block_lt_of_cell? _ _ (hHeld.2.2.2.2.2.2.2.2.2.2.1))).trans (hHeld.2.2.2.2.2.2.2.2.2.2.1)
               have HS11_ := (hb.cell (World.block_lt_of_cell? _ _ (hHeld.2.2.2.2.2.2.2.2.2.2.2.1))).trans (hHeld.2.2.2.2.2.2.2.2.2.2.2.1)
               have HS12_ := (hb.cell (World.block_lt_of_cell? _ _ (hHeld.2.2.2.2.2.2.2.2.2.2.2.2.1))).trans (hHeld.2.2.2.2.2.2.2.2.2.2.2.2.1)
               have HS13_ := (hb.cell (World.block_lt_of_cell? _ _ (hHeld.2.2.2.2.2.2.2.2.2.2.2.2.2.1))).trans (hHeld.2.2.2.2.2.2.2.2.2.2.2.2.2.1)
               have HS14_ := (hb.cell (World.block_lt_of_cell? _ _ (hHeld.2.2.2.2.2.2.2.2.2.2.2.2.2.2.1))).trans (hHeld.2.2.2.2.2.2.2.2.2.2.2.2.2.2.1)
               have HS15_ := (hb.cell (World.block_lt_of_cell? _ _ (hHeld.2.2.2.2.2.2.2.2.2.2.2.2.2.2.2.1))).trans (hHeld.2.2.2.2.2.2.2.2.2.2.2.2.2.2.2.1)
               have HS16_ := (hb.cell (World.block_lt_of_cell? _ _ (hHeld.2.2.2.2.2.2.2.2.2.2.2.2.2.2.2.2.1))).trans (hHeld.2.2.2.2.2.2.2.2.2.2.2.2.2.2.2.2.1)
               have HS17_ := (hb.cell (World.block_lt_of_cell? _ _ (hHeld.2.2.2.2.2.2.2.2.2.2.2.2.2.2.2.2.2.1))).trans (hHeld.2.2.2.2.2.2.2.2.2.2.2.2.2.2.2.2.2.1)
               have HS18_ := (hb.cell (World.block_lt_of_cell? _ _ (hHeld.2.2.2.2.2.2.2.2.2.2.2.2.2.2.2.2.2.2.1))).trans (hHeld.2.2.2.2.2.2.2.2.2.2.2.2.2.2.2.2.2.2.1)
               have HS19_ := (hb.cell (World.block_lt_of_cell? _ _ (hHeld.2.2.2.2.2.2.2.2.2.2.2.2.2.2.2.2.2.2.2.1))).trans (hHeld.2.2.2.2.2.2.2.2.2.2.2.2.2.2.2.2.2.2.2.1)
               have HS20_ := (hb.cell (World.block_lt_of_cell? _ _ (hHeld.2.2.2.2.2.2.2.2.2.2.2.2.2.2.2.2.2.2.2.2))).trans (hHeld.2.2.2.2.2.2.2.2.2.2.2.2.2.2.2.2.2.2.2.2)
               refine ⟨_, rfl, ?_⟩
               have n0_ := Aside0.mk (Kd.R_below (by (with_reducible repeat (first | apply Kd.R_alloc | apply Kd.R_drewN | apply Kd.R_drew)); exact HO_5.out) hb)
               have n1_ := Aside0.mk (Kd.R_below (by (with_reducible repeat (first | apply Kd.R_alloc | apply Kd.R_drewN | apply Kd.R_drew)); exact HO_7.out) hb)
               have n2_ := Aside0.mk (Kd.R_below (by (with_reducible repeat (first | apply Kd.R_alloc | apply Kd.R_drewN | apply Kd.R_drew)); exact HO_8.out) hb)
               have n3_ := Aside0.mk (below_step bl hb)
               clear HO_5
               clear HO_7
               clear HO_8
               clear HB
               have HO_5 := n0_
               have HO_7 := n1_
               have HO_8 := n2_
               have HB := n3_
               clear n0_ n1_ n2_ n3_
               (try clear hb)
               (try clear hb2)
               (try clear hk)
               (try clear hi)
               refine hK.out _ _ ⟨HS0_, HS1_, HS2_, HS3_, HS4_, HS5_, HS6_, HS7_, HS8_, HS9_, HS10_, HS11_, HS12_, HS13_, HS14_, HS15_, HS16_, HS17_, HS18_, HS19_, HS20_⟩ (fun hHeld => ?_)
               clear hK K
               refine norm_ (a' := ?_) ?_ ?_
               rotate_left
               ·show Act.put _ (some 59) _ = _
                refine pt ?_
                rfl
               refine pq 15 (some 60) ?_ (fl 41 16) HT_.out rfl rfl ?_ ?_ ?_ ?_
               rotate_left
               ·intro w'
                go_simp
                with_reducible rfl
               rotate_left
               ·refine pt ?_
                rfl
               refine pq 16 (some 61) ?_ (fl 41 17) HT_.out rfl rfl ?_ ?_ ?_ ?_
               rotate_left
               ·intro w'
                go_simp
                with_reducible rfl
               rotate_left
               ·refine pt ?_
                rfl
               refine pq 17 (some 62) ?_ (fl 41 18) HT_.out rfl rfl ?_ ?_ ?_ ?_
               rotate_left
               ·intro w'
                go_simp
                with_reducible rfl
               rotate_left
               ·refine pt ?_
                rfl
               refine pr 18 (some 63) ?_ (fl 41 19) HT_.out rfl rfl ?_ ?_
               rotate_left
               ·refine pt ?_
                rfl
               refine pr 19 (some 64) ?_ (fl 41 20) HT_.out rfl rfl ?_ ?_
               rotate_left
               ·refine pt ?_
                rfl
               refine pr 20 (some 65) ?_ (fl 41 21) HT_.out rfl rfl ?_ ?_
               rotate_left
               ·refine pt ?_
                rfl
               refine pr 21 (some 66) ?_ (fl 41 22) HT_.out rfl rfl ?_ ?_
               rotate_left
               ·refine pt ?_
                rfl
               refine pr 22 (some 67) ?_ (fl 41 23) HT_.out rfl rfl ?_ ?_
               rotate_left
               ·refine pt ?_
                rfl
               refine pr 23 (some 68) ?_ (fl 41 24) HT_.out rfl rfl ?_ ?_
               rotate_left
               ·refine pt ?_
                rfl
               refine pr 24 (some 69) ?_ (fl 41 25) HT_.out rfl rfl ?_ ?_
               rotate_left
               ·refine pt ?_
                rfl
               refine pr 25 (some 70) ?_ (fl 41 26) HT_.out rfl rfl ?_ ?_
               rotate_left
               ·refine pt ?_
                rfl
               refine pr 26 (some 71) ?_ (fl 41 27) HT_.out rfl rfl ?_ ?_
               rotate_left
               ·refine pt ?_
                rfl
               refine pr 27 (some 72) ?_ (fl 41 28) HT_.out rfl rfl ?_ ?_
               rotate_left
               ·refine pt ?_
                rfl
               refine pr 28 (some 73) ?_ (fl 41 29) HT_.out rfl rfl ?_ ?_
               rotate_left
               ·refine pt ?_
                rfl
               refine pr 29 (some 74) ?_ (fl 41 30) HT_.out rfl rfl ?_ ?_
               rotate_left
               ·refine pt ?_
                rfl
               refine pr 30 (some 75) ?_ (fl 41 31) HT_.out rfl rfl ?_ ?_
               rotate_left
               ·refine pt ?_
                rfl
               refine pr 31 (some 76) ?_ (fl 41 32) HT_.out rfl rfl ?_ ?_
               rotate_left
               ·refine pt ?_
                rfl
               refine pr 32 (some 77) ?_ (fl 41 33) HT_.out rfl rfl ?_ ?_
               rotate_left
               ·refine pt ?_
                rfl
               refine pr 33 (some 78) ?_ (fl 41 34) HT_.out rfl rfl ?_ ?_
               rotate_left
               ·refine pt ?_
                rfl
               refine pr 34 (some 79) ?_ (fl 41 35) HT_.out rfl rfl ?_ ?_
               rotate_left
               ·refine pt ?_
                rfl
               refine pr 35 (some 80) ?_ (fl 41 36) HT_.out rfl rfl ?_ ?_
               rotate_left
               ·refine pt ?_
                rfl
               refine pr 36 (some 81) ?_ (fl 41 37) HT_.out rfl rfl ?_ ?_
               rotate_left
               ·refine pt ?_
                rfl
               refine pr 37 (some 82) ?_ (fl 41 38) HT_.out rfl rfl ?_ ?_
               rotate_left
               ·refine pt ?_
                rfl
               refine pr 38 (some 83) ?_ (fl 41 39) HT_.out rfl rfl ?_ ?_
               rotate_left
               ·refine pt ?_
                rfl
               refine pr 39 (some 84) ?_ (fl 41 40) HT_.out rfl rfl ?_ ?_
               rotate_left
               ·refine pt ?_
                rfl
               refine pq 40 (some 85) ?_ (fl 41 41) HT_.out rfl rfl ?_ ?_ ?_ ?_
               rotate_left
               ·intro w'
                go_simp
                with_reducible rfl
               rotate_left
               ·refine pt ?_
                rfl
               refine done_ (done_of HT_.out (by kernel_rfl)) ?_
               try go_wp2
               go_ret
               exact ⟨fi, bl⟩
            ·rw [if_neg c27] at H
             exact absurd H (by simp)
           ·rw [if_neg c26] at H
            exact absurd H (by simp)
          ·rw [if_neg c25] at H
           have c25b0 := decide_eq_false c25
           clear c25
           by_cases c57 : 0 < (y323.length : Int)
           ·rw [if_pos c57] at H
            have c57b0 := decide_eq_true c57
            have c57b1 : decide (0 < y323.length) = true := decide_eq_true (by omega)
            clear c57
            obtain ⟨y340, hy340⟩ : ∃ y_ : List Int, y_ = (y323.set (0 : Int).toNat 0) := ⟨_, rfl⟩
            replace H : ((spinnakerref09_Does.f k3 t326 y340).bind fun t341 => (if a0 = 0 then ((arr_same.f t341 y340).bind fun t344 => (if t344 = true then ((spinnakerlaw09_awake.f k3).bind fun t345 => (some t345)) else (some false))) else (if 0 ≤ a0 then (if a0 < (y323.length : Int) then ((arr_same.f t341 (y340.set (a0 : Int).toNat a1)).bind fun t347 => (if t347 = true then ((spinnakerlaw09_awake.f k3).bind fun t348 => (some t348)) else (some false))) else (none)) else (none)))) = some r := by first | (rw [hy340]; with_reducible exact H) | (have H2_ := (Option.bind_some _ _).symm.trans H; rw [hy340]; with_reducible exact H2_) | (have H2_ := (Option.bind_some _ _).symm.trans H; with_reducible exact H2_) | with_reducible exact H | (rw [hy340]; exact H) | exact H
            have Ny340 := Aside0.mk hy340
            clear hy340
            replace H := be H
            obtain ⟨t341, A59, H⟩ := H
            by_cases c60 : a0 = 0
            ·rw [if_pos c60] at H
             obtain ⟨c60b0, c60b1⟩ := eqs c60
             clear c60
             replace H := be H
             obtain ⟨t344, A61, H⟩ := H
             by_cases c62 : t344 = true
             ·subst c62
              have H1 : ((spinnakerlaw09_awake.f k3).bind fun t345 => (some t345)) = some r := by rw [if_pos rfl] at H; exact H
              clear H
              have H := H1
              clear H1
              replace H := be H
              obtain ⟨t345, A63, H⟩ := H
              obtain rfl := Option.some.inj H
              obtain ⟨Ao64, co64, eo64⟩ := Kd.R_slice HO_7.out
              subst eo64
              have p58 : 0 ≤ (0 : Int) := (by omega)
              have q58 : (0 : Int) < ((y323.length : Int) : Int) := of_decide_eq_true (by first | (with_reducible assumption) | assumption)
              have qi58 : (0 < y323.length) = True := eq_true (by omega)
              obtain ⟨gb58, cl58, HG58⟩ := ari_base HO_5.out (by omega)
              have GB58 := Aside0.mk gb58
              have GG58 := Aside0.mk HG58
              clear gb58 HG58
              obtain ⟨hx58_0, hf58_0, qa58⟩ := ari_cell HO_5.out (0 : Int) p58 q58
              rw [show ((32 : Nat) : Int) = 32 from rfl] at qa58
              (try rw [show ((0 : Int)).toNat = 0 from rfl] at hx58_0)
              (try simp only [Nat.reduceMul, Nat.zero_mul, Nat.zero_add, Nat.reduceAdd] at hx58_0)
              (try rw [show ((0 : Int)).toNat = 0 from rfl] at hf58_0)
              (try simp only [Nat.reduceMul, Nat.zero_mul, Nat.zero_add, Nat.reduceAdd] at hf58_0)
              replace p58 := eq_true p58
              replace q58 := eq_true q58
              have HP65 := Kd.R_putg HO_5.out (0 : Int) 0
              go_wp2_with (first | ((with_reducible refine gate_store (t := 3) (p := 86) rfl ?_); refine store_event (t := 3) (p := 86) (v := ?vo_w66) (w1 := (wr.setCell ⟨ga324, (0 : Int).toNat, none⟩ (.int .i64 0))) ?hg ?ho ?hn ?hr ?_; (case ho => rfl); (case hg => rfl); (case hn => rfl); (case hr => first | (go_simp; done) | (go_simp; rfl)); intro w66 hw; have hg : wr.grownBy w66 (some ga324) := (by rw [hw]; exact HP65.2); have hp_ : Kd.R (Kd.int .i64) 22 w66 w.heap.size (fun _ => True) (.slice (some ⟨ga324, 0, none⟩) 32 32) y340 := (by rw [hw, Ny340.out]; exact HP65.1); clear HP65; have n0_ := Aside0.mk (hp_); have n1_ := Aside0.mk (Kd.R_over' (v := (.slice (some ⟨ga324, 0, none⟩) 32 32)) (by (with_reducible repeat (first | apply Kd.R_alloc | apply Kd.R_drewN | apply Kd.R_drew)); exact HO_7.out) (Kd.R_typed HO_5.out) (by decide) hg); have n2_ := Aside0.mk (Kd.R_over' (v := (.slice (some ⟨ga324, 0, none⟩) 32 32)) (by (with_reducible repeat (first | apply Kd.R_alloc | apply Kd.R_drewN | apply Kd.R_drew)); exact HO_8.out) (Kd.R_typed HO_5.out) (by decide) hg); have n3_ := Aside0.mk ((by rw [hw]; exact below_set (HB.out) GB58.out : Below w.heap.size w w66)); clear HO_5; clear HO_7; clear HO_8; clear HB; have HO_5 := n0_; have HO_7 := n1_; have HO_8 := n2_; have HB := n3_; clear n0_ n1_ n2_ n3_; clear hg hw hp_) | ((with_reducible refine gate_dst (N := 88) rfl ?_); refine ari_load ?hg (T := 22) (p := 5) ?ho (g := ga324) (n := 32) (base := w.heap.size) (ok := fun _ => True) (xs := y340) ?hp ?hR (by decide) hu22 ?hi ?_; (case hg => rfl); (case ho => rfl); (case hp => rfl); (case hR => (with_reducible repeat (first | apply Kd.R_alloc | apply Kd.R_drewN | apply Kd.R_drew)); exact HO_5.out); (case hi => kernel_rfl)) | ((with_reducible refine gate_callee (f := 8) rfl ?_); refine goesL_ (some 89) rfl rfl Tryd.func8 (by kernel_rfl) rfl #[.slice Ao64 t326.length co64, .agg (nums .i64 y340).toArray] rfl (by (try simp only [List.map_toArray, List.map_cons, List.map_nil]); first | done | rfl) ?_; (with_reducible refine (spinnakerref09_Does.calls k3 _ _ t326 y340 t341 _ ?side1 ?side2 ?side3 A59.out).mono ?_); (case side1 => repeat (first | exact (Kd.R_reads' HO_7.out).2.2 | (with_reducible refine Kd.C_alloc ?_ _) | (with_reducible refine Kd.C_drewN ?_ _) | (with_reducible refine Kd.C_drew ?_))); (case side2 => exact (Kd.R_reads' HO_7.out).2.1); (case side3 => exact (ari_full HO_5.out (by decide)).2.2.2); rintro e w67 ⟨rfl, hl_, hb⟩; refine ⟨_, rfl, ?_⟩; have HL9 := Aside0.mk hl_; have n0_ := Aside0.mk (Kd.R_below (by (with_reducible repeat (first | apply Kd.R_alloc | apply Kd.R_drewN | apply Kd.R_drew)); exact HO_5.out) hb); have n1_ := Aside0.mk (Kd.R_below (by (with_reducible repeat (first | apply Kd.R_alloc | apply Kd.R_drewN | apply Kd.R_drew)); exact HO_7.out) hb); have n2_ := Aside0.mk (Kd.R_below (by (with_reducible repeat (first | apply Kd.R_alloc | apply Kd.R_drewN | apply Kd.R_drew)); exact HO_8.out) hb); have n3_ := Aside0.mk (below_step bl hb); clear HO_5; clear HO_7; clear HO_8; clear HB; have HO_5 := n0_; have HO_7 := n1_; have HO_8 := n2_; have HB := n3_; clear n0_ n1_ n2_ n3_; clear hb hl_) | ((with_reducible refine gate_dst (N := 10) rfl ?_); refine ari_lit ?hg (N := 10) ?hd ?hg2 ?hn2 22 (.tmp 89) ?ho2 t341 32 HL9.out (by decide) ?hr ?hev ?hx ?ht rfl ?_; (case hd => rfl); (case hg => rfl); (case hg2 => rfl); (case hn2 => rfl); (case ho2 => rfl); (case hev => intro g_; first | rfl | (go_simp; done) | (go_simp; rfl)); (case hx => intro g_; first | rfl | (go_simp; done) | (go_simp; rfl)); (case ht => rw [HL9.out]; kernel_rfl); (case hr => rw [HL9.out]; first | (go_simp; done) | (go_simp; rfl)); intro gan w67a ho hb hg_ hnew_; have HNE := Aside0.mk (show gan ≠ ga324 by have := (ari_full HO_5.out (by decide)).2.1; omega); have HO9 := Aside0.mk (Kd.R_lower ho (below_size bl)); have n0_ := Aside0.mk (Kd.R_below (by (with_reducible repeat (first | apply Kd.R_alloc | apply Kd.R_drewN | apply Kd.R_drew)); exact HO_5.out) hb); have n1_ := Aside0.mk (Kd.R_below (by (with_reducible repeat (first | apply Kd.R_alloc | apply Kd.R_drewN | apply Kd.R_drew)); exact HO_7.out) hb); have n2_ := Aside0.mk (Kd.R_below (by (with_reducible repeat (first | apply Kd.R_alloc | apply Kd.R_drewN | apply Kd.R_drew)); exact HO_8.out) hb); have n3_ := Aside0.mk (below_step bl hb); clear HO_5; clear HO_7; clear HO_8; clear HB; have HO_5 := n0_; have HO_7 := n1_; have HO_8 := n2_; have HB := n3_; clear n0_ n1_ n2_ n3_; clear ho hb hg_ hnew_) | ((with_reducible refine gate_dst (N := 95) rfl ?_); refine ari_load ?hg (T := 22) (p := 10) ?ho (g := gan) (n := 32) (base := w.heap.size) (ok := fun _ => True) (xs := t341) ?hp ?hR (by decide) hu22 ?hi ?_; (case hg => rfl); (case ho => rfl); (case hp => rfl); (case hR => (with_reducible repeat (first | apply Kd.R_alloc | apply Kd.R_drewN | apply Kd.R_drew)); exact HO9.out); (case hi => kernel_rfl)) | ((with_reducible refine gate_dst (N := 96) rfl ?_); refine ari_load ?hg (T := 22) (p := 5) ?ho (g := ga324) (n := 32) (base := w.heap.size) (ok := fun _ => True) (xs := y340) ?hp ?hR (by decide) hu22 ?hi ?_; (case hg => rfl); (case ho => rfl); (case hp => rfl); (case hR => (with_reducible repeat (first | apply Kd.R_alloc | apply Kd.R_drewN | apply Kd.R_drew)); exact HO_5.out); (case hi => kernel_rfl)) | ((with_reducible refine gate_dst (N := 97) rfl ?_); refine ari_eq ?hg (T := 22) (E := 3) (R := 22) (x := .tmp 95) (y := .tmp 96) ?ho (xs := t341) (ys := y340) (n := 32) ?hx ?hy HL9.out (ari_full HO_5.out (by decide)).2.2.2 ?hm hu22 Tryd.underlying3 ?hi (r := true) (Option.some.inj A61.out) ?_; (case hg => rfl); (case ho => rfl); (case hx => rfl); (case hy => rfl); (case hm => kernel_rfl); (case hi => kernel_rfl)) | (go_at_call 5; (with_reducible refine (spinnakerlaw09_awake.calls k3  t345 _ (by first | exact HL.out | exact laid_drewN HL.out | exact laid_below HL.out bl | exact laid_below HL.out HB.out | exact laid_belowd HL.out HB.out) A63.out).mono ?_); rintro e w69 ⟨rfl, hb⟩; have n0_ := Aside0.mk (Kd.R_below (by (with_reducible repeat (first | apply Kd.R_alloc | apply Kd.R_drewN | apply Kd.R_drew)); exact HO_5.out) hb); have n1_ := Aside0.mk (Kd.R_below (by (with_reducible repeat (first | apply Kd.R_alloc | apply Kd.R_drewN | apply Kd.R_drew)); exact HO_7.out) hb); have n2_ := Aside0.mk (Kd.R_below (by (with_reducible repeat (first | apply Kd.R_alloc | apply Kd.R_drewN | apply Kd.R_drew)); exact HO_8.out) hb); have n3_ := Aside0.mk (Kd.R_below (by (with_reducible repeat (first | apply Kd.R_alloc | apply Kd.R_drewN | apply Kd.R_drew)); exact HO9.out) hb); have n4_ := Aside0.mk (below_step bl hb); clear HO_5; clear HO_7; clear HO_8; clear HO9; clear HB; have HO_5 := n0_; have HO_7 := n1_; have HO_8 := n2_; have HO9 := n3_; have HB := n4_; clear n0_ n1_ n2_ n3_ n4_; (try clear hb)))
              go_ret
              exact ⟨fi, bl⟩
             ·replace c62 := Bool.eq_false_iff.mpr c62
              subst c62
              have H1 : (some false) = some r := by rw [if_neg (show ¬ (false = true) by decide)] at H; exact H
              clear H
              have H := H1
              clear H1
              obtain rfl := Option.some.inj H
              obtain ⟨Ao70, co70, eo70⟩ := Kd.R_slice HO_7.out
              subst eo70
              have p58 : 0 ≤ (0 : Int) := (by omega)
              have q58 : (0 : Int) < ((y323.length : Int) : Int) := of_decide_eq_true (by first | (with_reducible assumption) | assumption)
              have qi58 : (0 < y323.length) = True := eq_true (by omega)
              obtain ⟨gb58, cl58, HG58⟩ := ari_base HO_5.out (by omega)
              have GB58 := Aside0.mk gb58
              have GG58 := Aside0.mk HG58
              clear gb58 HG58
              obtain ⟨hx58_0, hf58_0, qa58⟩ := ari_cell HO_5.out (0 : Int) p58 q58
              rw [show ((32 : Nat) : Int) = 32 from rfl] at qa58
              (try rw [show ((0 : Int)).toNat = 0 from rfl] at hx58_0)
              (try simp only [Nat.reduceMul, Nat.zero_mul, Nat.zero_add, Nat.reduceAdd] at hx58_0)
              (try rw [show ((0 : Int)).toNat = 0 from rfl] at hf58_0)
              (try simp only [Nat.reduceMul, Nat.zero_mul, Nat.zero_add, Nat.reduceAdd] at hf58_0)
              replace p58 := eq_true p58
              replace q58 := eq_true q58
              have HP71 := Kd.R_putg HO_5.out (0 : Int) 0
              go_wp2_with (first | ((with_reducible refine gate_store (t := 3) (p := 86) rfl ?_); refine store_event (t := 3) (p := 86) (v := ?vo_w72) (w1 := (wr.setCell ⟨ga324, (0 : Int).toNat, none⟩ (.int .i64 0))) ?hg ?ho ?hn ?hr ?_; (case ho => rfl); (case hg => rfl); (case hn => rfl); (case hr => first | (go_simp; done) | (go_simp; rfl)); intro w72 hw; have hg : wr.grownBy w72 (some ga324) := (by rw [hw]; exact HP71.2); have hp_ : Kd.R (Kd.int .i64) 22 w72 w.heap.size (fun _ => True) (.slice (some ⟨ga324, 0, none⟩) 32 32) y340 := (by rw [hw, Ny340.out]; exact HP71.1); clear HP71; have n0_ := Aside0.mk (hp_); have n1_ := Aside0.mk (Kd.R_over' (v := (.slice (some ⟨ga324, 0, none⟩) 32 32)) (by (with_reducible repeat (first | apply Kd.R_alloc | apply Kd.R_drewN | apply Kd.R_drew)); exact HO_7.out) (Kd.R_typed HO_5.out) (by decide) hg); have n2_ := Aside0.mk (Kd.R_over' (v := (.slice (some ⟨ga324, 0, none⟩) 32 32)) (by (with_reducible repeat (first | apply Kd.R_alloc | apply Kd.R_drewN | apply Kd.R_drew)); exact HO_8.out) (Kd.R_typed HO_5.out) (by decide) hg); have n3_ := Aside0.mk ((by rw [hw]; exact below_set (HB.out) GB58.out : Below w.heap.size w w72)); clear HO_5; clear HO_7; clear HO_8; clear HB; have HO_5 := n0_; have HO_7 := n1_; have HO_8 := n2_; have HB := n3_; clear n0_ n1_ n2_ n3_; clear hg hw hp_) | ((with_reducible refine gate_dst (N := 88) rfl ?_); refine ari_load ?hg (T := 22) (p := 5) ?ho (g := ga324) (n := 32) (base := w.heap.size) (ok := fun _ => True) (xs := y340) ?hp ?hR (by decide) hu22 ?hi ?_; (case hg => rfl); (case ho => rfl); (case hp => rfl); (case hR => (with_reducible repeat (first | apply Kd.R_alloc | apply Kd.R_drewN | apply Kd.R_drew)); exact HO_5.out); (case hi => kernel_rfl)) | ((with_reducible refine gate_callee (f := 8) rfl ?_); refine goesL_ (some 89) rfl rfl Tryd.func8 (by kernel_rfl) rfl #[.slice Ao70 t326.length co70, .agg (nums .i64 y340).toArray] rfl (by (try simp only [List.map_toArray, List.map_cons, List.map_nil]); first | done | rfl) ?_; (with_reducible refine (spinnakerref09_Does.calls k3 _ _ t326 y340 t341 _ ?side1 ?side2 ?side3 A59.out).mono ?_); (case side1 => repeat (first | exact (Kd.R_reads' HO_7.out).2.2 | (with_reducible refine Kd.C_alloc ?_ _) | (with_reducible refine Kd.C_drewN ?_ _) | (with_reducible refine Kd.C_drew ?_))); (case side2 => exact (Kd.R_reads' HO_7.out).2.1); (case side3 => exact (ari_full HO_5.out (by decide)).2.2.2); rintro e w73 ⟨rfl, hl_, hb⟩; refine ⟨_, rfl, ?_⟩; have HL9 := Aside0.mk hl_; have n0_ := Aside0.mk (Kd.R_below (by (with_reducible repeat (first | apply Kd.R_alloc | apply Kd.R_drewN | apply Kd.R_drew)); exact HO_5.out) hb); have n1_ := Aside0.mk (Kd.R_below (by (with_reducible repeat (first | apply Kd.R_alloc | apply Kd.R_drewN | apply Kd.R_drew)); exact HO_7.out) hb); have n2_ := Aside0.mk (Kd.R_below (by (with_reducible repeat (first | apply Kd.R_alloc | apply Kd.R_drewN | apply Kd.R_drew)); exact HO_8.out) hb); have n3_ := Aside0.mk (below_step bl hb); clear HO_5; clear HO_7; clear HO_8; clear HB; have HO_5 := n0_; have HO_7 := n1_; have HO_8 := n2_; have HB := n3_; clear n0_ n1_ n2_ n3_; clear hb hl_) | ((with_reducible refine gate_dst (N := 10) rfl ?_); refine ari_lit ?hg (N := 10) ?hd ?hg2 ?hn2 22 (.tmp 89) ?ho2 t341 32 HL9.out (by decide) ?hr ?hev ?hx ?ht rfl ?_; (case hd => rfl); (case hg => rfl); (case hg2 => rfl); (case hn2 => rfl); (case ho2 => rfl); (case hev => intro g_; first | rfl | (go_simp; done) | (go_simp; rfl)); (case hx => intro g_; first | rfl | (go_simp; done) | (go_simp; rfl)); (case ht => rw [HL9.out]; kernel_rfl); (case hr => rw [HL9.out]; first | (go_simp; done) | (go_simp; rfl)); intro gan w73a ho hb hg_ hnew_; have HNE := Aside0.mk (show gan ≠ ga324 by have := (ari_full HO_5.out (by decide)).2.1; omega); have HO9 := Aside0.mk (Kd.R_lower ho (below_size bl)); have n0_ := Aside0.mk (Kd.R_below (by (with_reducible repeat (first | apply Kd.R_alloc | apply Kd.R_drewN | apply Kd.R_drew)); exact HO_5.out) hb); have n1_ := Aside0.mk (Kd.R_below (by (with_reducible repeat (first | apply Kd.R_alloc | apply Kd.R_drewN | apply Kd.R_drew)); exact HO_7.out) hb); have n2_ := Aside0.mk (Kd.R_below (by (with_reducible repeat (first | apply Kd.R_alloc | apply Kd.R_drewN | apply Kd.R_drew)); exact HO_8.out) hb); have n3_ := Aside0.mk (below_step bl hb); clear HO_5; clear HO_7; clear HO_8; clear HB; have HO_5 := n0_; have HO_7 := n1_; have HO_8 := n2_; have HB := n3_; clear n0_ n1_ n2_ n3_; clear ho hb hg_ hnew_) | ((with_reducible refine gate_dst (N := 95) rfl ?_); refine ari_load ?hg (T := 22) (p := 10) ?ho (g := gan) (n := 32) (base := w.heap.size) (ok := fun _ => True) (xs := t341) ?hp ?hR (by decide) hu22 ?hi ?_; (case hg => rfl); (case ho => rfl); (case hp => rfl); (case hR => (with_reducible repeat (first | apply Kd.R_alloc | apply Kd.R_drewN | apply Kd.R_drew)); exact HO9.out); (case hi => kernel_rfl)) | ((with_reducible refine gate_dst (N := 96) rfl ?_); refine ari_load ?hg (T := 22) (p := 5) ?ho (g := ga324) (n := 32) (base := w.heap.size) (ok := fun _ => True) (xs := y340) ?hp ?hR (by decide) hu22 ?hi ?_; (case hg => rfl); (case ho => rfl); (case hp => rfl); (case hR => (with_reducible repeat (first | apply Kd.R_alloc | apply Kd.R_drewN | apply Kd.R_drew)); exact HO_5.out); (case hi => kernel_rfl)) | ((with_reducible refine gate_dst (N := 97) rfl ?_); refine ari_eq ?hg (T := 22) (E := 3) (R := 22) (x := .tmp 95) (y := .tmp 96) ?ho (xs := t341) (ys := y340) (n := 32) ?hx ?hy HL9.out (ari_full HO_5.out (by decide)).2.2.2 ?hm hu22 Tryd.underlying3 ?hi (r := false) (Option.some.inj A61.out) ?_; (case hg => rfl); (case ho => rfl); (case hx => rfl); (case hy => rfl); (case hm => kernel_rfl); (case hi => kernel_rfl)))
              go_ret
              exact ⟨fi, bl⟩
            ·rw [if_neg c60] at H
             have c60b0 : (a0 == 0) = false := beq_eq_false_iff_ne.mpr c60
             have c60b1 : (a0 != 0) = true := bne_iff_ne.mpr c60
             by_cases c75 : 0 ≤ a0
             ·rw [if_pos c75] at H
              have c75b0 := decide_eq_true c75
              clear c75
              by_cases c76 : a0 < (y323.length : Int)
              ·rw [if_pos c76] at H
               have c76b0 := decide_eq_true c76
               clear c76
               obtain ⟨y346, hy346⟩ : ∃ y_ : List Int, y_ = (y340.set (a0 : Int).toNat a1) := ⟨_, rfl⟩
               replace H : ((arr_same.f t341 y346).bind fun t347 => (if t347 = true then ((spinnakerlaw09_awake.f k3).bind fun t348 => (some t348)) else (some false))) = some r := by first | (rw [hy346]; with_reducible exact H) | (have H2_ := (Option.bind_some _ _).symm.trans H; rw [hy346]; with_reducible exact H2_) | (have H2_ := (Option.bind_some _ _).symm.trans H; with_reducible exact H2_) | with_reducible exact H | (rw [hy346]; exact H) | exact H
               have Ny346 := Aside0.mk hy346
               clear hy346
               replace H := be H
               obtain ⟨t347, A78, H⟩ := H
               by_cases c79 : t347 = true
               ·subst c79
                have H1 : ((spinnakerlaw09_awake.f k3).bind fun t348 => (some t348)) = some r := by rw [if_pos rfl] at H; exact H
                clear H
                have H := H1
                clear H1
                replace H := be H
                obtain ⟨t348, A80, H⟩ := H
                obtain rfl := Option.some.inj H
                obtain ⟨Ao81, co81, eo81⟩ := Kd.R_slice HO_7.out
                subst eo81
                have p58 : 0 ≤ (0 : Int) := (by omega)
                have q58 : (0 : Int) < ((y323.length : Int) : Int) := of_decide_eq_true (by first | (with_reducible assumption) | assumption)
                have qi58 : (0 < y323.length) = True := eq_true (by omega)
                obtain ⟨gb58, cl58, HG58⟩ := ari_base HO_5.out (by omega)
                have GB58 := Aside0.mk gb58
                have GG58 := Aside0.mk HG58
                clear gb58 HG58
                obtain ⟨hx58_0, hf58_0, qa58⟩ := ari_cell HO_5.out (0 : Int) p58 q58
                rw [show ((32 : Nat) : Int) = 32 from rfl] at qa58
                (try rw [show ((0 : Int)).toNat = 0 from rfl] at hx58_0)
                (try simp only [Nat.reduceMul, Nat.zero_mul, Nat.zero_add, Nat.reduceAdd] at hx58_0)
                (try rw [show ((0 : Int)).toNat = 0 from rfl] at hf58_0)
                (try simp only [Nat.reduceMul, Nat.zero_mul, Nat.zero_add, Nat.reduceAdd] at hf58_0)
                replace p58 := eq_true p58
                replace q58 := eq_true q58
                have HP82 := Kd.R_putg HO_5.out (0 : Int) 0
                go_wp2_with (first | ((with_reducible refine gate_store (t := 3) (p := 86) rfl ?_); refine store_event (t := 3) (p := 86) (v := ?vo_w83) (w1 := (wr.setCell ⟨ga324, (0 : Int).toNat, none⟩ (.int .i64 0))) ?hg ?ho ?hn ?hr ?_; (case ho => rfl); (case hg => rfl); (case hn => rfl); (case hr => first | (go_simp; done) | (go_simp; rfl)); intro w83 hw; have hg : wr.grownBy w83 (some ga324) := (by rw [hw]; exact HP82.2); have hp_ : Kd.R (Kd.int .i64) 22 w83 w.heap.size (fun _ => True) (.slice (some ⟨ga324, 0, none⟩) 32 32) y340 := (by rw [hw, Ny340.out]; exact HP82.1); clear HP82; have n0_ := Aside0.mk (hp_); have n1_ := Aside0.mk (Kd.R_over' (v := (.slice (some ⟨ga324, 0, none⟩) 32 32)) (by (with_reducible repeat (first | apply Kd.R_alloc | apply Kd.R_drewN | apply Kd.R_drew)); exact HO_7.out) (Kd.R_typed HO_5.out) (by decide) hg); have n2_ := Aside0.mk (Kd.R_over' (v := (.slice (some ⟨ga324, 0, none⟩) 32 32)) (by (with_reducible repeat (first | apply Kd.R_alloc | apply Kd.R_drewN | apply Kd.R_drew)); exact HO_8.out) (Kd.R_typed HO_5.out) (by decide) hg); have n3_ := Aside0.mk ((by rw [hw]; exact below_set (HB.out) GB58.out : Below w.heap.size w w83)); clear HO_5; clear HO_7; clear HO_8; clear HB; have HO_5 := n0_; have HO_7 := n1_; have HO_8 := n2_; have HB := n3_; clear n0_ n1_ n2_ n3_; clear hg hw hp_) | ((with_reducible refine gate_dst (N := 88) rfl ?_); refine ari_load ?hg (T := 22) (p := 5) ?ho (g := ga324) (n := 32) (base := w.heap.size) (ok := fun _ => True) (xs := y340) ?hp ?hR (by decide) hu22 ?hi ?_; (case hg => rfl); (case ho => rfl); (case hp => rfl); (case hR => (with_reducible repeat (first | apply Kd.R_alloc | apply Kd.R_drewN | apply Kd.R_drew)); exact HO_5.out); (case hi => kernel_rfl)) | ((with_reducible refine gate_callee (f := 8) rfl ?_); refine goesL_ (some 89) rfl rfl Tryd.func8 (by kernel_rfl) rfl #[.slice Ao81 t326.length co81, .agg (nums .i64 y340).toArray] rfl (by (try simp only [List.map_toArray, List.map_cons, List.map_nil]); first | done | rfl) ?_; (with_reducible refine (spinnakerref09_Does.calls k3 _ _ t326 y340 t341 _ ?side1 ?side2 ?side3 A59.out).mono ?_); (case side1 => repeat (first | exact (Kd.R_reads' HO_7.out).2.2 | (with_reducible refine Kd.C_alloc ?_ _) | (with_reducible refine Kd.C_drewN ?_ _) | (with_reducible refine Kd.C_drew ?_))); (case side2 => exact (Kd.R_reads' HO_7.out).2.1); (case side3 => exact (ari_full HO_5.out (by decide)).2.2.2); rintro e w84 ⟨rfl, hl_, hb⟩; refine ⟨_, rfl, ?_⟩; have HL9 := Aside0.mk hl_; have n0_ := Aside0.mk (Kd.R_below (by (with_reducible repeat (first | apply Kd.R_alloc | apply Kd.R_drewN | apply Kd.R_drew)); exact HO_5.out) hb); have n1_ := Aside0.mk (Kd.R_below (by (with_reducible repeat (first | apply Kd.R_alloc | apply Kd.R_drewN | apply Kd.R_drew)); exact HO_7.out) hb); have n2_ := Aside0.mk (Kd.R_below (by (with_reducible repeat (first | apply Kd.R_alloc | apply Kd.R_drewN | apply Kd.R_drew)); exact HO_8.out) hb); have n3_ := Aside0.mk (below_step bl hb); clear HO_5; clear HO_7; clear HO_8; clear HB; have HO_5 := n0_; have HO_7 := n1_; have HO_8 := n2_; have HB := n3_; clear n0_ n1_ n2_ n3_; clear hb hl_) | ((with_reducible refine gate_dst (N := 10) rfl ?_); refine ari_lit ?hg (N := 10) ?hd ?hg2 ?hn2 22 (.tmp 89) ?ho2 t341 32 HL9.out (by decide) ?hr ?hev ?hx ?ht rfl ?_; (case hd => rfl); (case hg => rfl); (case hg2 => rfl); (case hn2 => rfl); (case ho2 => rfl); (case hev => intro g_; first | rfl | (go_simp; done) | (go_simp; rfl)); (case hx => intro g_; first | rfl | (go_simp; done) | (go_simp; rfl)); (case ht => rw [HL9.out]; kernel_rfl); (case hr => rw [HL9.out]; first | (go_simp; done) | (go_simp; rfl)); intro gan w84a ho hb hg_ hnew_; have HNE := Aside0.mk (show gan ≠ ga324 by have := (ari_full HO_5.out (by decide)).2.1; omega); have HO9 := Aside0.mk (Kd.R_lower ho (below_size bl)); have n0_ := Aside0.mk (Kd.R_below (by (with_reducible repeat (first | apply Kd.R_alloc | apply Kd.R_drewN | apply Kd.R_drew)); exact HO_5.out) hb); have n1_ := Aside0.mk (Kd.R_below (by (with_reducible repeat (first | apply Kd.R_alloc | apply Kd.R_drewN | apply Kd.R_drew)); exact HO_7.out) hb); have n2_ := Aside0.mk (Kd.R_below (by (with_reducible repeat (first | apply Kd.R_alloc | apply Kd.R_drewN | apply Kd.R_drew)); exact HO_8.out) hb); have n3_ := Aside0.mk (below_step bl hb); clear HO_5; clear HO_7; clear HO_8; clear HB; have HO_5 := n0_; have HO_7 := n1_; have HO_8 := n2_; have HB := n3_; clear n0_ n1_ n2_ n3_; clear ho hb hg_ hnew_; have p77 : 0 ≤ (a0 : Int) := of_decide_eq_true (by first | (with_reducible assumption) | assumption); have q77 : (a0 : Int) < ((y323.length : Int) : Int) := of_decide_eq_true (by first | (with_reducible assumption) | assumption); obtain ⟨hx77_0, hf77_0, qa77⟩ := ari_cell HO_5.out (a0 : Int) p77 (by rw [Ny340.out, List.length_set]; exact q77); rw [show ((32 : Nat) : Int) = 32 from rfl] at qa77; replace p77 := eq_true p77; replace q77 := eq_true q77; obtain ⟨hy85_, hz85_, _⟩ := ari_cell HO_5.out (a0 : Int) (of_decide_eq_true (by first | (with_reducible assumption) | assumption)) (by rw [Ny340.out, List.length_set]; exact of_decide_eq_true (by first | (with_reducible assumption) | assumption)); have HP85 := Kd.R_putg HO_5.out (a0 : Int) a1) | ((with_reducible refine gate_store (t := 3) (p := 94) rfl ?_); refine store_event (t := 3) (p := 94) (v := ?vo_w86) (w1 := (w84a.setCell ⟨ga324, (a0 : Int).toNat, none⟩ (.int .i64 a1))) ?hg ?ho ?hn ?hr ?_; (case ho => rfl); (case hg => rfl); (case hn => rfl); (case hr => first | (go_simp; done) | (go_simp; rfl)); intro w86 hw; have hg : w84a.grownBy w86 (some ga324) := (by rw [hw]; exact HP85.2); have hp_ : Kd.R (Kd.int .i64) 22 w86 w.heap.size (fun _ => True) (.slice (some ⟨ga324, 0, none⟩) 32 32) y346 := (by rw [hw, Ny346.out]; exact HP85.1); clear HP85; have n0_ := Aside0.mk (hp_); have n1_ := Aside0.mk (Kd.R_over' (v := (.slice (some ⟨ga324, 0, none⟩) 32 32)) (by (with_reducible repeat (first | apply Kd.R_alloc | apply Kd.R_drewN | apply Kd.R_drew)); exact HO_7.out) (Kd.R_typed HO_5.out) (by decide) hg); have n2_ := Aside0.mk (Kd.R_over' (v := (.slice (some ⟨ga324, 0, none⟩) 32 32)) (by (with_reducible repeat (first | apply Kd.R_alloc | apply Kd.R_drewN | apply Kd.R_drew)); exact HO_8.out) (Kd.R_typed HO_5.out) (by decide) hg); have n3_ := Aside0.mk (ari_other HO9.out hg HNE.out (by decide) (by decide)); have n4_ := Aside0.mk ((by rw [hw]; exact below_set (HB.out) GB58.out : Below w.heap.size w w86)); clear HO_5; clear HO_7; clear HO_8; clear HO9; clear HB; have HO_5 := n0_; have HO_7 := n1_; have HO_8 := n2_; have HO9 := n3_; have HB := n4_; clear n0_ n1_ n2_ n3_ n4_; clear hg hw hp_) | ((with_reducible refine gate_dst (N := 95) rfl ?_); refine ari_load ?hg (T := 22) (p := 10) ?ho (g := gan) (n := 32) (base := w.heap.size) (ok := fun _ => True) (xs := t341) ?hp ?hR (by decide) hu22 ?hi ?_; (case hg => rfl); (case ho => rfl); (case hp => rfl); (case hR => (with_reducible repeat (first | apply Kd.R_alloc | apply Kd.R_drewN | apply Kd.R_drew)); exact HO9.out); (case hi => kernel_rfl)) | ((with_reducible refine gate_dst (N := 96) rfl ?_); refine ari_load ?hg (T := 22) (p := 5) ?ho (g := ga324) (n := 32) (base := w.heap.size) (ok := fun _ => True) (xs := y346) ?hp ?hR (by decide) hu22 ?hi ?_; (case hg => rfl); (case ho => rfl); (case hp => rfl); (case hR => (with_reducible repeat (first | apply Kd.R_alloc | apply Kd.R_drewN | apply Kd.R_drew)); exact HO_5.out); (case hi => kernel_rfl)) | ((with_reducible refine gate_dst (N := 97) rfl ?_); refine ari_eq ?hg (T := 22) (E := 3) (R := 22) (x := .tmp 95) (y := .tmp 96) ?ho (xs := t341) (ys := y346) (n := 32) ?hx ?hy HL9.out (ari_full HO_5.out (by decide)).2.2.2 ?hm hu22 Tryd.underlying3 ?hi (r := true) (Option.some.inj A78.out) ?_; (case hg => rfl); (case ho => rfl); (case hx => rfl); (case hy => rfl); (case hm => kernel_rfl); (case hi => kernel_rfl)) | (go_at_call 5; (with_reducible refine (spinnakerlaw09_awake.calls k3  t348 _ (by first | exact HL.out | exact laid_drewN HL.out | exact laid_below HL.out bl | exact laid_below HL.out HB.out | exact laid_belowd HL.out HB.out) A80.out).mono ?_); rintro e w88 ⟨rfl, hb⟩; have n0_ := Aside0.mk (Kd.R_below (by (with_reducible repeat (first | apply Kd.R_alloc | apply Kd.R_drewN | apply Kd.R_drew)); exact HO_5.out) hb); have n1_ := Aside0.mk (Kd.R_below (by (with_reducible repeat (first | apply Kd.R_alloc | apply Kd.R_drewN | apply Kd.R_drew)); exact HO_7.out) hb); have n2_ := Aside0.mk (Kd.R_below (by (with_reducible repeat (first | apply Kd.R_alloc | apply Kd.R_drewN | apply Kd.R_drew)); exact HO_8.out) hb); have n3_ := Aside0.mk (Kd.R_below (by (with_reducible repeat (first | apply Kd.R_alloc | apply Kd.R_drewN | apply Kd.R_drew)); exact HO9.out) hb); have n4_ := Aside0.mk (below_step bl hb); clear HO_5; clear HO_7; clear HO_8; clear HO9; clear HB; have HO_5 := n0_; have HO_7 := n1_; have HO_8 := n2_; have HO9 := n3_; have HB := n4_; clear n0_ n1_ n2_ n3_ n4_; (try clear hb)))
                go_ret
                exact ⟨fi, bl⟩
               ·replace c79 := Bool.eq_false_iff.mpr c79
                subst c79
                have H1 : (some false) = some r := by rw [if_neg (show ¬ (false = true) by decide)] at H; exact H
                clear H
                have H := H1
                clear H1
                obtain rfl := Option.some.inj H
                obtain ⟨Ao89, co89, eo89⟩ := Kd.R_slice HO_7.out
                subst eo89
                have p58 : 0 ≤ (0 : Int) := (by omega)
                have q58 : (0 : Int) < ((y323.length : Int) : Int) := of_decide_eq_true (by first | (with_reducible assumption) | assumption)
                have qi58 : (0 < y323.length) = True := eq_true (by omega)
                obtain ⟨gb58, cl58, HG58⟩ := ari_base HO_5.out (by omega)
                have GB58 := Aside0.mk gb58
                have GG58 := Aside0.mk HG58
                clear gb58 HG58
                obtain ⟨hx58_0, hf58_0, qa58⟩ := ari_cell HO_5.out (0 : Int) p58 q58
                rw [show ((32 : Nat) : Int) = 32 from rfl] at qa58
                (try rw [show ((0 : Int)).toNat = 0 from rfl] at hx58_0)
                (try simp only [Nat.reduceMul, Nat.zero_mul, Nat.zero_add, Nat.reduceAdd] at hx58_0)
                (try rw [show ((0 : Int)).toNat = 0 from rfl] at hf58_0)
                (try simp only [Nat.reduceMul, Nat.zero_mul, Nat.zero_add, Nat.reduceAdd] at hf58_0)
                replace p58 := eq_true p58
                replace q58 := eq_true q58
                have HP90 := Kd.R_putg HO_5.out (0 : Int) 0
                go_wp2_with (first | ((with_reducible refine gate_store (t := 3) (p := 86) rfl ?_); refine store_event (t := 3) (p := 86) (v := ?vo_w91) (w1 := (wr.setCell ⟨ga324, (0 : Int).toNat, none⟩ (.int .i64 0))) ?hg ?ho ?hn ?hr ?_; (case ho => rfl); (case hg => rfl); (case hn => rfl); (case hr => first | (go_simp; done) | (go_simp; rfl)); intro w91 hw; have hg : wr.grownBy w91 (some ga324) := (by rw [hw]; exact HP90.2); have hp_ : Kd.R (Kd.int .i64) 22 w91 w.heap.size (fun _ => True) (.slice (some ⟨ga324, 0, none⟩) 32 32) y340 := (by rw [hw, Ny340.out]; exact HP90.1); clear HP90; have n0_ := Aside0.mk (hp_); have n1_ := Aside0.mk (Kd.R_over' (v := (.slice (some ⟨ga324, 0, none⟩) 32 32)) (by (with_reducible repeat (first | apply Kd.R_alloc | apply Kd.R_drewN | apply Kd.R_drew)); exact HO_7.out) (Kd.R_typed HO_5.out) (by decide) hg); have n2_ := Aside0.mk (Kd.R_over' (v := (.slice (some ⟨ga324, 0, none⟩) 32 32)) (by (with_reducible repeat (first | apply Kd.R_alloc | apply Kd.R_drewN | apply Kd.R_drew)); exact HO_8.out) (Kd.R_typed HO_5.out) (by decide) hg); have n3_ := Aside0.mk ((by rw [hw]; exact below_set (HB.out) GB58.out : Below w.heap.size w w91)); clear HO_5; clear HO_7; clear HO_8; clear HB; have HO_5 := n0_; have HO_7 := n1_; have HO_8 := n2_; have HB := n3_; clear n0_ n1_ n2_ n3_; clear hg hw hp_) | ((with_reducible refine gate_dst (N := 88) rfl ?_); refine ari_load ?hg (T := 22) (p := 5) ?ho (g := ga324) (n := 32) (base := w.heap.size) (ok := fun _ => True) (xs := y340) ?hp ?hR (by decide) hu22 ?hi ?_; (case hg => rfl); (case ho => rfl); (case hp => rfl); (case hR => (with_reducible repeat (first | apply Kd.R_alloc | apply Kd.R_drewN | apply Kd.R_drew)); exact HO_5.out); (case hi => kernel_rfl)) | ((with_reducible refine gate_callee (f := 8) rfl ?_); refine goesL_ (some 89) rfl rfl Tryd.func8 (by kernel_rfl) rfl #[.slice Ao89 t326.length co89, .agg (nums .i64 y340).toArray] rfl (by (try simp only [List.map_toArray, List.map_cons, List.map_nil]); first | done | rfl) ?_; (with_reducible refine (spinnakerref09_Does.calls k3 _ _ t326 y340 t341 _ ?side1 ?side2 ?side3 A59.out).mono ?_); (case side1 => repeat (first | exact (Kd.R_reads' HO_7.out).2.2 | (with_reducible refine Kd.C_alloc ?_ _) | (with_reducible refine Kd.C_drewN ?_ _) | (with_reducible refine Kd.C_drew ?_))); (case side2 => exact (Kd.R_reads' HO_7.out).2.1); (case side3 => exact (ari_full HO_5.out (by decide)).2.2.2); rintro e w92 ⟨rfl, hl_, hb⟩; refine ⟨_, rfl, ?_⟩; have HL9 := Aside0.mk hl_; have n0_ := Aside0.mk (Kd.R_below (by (with_reducible repeat (first | apply Kd.R_alloc | apply Kd.R_drewN | apply Kd.R_drew)); exact HO_5.out) hb); have n1_ := Aside0.mk (Kd.R_below (by (with_reducible repeat (first | apply Kd.R_alloc | apply Kd.R_drewN | apply Kd.R_drew)); exact HO_7.out) hb); have n2_ := Aside0.mk (Kd.R_below (by (with_reducible repeat (first | apply Kd.R_alloc | apply Kd.R_drewN | apply Kd.R_drew)); exact HO_8.out) hb); have n3_ := Aside0.mk (below_step bl hb); clear HO_5; clear HO_7; clear HO_8; clear HB; have HO_5 := n0_; have HO_7 := n1_; have HO_8 := n2_; have HB := n3_; clear n0_ n1_ n2_ n3_; clear hb hl_) | ((with_reducible refine gate_dst (N := 10) rfl ?_); refine ari_lit ?hg (N := 10) ?hd ?hg2 ?hn2 22 (.tmp 89) ?ho2 t341 32 HL9.out (by decide) ?hr ?hev ?hx ?ht rfl ?_; (case hd => rfl); (case hg => rfl); (case hg2 => rfl); (case hn2 => rfl); (case ho2 => rfl); (case hev => intro g_; first | rfl | (go_simp; done) | (go_simp; rfl)); (case hx => intro g_; first | rfl | (go_simp; done) | (go_simp; rfl)); (case ht => rw [HL9.out]; kernel_rfl); (case hr => rw [HL9.out]; first | (go_simp; done) | (go_simp; rfl)); intro gan w92a ho hb hg_ hnew_; have HNE := Aside0.mk (show gan ≠ ga324 by have := (ari_full HO_5.out (by decide)).2.1; omega); have HO9 := Aside0.mk (Kd.R_lower ho (below_size bl)); have n0_ := Aside0.mk (Kd.R_below (by (with_reducible repeat (first | apply Kd.R_alloc | apply Kd.R_drewN | apply Kd.R_drew)); exact HO_5.out) hb); have n1_ := Aside0.mk (Kd.R_below (by (with_reducible repeat (first | apply Kd.R_alloc | apply Kd.R_drewN | apply Kd.R_drew)); exact HO_7.out) hb); have n2_ := Aside0.mk (Kd.R_below (by (with_reducible repeat (first | apply Kd.R_alloc | apply Kd.R_drewN | apply Kd.R_drew)); exact HO_8.out) hb); have n3_ := Aside0.mk (below_step bl hb); clear HO_5; clear HO_7; clear HO_8; clear HB; have HO_5 := n0_; have HO_7 := n1_; have HO_8 := n2_; have HB := n3_; clear n0_ n1_ n2_ n3_; clear ho hb hg_ hnew_; have p77 : 0 ≤ (a0 : Int) := of_decide_eq_true (by first | (with_reducible assumption) | assumption); have q77 : (a0 : Int) < ((y323.length : Int) : Int) := of_decide_eq_true (by first | (with_reducible assumption) | assumption); obtain ⟨hx77_0, hf77_0, qa77⟩ := ari_cell HO_5.out (a0 : Int) p77 (by rw [Ny340.out, List.length_set]; exact q77); rw [show ((32 : Nat) : Int) = 32 from rfl] at qa77; replace p77 := eq_true p77; replace q77 := eq_true q77; obtain ⟨hy93_, hz93_, _⟩ := ari_cell HO_5.out (a0 : Int) (of_decide_eq_true (by first | (with_reducible assumption) | assumption)) (by rw [Ny340.out, List.length_set]; exact of_decide_eq_true (by first | (with_reducible assumption) | assumption)); have HP93 := Kd.R_putg HO_5.out (a0 : Int) a1) | ((with_reducible refine gate_store (t := 3) (p := 94) rfl ?_); refine store_event (t := 3) (p := 94) (v := ?vo_w94) (w1 := (w92a.setCell ⟨ga324, (a0 : Int).toNat, none⟩ (.int .i64 a1))) ?hg ?ho ?hn ?hr ?_; (case ho => rfl); (case hg => rfl); (case hn => rfl); (case hr => first | (go_simp; done) | (go_simp; rfl)); intro w94 hw; have hg : w92a.grownBy w94 (some ga324) := (by rw [hw]; exact HP93.2); have hp_ : Kd.R (Kd.int .i64) 22 w94 w.heap.size (fun _ => True) (.slice (some ⟨ga324, 0, none⟩) 32 32) y346 := (by rw [hw, Ny346.out]; exact HP93.1); clear HP93; have n0_ := Aside0.mk (hp_); have n1_ := Aside0.mk (Kd.R_over' (v := (.slice (some ⟨ga324, 0, none⟩) 32 32)) (by (with_reducible repeat (first | apply Kd.R_alloc | apply Kd.R_drewN | apply Kd.R_drew)); exact HO_7.out) (Kd.R_typed HO_5.out) (by decide) hg); have n2_ := Aside0.mk (Kd.R_over' (v := (.slice (some ⟨ga324, 0, none⟩) 32 32)) (by (with_reducible repeat (first | apply Kd.R_alloc | apply Kd.R_drewN | apply Kd.R_drew)); exact HO_8.out) (Kd.R_typed HO_5.out) (by decide) hg); have n3_ := Aside0.mk (ari_other HO9.out hg HNE.out (by decide) (by decide)); have n4_ := Aside0.mk ((by rw [hw]; exact below_set (HB.out) GB58.out : Below w.heap.size w w94)); clear HO_5; clear HO_7; clear HO_8; clear HO9; clear HB; have HO_5 := n0_; have HO_7 := n1_; have HO_8 := n2_; have HO9 := n3_; have HB := n4_; clear n0_ n1_ n2_ n3_ n4_; clear hg hw hp_) | ((with_reducible refine gate_dst (N := 95) rfl ?_); refine ari_load ?hg (T := 22) (p := 10) ?ho (g := gan) (n := 32) (base := w.heap.size) (ok := fun _ => True) (xs := t341) ?hp ?hR (by decide) hu22 ?hi ?_; (case hg => rfl); (case ho => rfl); (case hp => rfl); (case hR => (with_reducible repeat (first | apply Kd.R_alloc | apply Kd.R_drewN | apply Kd.R_drew)); exact HO9.out); (case hi => kernel_rfl)) | ((with_reducible refine gate_dst (N := 96) rfl ?_); refine ari_load ?hg (T := 22) (p := 5) ?ho (g := ga324) (n := 32) (base := w.heap.size) (ok := fun _ => True) (xs := y346) ?hp ?hR (by decide) hu22 ?hi ?_; (case hg => rfl); (case ho => rfl); (case hp => rfl); (case hR => (with_reducible repeat (first | apply Kd.R_alloc | apply Kd.R_drewN | apply Kd.R_drew)); exact HO_5.out); (case hi => kernel_rfl)) | ((with_reducible refine gate_dst (N := 97) rfl ?_); refine ari_eq ?hg (T := 22) (E := 3) (R := 22) (x := .tmp 95) (y := .tmp 96) ?ho (xs := t341) (ys := y346) (n := 32) ?hx ?hy HL9.out (ari_full HO_5.out (by decide)).2.2.2 ?hm hu22 Tryd.underlying3 ?hi (r := false) (Option.some.inj A78.out) ?_; (case hg => rfl); (case ho => rfl); (case hx => rfl); (case hy => rfl); (case hm => kernel_rfl); (case hi => kernel_rfl)))
                go_ret
                exact ⟨fi, bl⟩
              ·rw [if_neg c76] at H
               exact absurd H (by simp)
             ·rw [if_neg c75] at H
              exact absurd H (by simp)
           ·rw [if_neg c57] at H
            exact absurd H (by simp)
 ·rw [if_neg c4] at H
  exact absurd H (by simp)

end Go.Proofs.YtmkcnbaknnohgaaDoor.GUnitLoads
