-- Written by wip/stub.py of this repo.
import Derived.Test.YtbmjbidekmkboaaDoorGUnitExpandsx0
import Derived.Test.YtbmjbidekmkboaaDoorGUnitExpandsx2
import Derived.Test.YtbmjbidekmkboaaDoorGUnitExpandsx3
import Derived.Test.YtbmjbidekmkboaaDoorGUnitExpandsx13
namespace Go.Proofs.YtbmjbidekmkboaaDoor.GUnitExpands
open Go.RowKit Go.Proofs.YtbmjbidekmkboaaDoorW.PrintWords Go.Proofs.YtbmjbidekmkboaaDoorW.PrintLast Go.Proofs.YtbmjbidekmkboaaDoorW.PrintMore
attribute [local go_sem] max2_int min2_int max_two min_two max_three min_three max_four min_four   -- for this text's walks alone
set_option linter.unusedVariables false
set_option linter.unusedSimpArgs false

attribute [local go_sem high] eqA70
/-! ### unit_Expand: function 49 -/
mutual
def unit_Expand.l0 : Nat → List (S70) → List (S70) → Int → Int → Option ((List (S70)))
  | 0, _, _, _, _ => none
  | k + 1, x3, x8, x9, x10 => if x10 < x9 then (if 0 ≤ x10 then (if x10 < (x8.length : Int) then (if ((rd_T70 x8 x10).f0) = 4 then ((unit_Load.f k ((rd_T70 x8 x10).f1.f1) ((rd_T70 x8 x10).f2)).bind fun t241 => (unit_Expand.l1 k x3 x8 x9 x10 t241 (t241.length : Int) 0 ((rd_T70 x8 x10).f0) ((rd_T70 x8 x10).f1.f0) ((rd_T70 x8 x10).f1.f1) ((rd_T70 x8 x10).f1.f2) ((rd_T70 x8 x10).f1.f3) ((rd_T70 x8 x10).f1.f4) ((rd_T70 x8 x10).f1.f5) ((rd_T70 x8 x10).f1.f6) ((rd_T70 x8 x10).f2) ((rd_T70 x8 x10).f3))) else (if x3.length < 1954687338268 then (unit_Expand.l0 k (x3 ++ [(⟨(rd_T70 x8 x10).f0, (⟨(rd_T70 x8 x10).f1.f0, (rd_T70 x8 x10).f1.f1, (rd_T70 x8 x10).f1.f2, (rd_T70 x8 x10).f1.f3, (rd_T70 x8 x10).f1.f4, (rd_T70 x8 x10).f1.f5, (rd_T70 x8 x10).f1.f6⟩ : S51), (rd_T70 x8 x10).f2, (rd_T70 x8 x10).f3⟩ : S70)]) x8 x9 (wrap64 (x10 + 1))) else (none))) else (none)) else (none)) else (some x3)
def unit_Expand.l1 : Nat → List (S70) → List (S70) → Int → Int → List (S51) → Int → Int → Int → Int → Int → Int → Int → Int → Bool → Bool → Int → Int → Option ((List (S70)))
  | 0, _, _, _, _, _, _, _, _, _, _, _, _, _, _, _, _, _ => none
  | k + 1, x3, x8, x9, x10, x26, x27, x28, x238000, x238001, x238002, x238003, x238004, x238005, x238006, x238007, x238008, x238009 => if x28 < x27 then (if 0 ≤ x28 then (if x28 < (x26.length : Int) then ((unit_Instr.f ((rd_T51 x26 x28).f0) ((rd_T51 x26 x28).f1) ((rd_T51 x26 x28).f2) ((rd_T51 x26 x28).f3) ((rd_T51 x26 x28).f4) ((rd_T51 x26 x28).f5) ((rd_T51 x26 x28).f6) x238009).bind fun bt246 => (if x3.length < 1954687338268 then (unit_Expand.l1 k (x3 ++ [(⟨bt246.1, (⟨bt246.2.1, bt246.2.2.1, bt246.2.2.2.1, bt246.2.2.2.2.1, bt246.2.2.2.2.2.1, bt246.2.2.2.2.2.2.1, bt246.2.2.2.2.2.2.2.1⟩ : S51), bt246.2.2.2.2.2.2.2.2.1, bt246.2.2.2.2.2.2.2.2.2⟩ : S70)]) x8 x9 x10 x26 x27 (wrap64 (x28 + 1)) x238000 x238001 x238002 x238003 x238004 x238005 x238006 x238007 x238008 x238009) else (none))) else (none)) else (none)) else (unit_Expand.l0 k x3 x8 x9 (wrap64 (x10 + 1)))
end
def unit_Expand.f (k : Nat) (l0 : List (S70)) : Option ((List (S70))) := unit_Expand.l0 k ([] : List (S70)) l0 (l0.length : Int) 0
theorem unit_Expand.mono_l : ∀ k, (∀ y0 y1 y2 y3, LeO (unit_Expand.l0 k y0 y1 y2 y3) (unit_Expand.l0 (k + 1) y0 y1 y2 y3)) ∧ (∀ y0 y1 y2 y3 y4 y5 y6 y7 y8 y9 y10 y11 y12 y13 y14 y15 y16, LeO (unit_Expand.l1 k y0 y1 y2 y3 y4 y5 y6 y7 y8 y9 y10 y11 y12 y13 y14 y15 y16) (unit_Expand.l1 (k + 1) y0 y1 y2 y3 y4 y5 y6 y7 y8 y9 y10 y11 y12 y13 y14 y15 y16))
 | 0 => ⟨fun _ _ _ _ r h => by simp [unit_Expand.l0] at h, fun _ _ _ _ _ _ _ _ _ _ _ _ _ _ _ _ _ r h => by simp [unit_Expand.l1] at h⟩
 | k + 1 => by
  obtain ⟨ih0, ih1⟩ := unit_Expand.mono_l k
  refine ⟨?_, ?_⟩
  ·intro y0 y1 y2 y3
   unfold unit_Expand.l0
   repeat' first
   | (with_reducible exact ih0 _ _ _ _)
   | (with_reducible exact ih1 _ _ _ _ _ _ _ _ _ _ _ _ _ _ _ _ _)
   | (with_reducible exact unit_Load.mono _ _ _)
   | (with_reducible exact LeO.refl _)
   | (with_reducible exact LeO.none _)
   | (with_reducible refine LeO.ite ?_ ?_)
   | (with_reducible refine LeO.bind ?_ (fun _ => ?_))
   | exact ih0 _ _ _ _
   | exact ih1 _ _ _ _ _ _ _ _ _ _ _ _ _ _ _ _ _
   | exact unit_Load.mono _ _ _
   | exact LeO.none _
   | refine LeO.ite ?_ ?_
   | refine LeO.bind ?_ (fun _ => ?_)
  ·intro y0 y1 y2 y3 y4 y5 y6 y7 y8 y9 y10 y11 y12 y13 y14 y15 y16
   unfold unit_Expand.l1
   repeat' first
   | (with_reducible exact ih0 _ _ _ _)
   | (with_reducible exact ih1 _ _ _ _ _ _ _ _ _ _ _ _ _ _ _ _ _)
   | (with_reducible exact unit_Load.mono _ _ _)
   | (with_reducible exact LeO.refl _)
   | (with_reducible exact LeO.none _)
   | (with_reducible refine LeO.ite ?_ ?_)
   | (with_reducible refine LeO.bind ?_ (fun _ => ?_))
   | exact ih0 _ _ _ _
   | exact ih1 _ _ _ _ _ _ _ _ _ _ _ _ _ _ _ _ _
   | exact unit_Load.mono _ _ _
   | exact LeO.none _
   | refine LeO.ite ?_ ?_
   | refine LeO.bind ?_ (fun _ => ?_)
theorem unit_Expand.mono : ∀ a0 k, LeO (unit_Expand.f k a0) (unit_Expand.f (k + 1) a0) := by
 intro a0 k
 obtain ⟨ih0, ih1⟩ := unit_Expand.mono_l k
 unfold unit_Expand.f
 repeat' first
   | (with_reducible exact ih0 _ _ _ _)
   | (with_reducible exact ih1 _ _ _ _ _ _ _ _ _ _ _ _ _ _ _ _ _)
   | (with_reducible exact unit_Load.mono _ _ _)
   | (with_reducible exact LeO.refl _)
   | (with_reducible exact LeO.none _)
   | (with_reducible refine LeO.ite ?_ ?_)
   | (with_reducible refine LeO.bind ?_ (fun _ => ?_))
   | exact ih0 _ _ _ _
   | exact ih1 _ _ _ _ _ _ _ _ _ _ _ _ _ _ _ _ _
   | exact unit_Load.mono _ _ _
   | exact LeO.none _
   | refine LeO.ite ?_ ?_
   | refine LeO.bind ?_ (fun _ => ?_)
set_option maxHeartbeats 8000000 in
set_option maxRecDepth 100000 in
theorem unit_Expand.calls (k : Nat) (A0 : Option Addr) (c0 : Nat) (l0 : List (S70)) (r : List (S70)) (w : World) (hL : Laid w) (hr0 : Kd.C k70 w A0 l0.length l0) (hc0 : l0.length ≤ c0) (h : unit_Expand.f k l0 = some r) :
  Calls Tryd.prog 49 #[.slice A0 l0.length c0] w fun e w' => ∃ v0_ : Value, e = .returned (v0_) ∧ Kd.R k70 70 w' w.heap.size (fun _ => True) v0_ r ∧ Below w.heap.size w w' := by
 have HL := Aside0.mk hL
 clear hL
 have hu70 := Tryd.underlying70
 have hu51 := Tryd.underlying51
 have HR0 := Aside0.mk hr0
 have HC0 := Aside0.mk hc0
 clear hr0 hc0
 have HB := Aside0.mk (Below.refl w.heap.size w)
 have H : (unit_Expand.l0 k ([] : List (S70)) l0 (l0.length : Int) 0) = some r := h
 clear h
 have H' := Aside0.mk H
 clear H
 go_enter Tryd.func49, Tryd.ntmps49
 go_wp2
 go_loopg [3, 10] k (fun kq v3 v10 w' => ∃ (x3_1 : List (S70)) (x10_1 : Int), v10 = .int .i64 x10_1 ∧ Aside0 (unit_Expand.l0 kq x3_1 l0 (l0.length : Int) x10_1 = some r) ∧ Aside0 (kq ≤ k) ∧ Aside0 (Kd.R k70 70 w' w.heap.size (fun _ => True) v3 x3_1) ∧ Aside0 (Below w.heap.size w w'))
 case atStart => exact ⟨(([] : List (S70))), (0), (by first | rfl | (simp; done) | (simp [*]; done)), H', ⟨Nat.le_refl _⟩, ⟨by first | exact Kd.R_nil _ _ _ _ _ | exact Kd.N_nil _ _ _ _ _ | exact Kd.V_nil _ _ _ _ _ | exact Kd.Q_nil _ _ _ _ _ | exact Kd.S_nil _ _ _ _ _⟩, ⟨by repeat (first | (with_reducible first | exact HB.out | apply below_alloc | apply pw_below_drewN | apply below_drew1) | exact HB.out)⟩⟩
 case round =>
  clear H'
  obtain ⟨x3_1, x10_1, rfl, HA, HK1, HO_3, HB⟩ := hrel
  cases gk with
  | zero => exact absurd HA.out (by simp [unit_Expand.l0])
  | succ k1 =>
   have H := HA.out
   clear HA
   simp only [unit_Expand.l0] at H
   by_cases c2 : x10_1 < (l0.length : Int)
   ·rw [if_pos c2] at H
    have c2b0 : decide (x10_1 < (l0.length : Int)) = true := decide_eq_true c2
    clear c2
    by_cases c3 : 0 ≤ x10_1
    ·rw [if_pos c3] at H
     have c3b0 : decide (0 ≤ x10_1) = true := decide_eq_true c3
     clear c3
     by_cases c4 : x10_1 < (l0.length : Int)
     ·rw [if_pos c4] at H
      have c4b0 : decide (x10_1 < (l0.length : Int)) = true := decide_eq_true c4
      clear c4
      by_cases c5 : ((rd_T70 l0 x10_1).f0) = 4
      ·rw [if_pos c5] at H
       have c5b0 : (((rd_T70 l0 x10_1).f0) == 4) = true := beq_iff_eq.mpr c5
       have c5b1 : (((rd_T70 l0 x10_1).f0) != 4) = false := bne_eq_false_iff_eq.mpr c5
       clear c5
       replace H := Option.bind_eq_some_iff.mp H
       obtain ⟨t241, A60, H⟩ := H
       replace H : (unit_Expand.l1 k1 x3_1 l0 (l0.length : Int) x10_1 t241 (t241.length : Int) 0 ((rd_T70 l0 x10_1).f0) ((rd_T70 l0 x10_1).f1.f0) ((rd_T70 l0 x10_1).f1.f1) ((rd_T70 l0 x10_1).f1.f2) ((rd_T70 l0 x10_1).f1.f3) ((rd_T70 l0 x10_1).f1.f4) ((rd_T70 l0 x10_1).f1.f5) ((rd_T70 l0 x10_1).f1.f6) ((rd_T70 l0 x10_1).f2) ((rd_T70 l0 x10_1).f3)) = some r := H
       have A6 := Aside0.mk A60
       clear A60
       have H' := Aside0.mk H
       clear H
       have p236 : 0 ≤ (x10_1 : Int) := of_decide_eq_true (by first | (with_reducible assumption) | assumption)
       have q236 : x10_1 < (l0.length : Int) := of_decide_eq_true (by first | (with_reducible assumption) | assumption)
       obtain ⟨ad236, e236, hx236_0, hx236_1, hx236_2, hx236_3, hx236_4, hx236_5, hx236_6, hx236_7, hx236_8, hx236_9⟩ := at_T70 HR0.out x10_1 p236 q236
       cases e236
       replace hx236_0 := (HB.out.cell (World.block_lt_of_cell? w _ hx236_0)).trans hx236_0
       replace hx236_1 := (HB.out.cell (World.block_lt_of_cell? w _ hx236_1)).trans hx236_1
       replace hx236_2 := (HB.out.cell (World.block_lt_of_cell? w _ hx236_2)).trans hx236_2
       replace hx236_3 := (HB.out.cell (World.block_lt_of_cell? w _ hx236_3)).trans hx236_3
       replace hx236_4 := (HB.out.cell (World.block_lt_of_cell? w _ hx236_4)).trans hx236_4
       replace hx236_5 := (HB.out.cell (World.block_lt_of_cell? w _ hx236_5)).trans hx236_5
       replace hx236_6 := (HB.out.cell (World.block_lt_of_cell? w _ hx236_6)).trans hx236_6
       replace hx236_7 := (HB.out.cell (World.block_lt_of_cell? w _ hx236_7)).trans hx236_7
       replace hx236_8 := (HB.out.cell (World.block_lt_of_cell? w _ hx236_8)).trans hx236_8
       replace hx236_9 := (HB.out.cell (World.block_lt_of_cell? w _ hx236_9)).trans hx236_9
       replace p236 := eq_true p236
       replace q236 := eq_true q236
       go_wp2_with (first | ((with_reducible refine gate_dst (N := 5) rfl ?_); refine box_event ?hg (N := 5) ?hd (cs := #[.int .i64 0, .int .i64 0, .int .i64 0, .int .i64 0, .int .i64 0, .int .i64 0, .bool false, .bool false, .int .i64 0, .int .i64 0]) (t := 70) ?hr ?_; (case hd => rfl); (case hg => rfl); (case hr => first | (go_simp; done) | (go_simp; rfl)); intro gb237 hg w7 hbox hb; have n0_ := Aside0.mk (Kd.R_below (Kd.R_elderB (by (with_reducible repeat (first | apply Kd.R_alloc | apply Kd.R_drewN | apply Kd.R_drew)); exact HO_3.out) gb237 (Nat.le_of_eq hg.symm)) hb); have n1_ := Aside0.mk (below_step (by repeat (first | (with_reducible first | exact HB.out | apply below_alloc | apply pw_below_drewN | apply below_drew1) | exact HB.out)) hb); have n2_ := Aside0.mk (hbox); have n3_ := Aside0.mk ((by rw [hg]; exact (below_size (by repeat (first | (with_reducible first | exact HB.out | apply below_alloc | apply pw_below_drewN | apply below_drew1) | exact HB.out))) : w.heap.size ≤ gb237)); have n4_ := Aside0.mk ((by rw [hg]; exact (below_size (by repeat (first | (with_reducible first | exact HB.out | apply below_alloc | apply pw_below_drewN | apply below_drew1) | exact HB.out))) : w.heap.size ≤ gb237)); clear HO_3; clear HB; have HO_3 := n0_; have HB := n1_; have BK237 := n2_; have GW237 := n3_; have GE237 := n4_; clear n0_ n1_ n2_ n3_ n4_; clear hb hbox hg; have hcz8_0 : w7.cell? ⟨gb237, 0, none⟩ = some (.int .i64 0) := (blk_cell BK237.out 0).trans rfl; have hcz8_1 : w7.cell? ⟨gb237, 1, none⟩ = some (.int .i64 0) := (blk_cell BK237.out 1).trans rfl; have hcz8_2 : w7.cell? ⟨gb237, 2, none⟩ = some (.int .i64 0) := (blk_cell BK237.out 2).trans rfl; have hcz8_3 : w7.cell? ⟨gb237, 3, none⟩ = some (.int .i64 0) := (blk_cell BK237.out 3).trans rfl; have hcz8_4 : w7.cell? ⟨gb237, 4, none⟩ = some (.int .i64 0) := (blk_cell BK237.out 4).trans rfl; have hcz8_5 : w7.cell? ⟨gb237, 5, none⟩ = some (.int .i64 0) := (blk_cell BK237.out 5).trans rfl; have hcz8_6 : w7.cell? ⟨gb237, 6, none⟩ = some (.bool false) := (blk_cell BK237.out 6).trans rfl; have hcz8_7 : w7.cell? ⟨gb237, 7, none⟩ = some (.bool false) := (blk_cell BK237.out 7).trans rfl; have hcz8_8 : w7.cell? ⟨gb237, 8, none⟩ = some (.int .i64 0) := (blk_cell BK237.out 8).trans rfl; have hcz8_9 : w7.cell? ⟨gb237, 9, none⟩ = some (.int .i64 0) := (blk_cell BK237.out 9).trans rfl; have hfz8_0 := blk_frozen BK237.out 0; have hfz8_1 := blk_frozen BK237.out 1; have hfz8_2 := blk_frozen BK237.out 2; have hfz8_3 := blk_frozen BK237.out 3; have hfz8_4 := blk_frozen BK237.out 4; have hfz8_5 := blk_frozen BK237.out 5; have hfz8_6 := blk_frozen BK237.out 6; have hfz8_7 := blk_frozen BK237.out 7; have hfz8_8 := blk_frozen BK237.out 8; have hfz8_9 := blk_frozen BK237.out 9) | ((with_reducible refine gate_callee (f := 86) rfl ?_); refine goesL_ (some 26) rfl rfl Tryd.func86 (by kernel_rfl) rfl #[.int .i64 ((rd_T70 l0 x10_1).f1.f1), .int .i64 ((rd_T70 l0 x10_1).f2)] rfl (by (try simp only [List.map_toArray, List.map_cons, List.map_nil]); first | done | rfl | (simp only [List.length_drop, List.length_take]; rfl)) ?_; (with_reducible refine (unit_Load.calls k1 ((rd_T70 l0 x10_1).f1.f1) ((rd_T70 l0 x10_1).f2) t241 _ (by first | exact HL.out | exact laid_drewN HL.out | exact laid_below HL.out (by repeat (first | (with_reducible first | exact HB.out | apply below_alloc | apply pw_below_drewN | apply below_drew1 | refine below_set ?_ (Aside0.out (by assumption))) | exact HB.out)) | exact laid_below HL.out HB.out | exact laid_belowd HL.out HB.out) A6.out).mono ?_); rintro e w9 ⟨v242, rfl, ho0, hb⟩; refine ⟨_, rfl, ?_⟩; have n0_ := Aside0.mk (Kd.R_below (by (with_reducible repeat (first | apply Kd.R_alloc | apply Kd.R_drewN | apply Kd.R_drew)); exact (Kd.R_mono (Kd.R_far (p := ⟨gb237, 9, none⟩) (Kd.R_far (p := ⟨gb237, 8, none⟩) (Kd.R_far (p := ⟨gb237, 7, none⟩) (Kd.R_far (p := ⟨gb237, 6, none⟩) (Kd.R_far (p := ⟨gb237, 5, none⟩) (Kd.R_far (p := ⟨gb237, 4, none⟩) (Kd.R_far (p := ⟨gb237, 3, none⟩) (Kd.R_far (p := ⟨gb237, 2, none⟩) (Kd.R_far (p := ⟨gb237, 1, none⟩) (Kd.R_far (p := ⟨gb237, 0, none⟩) (Kd.R_mono HO_3.out (fun k_ hk => (⟨hk, hk.2⟩ : _ ∧ k_ ≠ gb237))) (fun _ hk => hk.2) (.int .i64 ((rd_T70 l0 x10_1).f0))) (fun _ hk => hk.2) (.int .i64 ((rd_T70 l0 x10_1).f1.f0))) (fun _ hk => hk.2) (.int .i64 ((rd_T70 l0 x10_1).f1.f1))) (fun _ hk => hk.2) (.int .i64 ((rd_T70 l0 x10_1).f1.f2))) (fun _ hk => hk.2) (.int .i64 ((rd_T70 l0 x10_1).f1.f3))) (fun _ hk => hk.2) (.int .i64 ((rd_T70 l0 x10_1).f1.f4))) (fun _ hk => hk.2) (.bool ((rd_T70 l0 x10_1).f1.f5))) (fun _ hk => hk.2) (.bool ((rd_T70 l0 x10_1).f1.f6))) (fun _ hk => hk.2) (.int .i64 ((rd_T70 l0 x10_1).f2))) (fun _ hk => hk.2) (.int .i64 ((rd_T70 l0 x10_1).f3))) (fun _ h_ => h_.1))) hb); have n1_ := Aside0.mk (Kd.R_lower ho0 (below_size (by repeat (first | (with_reducible first | exact HB.out | apply below_alloc | apply pw_below_drewN | apply below_drew1 | refine below_set ?_ GE237.out) | exact HB.out)))); have n2_ := Aside0.mk (blk_below (g := gb237) (o := .cells #[.int .i64 ((rd_T70 l0 x10_1).f0), .int .i64 ((rd_T70 l0 x10_1).f1.f0), .int .i64 ((rd_T70 l0 x10_1).f1.f1), .int .i64 ((rd_T70 l0 x10_1).f1.f2), .int .i64 ((rd_T70 l0 x10_1).f1.f3), .int .i64 ((rd_T70 l0 x10_1).f1.f4), .bool ((rd_T70 l0 x10_1).f1.f5), .bool ((rd_T70 l0 x10_1).f1.f6), .int .i64 ((rd_T70 l0 x10_1).f2), .int .i64 ((rd_T70 l0 x10_1).f3)] 70 (0, 0)) (by (with_reducible repeat (first | refine blk_drewN ?_ _ | refine blk_drew ?_ | refine blk_alloc ?_ _)); refine blk_put (cs := #[.int .i64 ((rd_T70 l0 x10_1).f0), .int .i64 ((rd_T70 l0 x10_1).f1.f0), .int .i64 ((rd_T70 l0 x10_1).f1.f1), .int .i64 ((rd_T70 l0 x10_1).f1.f2), .int .i64 ((rd_T70 l0 x10_1).f1.f3), .int .i64 ((rd_T70 l0 x10_1).f1.f4), .bool ((rd_T70 l0 x10_1).f1.f5), .bool ((rd_T70 l0 x10_1).f1.f6), .int .i64 ((rd_T70 l0 x10_1).f2), .int .i64 0]) ?_ 9 _ rfl; (with_reducible repeat (first | refine blk_drewN ?_ _ | refine blk_drew ?_ | refine blk_alloc ?_ _)); refine blk_put (cs := #[.int .i64 ((rd_T70 l0 x10_1).f0), .int .i64 ((rd_T70 l0 x10_1).f1.f0), .int .i64 ((rd_T70 l0 x10_1).f1.f1), .int .i64 ((rd_T70 l0 x10_1).f1.f2), .int .i64 ((rd_T70 l0 x10_1).f1.f3), .int .i64 ((rd_T70 l0 x10_1).f1.f4), .bool ((rd_T70 l0 x10_1).f1.f5), .bool ((rd_T70 l0 x10_1).f1.f6), .int .i64 0, .int .i64 0]) ?_ 8 _ rfl; (with_reducible repeat (first | refine blk_drewN ?_ _ | refine blk_drew ?_ | refine blk_alloc ?_ _)); refine blk_put (cs := #[.int .i64 ((rd_T70 l0 x10_1).f0), .int .i64 ((rd_T70 l0 x10_1).f1.f0), .int .i64 ((rd_T70 l0 x10_1).f1.f1), .int .i64 ((rd_T70 l0 x10_1).f1.f2), .int .i64 ((rd_T70 l0 x10_1).f1.f3), .int .i64 ((rd_T70 l0 x10_1).f1.f4), .bool ((rd_T70 l0 x10_1).f1.f5), .bool false, .int .i64 0, .int .i64 0]) ?_ 7 _ rfl; (with_reducible repeat (first | refine blk_drewN ?_ _ | refine blk_drew ?_ | refine blk_alloc ?_ _)); refine blk_put (cs := #[.int .i64 ((rd_T70 l0 x10_1).f0), .int .i64 ((rd_T70 l0 x10_1).f1.f0), .int .i64 ((rd_T70 l0 x10_1).f1.f1), .int .i64 ((rd_T70 l0 x10_1).f1.f2), .int .i64 ((rd_T70 l0 x10_1).f1.f3), .int .i64 ((rd_T70 l0 x10_1).f1.f4), .bool false, .bool false, .int .i64 0, .int .i64 0]) ?_ 6 _ rfl; (with_reducible repeat (first | refine blk_drewN ?_ _ | refine blk_drew ?_ | refine blk_alloc ?_ _)); refine blk_put (cs := #[.int .i64 ((rd_T70 l0 x10_1).f0), .int .i64 ((rd_T70 l0 x10_1).f1.f0), .int .i64 ((rd_T70 l0 x10_1).f1.f1), .int .i64 ((rd_T70 l0 x10_1).f1.f2), .int .i64 ((rd_T70 l0 x10_1).f1.f3), .int .i64 0, .bool false, .bool false, .int .i64 0, .int .i64 0]) ?_ 5 _ rfl; (with_reducible repeat (first | refine blk_drewN ?_ _ | refine blk_drew ?_ | refine blk_alloc ?_ _)); refine blk_put (cs := #[.int .i64 ((rd_T70 l0 x10_1).f0), .int .i64 ((rd_T70 l0 x10_1).f1.f0), .int .i64 ((rd_T70 l0 x10_1).f1.f1), .int .i64 ((rd_T70 l0 x10_1).f1.f2), .int .i64 0, .int .i64 0, .bool false, .bool false, .int .i64 0, .int .i64 0]) ?_ 4 _ rfl; (with_reducible repeat (first | refine blk_drewN ?_ _ | refine blk_drew ?_ | refine blk_alloc ?_ _)); refine blk_put (cs := #[.int .i64 ((rd_T70 l0 x10_1).f0), .int .i64 ((rd_T70 l0 x10_1).f1.f0), .int .i64 ((rd_T70 l0 x10_1).f1.f1), .int .i64 0, .int .i64 0, .int .i64 0, .bool false, .bool false, .int .i64 0, .int .i64 0]) ?_ 3 _ rfl; (with_reducible repeat (first | refine blk_drewN ?_ _ | refine blk_drew ?_ | refine blk_alloc ?_ _)); refine blk_put (cs := #[.int .i64 ((rd_T70 l0 x10_1).f0), .int .i64 ((rd_T70 l0 x10_1).f1.f0), .int .i64 0, .int .i64 0, .int .i64 0, .int .i64 0, .bool false, .bool false, .int .i64 0, .int .i64 0]) ?_ 2 _ rfl; (with_reducible repeat (first | refine blk_drewN ?_ _ | refine blk_drew ?_ | refine blk_alloc ?_ _)); refine blk_put (cs := #[.int .i64 ((rd_T70 l0 x10_1).f0), .int .i64 0, .int .i64 0, .int .i64 0, .int .i64 0, .int .i64 0, .bool false, .bool false, .int .i64 0, .int .i64 0]) ?_ 1 _ rfl; (with_reducible repeat (first | refine blk_drewN ?_ _ | refine blk_drew ?_ | refine blk_alloc ?_ _)); refine blk_put (cs := #[.int .i64 0, .int .i64 0, .int .i64 0, .int .i64 0, .int .i64 0, .int .i64 0, .bool false, .bool false, .int .i64 0, .int .i64 0]) ?_ 0 _ rfl; (with_reducible repeat (first | refine blk_drewN ?_ _ | refine blk_drew ?_ | refine blk_alloc ?_ _)); exact BK237.out) hb); have n3_ := Aside0.mk (below_step (by repeat (first | (with_reducible first | exact HB.out | apply below_alloc | apply pw_below_drewN | apply below_drew1 | refine below_set ?_ GE237.out) | exact HB.out)) hb); clear HO_3; clear BK237; clear HB; have HO_3 := n0_; have HO243 := n1_; have BK237 := n2_; have HB := n3_; clear n0_ n1_ n2_ n3_; (try clear hb); (try clear ho0); obtain ⟨Ao10, co10, eo10⟩ := Kd.R_slice HO243.out; subst eo10))
       go_loopg [3, 28] k1 (fun kq v3 v28 w' => ∃ (x3_2 : List (S70)) (x28_2 : Int), v28 = .int .i64 x28_2 ∧ Aside0 (unit_Expand.l1 kq x3_2 l0 (l0.length : Int) x10_1 t241 (t241.length : Int) x28_2 ((rd_T70 l0 x10_1).f0) ((rd_T70 l0 x10_1).f1.f0) ((rd_T70 l0 x10_1).f1.f1) ((rd_T70 l0 x10_1).f1.f2) ((rd_T70 l0 x10_1).f1.f3) ((rd_T70 l0 x10_1).f1.f4) ((rd_T70 l0 x10_1).f1.f5) ((rd_T70 l0 x10_1).f1.f6) ((rd_T70 l0 x10_1).f2) ((rd_T70 l0 x10_1).f3) = some r) ∧ Aside0 (kq ≤ k1) ∧ Aside0 (Kd.R k70 70 w' w.heap.size (fun k_ => k_ ≠ gb237) v3 x3_2) ∧ Aside0 (Kd.R k51 51 w' w.heap.size (fun _ => True) (.slice Ao10 t241.length co10) t241) ∧ Aside0 (w'.heap[gb237]? = some (.cells #[.int .i64 ((rd_T70 l0 x10_1).f0), .int .i64 ((rd_T70 l0 x10_1).f1.f0), .int .i64 ((rd_T70 l0 x10_1).f1.f1), .int .i64 ((rd_T70 l0 x10_1).f1.f2), .int .i64 ((rd_T70 l0 x10_1).f1.f3), .int .i64 ((rd_T70 l0 x10_1).f1.f4), .bool ((rd_T70 l0 x10_1).f1.f5), .bool ((rd_T70 l0 x10_1).f1.f6), .int .i64 ((rd_T70 l0 x10_1).f2), .int .i64 ((rd_T70 l0 x10_1).f3)] 70 (0, 0))) ∧ Aside0 (Below w.heap.size w w'))
       case atStart => exact ⟨(x3_1), (0), (by first | rfl | (simp; done) | (simp [*]; done)), H', ⟨Nat.le_refl _⟩, ⟨by (with_reducible repeat (first | apply Kd.R_alloc | apply Kd.R_drewN | apply Kd.R_drew)); exact Kd.R_mono HO_3.out (fun _ hk => hk.2)⟩, ⟨by (with_reducible repeat (first | apply Kd.R_alloc | apply Kd.R_drewN | apply Kd.R_drew)); exact HO243.out⟩, ⟨by (with_reducible repeat (first | refine blk_drewN ?_ _ | refine blk_drew ?_ | refine blk_alloc ?_ _)); exact BK237.out⟩, ⟨by repeat (first | (with_reducible first | exact HB.out | apply below_alloc | apply pw_below_drewN | apply below_drew1 | refine below_set ?_ GE237.out) | exact HB.out)⟩⟩
       case round =>
        clear H'
        try clear c2
        try clear c2b0
        try clear p2
        try clear q2
        try clear hx2
        try clear c3
        try clear c3b0
        try clear c4
        try clear c4b0
        try clear c5
        try clear c5b0
        try clear c5b1
        try clear c8
        try clear hcz8_0
        try clear hcz8_1
        try clear hcz8_2
        try clear hcz8_3
        try clear hcz8_4
        try clear hcz8_5
        try clear hcz8_6
        try clear hcz8_7
        try clear hcz8_8
        try clear hcz8_9
        try clear hfz8_0
        try clear hfz8_1
        try clear hfz8_2
        try clear hfz8_3
        try clear hfz8_4
        try clear hfz8_5
        try clear hfz8_6
        try clear hfz8_7
        try clear hfz8_8
        try clear hfz8_9
        try clear hx236_0
        try clear hx236_1
        try clear hx236_2
        try clear hx236_3
        try clear hx236_4
        try clear hx236_5
        try clear hx236_6
        try clear hx236_7
        try clear hx236_8
        try clear hx236_9
        try clear p236
        try clear q236
        obtain ⟨x3_2, x28_2, rfl, HA, HK2, HO_3, HO_26, BK237, HB⟩ := hrel
        cases gk with
        | zero => exact absurd HA.out (by simp [unit_Expand.l1])
        | succ k2 =>
         have H := HA.out
         clear HA
         simp only [unit_Expand.l1] at H
         by_cases c11 : x28_2 < (t241.length : Int)
         ·rw [if_pos c11] at H
          have c11b0 : decide (x28_2 < (t241.length : Int)) = true := decide_eq_true c11
          clear c11
          by_cases c12 : 0 ≤ x28_2
          ·rw [if_pos c12] at H
           have c12b0 : decide (0 ≤ x28_2) = true := decide_eq_true c12
           clear c12
           by_cases c13 : x28_2 < (t241.length : Int)
           ·rw [if_pos c13] at H
            have c13b0 : decide (x28_2 < (t241.length : Int)) = true := decide_eq_true c13
            clear c13
            replace H := Option.bind_eq_some_iff.mp H
            obtain ⟨⟨t246, t247, t248, t249, t250, t251, t252, t253, t254, t255⟩, A140, H⟩ := H
            replace H : (if x3_2.length < 1954687338268 then (unit_Expand.l1 k2 (x3_2 ++ [(⟨t246, (⟨t247, t248, t249, t250, t251, t252, t253⟩ : S51), t254, t255⟩ : S70)]) l0 (l0.length : Int) x10_1 t241 (t241.length : Int) (wrap64 (x28_2 + 1)) ((rd_T70 l0 x10_1).f0) ((rd_T70 l0 x10_1).f1.f0) ((rd_T70 l0 x10_1).f1.f1) ((rd_T70 l0 x10_1).f1.f2) ((rd_T70 l0 x10_1).f1.f3) ((rd_T70 l0 x10_1).f1.f4) ((rd_T70 l0 x10_1).f1.f5) ((rd_T70 l0 x10_1).f1.f6) ((rd_T70 l0 x10_1).f2) ((rd_T70 l0 x10_1).f3)) else (none)) = some r := H
            have A14 := Aside0.mk A140
            clear A140
            by_cases c15 : x3_2.length < 1954687338268
            ·rw [if_pos c15] at H
             have LMc15 := Aside0.mk c15
             clear c15
             obtain ⟨y256, hy256⟩ : ∃ y_ : List (S70), y_ = (x3_2 ++ [(⟨t246, (⟨t247, t248, t249, t250, t251, t252, t253⟩ : S51), t254, t255⟩ : S70)]) := ⟨_, rfl⟩
             replace H : (unit_Expand.l1 k2 y256 l0 (l0.length : Int) x10_1 t241 (t241.length : Int) (wrap64 (x28_2 + 1)) ((rd_T70 l0 x10_1).f0) ((rd_T70 l0 x10_1).f1.f0) ((rd_T70 l0 x10_1).f1.f1) ((rd_T70 l0 x10_1).f1.f2) ((rd_T70 l0 x10_1).f1.f3) ((rd_T70 l0 x10_1).f1.f4) ((rd_T70 l0 x10_1).f1.f5) ((rd_T70 l0 x10_1).f1.f6) ((rd_T70 l0 x10_1).f2) ((rd_T70 l0 x10_1).f3)) = some r := by first | (rw [hy256]; with_reducible exact H) | (have H2_ := (Option.bind_some _ _).symm.trans H; rw [hy256]; with_reducible exact H2_) | (have H2_ := (Option.bind_some _ _).symm.trans H; with_reducible exact H2_) | with_reducible exact H | (rw [hy256]; exact H) | exact H
             have Ny256 := Aside0.mk hy256
             clear hy256
             have H' := Aside0.mk H
             clear H
             have p244 : 0 ≤ (x28_2 : Int) := of_decide_eq_true (by first | (with_reducible assumption) | assumption)
             have q244 : x28_2 < (t241.length : Int) := of_decide_eq_true (by first | (with_reducible assumption) | assumption)
             obtain ⟨ad244, e244, hx244_0, hx244_1, hx244_2, hx244_3, hx244_4, hx244_5, hx244_6⟩ := at_T51 (Kd.R_reads' HO_26.out).2.2 x28_2 p244 q244
             cases e244
             replace p244 := eq_true p244
             replace q244 := eq_true q244
             go_wp2_with (first | ((with_reducible refine gate_dst (N := 7) rfl ?_); refine box_event ?hg (N := 7) ?hd (cs := #[.int .i64 0, .int .i64 0, .int .i64 0, .int .i64 0, .int .i64 0, .bool false, .bool false]) (t := 51) ?hr ?_; (case hd => rfl); (case hg => rfl); (case hr => first | (go_simp; done) | (go_simp; rfl)); intro gb245 hg w16 hbox hb; have n0_ := Aside0.mk (Kd.R_below (by (with_reducible repeat (first | apply Kd.R_alloc | apply Kd.R_drewN | apply Kd.R_drew)); exact HO_3.out) hb); have n1_ := Aside0.mk (Kd.R_below (Kd.R_elderB (by (with_reducible repeat (first | apply Kd.R_alloc | apply Kd.R_drewN | apply Kd.R_drew)); exact HO_26.out) gb245 (Nat.le_of_eq hg.symm)) hb); have n2_ := Aside0.mk (blk_below (g := gb237) (o := .cells #[.int .i64 ((rd_T70 l0 x10_1).f0), .int .i64 ((rd_T70 l0 x10_1).f1.f0), .int .i64 ((rd_T70 l0 x10_1).f1.f1), .int .i64 ((rd_T70 l0 x10_1).f1.f2), .int .i64 ((rd_T70 l0 x10_1).f1.f3), .int .i64 ((rd_T70 l0 x10_1).f1.f4), .bool ((rd_T70 l0 x10_1).f1.f5), .bool ((rd_T70 l0 x10_1).f1.f6), .int .i64 ((rd_T70 l0 x10_1).f2), .int .i64 ((rd_T70 l0 x10_1).f3)] 70 (0, 0)) (by (with_reducible repeat (first | refine blk_drewN ?_ _ | refine blk_drew ?_ | refine blk_alloc ?_ _)); exact BK237.out) hb); have n3_ := Aside0.mk (below_step (by repeat (first | (with_reducible first | exact HB.out | apply below_alloc | apply pw_below_drewN | apply below_drew1 | refine below_set ?_ GE237.out) | exact HB.out)) hb); have n4_ := Aside0.mk (hbox); have n5_ := Aside0.mk ((by rw [hg]; exact (below_size (by repeat (first | (with_reducible first | exact HB.out | apply below_alloc | apply pw_below_drewN | apply below_drew1 | refine below_set ?_ GE237.out) | exact HB.out))) : w.heap.size ≤ gb245)); have n6_ := Aside0.mk ((by rw [hg]; exact (below_size (by repeat (first | (with_reducible first | exact HB.out | apply below_alloc | apply pw_below_drewN | apply below_drew1 | refine below_set ?_ GE237.out) | exact HB.out))) : w.heap.size ≤ gb245)); have n7_ := Aside0.mk ((by rw [hg]; exact Nat.ne_of_lt (blk_lt (g := gb237) (o := .cells #[.int .i64 ((rd_T70 l0 x10_1).f0), .int .i64 ((rd_T70 l0 x10_1).f1.f0), .int .i64 ((rd_T70 l0 x10_1).f1.f1), .int .i64 ((rd_T70 l0 x10_1).f1.f2), .int .i64 ((rd_T70 l0 x10_1).f1.f3), .int .i64 ((rd_T70 l0 x10_1).f1.f4), .bool ((rd_T70 l0 x10_1).f1.f5), .bool ((rd_T70 l0 x10_1).f1.f6), .int .i64 ((rd_T70 l0 x10_1).f2), .int .i64 ((rd_T70 l0 x10_1).f3)] 70 (0, 0)) (by (with_reducible repeat (first | refine blk_drewN ?_ _ | refine blk_drew ?_ | refine blk_alloc ?_ _)); exact BK237.out)) : gb237 ≠ gb245)); have n8_ := Aside0.mk ((by rw [hg]; exact Nat.ne_of_gt (blk_lt (g := gb237) (o := .cells #[.int .i64 ((rd_T70 l0 x10_1).f0), .int .i64 ((rd_T70 l0 x10_1).f1.f0), .int .i64 ((rd_T70 l0 x10_1).f1.f1), .int .i64 ((rd_T70 l0 x10_1).f1.f2), .int .i64 ((rd_T70 l0 x10_1).f1.f3), .int .i64 ((rd_T70 l0 x10_1).f1.f4), .bool ((rd_T70 l0 x10_1).f1.f5), .bool ((rd_T70 l0 x10_1).f1.f6), .int .i64 ((rd_T70 l0 x10_1).f2), .int .i64 ((rd_T70 l0 x10_1).f3)] 70 (0, 0)) (by (with_reducible repeat (first | refine blk_drewN ?_ _ | refine blk_drew ?_ | refine blk_alloc ?_ _)); exact BK237.out)) : gb245 ≠ gb237)); clear HO_3; clear HO_26; clear BK237; clear HB; have HO_3 := n0_; have HO_26 := n1_; have BK237 := n2_; have HB := n3_; have BK245 := n4_; have GW245 := n5_; have GE245 := n6_; have NB237_245 := n7_; have NB245_237 := n8_; clear n0_ n1_ n2_ n3_ n4_ n5_ n6_ n7_ n8_; clear hb hbox hg; have hnb17 := NB245_237.out; have hnc17 := NB237_245.out; have hcz18_0 : w16.cell? ⟨gb245, 0, none⟩ = some (.int .i64 0) := (blk_cell BK245.out 0).trans rfl; have hcz18_1 : w16.cell? ⟨gb245, 1, none⟩ = some (.int .i64 0) := (blk_cell BK245.out 1).trans rfl; have hcz18_2 : w16.cell? ⟨gb245, 2, none⟩ = some (.int .i64 0) := (blk_cell BK245.out 2).trans rfl; have hcz18_3 : w16.cell? ⟨gb245, 3, none⟩ = some (.int .i64 0) := (blk_cell BK245.out 3).trans rfl; have hcz18_4 : w16.cell? ⟨gb245, 4, none⟩ = some (.int .i64 0) := (blk_cell BK245.out 4).trans rfl; have hcz18_5 : w16.cell? ⟨gb245, 5, none⟩ = some (.bool false) := (blk_cell BK245.out 5).trans rfl; have hcz18_6 : w16.cell? ⟨gb245, 6, none⟩ = some (.bool false) := (blk_cell BK245.out 6).trans rfl; have hfz18_0 := blk_frozen BK245.out 0; have hfz18_1 := blk_frozen BK245.out 1; have hfz18_2 := blk_frozen BK245.out 2; have hfz18_3 := blk_frozen BK245.out 3; have hfz18_4 := blk_frozen BK245.out 4; have hfz18_5 := blk_frozen BK245.out 5; have hfz18_6 := blk_frozen BK245.out 6; have hcz19_0 : w16.cell? ⟨gb237, 0, none⟩ = some (.int .i64 ((rd_T70 l0 x10_1).f0)) := (blk_cell BK237.out 0).trans rfl; have hcz19_1 : w16.cell? ⟨gb237, 1, none⟩ = some (.int .i64 ((rd_T70 l0 x10_1).f1.f0)) := (blk_cell BK237.out 1).trans rfl; have hcz19_2 : w16.cell? ⟨gb237, 2, none⟩ = some (.int .i64 ((rd_T70 l0 x10_1).f1.f1)) := (blk_cell BK237.out 2).trans rfl; have hcz19_3 : w16.cell? ⟨gb237, 3, none⟩ = some (.int .i64 ((rd_T70 l0 x10_1).f1.f2)) := (blk_cell BK237.out 3).trans rfl; have hcz19_4 : w16.cell? ⟨gb237, 4, none⟩ = some (.int .i64 ((rd_T70 l0 x10_1).f1.f3)) := (blk_cell BK237.out 4).trans rfl; have hcz19_5 : w16.cell? ⟨gb237, 5, none⟩ = some (.int .i64 ((rd_T70 l0 x10_1).f1.f4)) := (blk_cell BK237.out 5).trans rfl; have hcz19_6 : w16.cell? ⟨gb237, 6, none⟩ = some (.bool ((rd_T70 l0 x10_1).f1.f5)) := (blk_cell BK237.out 6).trans rfl; have hcz19_7 : w16.cell? ⟨gb237, 7, none⟩ = some (.bool ((rd_T70 l0 x10_1).f1.f6)) := (blk_cell BK237.out 7).trans rfl; have hcz19_8 : w16.cell? ⟨gb237, 8, none⟩ = some (.int .i64 ((rd_T70 l0 x10_1).f2)) := (blk_cell BK237.out 8).trans rfl; have hcz19_9 : w16.cell? ⟨gb237, 9, none⟩ = some (.int .i64 ((rd_T70 l0 x10_1).f3)) := (blk_cell BK237.out 9).trans rfl; have hfz19_0 := blk_frozen BK237.out 0; have hfz19_1 := blk_frozen BK237.out 1; have hfz19_2 := blk_frozen BK237.out 2; have hfz19_3 := blk_frozen BK237.out 3; have hfz19_4 := blk_frozen BK237.out 4; have hfz19_5 := blk_frozen BK237.out 5; have hfz19_6 := blk_frozen BK237.out 6; have hfz19_7 := blk_frozen BK237.out 7; have hfz19_8 := blk_frozen BK237.out 8; have hfz19_9 := blk_frozen BK237.out 9) | ((with_reducible refine gate_callee (f := 50) rfl ?_); refine goesL_ (some 36) rfl rfl Tryd.func50 (by kernel_rfl) rfl #[.agg #[.int .i64 ((rd_T51 t241 x28_2).f0), .int .i64 ((rd_T51 t241 x28_2).f1), .int .i64 ((rd_T51 t241 x28_2).f2), .int .i64 ((rd_T51 t241 x28_2).f3), .int .i64 ((rd_T51 t241 x28_2).f4), .bool ((rd_T51 t241 x28_2).f5), .bool ((rd_T51 t241 x28_2).f6)], .int .i64 ((rd_T70 l0 x10_1).f3)] rfl (by (try simp only [List.map_toArray, List.map_cons, List.map_nil]); first | done | rfl | (simp only [List.length_drop, List.length_take]; rfl)) ?_; (with_reducible refine (unit_Instr.calls ((rd_T51 t241 x28_2).f0) ((rd_T51 t241 x28_2).f1) ((rd_T51 t241 x28_2).f2) ((rd_T51 t241 x28_2).f3) ((rd_T51 t241 x28_2).f4) ((rd_T51 t241 x28_2).f5) ((rd_T51 t241 x28_2).f6) ((rd_T70 l0 x10_1).f3) t246 t247 t248 t249 t250 t251 t252 t253 t254 t255 _ A14.out).mono ?_); rintro e w20 ⟨rfl, hb⟩; refine ⟨_, rfl, ?_⟩; have n0_ := Aside0.mk (Kd.R_below (by (with_reducible repeat (first | apply Kd.R_alloc | apply Kd.R_drewN | apply Kd.R_drew)); exact (Kd.R_mono (Kd.R_far (p := ⟨gb245, 6, none⟩) (Kd.R_far (p := ⟨gb245, 5, none⟩) (Kd.R_far (p := ⟨gb245, 4, none⟩) (Kd.R_far (p := ⟨gb245, 3, none⟩) (Kd.R_far (p := ⟨gb245, 2, none⟩) (Kd.R_far (p := ⟨gb245, 1, none⟩) (Kd.R_far (p := ⟨gb245, 0, none⟩) (Kd.R_types HO_3.out BK245.out (by decide)) (fun _ hk => hk.2) (.int .i64 ((rd_T51 t241 x28_2).f0))) (fun _ hk => hk.2) (.int .i64 ((rd_T51 t241 x28_2).f1))) (fun _ hk => hk.2) (.int .i64 ((rd_T51 t241 x28_2).f2))) (fun _ hk => hk.2) (.int .i64 ((rd_T51 t241 x28_2).f3))) (fun _ hk => hk.2) (.int .i64 ((rd_T51 t241 x28_2).f4))) (fun _ hk => hk.2) (.bool ((rd_T51 t241 x28_2).f5))) (fun _ hk => hk.2) (.bool ((rd_T51 t241 x28_2).f6))) (fun _ h_ => h_.1))) hb); have n1_ := Aside0.mk (Kd.R_below (by (with_reducible repeat (first | apply Kd.R_alloc | apply Kd.R_drewN | apply Kd.R_drew)); exact (Kd.R_mono (Kd.R_far (p := ⟨gb245, 6, none⟩) (Kd.R_far (p := ⟨gb245, 5, none⟩) (Kd.R_far (p := ⟨gb245, 4, none⟩) (Kd.R_far (p := ⟨gb245, 3, none⟩) (Kd.R_far (p := ⟨gb245, 2, none⟩) (Kd.R_far (p := ⟨gb245, 1, none⟩) (Kd.R_far (p := ⟨gb245, 0, none⟩) (Kd.R_mono HO_26.out (fun k_ hk => (⟨hk, hk.2⟩ : _ ∧ k_ ≠ gb245))) (fun _ hk => hk.2) (.int .i64 ((rd_T51 t241 x28_2).f0))) (fun _ hk => hk.2) (.int .i64 ((rd_T51 t241 x28_2).f1))) (fun _ hk => hk.2) (.int .i64 ((rd_T51 t241 x28_2).f2))) (fun _ hk => hk.2) (.int .i64 ((rd_T51 t241 x28_2).f3))) (fun _ hk => hk.2) (.int .i64 ((rd_T51 t241 x28_2).f4))) (fun _ hk => hk.2) (.bool ((rd_T51 t241 x28_2).f5))) (fun _ hk => hk.2) (.bool ((rd_T51 t241 x28_2).f6))) (fun _ h_ => h_.1))) hb); have n2_ := Aside0.mk (blk_below (g := gb237) (o := .cells #[.int .i64 ((rd_T70 l0 x10_1).f0), .int .i64 ((rd_T70 l0 x10_1).f1.f0), .int .i64 ((rd_T70 l0 x10_1).f1.f1), .int .i64 ((rd_T70 l0 x10_1).f1.f2), .int .i64 ((rd_T70 l0 x10_1).f1.f3), .int .i64 ((rd_T70 l0 x10_1).f1.f4), .bool ((rd_T70 l0 x10_1).f1.f5), .bool ((rd_T70 l0 x10_1).f1.f6), .int .i64 ((rd_T70 l0 x10_1).f2), .int .i64 ((rd_T70 l0 x10_1).f3)] 70 (0, 0)) (by (with_reducible repeat (first | refine blk_drewN ?_ _ | refine blk_drew ?_ | refine blk_alloc ?_ _)); refine blk_far ?_ NB237_245.out _; (with_reducible repeat (first | refine blk_drewN ?_ _ | refine blk_drew ?_ | refine blk_alloc ?_ _)); refine blk_far ?_ NB237_245.out _; (with_reducible repeat (first | refine blk_drewN ?_ _ | refine blk_drew ?_ | refine blk_alloc ?_ _)); refine blk_far ?_ NB237_245.out _; (with_reducible repeat (first | refine blk_drewN ?_ _ | refine blk_drew ?_ | refine blk_alloc ?_ _)); refine blk_far ?_ NB237_245.out _; (with_reducible repeat (first | refine blk_drewN ?_ _ | refine blk_drew ?_ | refine blk_alloc ?_ _)); refine blk_far ?_ NB237_245.out _; (with_reducible repeat (first | refine blk_drewN ?_ _ | refine blk_drew ?_ | refine blk_alloc ?_ _)); refine blk_far ?_ NB237_245.out _; (with_reducible repeat (first | refine blk_drewN ?_ _ | refine blk_drew ?_ | refine blk_alloc ?_ _)); refine blk_far ?_ NB237_245.out _; (with_reducible repeat (first | refine blk_drewN ?_ _ | refine blk_drew ?_ | refine blk_alloc ?_ _)); exact BK237.out) hb); have n3_ := Aside0.mk (blk_below (g := gb245) (o := .cells #[.int .i64 ((rd_T51 t241 x28_2).f0), .int .i64 ((rd_T51 t241 x28_2).f1), .int .i64 ((rd_T51 t241 x28_2).f2), .int .i64 ((rd_T51 t241 x28_2).f3), .int .i64 ((rd_T51 t241 x28_2).f4), .bool ((rd_T51 t241 x28_2).f5), .bool ((rd_T51 t241 x28_2).f6)] 51 (0, 0)) (by (with_reducible repeat (first | refine blk_drewN ?_ _ | refine blk_drew ?_ | refine blk_alloc ?_ _)); refine blk_put (cs := #[.int .i64 ((rd_T51 t241 x28_2).f0), .int .i64 ((rd_T51 t241 x28_2).f1), .int .i64 ((rd_T51 t241 x28_2).f2), .int .i64 ((rd_T51 t241 x28_2).f3), .int .i64 ((rd_T51 t241 x28_2).f4), .bool ((rd_T51 t241 x28_2).f5), .bool false]) ?_ 6 _ rfl; (with_reducible repeat (first | refine blk_drewN ?_ _ | refine blk_drew ?_ | refine blk_alloc ?_ _)); refine blk_put (cs := #[.int .i64 ((rd_T51 t241 x28_2).f0), .int .i64 ((rd_T51 t241 x28_2).f1), .int .i64 ((rd_T51 t241 x28_2).f2), .int .i64 ((rd_T51 t241 x28_2).f3), .int .i64 ((rd_T51 t241 x28_2).f4), .bool false, .bool false]) ?_ 5 _ rfl; (with_reducible repeat (first | refine blk_drewN ?_ _ | refine blk_drew ?_ | refine blk_alloc ?_ _)); refine blk_put (cs := #[.int .i64 ((rd_T51 t241 x28_2).f0), .int .i64 ((rd_T51 t241 x28_2).f1), .int .i64 ((rd_T51 t241 x28_2).f2), .int .i64 ((rd_T51 t241 x28_2).f3), .int .i64 0, .bool false, .bool false]) ?_ 4 _ rfl; (with_reducible repeat (first | refine blk_drewN ?_ _ | refine blk_drew ?_ | refine blk_alloc ?_ _)); refine blk_put (cs := #[.int .i64 ((rd_T51 t241 x28_2).f0), .int .i64 ((rd_T51 t241 x28_2).f1), .int .i64 ((rd_T51 t241 x28_2).f2), .int .i64 0, .int .i64 0, .bool false, .bool false]) ?_ 3 _ rfl; (with_reducible repeat (first | refine blk_drewN ?_ _ | refine blk_drew ?_ | refine blk_alloc ?_ _)); refine blk_put (cs := #[.int .i64 ((rd_T51 t241 x28_2).f0), .int .i64 ((rd_T51 t241 x28_2).f1), .int .i64 0, .int .i64 0, .int .i64 0, .bool false, .bool false]) ?_ 2 _ rfl; (with_reducible repeat (first | refine blk_drewN ?_ _ | refine blk_drew ?_ | refine blk_alloc ?_ _)); refine blk_put (cs := #[.int .i64 ((rd_T51 t241 x28_2).f0), .int .i64 0, .int .i64 0, .int .i64 0, .int .i64 0, .bool false, .bool false]) ?_ 1 _ rfl; (with_reducible repeat (first | refine blk_drewN ?_ _ | refine blk_drew ?_ | refine blk_alloc ?_ _)); refine blk_put (cs := #[.int .i64 0, .int .i64 0, .int .i64 0, .int .i64 0, .int .i64 0, .bool false, .bool false]) ?_ 0 _ rfl; (with_reducible repeat (first | refine blk_drewN ?_ _ | refine blk_drew ?_ | refine blk_alloc ?_ _)); exact BK245.out) hb); have n4_ := Aside0.mk (below_step (by repeat (first | (with_reducible first | exact HB.out | apply below_alloc | apply pw_below_drewN | apply below_drew1 | refine below_set ?_ GE237.out | refine below_set ?_ GE245.out) | exact HB.out)) hb); clear HO_3; clear HO_26; clear BK237; clear BK245; clear HB; have HO_3 := n0_; have HO_26 := n1_; have BK237 := n2_; have BK245 := n3_; have HB := n4_; clear n0_ n1_ n2_ n3_ n4_; (try clear hb)) | ((with_reducible refine gate_builtin (b := .append) (xs := #[.tmp 32, .tmp 37]) rfl ?_); at_builtin; refine Kd.R_append k70 (w0 := w) w.heap.size rfl (.tmp 32) (.tmp 37) 65 70 (.agg #[(.int .i64 0), (.int .i64 0), (.int .i64 0), (.int .i64 0), (.int .i64 0), (.int .i64 0), (.bool false), (.bool false), (.int .i64 0), (.int .i64 0)]) 72 rfl Tryd.underlying65 info70 rfl (by decide) (by omega) u3 x3_2 (⟨t246, (⟨t247, t248, t249, t250, t251, t252, t253⟩ : S51), t254, t255⟩ : S70) [.int .i64 t246, .int .i64 t247, .int .i64 t248, .int .i64 t249, .int .i64 t250, .int .i64 t251, .bool t252, .bool t253, .int .i64 t254, .int .i64 t255] (fun k_ => k_ ≠ gb237) (fun _ => False) rfl rfl ?aP (fun _ hk => hk.elim) ?aF ?aO ?aB ?aS ?aL ?_; (case aP => exact k70_mkM _ _ _ (⟨t246, (⟨t247, t248, t249, t250, t251, t252, t253⟩ : S51), t254, t255⟩ : S70)); (case aB => exact (by repeat (first | (with_reducible first | exact HB.out | apply below_alloc | apply pw_below_drewN | apply below_drew1 | refine below_set ?_ GE237.out | refine below_set ?_ GE245.out) | exact HB.out))); (case aF => exact (fun k_ hk => Kd.freshB (g := gb237) (o := .cells #[.int .i64 ((rd_T70 l0 x10_1).f0), .int .i64 ((rd_T70 l0 x10_1).f1.f0), .int .i64 ((rd_T70 l0 x10_1).f1.f1), .int .i64 ((rd_T70 l0 x10_1).f1.f2), .int .i64 ((rd_T70 l0 x10_1).f1.f3), .int .i64 ((rd_T70 l0 x10_1).f1.f4), .bool ((rd_T70 l0 x10_1).f1.f5), .bool ((rd_T70 l0 x10_1).f1.f6), .int .i64 ((rd_T70 l0 x10_1).f2), .int .i64 ((rd_T70 l0 x10_1).f3)] 70 (0, 0)) (by (with_reducible repeat (first | refine blk_drewN ?_ _ | refine blk_drew ?_ | refine blk_alloc ?_ _)); exact BK237.out) k_ hk)); (case aO => exact (by (with_reducible repeat (first | apply Kd.R_alloc | apply Kd.R_drewN | apply Kd.R_drew)); exact HO_3.out)); (case aS => exact (below_size (by repeat (first | (with_reducible first | exact HB.out | apply below_alloc | apply pw_below_drewN | apply below_drew1 | refine below_set ?_ GE237.out | refine below_set ?_ GE245.out) | exact HB.out)))); (case aL => have := LMc15.out; omega); intro v257 w21 ho hb hg hat; rw [← Ny256.out] at ho; have n0_ := Aside0.mk (Kd.R_over' (by (with_reducible repeat (first | apply Kd.R_alloc | apply Kd.R_drewN | apply Kd.R_drew)); exact HO_26.out) (Kd.R_typed (by (with_reducible repeat (first | apply Kd.R_alloc | apply Kd.R_drewN | apply Kd.R_drew)); exact HO_3.out)) (by decide) hg); have n1_ := Aside0.mk (blk_grown (g := gb237) (o := .cells #[.int .i64 ((rd_T70 l0 x10_1).f0), .int .i64 ((rd_T70 l0 x10_1).f1.f0), .int .i64 ((rd_T70 l0 x10_1).f1.f1), .int .i64 ((rd_T70 l0 x10_1).f1.f2), .int .i64 ((rd_T70 l0 x10_1).f1.f3), .int .i64 ((rd_T70 l0 x10_1).f1.f4), .bool ((rd_T70 l0 x10_1).f1.f5), .bool ((rd_T70 l0 x10_1).f1.f6), .int .i64 ((rd_T70 l0 x10_1).f2), .int .i64 ((rd_T70 l0 x10_1).f3)] 70 (0, 0)) (by (with_reducible repeat (first | refine blk_drewN ?_ _ | refine blk_drew ?_ | refine blk_alloc ?_ _)); exact BK237.out) hg (Kd.R_away HO_3.out (fun _ hk => hk))); have n2_ := Aside0.mk (blk_grown (g := gb245) (o := .cells #[.int .i64 ((rd_T51 t241 x28_2).f0), .int .i64 ((rd_T51 t241 x28_2).f1), .int .i64 ((rd_T51 t241 x28_2).f2), .int .i64 ((rd_T51 t241 x28_2).f3), .int .i64 ((rd_T51 t241 x28_2).f4), .bool ((rd_T51 t241 x28_2).f5), .bool ((rd_T51 t241 x28_2).f6)] 51 (0, 0)) (by (with_reducible repeat (first | refine blk_drewN ?_ _ | refine blk_drew ?_ | refine blk_alloc ?_ _)); exact BK245.out) hg (Kd.R_ne HO_3.out BK245.out (by decide))); have n3_ := Aside0.mk (hb); have n4_ := Aside0.mk (ho); clear HO_26; clear BK237; clear BK245; clear HB; clear HO_3; have HO_26 := n0_; have BK237 := n1_; have BK245 := n2_; have HB := n3_; have HO258 := n4_; clear n0_ n1_ n2_ n3_ n4_; clear ho hb hg hat))
             go_roundg k2
             case measure => have := HK1.out; have := HK2.out; omega
             case rel => exact ⟨(y256), (wrap64 (x28_2 + 1)), (by first | rfl | (simp; done) | (simp [*]; done)), H', ⟨by have := HK1.out; have := HK2.out; omega⟩, ⟨by (with_reducible repeat (first | apply Kd.R_alloc | apply Kd.R_drewN | apply Kd.R_drew)); exact HO258.out⟩, ⟨by (with_reducible repeat (first | apply Kd.R_alloc | apply Kd.R_drewN | apply Kd.R_drew)); exact Kd.R_mono HO_26.out (fun _ hk => trivial)⟩, ⟨by (with_reducible repeat (first | refine blk_drewN ?_ _ | refine blk_drew ?_ | refine blk_alloc ?_ _)); exact BK237.out⟩, ⟨by repeat (first | (with_reducible first | exact HB.out | apply below_alloc | apply pw_below_drewN | apply below_drew1 | refine below_set ?_ GE237.out | refine below_set ?_ GE245.out) | exact HB.out)⟩⟩
            ·rw [if_neg c15] at H
             exact absurd H (by simp)
           ·rw [if_neg c13] at H
            exact absurd H (by simp)
          ·rw [if_neg c12] at H
           exact absurd H (by simp)
         ·rw [if_neg c11] at H
          have c11b0 : decide (x28_2 < (t241.length : Int)) = false := decide_eq_false c11
          clear c11
          have H' := Aside0.mk H
          clear H
          go_wp2
          go_roundg k2
          case measure => have := HK1.out; have := HK2.out; omega
          case rel => exact ⟨(x3_2), (wrap64 (x10_1 + 1)), (by first | rfl | (simp; done) | (simp [*]; done)), H', ⟨by have := HK1.out; have := HK2.out; omega⟩, ⟨by (with_reducible repeat (first | apply Kd.R_alloc | apply Kd.R_drewN | apply Kd.R_drew)); exact Kd.R_mono HO_3.out (fun _ hk => trivial)⟩, ⟨by repeat (first | (with_reducible first | exact HB.out | apply below_alloc | apply pw_below_drewN | apply below_drew1 | refine below_set ?_ GE237.out) | exact HB.out)⟩⟩
      ·rw [if_neg c5] at H
       have c5b0 : (((rd_T70 l0 x10_1).f0) == 4) = false := beq_eq_false_iff_ne.mpr c5
       have c5b1 : (((rd_T70 l0 x10_1).f0) != 4) = true := bne_iff_ne.mpr c5
       by_cases c22 : x3_1.length < 1954687338268
       ·rw [if_pos c22] at H
        have LMc22 := Aside0.mk c22
        clear c22
        obtain ⟨y238, hy238⟩ : ∃ y_ : List (S70), y_ = (x3_1 ++ [(⟨(rd_T70 l0 x10_1).f0, (⟨(rd_T70 l0 x10_1).f1.f0, (rd_T70 l0 x10_1).f1.f1, (rd_T70 l0 x10_1).f1.f2, (rd_T70 l0 x10_1).f1.f3, (rd_T70 l0 x10_1).f1.f4, (rd_T70 l0 x10_1).f1.f5, (rd_T70 l0 x10_1).f1.f6⟩ : S51), (rd_T70 l0 x10_1).f2, (rd_T70 l0 x10_1).f3⟩ : S70)]) := ⟨_, rfl⟩
        replace H : (unit_Expand.l0 k1 y238 l0 (l0.length : Int) (wrap64 (x10_1 + 1))) = some r := by first | (rw [hy238]; with_reducible exact H) | (have H2_ := (Option.bind_some _ _).symm.trans H; rw [hy238]; with_reducible exact H2_) | (have H2_ := (Option.bind_some _ _).symm.trans H; with_reducible exact H2_) | with_reducible exact H | (rw [hy238]; exact H) | exact H
        have Ny238 := Aside0.mk hy238
        clear hy238
        have H' := Aside0.mk H
        clear H
        have p236 : 0 ≤ (x10_1 : Int) := of_decide_eq_true (by first | (with_reducible assumption) | assumption)
        have q236 : x10_1 < (l0.length : Int) := of_decide_eq_true (by first | (with_reducible assumption) | assumption)
        obtain ⟨ad236, e236, hx236_0, hx236_1, hx236_2, hx236_3, hx236_4, hx236_5, hx236_6, hx236_7, hx236_8, hx236_9⟩ := at_T70 HR0.out x10_1 p236 q236
        cases e236
        replace hx236_0 := (HB.out.cell (World.block_lt_of_cell? w _ hx236_0)).trans hx236_0
        replace hx236_1 := (HB.out.cell (World.block_lt_of_cell? w _ hx236_1)).trans hx236_1
        replace hx236_2 := (HB.out.cell (World.block_lt_of_cell? w _ hx236_2)).trans hx236_2
        replace hx236_3 := (HB.out.cell (World.block_lt_of_cell? w _ hx236_3)).trans hx236_3
        replace hx236_4 := (HB.out.cell (World.block_lt_of_cell? w _ hx236_4)).trans hx236_4
        replace hx236_5 := (HB.out.cell (World.block_lt_of_cell? w _ hx236_5)).trans hx236_5
        replace hx236_6 := (HB.out.cell (World.block_lt_of_cell? w _ hx236_6)).trans hx236_6
        replace hx236_7 := (HB.out.cell (World.block_lt_of_cell? w _ hx236_7)).trans hx236_7
        replace hx236_8 := (HB.out.cell (World.block_lt_of_cell? w _ hx236_8)).trans hx236_8
        replace hx236_9 := (HB.out.cell (World.block_lt_of_cell? w _ hx236_9)).trans hx236_9
        replace p236 := eq_true p236
        replace q236 := eq_true q236
        go_wp2_with (first | ((with_reducible refine gate_dst (N := 5) rfl ?_); refine box_event ?hg (N := 5) ?hd (cs := #[.int .i64 0, .int .i64 0, .int .i64 0, .int .i64 0, .int .i64 0, .int .i64 0, .bool false, .bool false, .int .i64 0, .int .i64 0]) (t := 70) ?hr ?_; (case hd => rfl); (case hg => rfl); (case hr => first | (go_simp; done) | (go_simp; rfl)); intro gb237 hg w23 hbox hb; have n0_ := Aside0.mk (Kd.R_below (Kd.R_elderB (by (with_reducible repeat (first | apply Kd.R_alloc | apply Kd.R_drewN | apply Kd.R_drew)); exact HO_3.out) gb237 (Nat.le_of_eq hg.symm)) hb); have n1_ := Aside0.mk (below_step (by repeat (first | (with_reducible first | exact HB.out | apply below_alloc | apply pw_below_drewN | apply below_drew1) | exact HB.out)) hb); have n2_ := Aside0.mk (hbox); have n3_ := Aside0.mk ((by rw [hg]; exact (below_size (by repeat (first | (with_reducible first | exact HB.out | apply below_alloc | apply pw_below_drewN | apply below_drew1) | exact HB.out))) : w.heap.size ≤ gb237)); have n4_ := Aside0.mk ((by rw [hg]; exact (below_size (by repeat (first | (with_reducible first | exact HB.out | apply below_alloc | apply pw_below_drewN | apply below_drew1) | exact HB.out))) : w.heap.size ≤ gb237)); clear HO_3; clear HB; have HO_3 := n0_; have HB := n1_; have BK237 := n2_; have GW237 := n3_; have GE237 := n4_; clear n0_ n1_ n2_ n3_ n4_; clear hb hbox hg; have hcz24_0 : w23.cell? ⟨gb237, 0, none⟩ = some (.int .i64 0) := (blk_cell BK237.out 0).trans rfl; have hcz24_1 : w23.cell? ⟨gb237, 1, none⟩ = some (.int .i64 0) := (blk_cell BK237.out 1).trans rfl; have hcz24_2 : w23.cell? ⟨gb237, 2, none⟩ = some (.int .i64 0) := (blk_cell BK237.out 2).trans rfl; have hcz24_3 : w23.cell? ⟨gb237, 3, none⟩ = some (.int .i64 0) := (blk_cell BK237.out 3).trans rfl; have hcz24_4 : w23.cell? ⟨gb237, 4, none⟩ = some (.int .i64 0) := (blk_cell BK237.out 4).trans rfl; have hcz24_5 : w23.cell? ⟨gb237, 5, none⟩ = some (.int .i64 0) := (blk_cell BK237.out 5).trans rfl; have hcz24_6 : w23.cell? ⟨gb237, 6, none⟩ = some (.bool false) := (blk_cell BK237.out 6).trans rfl; have hcz24_7 : w23.cell? ⟨gb237, 7, none⟩ = some (.bool false) := (blk_cell BK237.out 7).trans rfl; have hcz24_8 : w23.cell? ⟨gb237, 8, none⟩ = some (.int .i64 0) := (blk_cell BK237.out 8).trans rfl; have hcz24_9 : w23.cell? ⟨gb237, 9, none⟩ = some (.int .i64 0) := (blk_cell BK237.out 9).trans rfl; have hfz24_0 := blk_frozen BK237.out 0; have hfz24_1 := blk_frozen BK237.out 1; have hfz24_2 := blk_frozen BK237.out 2; have hfz24_3 := blk_frozen BK237.out 3; have hfz24_4 := blk_frozen BK237.out 4; have hfz24_5 := blk_frozen BK237.out 5; have hfz24_6 := blk_frozen BK237.out 6; have hfz24_7 := blk_frozen BK237.out 7; have hfz24_8 := blk_frozen BK237.out 8; have hfz24_9 := blk_frozen BK237.out 9) | ((with_reducible refine gate_builtin (b := .append) (xs := #[.tmp 17, .tmp 19]) rfl ?_); at_builtin; refine Kd.R_append k70 (w0 := w) w.heap.size rfl (.tmp 17) (.tmp 19) 65 70 (.agg #[(.int .i64 0), (.int .i64 0), (.int .i64 0), (.int .i64 0), (.int .i64 0), (.int .i64 0), (.bool false), (.bool false), (.int .i64 0), (.int .i64 0)]) 72 rfl Tryd.underlying65 info70 rfl (by decide) (by omega) u3 x3_1 (⟨(rd_T70 l0 x10_1).f0, (⟨(rd_T70 l0 x10_1).f1.f0, (rd_T70 l0 x10_1).f1.f1, (rd_T70 l0 x10_1).f1.f2, (rd_T70 l0 x10_1).f1.f3, (rd_T70 l0 x10_1).f1.f4, (rd_T70 l0 x10_1).f1.f5, (rd_T70 l0 x10_1).f1.f6⟩ : S51), (rd_T70 l0 x10_1).f2, (rd_T70 l0 x10_1).f3⟩ : S70) [.int .i64 ((rd_T70 l0 x10_1).f0), .int .i64 ((rd_T70 l0 x10_1).f1.f0), .int .i64 ((rd_T70 l0 x10_1).f1.f1), .int .i64 ((rd_T70 l0 x10_1).f1.f2), .int .i64 ((rd_T70 l0 x10_1).f1.f3), .int .i64 ((rd_T70 l0 x10_1).f1.f4), .bool ((rd_T70 l0 x10_1).f1.f5), .bool ((rd_T70 l0 x10_1).f1.f6), .int .i64 ((rd_T70 l0 x10_1).f2), .int .i64 ((rd_T70 l0 x10_1).f3)] (fun k_ => k_ ≠ gb237) (fun _ => False) rfl (by first | (go_simp; done) | (go_simp; rfl)) ?aP (fun _ hk => hk.elim) ?aF ?aO ?aB ?aS ?aL ?_; (case aP => exact k70_mkM _ _ _ (⟨(rd_T70 l0 x10_1).f0, (⟨(rd_T70 l0 x10_1).f1.f0, (rd_T70 l0 x10_1).f1.f1, (rd_T70 l0 x10_1).f1.f2, (rd_T70 l0 x10_1).f1.f3, (rd_T70 l0 x10_1).f1.f4, (rd_T70 l0 x10_1).f1.f5, (rd_T70 l0 x10_1).f1.f6⟩ : S51), (rd_T70 l0 x10_1).f2, (rd_T70 l0 x10_1).f3⟩ : S70)); (case aB => exact (by repeat (first | (with_reducible first | exact HB.out | apply below_alloc | apply pw_below_drewN | apply below_drew1 | refine below_set ?_ GE237.out) | exact HB.out))); (case aF => exact (fun k_ hk => Kd.freshB (g := gb237) (o := .cells #[.int .i64 ((rd_T70 l0 x10_1).f0), .int .i64 ((rd_T70 l0 x10_1).f1.f0), .int .i64 ((rd_T70 l0 x10_1).f1.f1), .int .i64 ((rd_T70 l0 x10_1).f1.f2), .int .i64 ((rd_T70 l0 x10_1).f1.f3), .int .i64 ((rd_T70 l0 x10_1).f1.f4), .bool ((rd_T70 l0 x10_1).f1.f5), .bool ((rd_T70 l0 x10_1).f1.f6), .int .i64 ((rd_T70 l0 x10_1).f2), .int .i64 ((rd_T70 l0 x10_1).f3)] 70 (0, 0)) (by (with_reducible repeat (first | refine blk_drewN ?_ _ | refine blk_drew ?_ | refine blk_alloc ?_ _)); refine blk_put (cs := #[.int .i64 ((rd_T70 l0 x10_1).f0), .int .i64 ((rd_T70 l0 x10_1).f1.f0), .int .i64 ((rd_T70 l0 x10_1).f1.f1), .int .i64 ((rd_T70 l0 x10_1).f1.f2), .int .i64 ((rd_T70 l0 x10_1).f1.f3), .int .i64 ((rd_T70 l0 x10_1).f1.f4), .bool ((rd_T70 l0 x10_1).f1.f5), .bool ((rd_T70 l0 x10_1).f1.f6), .int .i64 ((rd_T70 l0 x10_1).f2), .int .i64 0]) ?_ 9 _ rfl; (with_reducible repeat (first | refine blk_drewN ?_ _ | refine blk_drew ?_ | refine blk_alloc ?_ _)); refine blk_put (cs := #[.int .i64 ((rd_T70 l0 x10_1).f0), .int .i64 ((rd_T70 l0 x10_1).f1.f0), .int .i64 ((rd_T70 l0 x10_1).f1.f1), .int .i64 ((rd_T70 l0 x10_1).f1.f2), .int .i64 ((rd_T70 l0 x10_1).f1.f3), .int .i64 ((rd_T70 l0 x10_1).f1.f4), .bool ((rd_T70 l0 x10_1).f1.f5), .bool ((rd_T70 l0 x10_1).f1.f6), .int .i64 0, .int .i64 0]) ?_ 8 _ rfl; (with_reducible repeat (first | refine blk_drewN ?_ _ | refine blk_drew ?_ | refine blk_alloc ?_ _)); refine blk_put (cs := #[.int .i64 ((rd_T70 l0 x10_1).f0), .int .i64 ((rd_T70 l0 x10_1).f1.f0), .int .i64 ((rd_T70 l0 x10_1).f1.f1), .int .i64 ((rd_T70 l0 x10_1).f1.f2), .int .i64 ((rd_T70 l0 x10_1).f1.f3), .int .i64 ((rd_T70 l0 x10_1).f1.f4), .bool ((rd_T70 l0 x10_1).f1.f5), .bool false, .int .i64 0, .int .i64 0]) ?_ 7 _ rfl; (with_reducible repeat (first | refine blk_drewN ?_ _ | refine blk_drew ?_ | refine blk_alloc ?_ _)); refine blk_put (cs := #[.int .i64 ((rd_T70 l0 x10_1).f0), .int .i64 ((rd_T70 l0 x10_1).f1.f0), .int .i64 ((rd_T70 l0 x10_1).f1.f1), .int .i64 ((rd_T70 l0 x10_1).f1.f2), .int .i64 ((rd_T70 l0 x10_1).f1.f3), .int .i64 ((rd_T70 l0 x10_1).f1.f4), .bool false, .bool false, .int .i64 0, .int .i64 0]) ?_ 6 _ rfl; (with_reducible repeat (first | refine blk_drewN ?_ _ | refine blk_drew ?_ | refine blk_alloc ?_ _)); refine blk_put (cs := #[.int .i64 ((rd_T70 l0 x10_1).f0), .int .i64 ((rd_T70 l0 x10_1).f1.f0), .int .i64 ((rd_T70 l0 x10_1).f1.f1), .int .i64 ((rd_T70 l0 x10_1).f1.f2), .int .i64 ((rd_T70 l0 x10_1).f1.f3), .int .i64 0, .bool false, .bool false, .int .i64 0, .int .i64 0]) ?_ 5 _ rfl; (with_reducible repeat (first | refine blk_drewN ?_ _ | refine blk_drew ?_ | refine blk_alloc ?_ _)); refine blk_put (cs := #[.int .i64 ((rd_T70 l0 x10_1).f0), .int .i64 ((rd_T70 l0 x10_1).f1.f0), .int .i64 ((rd_T70 l0 x10_1).f1.f1), .int .i64 ((rd_T70 l0 x10_1).f1.f2), .int .i64 0, .int .i64 0, .bool false, .bool false, .int .i64 0, .int .i64 0]) ?_ 4 _ rfl; (with_reducible repeat (first | refine blk_drewN ?_ _ | refine blk_drew ?_ | refine blk_alloc ?_ _)); refine blk_put (cs := #[.int .i64 ((rd_T70 l0 x10_1).f0), .int .i64 ((rd_T70 l0 x10_1).f1.f0), .int .i64 ((rd_T70 l0 x10_1).f1.f1), .int .i64 0, .int .i64 0, .int .i64 0, .bool false, .bool false, .int .i64 0, .int .i64 0]) ?_ 3 _ rfl; (with_reducible repeat (first | refine blk_drewN ?_ _ | refine blk_drew ?_ | refine blk_alloc ?_ _)); refine blk_put (cs := #[.int .i64 ((rd_T70 l0 x10_1).f0), .int .i64 ((rd_T70 l0 x10_1).f1.f0), .int .i64 0, .int .i64 0, .int .i64 0, .int .i64 0, .bool false, .bool false, .int .i64 0, .int .i64 0]) ?_ 2 _ rfl; (with_reducible repeat (first | refine blk_drewN ?_ _ | refine blk_drew ?_ | refine blk_alloc ?_ _)); refine blk_put (cs := #[.int .i64 ((rd_T70 l0 x10_1).f0), .int .i64 0, .int .i64 0, .int .i64 0, .int .i64 0, .int .i64 0, .bool false, .bool false, .int .i64 0, .int .i64 0]) ?_ 1 _ rfl; (with_reducible repeat (first | refine blk_drewN ?_ _ | refine blk_drew ?_ | refine blk_alloc ?_ _)); refine blk_put (cs := #[.int .i64 0, .int .i64 0, .int .i64 0, .int .i64 0, .int .i64 0, .int .i64 0, .bool false, .bool false, .int .i64 0, .int .i64 0]) ?_ 0 _ rfl; (with_reducible repeat (first | refine blk_drewN ?_ _ | refine blk_drew ?_ | refine blk_alloc ?_ _)); exact BK237.out) k_ hk)); (case aO => exact (by (with_reducible repeat (first | apply Kd.R_alloc | apply Kd.R_drewN | apply Kd.R_drew)); exact Kd.R_mono (Kd.R_far (p := ⟨gb237, 9, none⟩) (Kd.R_far (p := ⟨gb237, 8, none⟩) (Kd.R_far (p := ⟨gb237, 7, none⟩) (Kd.R_far (p := ⟨gb237, 6, none⟩) (Kd.R_far (p := ⟨gb237, 5, none⟩) (Kd.R_far (p := ⟨gb237, 4, none⟩) (Kd.R_far (p := ⟨gb237, 3, none⟩) (Kd.R_far (p := ⟨gb237, 2, none⟩) (Kd.R_far (p := ⟨gb237, 1, none⟩) (Kd.R_far (p := ⟨gb237, 0, none⟩) (Kd.R_mono HO_3.out (fun k_ hk => (⟨hk, hk.2⟩ : _ ∧ k_ ≠ gb237))) (fun _ hk => hk.2) (.int .i64 ((rd_T70 l0 x10_1).f0))) (fun _ hk => hk.2) (.int .i64 ((rd_T70 l0 x10_1).f1.f0))) (fun _ hk => hk.2) (.int .i64 ((rd_T70 l0 x10_1).f1.f1))) (fun _ hk => hk.2) (.int .i64 ((rd_T70 l0 x10_1).f1.f2))) (fun _ hk => hk.2) (.int .i64 ((rd_T70 l0 x10_1).f1.f3))) (fun _ hk => hk.2) (.int .i64 ((rd_T70 l0 x10_1).f1.f4))) (fun _ hk => hk.2) (.bool ((rd_T70 l0 x10_1).f1.f5))) (fun _ hk => hk.2) (.bool ((rd_T70 l0 x10_1).f1.f6))) (fun _ hk => hk.2) (.int .i64 ((rd_T70 l0 x10_1).f2))) (fun _ hk => hk.2) (.int .i64 ((rd_T70 l0 x10_1).f3))) (fun _ hk => hk.1.2))); (case aS => exact (below_size (by repeat (first | (with_reducible first | exact HB.out | apply below_alloc | apply pw_below_drewN | apply below_drew1 | refine below_set ?_ GE237.out) | exact HB.out)))); (case aL => have := LMc22.out; omega); intro v239 w25 ho hb hg hat; rw [← Ny238.out] at ho; have n0_ := Aside0.mk (blk_grown (g := gb237) (o := .cells #[.int .i64 ((rd_T70 l0 x10_1).f0), .int .i64 ((rd_T70 l0 x10_1).f1.f0), .int .i64 ((rd_T70 l0 x10_1).f1.f1), .int .i64 ((rd_T70 l0 x10_1).f1.f2), .int .i64 ((rd_T70 l0 x10_1).f1.f3), .int .i64 ((rd_T70 l0 x10_1).f1.f4), .bool ((rd_T70 l0 x10_1).f1.f5), .bool ((rd_T70 l0 x10_1).f1.f6), .int .i64 ((rd_T70 l0 x10_1).f2), .int .i64 ((rd_T70 l0 x10_1).f3)] 70 (0, 0)) (by (with_reducible repeat (first | refine blk_drewN ?_ _ | refine blk_drew ?_ | refine blk_alloc ?_ _)); refine blk_put (cs := #[.int .i64 ((rd_T70 l0 x10_1).f0), .int .i64 ((rd_T70 l0 x10_1).f1.f0), .int .i64 ((rd_T70 l0 x10_1).f1.f1), .int .i64 ((rd_T70 l0 x10_1).f1.f2), .int .i64 ((rd_T70 l0 x10_1).f1.f3), .int .i64 ((rd_T70 l0 x10_1).f1.f4), .bool ((rd_T70 l0 x10_1).f1.f5), .bool ((rd_T70 l0 x10_1).f1.f6), .int .i64 ((rd_T70 l0 x10_1).f2), .int .i64 0]) ?_ 9 _ rfl; (with_reducible repeat (first | refine blk_drewN ?_ _ | refine blk_drew ?_ | refine blk_alloc ?_ _)); refine blk_put (cs := #[.int .i64 ((rd_T70 l0 x10_1).f0), .int .i64 ((rd_T70 l0 x10_1).f1.f0), .int .i64 ((rd_T70 l0 x10_1).f1.f1), .int .i64 ((rd_T70 l0 x10_1).f1.f2), .int .i64 ((rd_T70 l0 x10_1).f1.f3), .int .i64 ((rd_T70 l0 x10_1).f1.f4), .bool ((rd_T70 l0 x10_1).f1.f5), .bool ((rd_T70 l0 x10_1).f1.f6), .int .i64 0, .int .i64 0]) ?_ 8 _ rfl; (with_reducible repeat (first | refine blk_drewN ?_ _ | refine blk_drew ?_ | refine blk_alloc ?_ _)); refine blk_put (cs := #[.int .i64 ((rd_T70 l0 x10_1).f0), .int .i64 ((rd_T70 l0 x10_1).f1.f0), .int .i64 ((rd_T70 l0 x10_1).f1.f1), .int .i64 ((rd_T70 l0 x10_1).f1.f2), .int .i64 ((rd_T70 l0 x10_1).f1.f3), .int .i64 ((rd_T70 l0 x10_1).f1.f4), .bool ((rd_T70 l0 x10_1).f1.f5), .bool false, .int .i64 0, .int .i64 0]) ?_ 7 _ rfl; (with_reducible repeat (first | refine blk_drewN ?_ _ | refine blk_drew ?_ | refine blk_alloc ?_ _)); refine blk_put (cs := #[.int .i64 ((rd_T70 l0 x10_1).f0), .int .i64 ((rd_T70 l0 x10_1).f1.f0), .int .i64 ((rd_T70 l0 x10_1).f1.f1), .int .i64 ((rd_T70 l0 x10_1).f1.f2), .int .i64 ((rd_T70 l0 x10_1).f1.f3), .int .i64 ((rd_T70 l0 x10_1).f1.f4), .bool false, .bool false, .int .i64 0, .int .i64 0]) ?_ 6 _ rfl; (with_reducible repeat (first | refine blk_drewN ?_ _ | refine blk_drew ?_ | refine blk_alloc ?_ _)); refine blk_put (cs := #[.int .i64 ((rd_T70 l0 x10_1).f0), .int .i64 ((rd_T70 l0 x10_1).f1.f0), .int .i64 ((rd_T70 l0 x10_1).f1.f1), .int .i64 ((rd_T70 l0 x10_1).f1.f2), .int .i64 ((rd_T70 l0 x10_1).f1.f3), .int .i64 0, .bool false, .bool false, .int .i64 0, .int .i64 0]) ?_ 5 _ rfl; (with_reducible repeat (first | refine blk_drewN ?_ _ | refine blk_drew ?_ | refine blk_alloc ?_ _)); refine blk_put (cs := #[.int .i64 ((rd_T70 l0 x10_1).f0), .int .i64 ((rd_T70 l0 x10_1).f1.f0), .int .i64 ((rd_T70 l0 x10_1).f1.f1), .int .i64 ((rd_T70 l0 x10_1).f1.f2), .int .i64 0, .int .i64 0, .bool false, .bool false, .int .i64 0, .int .i64 0]) ?_ 4 _ rfl; (with_reducible repeat (first | refine blk_drewN ?_ _ | refine blk_drew ?_ | refine blk_alloc ?_ _)); refine blk_put (cs := #[.int .i64 ((rd_T70 l0 x10_1).f0), .int .i64 ((rd_T70 l0 x10_1).f1.f0), .int .i64 ((rd_T70 l0 x10_1).f1.f1), .int .i64 0, .int .i64 0, .int .i64 0, .bool false, .bool false, .int .i64 0, .int .i64 0]) ?_ 3 _ rfl; (with_reducible repeat (first | refine blk_drewN ?_ _ | refine blk_drew ?_ | refine blk_alloc ?_ _)); refine blk_put (cs := #[.int .i64 ((rd_T70 l0 x10_1).f0), .int .i64 ((rd_T70 l0 x10_1).f1.f0), .int .i64 0, .int .i64 0, .int .i64 0, .int .i64 0, .bool false, .bool false, .int .i64 0, .int .i64 0]) ?_ 2 _ rfl; (with_reducible repeat (first | refine blk_drewN ?_ _ | refine blk_drew ?_ | refine blk_alloc ?_ _)); refine blk_put (cs := #[.int .i64 ((rd_T70 l0 x10_1).f0), .int .i64 0, .int .i64 0, .int .i64 0, .int .i64 0, .int .i64 0, .bool false, .bool false, .int .i64 0, .int .i64 0]) ?_ 1 _ rfl; (with_reducible repeat (first | refine blk_drewN ?_ _ | refine blk_drew ?_ | refine blk_alloc ?_ _)); refine blk_put (cs := #[.int .i64 0, .int .i64 0, .int .i64 0, .int .i64 0, .int .i64 0, .int .i64 0, .bool false, .bool false, .int .i64 0, .int .i64 0]) ?_ 0 _ rfl; (with_reducible repeat (first | refine blk_drewN ?_ _ | refine blk_drew ?_ | refine blk_alloc ?_ _)); exact BK237.out) hg (Kd.R_away HO_3.out (fun _ hk => hk.2))); have n1_ := Aside0.mk (hb); have n2_ := Aside0.mk (ho); clear BK237; clear HB; clear HO_3; have BK237 := n0_; have HB := n1_; have HO240 := n2_; clear n0_ n1_ n2_; clear ho hb hg hat))
        go_roundg k1
        case measure => have := HK1.out; omega
        case rel => exact ⟨(y238), (wrap64 (x10_1 + 1)), (by first | rfl | (simp; done) | (simp [*]; done)), H', ⟨by have := HK1.out; omega⟩, ⟨by (with_reducible repeat (first | apply Kd.R_alloc | apply Kd.R_drewN | apply Kd.R_drew)); exact Kd.R_mono HO240.out (fun _ hk => trivial)⟩, ⟨by repeat (first | (with_reducible first | exact HB.out | apply below_alloc | apply pw_below_drewN | apply below_drew1 | refine below_set ?_ GE237.out) | exact HB.out)⟩⟩
       ·rw [if_neg c22] at H
        exact absurd H (by simp)
     ·rw [if_neg c4] at H
      exact absurd H (by simp)
    ·rw [if_neg c3] at H
     exact absurd H (by simp)
   ·rw [if_neg c2] at H
    have c2b0 : decide (x10_1 < (l0.length : Int)) = false := decide_eq_false c2
    clear c2
    obtain rfl := Option.some.inj H
    go_wp2
    go_ret
    exact ⟨_, by first | rfl | (simp [errW_none, errW_some] <;> rfl) | (simp [*, errW_none, errW_some] <;> rfl), by (with_reducible repeat (first | apply Kd.R_alloc | apply Kd.R_drewN | apply Kd.R_drew)); exact HO_3.out, by repeat (first | (with_reducible first | exact HB.out | apply below_alloc | apply pw_below_drewN | apply below_drew1) | exact HB.out)⟩

/-! ### spinnakerref09_Same: function 51 -/
def spinnakerref09_Same.l0 : Nat → List (S70) → List (S70) → Int → Option (Bool)
  | 0, _, _, _ => none
  | k + 1, x0, x1, x5 => if x5 < (x0.length : Int) then (if 0 ≤ x5 then (if x5 < (x1.length : Int) then (if (!(((rd_T70 x0 x5).f0) == ((rd_T70 x1 x5).f0)) || ((!(((rd_T70 x0 x5).f1.f0) == ((rd_T70 x1 x5).f1.f0)) || (!(((rd_T70 x0 x5).f1.f1) == ((rd_T70 x1 x5).f1.f1)) || (!(((rd_T70 x0 x5).f1.f2) == ((rd_T70 x1 x5).f1.f2)) || (!(((rd_T70 x0 x5).f1.f3) == ((rd_T70 x1 x5).f1.f3)) || (!(((rd_T70 x0 x5).f1.f4) == ((rd_T70 x1 x5).f1.f4)) || (!(((rd_T70 x0 x5).f1.f5) == ((rd_T70 x1 x5).f1.f5)) || (!(((rd_T70 x0 x5).f1.f6) == ((rd_T70 x1 x5).f1.f6))))))))) || (!(((rd_T70 x0 x5).f2) == ((rd_T70 x1 x5).f2)) || (!(((rd_T70 x0 x5).f3) == ((rd_T70 x1 x5).f3)))))) = true then (some false) else (spinnakerref09_Same.l0 k x0 x1 (wrap64 (x5 + 1)))) else (none)) else (none)) else (some true)
def spinnakerref09_Same.f (k : Nat) (l0 : List (S70)) (l1 : List (S70)) : Option (Bool) := if (l0.length : Int) = (l1.length : Int) then (spinnakerref09_Same.l0 k l0 l1 0) else (some false)
theorem spinnakerref09_Same.mono_l : ∀ k, (∀ y0 y1 y2, LeO (spinnakerref09_Same.l0 k y0 y1 y2) (spinnakerref09_Same.l0 (k + 1) y0 y1 y2))
 | 0 => fun _ _ _ r h => by simp [spinnakerref09_Same.l0] at h
 | k + 1 => by
  have ih0 := spinnakerref09_Same.mono_l k
  ·intro y0 y1 y2
   unfold spinnakerref09_Same.l0
   repeat' first
   | (with_reducible exact ih0 _ _ _)
   | (with_reducible exact LeO.refl _)
   | (with_reducible exact LeO.none _)
   | (with_reducible refine LeO.ite ?_ ?_)
   | (with_reducible refine LeO.bind ?_ (fun _ => ?_))
   | exact ih0 _ _ _
   | exact LeO.none _
   | refine LeO.ite ?_ ?_
   | refine LeO.bind ?_ (fun _ => ?_)
theorem spinnakerref09_Same.mono : ∀ a0 a1 k, LeO (spinnakerref09_Same.f k a0 a1) (spinnakerref09_Same.f (k + 1) a0 a1) := by
 intro a0 a1 k
 have ih0 := spinnakerref09_Same.mono_l k
 unfold spinnakerref09_Same.f
 repeat' first
   | (with_reducible exact ih0 _ _ _)
   | (with_reducible exact LeO.refl _)
   | (with_reducible exact LeO.none _)
   | (with_reducible refine LeO.ite ?_ ?_)
   | (with_reducible refine LeO.bind ?_ (fun _ => ?_))
   | exact ih0 _ _ _
   | exact LeO.none _
   | refine LeO.ite ?_ ?_
   | refine LeO.bind ?_ (fun _ => ?_)
set_option maxHeartbeats 8000000 in
set_option maxRecDepth 100000 in
theorem spinnakerref09_Same.calls (k : Nat) (A0 : Option Addr) (c0 : Nat) (l0 : List (S70)) (A1 : Option Addr) (c1 : Nat) (l1 : List (S70)) (r : Bool) (w : World) (hr0 : Kd.C k70 w A0 l0.length l0) (hc0 : l0.length ≤ c0) (hr1 : Kd.C k70 w A1 l1.length l1) (hc1 : l1.length ≤ c1) (h : spinnakerref09_Same.f k l0 l1 = some r) :
  Calls Tryd.prog 51 #[.slice A0 l0.length c0, .slice A1 l1.length c1] w fun e w' => e = .returned (.bool r) ∧ Drawn0 w w' := by
 have hu70 := Tryd.underlying70
 have HR0 := Aside0.mk hr0
 have HC0 := Aside0.mk hc0
 clear hr0 hc0
 have HR1 := Aside0.mk hr1
 have HC1 := Aside0.mk hc1
 clear hr1 hc1
 have H : (if (l0.length : Int) = (l1.length : Int) then (spinnakerref09_Same.l0 k l0 l1 0) else (some false)) = some r := h
 clear h
 by_cases c3 : (l0.length : Int) = (l1.length : Int)
 ·rw [if_pos c3] at H
  have c3b0 : ((l0.length : Int) == (l1.length : Int)) = true := beq_iff_eq.mpr c3
  have c3b1 : ((l0.length : Int) != (l1.length : Int)) = false := bne_eq_false_iff_eq.mpr c3
  have c3b2 : (l0.length == l1.length) = true := by first | simpa using c3 | (simp at c3 ⊢; omega)
  clear c3
  have H' := Aside0.mk H
  clear H
  go_enter Tryd.func51, Tryd.ntmps51
  go_wp2
  repeat (go_quiet (fail); try go_wp2)
  go_loopg [5] k (fun kq v5 w' => ∃ (x5_1 : Int), v5 = .int .i64 x5_1 ∧ Aside0 (spinnakerref09_Same.l0 kq l0 l1 x5_1 = some r) ∧ Aside0 (kq ≤ k) ∧ Drawn0 w w')
  case atStart => exact ⟨(0), (by first | rfl | (simp; done) | (simp [*]; done)), H', ⟨Nat.le_refl _⟩, by repeat (first | exact Drawn0.refl _ | apply Drawn0.step)⟩
  case round =>
   clear H'
   try clear c1
   try clear p2
   try clear c3
   try clear c3b0
   try clear c3b1
   try clear c3b2
   obtain ⟨x5_1, rfl, HA, HK1, ⟨m1, rfl⟩⟩ := hrel
   cases gk with
   | zero => exact absurd HA.out (by simp [spinnakerref09_Same.l0])
   | succ k1 =>
    have H := HA.out
    clear HA
    simp only [spinnakerref09_Same.l0] at H
    by_cases c4 : x5_1 < (l0.length : Int)
    ·rw [if_pos c4] at H
     have c4b0 : decide (x5_1 < (l0.length : Int)) = true := decide_eq_true c4
     clear c4
     by_cases c5 : 0 ≤ x5_1
     ·rw [if_pos c5] at H
      have c5b0 : decide (0 ≤ x5_1) = true := decide_eq_true c5
      clear c5
      by_cases c6 : x5_1 < (l1.length : Int)
      ·rw [if_pos c6] at H
       have c6b0 : decide (x5_1 < (l1.length : Int)) = true := decide_eq_true c6
       clear c6
       by_cases c7 : (!(((rd_T70 l0 x5_1).f0) == ((rd_T70 l1 x5_1).f0)) || ((!(((rd_T70 l0 x5_1).f1.f0) == ((rd_T70 l1 x5_1).f1.f0)) || (!(((rd_T70 l0 x5_1).f1.f1) == ((rd_T70 l1 x5_1).f1.f1)) || (!(((rd_T70 l0 x5_1).f1.f2) == ((rd_T70 l1 x5_1).f1.f2)) || (!(((rd_T70 l0 x5_1).f1.f3) == ((rd_T70 l1 x5_1).f1.f3)) || (!(((rd_T70 l0 x5_1).f1.f4) == ((rd_T70 l1 x5_1).f1.f4)) || (!(((rd_T70 l0 x5_1).f1.f5) == ((rd_T70 l1 x5_1).f1.f5)) || (!(((rd_T70 l0 x5_1).f1.f6) == ((rd_T70 l1 x5_1).f1.f6))))))))) || (!(((rd_T70 l0 x5_1).f2) == ((rd_T70 l1 x5_1).f2)) || (!(((rd_T70 l0 x5_1).f3) == ((rd_T70 l1 x5_1).f3)))))) = true
       ·rw [if_pos c7] at H
        have c7b0 : (!(((rd_T70 l0 x5_1).f0) == ((rd_T70 l1 x5_1).f0)) || ((!(((rd_T70 l0 x5_1).f1.f0) == ((rd_T70 l1 x5_1).f1.f0)) || (!(((rd_T70 l0 x5_1).f1.f1) == ((rd_T70 l1 x5_1).f1.f1)) || (!(((rd_T70 l0 x5_1).f1.f2) == ((rd_T70 l1 x5_1).f1.f2)) || (!(((rd_T70 l0 x5_1).f1.f3) == ((rd_T70 l1 x5_1).f1.f3)) || (!(((rd_T70 l0 x5_1).f1.f4) == ((rd_T70 l1 x5_1).f1.f4)) || (!(((rd_T70 l0 x5_1).f1.f5) == ((rd_T70 l1 x5_1).f1.f5)) || (!(((rd_T70 l0 x5_1).f1.f6) == ((rd_T70 l1 x5_1).f1.f6))))))))) || (!(((rd_T70 l0 x5_1).f2) == ((rd_T70 l1 x5_1).f2)) || (!(((rd_T70 l0 x5_1).f3) == ((rd_T70 l1 x5_1).f3)))))) = true := c7
        clear c7
        obtain rfl := Option.some.inj H
        have p259 : 0 ≤ (x5_1 : Int) := of_decide_eq_true (by first | (with_reducible assumption) | assumption)
        have q259 : x5_1 < (l0.length : Int) := of_decide_eq_true (by first | (with_reducible assumption) | assumption)
        obtain ⟨ad259, e259, hx259_0, hx259_1, hx259_2, hx259_3, hx259_4, hx259_5, hx259_6, hx259_7, hx259_8, hx259_9⟩ := at_T70 HR0.out x5_1 p259 q259
        cases e259
        replace p259 := eq_true p259
        replace q259 := eq_true q259
        have p260 : 0 ≤ (x5_1 : Int) := of_decide_eq_true (by first | (with_reducible assumption) | assumption)
        have q260 : x5_1 < (l1.length : Int) := of_decide_eq_true (by first | (with_reducible assumption) | assumption)
        obtain ⟨ad260, e260, hx260_0, hx260_1, hx260_2, hx260_3, hx260_4, hx260_5, hx260_6, hx260_7, hx260_8, hx260_9⟩ := at_T70 HR1.out x5_1 p260 q260
        cases e260
        replace p260 := eq_true p260
        replace q260 := eq_true q260
        go_wp2
        repeat (go_quiet (fail); try go_wp2)
        go_ret
        exact ⟨by first | rfl | (simp; done) | (simp [*]; done), by repeat (first | exact Drawn0.refl _ | apply Drawn0.step)⟩
       ·rw [if_neg c7] at H
        have c7b0 : (!(((rd_T70 l0 x5_1).f0) == ((rd_T70 l1 x5_1).f0)) || ((!(((rd_T70 l0 x5_1).f1.f0) == ((rd_T70 l1 x5_1).f1.f0)) || (!(((rd_T70 l0 x5_1).f1.f1) == ((rd_T70 l1 x5_1).f1.f1)) || (!(((rd_T70 l0 x5_1).f1.f2) == ((rd_T70 l1 x5_1).f1.f2)) || (!(((rd_T70 l0 x5_1).f1.f3) == ((rd_T70 l1 x5_1).f1.f3)) || (!(((rd_T70 l0 x5_1).f1.f4) == ((rd_T70 l1 x5_1).f1.f4)) || (!(((rd_T70 l0 x5_1).f1.f5) == ((rd_T70 l1 x5_1).f1.f5)) || (!(((rd_T70 l0 x5_1).f1.f6) == ((rd_T70 l1 x5_1).f1.f6))))))))) || (!(((rd_T70 l0 x5_1).f2) == ((rd_T70 l1 x5_1).f2)) || (!(((rd_T70 l0 x5_1).f3) == ((rd_T70 l1 x5_1).f3)))))) = false := by simpa using c7
        clear c7
        have H' := Aside0.mk H
        clear H
        have p259 : 0 ≤ (x5_1 : Int) := of_decide_eq_true (by first | (with_reducible assumption) | assumption)
        have q259 : x5_1 < (l0.length : Int) := of_decide_eq_true (by first | (with_reducible assumption) | assumption)
        obtain ⟨ad259, e259, hx259_0, hx259_1, hx259_2, hx259_3, hx259_4, hx259_5, hx259_6, hx259_7, hx259_8, hx259_9⟩ := at_T70 HR0.out x5_1 p259 q259
        cases e259
        replace p259 := eq_true p259
        replace q259 := eq_true q259
        have p260 : 0 ≤ (x5_1 : Int) := of_decide_eq_true (by first | (with_reducible assumption) | assumption)
        have q260 : x5_1 < (l1.length : Int) := of_decide_eq_true (by first | (with_reducible assumption) | assumption)
        obtain ⟨ad260, e260, hx260_0, hx260_1, hx260_2, hx260_3, hx260_4, hx260_5, hx260_6, hx260_7, hx260_8, hx260_9⟩ := at_T70 HR1.out x5_1 p260 q260
        cases e260
        replace p260 := eq_true p260
        replace q260 := eq_true q260
        go_wp2
        repeat (go_quiet (fail); try go_wp2)
        go_roundg k1
        case measure => have := HK1.out; omega
        case rel => exact ⟨(wrap64 (x5_1 + 1)), (by first | rfl | (simp; done) | (simp [*]; done)), H', ⟨by have := HK1.out; omega⟩, by repeat (first | exact Drawn0.refl _ | apply Drawn0.step)⟩
      ·rw [if_neg c6] at H
       exact absurd H (by simp)
     ·rw [if_neg c5] at H
      exact absurd H (by simp)
    ·rw [if_neg c4] at H
     have c4b0 : decide (x5_1 < (l0.length : Int)) = false := decide_eq_false c4
     clear c4
     obtain rfl := Option.some.inj H
     go_wp2
     repeat (go_quiet (fail); try go_wp2)
     go_ret
     exact ⟨by first | rfl | (simp; done) | (simp [*]; done), by repeat (first | exact Drawn0.refl _ | apply Drawn0.step)⟩
 ·rw [if_neg c3] at H
  have c3b0 : ((l0.length : Int) == (l1.length : Int)) = false := beq_eq_false_iff_ne.mpr c3
  have c3b1 : ((l0.length : Int) != (l1.length : Int)) = true := bne_iff_ne.mpr c3
  have c3b2 : (l0.length == l1.length) = false := by first | simpa using c3 | (simp at c3 ⊢; omega)
  obtain rfl := Option.some.inj H
  go_enter Tryd.func51, Tryd.ntmps51
  go_wp2
  repeat (go_quiet (fail); try go_wp2)
  go_ret
  exact ⟨by first | rfl | (simp; done) | (simp [*]; done), by repeat (first | exact Drawn0.refl _ | apply Drawn0.step)⟩

/-! ### spinnakerref01_Bit: function 37 -/
def spinnakerref01_Bit.l0 : Nat → Int → Int → Int → Option (Int)
  | 0, _, _, _ => none
  | k + 1, x0, x1, x5 => if x5 < x1 then (spinnakerref01_Bit.l0 k (IntKind.u64.wrap (Int.tdiv x0 2)) x1 (wrap64 (x5 + 1))) else (some (wrap64 (Int.tmod x0 2)))
def spinnakerref01_Bit.f (k : Nat) (a0 : Int) (a1 : Int) : Option (Int) := spinnakerref01_Bit.l0 k a0 a1 0
theorem spinnakerref01_Bit.mono_l : ∀ k, (∀ y0 y1 y2, LeO (spinnakerref01_Bit.l0 k y0 y1 y2) (spinnakerref01_Bit.l0 (k + 1) y0 y1 y2))
 | 0 => fun _ _ _ r h => by simp [spinnakerref01_Bit.l0] at h
 | k + 1 => by
  have ih0 := spinnakerref01_Bit.mono_l k
  ·intro y0 y1 y2
   unfold spinnakerref01_Bit.l0
   repeat' first
   | (with_reducible exact ih0 _ _ _)
   | (with_reducible exact LeO.refl _)
   | (with_reducible exact LeO.none _)
   | (with_reducible refine LeO.ite ?_ ?_)
   | (with_reducible refine LeO.bind ?_ (fun _ => ?_))
   | exact ih0 _ _ _
   | exact LeO.none _
   | refine LeO.ite ?_ ?_
   | refine LeO.bind ?_ (fun _ => ?_)
theorem spinnakerref01_Bit.mono : ∀ a0 a1 k, LeO (spinnakerref01_Bit.f k a0 a1) (spinnakerref01_Bit.f (k + 1) a0 a1) := by
 intro a0 a1 k
 have ih0 := spinnakerref01_Bit.mono_l k
 unfold spinnakerref01_Bit.f
 repeat' first
   | (with_reducible exact ih0 _ _ _)
   | (with_reducible exact LeO.refl _)
   | (with_reducible exact LeO.none _)
   | (with_reducible refine LeO.ite ?_ ?_)
   | (with_reducible refine LeO.bind ?_ (fun _ => ?_))
   | exact ih0 _ _ _
   | exact LeO.none _
   | refine LeO.ite ?_ ?_
   | refine LeO.bind ?_ (fun _ => ?_)
set_option maxHeartbeats 8000000 in
set_option maxRecDepth 100000 in
theorem spinnakerref01_Bit.calls (k : Nat) (a0 : Int) (a1 : Int) (r : Int) (w : World) (h : spinnakerref01_Bit.f k a0 a1 = some r) :
  Calls Tryd.prog 37 #[.int .u64 a0, .int .i64 a1] w fun e w' => e = .returned (.int .i64 r) ∧ Drawn0 w w' := by
 have H : (spinnakerref01_Bit.l0 k a0 a1 0) = some r := h
 clear h
 have H' := Aside0.mk H
 clear H
 go_enter Tryd.func37, Tryd.ntmps37
 go_wp2
 go_loopg [0, 5] k (fun kq v0 v5 w' => ∃ (x0_1 : Int) (x5_1 : Int), v0 = .int .u64 x0_1 ∧ v5 = .int .i64 x5_1 ∧ Aside0 (spinnakerref01_Bit.l0 kq x0_1 a1 x5_1 = some r) ∧ Aside0 (kq ≤ k) ∧ Drawn0 w w')
 case atStart => exact ⟨(a0), (0), (by first | rfl | (simp; done) | (simp [*]; done)), (by first | rfl | (simp; done) | (simp [*]; done)), H', ⟨Nat.le_refl _⟩, by repeat (first | exact Drawn0.refl _ | apply Drawn0.step)⟩
 case round =>
  clear H'
  try clear p2
  obtain ⟨x0_1, x5_1, rfl, rfl, HA, HK1, ⟨m1, rfl⟩⟩ := hrel
  cases gk with
  | zero => exact absurd HA.out (by simp [spinnakerref01_Bit.l0])
  | succ k1 =>
   have H := HA.out
   clear HA
   simp only [spinnakerref01_Bit.l0] at H
   by_cases c3 : x5_1 < a1
   ·rw [if_pos c3] at H
    have c3b0 : decide (x5_1 < a1) = true := decide_eq_true c3
    clear c3
    have H' := Aside0.mk H
    clear H
    go_wp2
    go_roundg k1
    case measure => have := HK1.out; omega
    case rel => exact ⟨(IntKind.u64.wrap (Int.tdiv x0_1 2)), (wrap64 (x5_1 + 1)), (by first | rfl | (simp; done) | (simp [*]; done)), (by first | rfl | (simp; done) | (simp [*]; done)), H', ⟨by have := HK1.out; omega⟩, by repeat (first | exact Drawn0.refl _ | apply Drawn0.step)⟩
   ·rw [if_neg c3] at H
    have c3b0 : decide (x5_1 < a1) = false := decide_eq_false c3
    clear c3
    obtain rfl := Option.some.inj H
    go_wp2
    go_ret
    exact ⟨by first | rfl | (simp; done) | (simp [*]; done), by repeat (first | exact Drawn0.refl _ | apply Drawn0.step)⟩

/-! ### spinnakerref01_Sign: function 118 -/
def spinnakerref01_Sign.l0 : Nat → Int → Int → Int → Int → Int → Option (Int)
  | 0, _, _, _, _, _ => none
  | k + 1, x0, x1, x5, x6, x7 => if x7 < (wrap64 (x1 - 1)) then ((spinnakerref01_Bit.f k x0 x7).bind fun t261 => (spinnakerref01_Sign.l0 k x0 x1 (wrap64 (x5 + (wrap64 (x6 * t261)))) (wrap64 (2 * x6)) (wrap64 (x7 + 1)))) else ((spinnakerref01_Bit.f k x0 (wrap64 (x1 - 1))).bind fun t262 => (some (wrap64 (x5 - (wrap64 (x6 * t262))))))
def spinnakerref01_Sign.f (k : Nat) (a0 : Int) (a1 : Int) : Option (Int) := spinnakerref01_Sign.l0 k a0 a1 0 1 0
theorem spinnakerref01_Sign.mono_l : ∀ k, (∀ y0 y1 y2 y3 y4, LeO (spinnakerref01_Sign.l0 k y0 y1 y2 y3 y4) (spinnakerref01_Sign.l0 (k + 1) y0 y1 y2 y3 y4))
 | 0 => fun _ _ _ _ _ r h => by simp [spinnakerref01_Sign.l0] at h
 | k + 1 => by
  have ih0 := spinnakerref01_Sign.mono_l k
  ·intro y0 y1 y2 y3 y4
   unfold spinnakerref01_Sign.l0
   repeat' first
   | (with_reducible exact ih0 _ _ _ _ _)
   | (with_reducible exact spinnakerref01_Bit.mono _ _ _)
   | (with_reducible exact LeO.refl _)
   | (with_reducible exact LeO.none _)
   | (with_reducible refine LeO.ite ?_ ?_)
   | (with_reducible refine LeO.bind ?_ (fun _ => ?_))
   | exact ih0 _ _ _ _ _
   | exact spinnakerref01_Bit.mono _ _ _
   | exact LeO.none _
   | refine LeO.ite ?_ ?_
   | refine LeO.bind ?_ (fun _ => ?_)
theorem spinnakerref01_Sign.mono : ∀ a0 a1 k, LeO (spinnakerref01_Sign.f k a0 a1) (spinnakerref01_Sign.f (k + 1) a0 a1) := by
 intro a0 a1 k
 have ih0 := spinnakerref01_Sign.mono_l k
 unfold spinnakerref01_Sign.f
 repeat' first
   | (with_reducible exact ih0 _ _ _ _ _)
   | (with_reducible exact spinnakerref01_Bit.mono _ _ _)
   | (with_reducible exact LeO.refl _)
   | (with_reducible exact LeO.none _)
   | (with_reducible refine LeO.ite ?_ ?_)
   | (with_reducible refine LeO.bind ?_ (fun _ => ?_))
   | exact ih0 _ _ _ _ _
   | exact spinnakerref01_Bit.mono _ _ _
   | exact LeO.none _
   | refine LeO.ite ?_ ?_
   | refine LeO.bind ?_ (fun _ => ?_)
set_option maxHeartbeats 8000000 in
set_option maxRecDepth 100000 in
theorem spinnakerref01_Sign.calls (k : Nat) (a0 : Int) (a1 : Int) (r : Int) (w : World) (h : spinnakerref01_Sign.f k a0 a1 = some r) :
  Calls Tryd.prog 118 #[.int .u64 a0, .int .i64 a1] w fun e w' => e = .returned (.int .i64 r) ∧ Drawn0 w w' := by
 have H : (spinnakerref01_Sign.l0 k a0 a1 0 1 0) = some r := h
 clear h
 have H' := Aside0.mk H
 clear H
 go_enter Tryd.func118, Tryd.ntmps118
 go_wp2
 go_loopg [5, 6, 7] k (fun kq v5 v6 v7 w' => ∃ (x5_1 : Int) (x6_1 : Int) (x7_1 : Int), v5 = .int .i64 x5_1 ∧ v6 = .int .i64 x6_1 ∧ v7 = .int .i64 x7_1 ∧ Aside0 (spinnakerref01_Sign.l0 kq a0 a1 x5_1 x6_1 x7_1 = some r) ∧ Aside0 (kq ≤ k) ∧ Drawn0 w w')
 case atStart => exact ⟨(0), (1), (0), (by first | rfl | (simp; done) | (simp [*]; done)), (by first | rfl | (simp; done) | (simp [*]; done)), (by first | rfl | (simp; done) | (simp [*]; done)), H', ⟨Nat.le_refl _⟩, by repeat (first | exact Drawn0.refl _ | apply Drawn0.step)⟩
 case round =>
  clear H'
  try clear c1
  try clear p2
  obtain ⟨x5_1, x6_1, x7_1, rfl, rfl, rfl, HA, HK1, ⟨m1, rfl⟩⟩ := hrel
  cases gk with
  | zero => exact absurd HA.out (by simp [spinnakerref01_Sign.l0])
  | succ k1 =>
   have H := HA.out
   clear HA
   simp only [spinnakerref01_Sign.l0] at H
   by_cases c3 : x7_1 < (wrap64 (a1 - 1))
   ·rw [if_pos c3] at H
    have c3b0 : decide (x7_1 < (wrap64 (a1 - 1))) = true := decide_eq_true c3
    clear c3
    replace H := Option.bind_eq_some_iff.mp H
    obtain ⟨t261, A40, H⟩ := H
    replace H : (spinnakerref01_Sign.l0 k1 a0 a1 (wrap64 (x5_1 + (wrap64 (x6_1 * t261)))) (wrap64 (2 * x6_1)) (wrap64 (x7_1 + 1))) = some r := H
    have A4 := Aside0.mk A40
    clear A40
    have H' := Aside0.mk H
    clear H
    go_wp2_with (first | ((with_reducible refine gate_callee (f := 37) rfl ?_); refine goesL_ (some 18) rfl rfl Tryd.func37 (by kernel_rfl) rfl #[.int .u64 a0, .int .i64 x7_1] rfl (by (try simp only [List.map_toArray, List.map_cons, List.map_nil]); first | done | rfl | (simp only [List.length_drop, List.length_take]; rfl)) ?_; (with_reducible refine (spinnakerref01_Bit.calls k1 a0 x7_1 t261 _ A4.out).mono ?_); rintro e w' ⟨rfl, ⟨nd, rfl⟩⟩; refine ⟨_, rfl, ?_⟩))
    go_roundg k1
    case measure => have := HK1.out; omega
    case rel => exact ⟨(wrap64 (x5_1 + (wrap64 (x6_1 * t261)))), (wrap64 (2 * x6_1)), (wrap64 (x7_1 + 1)), (by first | rfl | (simp; done) | (simp [*]; done)), (by first | rfl | (simp; done) | (simp [*]; done)), (by first | rfl | (simp; done) | (simp [*]; done)), H', ⟨by have := HK1.out; omega⟩, by repeat (first | exact Drawn0.refl _ | apply Drawn0.step)⟩
   ·rw [if_neg c3] at H
    have c3b0 : decide (x7_1 < (wrap64 (a1 - 1))) = false := decide_eq_false c3
    clear c3
    replace H := Option.bind_eq_some_iff.mp H
    obtain ⟨t262, A50, H⟩ := H
    replace H : (some (wrap64 (x5_1 - (wrap64 (x6_1 * t262))))) = some r := H
    have A5 := Aside0.mk A50
    clear A50
    obtain rfl := Option.some.inj H
    go_wp2_with (first | ((with_reducible refine gate_callee (f := 37) rfl ?_); refine goesL_ (some 28) rfl rfl Tryd.func37 (by kernel_rfl) rfl #[.int .u64 a0, .int .i64 (wrap64 (a1 - 1))] rfl (by (try simp only [List.map_toArray, List.map_cons, List.map_nil]); first | done | rfl | (simp only [List.length_drop, List.length_take]; rfl)) ?_; (with_reducible refine (spinnakerref01_Bit.calls k1 a0 (wrap64 (a1 - 1)) t262 _ A5.out).mono ?_); rintro e w' ⟨rfl, ⟨nd, rfl⟩⟩; refine ⟨_, rfl, ?_⟩))
    go_ret
    exact ⟨by first | rfl | (simp; done) | (simp [*]; done), by repeat (first | exact Drawn0.refl _ | apply Drawn0.step)⟩

end Go.Proofs.YtbmjbidekmkboaaDoor.GUnitExpands
