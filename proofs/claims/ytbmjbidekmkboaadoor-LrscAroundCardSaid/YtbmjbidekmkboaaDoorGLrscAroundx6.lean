-- Written by wip/stub.py of this repo.
import Derived.Test.YtbmjbidekmkboaaDoorGLrscAroundx0
import Derived.Test.YtbmjbidekmkboaaDoorGLrscAroundx3
import Derived.Test.YtbmjbidekmkboaaDoorGLrscAroundx5
namespace Go.Proofs.YtbmjbidekmkboaaDoor.GLrscAround
open Go.RowKit Go.Proofs.YtbmjbidekmkboaaDoorW.PrintWords Go.Proofs.YtbmjbidekmkboaaDoorW.PrintLast Go.Proofs.YtbmjbidekmkboaaDoorW.PrintMore
attribute [local go_sem] max2_int min2_int max_two min_two max_three min_three max_four min_four   -- for this text's walks alone
set_option linter.unusedVariables false
set_option linter.unusedSimpArgs false

/-! ### lrsc_LengthF1: function 58 -/
def lrsc_LengthF1.f (k : Nat) (a0_0 : Int) (a0_1 : Int) (a0_2 : Int) (a0_3 : Int) (a0_4 : Int) (a0_5 : Bool) (a0_6 : Bool) : Option (Bool) := (isa_May.f k a0_0 a0_1 a0_2 a0_3 a0_4 a0_5 a0_6).bind fun t153 => (if t153 = true then ((lrsc_plain.f a0_0 a0_1 a0_2 a0_3 a0_4 a0_5 a0_6).bind fun t154 => (if t154 = true then (some true) else ((lrsc_leads.f a0_0 a0_1 a0_2 a0_3 a0_4 a0_5 a0_6).bind fun t155 => (if t155 = true then (some (decide (a0_4 > 0))) else (some false))))) else (some false))
theorem lrsc_LengthF1.mono : ∀ a0 a1 a2 a3 a4 a5 a6 k, LeO (lrsc_LengthF1.f k a0 a1 a2 a3 a4 a5 a6) (lrsc_LengthF1.f (k + 1) a0 a1 a2 a3 a4 a5 a6) := by
 intro a0 a1 a2 a3 a4 a5 a6 k
 unfold lrsc_LengthF1.f
 repeat' first
   | (with_reducible exact isa_May.mono _ _ _ _ _ _ _ _)
   | (with_reducible exact LeO.refl _)
   | (with_reducible exact LeO.none _)
   | (with_reducible refine LeO.ite ?_ ?_)
   | (with_reducible refine LeO.bind ?_ (fun _ => ?_))
   | exact isa_May.mono _ _ _ _ _ _ _ _
   | exact LeO.none _
   | refine LeO.ite ?_ ?_
   | refine LeO.bind ?_ (fun _ => ?_)
set_option maxHeartbeats 8000000 in
set_option maxRecDepth 100000 in
theorem lrsc_LengthF1.calls (k : Nat) (a0_0 : Int) (a0_1 : Int) (a0_2 : Int) (a0_3 : Int) (a0_4 : Int) (a0_5 : Bool) (a0_6 : Bool) (r : Bool) (w : World) (hL : Laid w) (h : lrsc_LengthF1.f k a0_0 a0_1 a0_2 a0_3 a0_4 a0_5 a0_6 = some r) :
  Calls Tryd.prog 58 #[.agg #[.int .i64 a0_0, .int .i64 a0_1, .int .i64 a0_2, .int .i64 a0_3, .int .i64 a0_4, .bool a0_5, .bool a0_6]] w fun e w' => e = .returned (.bool r) ∧ Below w.heap.size w w' := by
 have HL := Aside0.mk hL
 clear hL
 have hu51 := Tryd.underlying51
 have HB := Aside0.mk (Below.refl w.heap.size w)
 have H : ((isa_May.f k a0_0 a0_1 a0_2 a0_3 a0_4 a0_5 a0_6).bind fun t153 => (if t153 = true then ((lrsc_plain.f a0_0 a0_1 a0_2 a0_3 a0_4 a0_5 a0_6).bind fun t154 => (if t154 = true then (some true) else ((lrsc_leads.f a0_0 a0_1 a0_2 a0_3 a0_4 a0_5 a0_6).bind fun t155 => (if t155 = true then (some (decide (a0_4 > 0))) else (some false))))) else (some false))) = some r := h
 clear h
 replace H := Option.bind_eq_some_iff.mp H
 obtain ⟨t153, A20, H⟩ := H
 replace H : (if t153 = true then ((lrsc_plain.f a0_0 a0_1 a0_2 a0_3 a0_4 a0_5 a0_6).bind fun t154 => (if t154 = true then (some true) else ((lrsc_leads.f a0_0 a0_1 a0_2 a0_3 a0_4 a0_5 a0_6).bind fun t155 => (if t155 = true then (some (decide (a0_4 > 0))) else (some false))))) else (some false)) = some r := H
 have A2 := Aside0.mk A20
 clear A20
 by_cases c3 : t153 = true
 ·subst c3
  have H1 : ((lrsc_plain.f a0_0 a0_1 a0_2 a0_3 a0_4 a0_5 a0_6).bind fun t154 => (if t154 = true then (some true) else ((lrsc_leads.f a0_0 a0_1 a0_2 a0_3 a0_4 a0_5 a0_6).bind fun t155 => (if t155 = true then (some (decide (a0_4 > 0))) else (some false))))) = some r := by rw [if_pos rfl] at H; exact H
  clear H
  have H := H1
  clear H1
  replace H := Option.bind_eq_some_iff.mp H
  obtain ⟨t154, A40, H⟩ := H
  replace H : (if t154 = true then (some true) else ((lrsc_leads.f a0_0 a0_1 a0_2 a0_3 a0_4 a0_5 a0_6).bind fun t155 => (if t155 = true then (some (decide (a0_4 > 0))) else (some false)))) = some r := H
  have A4 := Aside0.mk A40
  clear A40
  by_cases c5 : t154 = true
  ·subst c5
   have H1 : (some true) = some r := by rw [if_pos rfl] at H; exact H
   clear H
   have H := H1
   clear H1
   obtain rfl := Option.some.inj H
   go_enter Tryd.func58, Tryd.ntmps58
   go_wp2_with (first | ((with_reducible refine gate_dst (N := 1) rfl ?_); refine box_event ?hg (N := 1) ?hd (cs := #[.int .i64 a0_0, .int .i64 a0_1, .int .i64 a0_2, .int .i64 a0_3, .int .i64 a0_4, .bool a0_5, .bool a0_6]) (t := 51) ?hr ?_; (case hd => rfl); (case hg => rfl); (case hr => first | (go_simp; done) | (go_simp; rfl)); intro gb152 hg w6 hbox hb; have n0_ := Aside0.mk (below_step (by repeat (first | (with_reducible first | exact HB.out | apply below_alloc | apply pw_below_drewN | apply below_drew1) | exact HB.out)) hb); have n1_ := Aside0.mk (hbox); have n2_ := Aside0.mk ((by rw [hg]; exact (below_size (by repeat (first | (with_reducible first | exact HB.out | apply below_alloc | apply pw_below_drewN | apply below_drew1) | exact HB.out))) : w.heap.size ≤ gb152)); have n3_ := Aside0.mk ((by rw [hg]; exact (below_size (by repeat (first | (with_reducible first | exact HB.out | apply below_alloc | apply pw_below_drewN | apply below_drew1) | exact HB.out))) : w.heap.size ≤ gb152)); clear HB; have HB := n0_; have BK152 := n1_; have GW152 := n2_; have GE152 := n3_; clear n0_ n1_ n2_ n3_; clear hb hbox hg; have hcz7_0 : w6.cell? ⟨gb152, 0, none⟩ = some (.int .i64 a0_0) := (blk_cell BK152.out 0).trans rfl; have hcz7_1 : w6.cell? ⟨gb152, 1, none⟩ = some (.int .i64 a0_1) := (blk_cell BK152.out 1).trans rfl; have hcz7_2 : w6.cell? ⟨gb152, 2, none⟩ = some (.int .i64 a0_2) := (blk_cell BK152.out 2).trans rfl; have hcz7_3 : w6.cell? ⟨gb152, 3, none⟩ = some (.int .i64 a0_3) := (blk_cell BK152.out 3).trans rfl; have hcz7_4 : w6.cell? ⟨gb152, 4, none⟩ = some (.int .i64 a0_4) := (blk_cell BK152.out 4).trans rfl; have hcz7_5 : w6.cell? ⟨gb152, 5, none⟩ = some (.bool a0_5) := (blk_cell BK152.out 5).trans rfl; have hcz7_6 : w6.cell? ⟨gb152, 6, none⟩ = some (.bool a0_6) := (blk_cell BK152.out 6).trans rfl; have hfz7_0 := blk_frozen BK152.out 0; have hfz7_1 := blk_frozen BK152.out 1; have hfz7_2 := blk_frozen BK152.out 2; have hfz7_3 := blk_frozen BK152.out 3; have hfz7_4 := blk_frozen BK152.out 4; have hfz7_5 := blk_frozen BK152.out 5; have hfz7_6 := blk_frozen BK152.out 6) | ((with_reducible refine gate_callee (f := 54) rfl ?_); refine goesL_ (some 4) rfl rfl Tryd.func54 (by kernel_rfl) rfl #[.agg #[.int .i64 a0_0, .int .i64 a0_1, .int .i64 a0_2, .int .i64 a0_3, .int .i64 a0_4, .bool a0_5, .bool a0_6]] rfl (by (try simp only [List.map_toArray, List.map_cons, List.map_nil]); first | done | rfl | (simp only [List.length_drop, List.length_take]; rfl)) ?_; (with_reducible refine (isa_May.calls k a0_0 a0_1 a0_2 a0_3 a0_4 a0_5 a0_6 true _ (by first | exact HL.out | exact laid_drewN HL.out | exact laid_below HL.out (by repeat (first | (with_reducible first | exact HB.out | apply below_alloc | apply pw_below_drewN | apply below_drew1 | refine below_set ?_ (Aside0.out (by assumption))) | exact HB.out)) | exact laid_below HL.out HB.out | exact laid_belowd HL.out HB.out) A2.out).mono ?_); rintro e w8 ⟨rfl, hb⟩; refine ⟨_, rfl, ?_⟩; have n0_ := Aside0.mk (blk_below (g := gb152) (o := .cells #[.int .i64 a0_0, .int .i64 a0_1, .int .i64 a0_2, .int .i64 a0_3, .int .i64 a0_4, .bool a0_5, .bool a0_6] 51 (0, 0)) (by (with_reducible repeat (first | refine blk_drewN ?_ _ | refine blk_drew ?_ | refine blk_alloc ?_ _)); exact BK152.out) hb); have n1_ := Aside0.mk (below_step (by repeat (first | (with_reducible first | exact HB.out | apply below_alloc | apply pw_below_drewN | apply below_drew1 | refine below_set ?_ GE152.out) | exact HB.out)) hb); clear BK152; clear HB; have BK152 := n0_; have HB := n1_; clear n0_ n1_; (try clear hb); (try clear hb2); (try clear hk); (try clear hi); have hcz9_0 : w8.cell? ⟨gb152, 0, none⟩ = some (.int .i64 a0_0) := (blk_cell BK152.out 0).trans rfl; have hcz9_1 : w8.cell? ⟨gb152, 1, none⟩ = some (.int .i64 a0_1) := (blk_cell BK152.out 1).trans rfl; have hcz9_2 : w8.cell? ⟨gb152, 2, none⟩ = some (.int .i64 a0_2) := (blk_cell BK152.out 2).trans rfl; have hcz9_3 : w8.cell? ⟨gb152, 3, none⟩ = some (.int .i64 a0_3) := (blk_cell BK152.out 3).trans rfl; have hcz9_4 : w8.cell? ⟨gb152, 4, none⟩ = some (.int .i64 a0_4) := (blk_cell BK152.out 4).trans rfl; have hcz9_5 : w8.cell? ⟨gb152, 5, none⟩ = some (.bool a0_5) := (blk_cell BK152.out 5).trans rfl; have hcz9_6 : w8.cell? ⟨gb152, 6, none⟩ = some (.bool a0_6) := (blk_cell BK152.out 6).trans rfl; have hfz9_0 := blk_frozen BK152.out 0; have hfz9_1 := blk_frozen BK152.out 1; have hfz9_2 := blk_frozen BK152.out 2; have hfz9_3 := blk_frozen BK152.out 3; have hfz9_4 := blk_frozen BK152.out 4; have hfz9_5 := blk_frozen BK152.out 5; have hfz9_6 := blk_frozen BK152.out 6) | (go_at_call 59; (with_reducible refine (lrsc_plain.calls a0_0 a0_1 a0_2 a0_3 a0_4 a0_5 a0_6 true _ A4.out).mono ?_); rintro e w10 ⟨rfl, hb⟩; have n0_ := Aside0.mk (blk_below (g := gb152) (o := .cells #[.int .i64 a0_0, .int .i64 a0_1, .int .i64 a0_2, .int .i64 a0_3, .int .i64 a0_4, .bool a0_5, .bool a0_6] 51 (0, 0)) (by (with_reducible repeat (first | refine blk_drewN ?_ _ | refine blk_drew ?_ | refine blk_alloc ?_ _)); exact BK152.out) hb); have n1_ := Aside0.mk (below_step (by repeat (first | (with_reducible first | exact HB.out | apply below_alloc | apply pw_below_drewN | apply below_drew1 | refine below_set ?_ GE152.out) | exact HB.out)) hb); clear BK152; clear HB; have BK152 := n0_; have HB := n1_; clear n0_ n1_; (try clear hb); (try clear hb2); (try clear hk); (try clear hi)))
   go_ret
   exact ⟨by first | rfl | (simp [errW_none, errW_some] <;> rfl) | (simp [*, errW_none, errW_some] <;> rfl), by repeat (first | (with_reducible first | exact HB.out | apply below_alloc | apply pw_below_drewN | apply below_drew1 | refine below_set ?_ GE152.out) | exact HB.out)⟩
  ·replace c5 := Bool.eq_false_iff.mpr c5
   subst c5
   have H1 : ((lrsc_leads.f a0_0 a0_1 a0_2 a0_3 a0_4 a0_5 a0_6).bind fun t155 => (if t155 = true then (some (decide (a0_4 > 0))) else (some false))) = some r := by rw [if_neg (show ¬ (false = true) by decide)] at H; exact H
   clear H
   have H := H1
   clear H1
   replace H := Option.bind_eq_some_iff.mp H
   obtain ⟨t155, A110, H⟩ := H
   replace H : (if t155 = true then (some (decide (a0_4 > 0))) else (some false)) = some r := H
   have A11 := Aside0.mk A110
   clear A110
   by_cases c12 : t155 = true
   ·subst c12
    have H1 : (some (decide (a0_4 > 0))) = some r := by rw [if_pos rfl] at H; exact H
    clear H
    have H := H1
    clear H1
    obtain rfl := Option.some.inj H
    go_enter Tryd.func58, Tryd.ntmps58
    go_wp2_with (first | ((with_reducible refine gate_dst (N := 1) rfl ?_); refine box_event ?hg (N := 1) ?hd (cs := #[.int .i64 a0_0, .int .i64 a0_1, .int .i64 a0_2, .int .i64 a0_3, .int .i64 a0_4, .bool a0_5, .bool a0_6]) (t := 51) ?hr ?_; (case hd => rfl); (case hg => rfl); (case hr => first | (go_simp; done) | (go_simp; rfl)); intro gb152 hg w13 hbox hb; have n0_ := Aside0.mk (below_step (by repeat (first | (with_reducible first | exact HB.out | apply below_alloc | apply pw_below_drewN | apply below_drew1) | exact HB.out)) hb); have n1_ := Aside0.mk (hbox); have n2_ := Aside0.mk ((by rw [hg]; exact (below_size (by repeat (first | (with_reducible first | exact HB.out | apply below_alloc | apply pw_below_drewN | apply below_drew1) | exact HB.out))) : w.heap.size ≤ gb152)); have n3_ := Aside0.mk ((by rw [hg]; exact (below_size (by repeat (first | (with_reducible first | exact HB.out | apply below_alloc | apply pw_below_drewN | apply below_drew1) | exact HB.out))) : w.heap.size ≤ gb152)); clear HB; have HB := n0_; have BK152 := n1_; have GW152 := n2_; have GE152 := n3_; clear n0_ n1_ n2_ n3_; clear hb hbox hg; have hcz14_0 : w13.cell? ⟨gb152, 0, none⟩ = some (.int .i64 a0_0) := (blk_cell BK152.out 0).trans rfl; have hcz14_1 : w13.cell? ⟨gb152, 1, none⟩ = some (.int .i64 a0_1) := (blk_cell BK152.out 1).trans rfl; have hcz14_2 : w13.cell? ⟨gb152, 2, none⟩ = some (.int .i64 a0_2) := (blk_cell BK152.out 2).trans rfl; have hcz14_3 : w13.cell? ⟨gb152, 3, none⟩ = some (.int .i64 a0_3) := (blk_cell BK152.out 3).trans rfl; have hcz14_4 : w13.cell? ⟨gb152, 4, none⟩ = some (.int .i64 a0_4) := (blk_cell BK152.out 4).trans rfl; have hcz14_5 : w13.cell? ⟨gb152, 5, none⟩ = some (.bool a0_5) := (blk_cell BK152.out 5).trans rfl; have hcz14_6 : w13.cell? ⟨gb152, 6, none⟩ = some (.bool a0_6) := (blk_cell BK152.out 6).trans rfl; have hfz14_0 := blk_frozen BK152.out 0; have hfz14_1 := blk_frozen BK152.out 1; have hfz14_2 := blk_frozen BK152.out 2; have hfz14_3 := blk_frozen BK152.out 3; have hfz14_4 := blk_frozen BK152.out 4; have hfz14_5 := blk_frozen BK152.out 5; have hfz14_6 := blk_frozen BK152.out 6) | ((with_reducible refine gate_callee (f := 54) rfl ?_); refine goesL_ (some 4) rfl rfl Tryd.func54 (by kernel_rfl) rfl #[.agg #[.int .i64 a0_0, .int .i64 a0_1, .int .i64 a0_2, .int .i64 a0_3, .int .i64 a0_4, .bool a0_5, .bool a0_6]] rfl (by (try simp only [List.map_toArray, List.map_cons, List.map_nil]); first | done | rfl | (simp only [List.length_drop, List.length_take]; rfl)) ?_; (with_reducible refine (isa_May.calls k a0_0 a0_1 a0_2 a0_3 a0_4 a0_5 a0_6 true _ (by first | exact HL.out | exact laid_drewN HL.out | exact laid_below HL.out (by repeat (first | (with_reducible first | exact HB.out | apply below_alloc | apply pw_below_drewN | apply below_drew1 | refine below_set ?_ (Aside0.out (by assumption))) | exact HB.out)) | exact laid_below HL.out HB.out | exact laid_belowd HL.out HB.out) A2.out).mono ?_); rintro e w15 ⟨rfl, hb⟩; refine ⟨_, rfl, ?_⟩; have n0_ := Aside0.mk (blk_below (g := gb152) (o := .cells #[.int .i64 a0_0, .int .i64 a0_1, .int .i64 a0_2, .int .i64 a0_3, .int .i64 a0_4, .bool a0_5, .bool a0_6] 51 (0, 0)) (by (with_reducible repeat (first | refine blk_drewN ?_ _ | refine blk_drew ?_ | refine blk_alloc ?_ _)); exact BK152.out) hb); have n1_ := Aside0.mk (below_step (by repeat (first | (with_reducible first | exact HB.out | apply below_alloc | apply pw_below_drewN | apply below_drew1 | refine below_set ?_ GE152.out) | exact HB.out)) hb); clear BK152; clear HB; have BK152 := n0_; have HB := n1_; clear n0_ n1_; (try clear hb); (try clear hb2); (try clear hk); (try clear hi); have hcz16_0 : w15.cell? ⟨gb152, 0, none⟩ = some (.int .i64 a0_0) := (blk_cell BK152.out 0).trans rfl; have hcz16_1 : w15.cell? ⟨gb152, 1, none⟩ = some (.int .i64 a0_1) := (blk_cell BK152.out 1).trans rfl; have hcz16_2 : w15.cell? ⟨gb152, 2, none⟩ = some (.int .i64 a0_2) := (blk_cell BK152.out 2).trans rfl; have hcz16_3 : w15.cell? ⟨gb152, 3, none⟩ = some (.int .i64 a0_3) := (blk_cell BK152.out 3).trans rfl; have hcz16_4 : w15.cell? ⟨gb152, 4, none⟩ = some (.int .i64 a0_4) := (blk_cell BK152.out 4).trans rfl; have hcz16_5 : w15.cell? ⟨gb152, 5, none⟩ = some (.bool a0_5) := (blk_cell BK152.out 5).trans rfl; have hcz16_6 : w15.cell? ⟨gb152, 6, none⟩ = some (.bool a0_6) := (blk_cell BK152.out 6).trans rfl; have hfz16_0 := blk_frozen BK152.out 0; have hfz16_1 := blk_frozen BK152.out 1; have hfz16_2 := blk_frozen BK152.out 2; have hfz16_3 := blk_frozen BK152.out 3; have hfz16_4 := blk_frozen BK152.out 4; have hfz16_5 := blk_frozen BK152.out 5; have hfz16_6 := blk_frozen BK152.out 6) | (go_at_call 59; (with_reducible refine (lrsc_plain.calls a0_0 a0_1 a0_2 a0_3 a0_4 a0_5 a0_6 false _ A4.out).mono ?_); rintro e w17 ⟨rfl, hb⟩; have n0_ := Aside0.mk (blk_below (g := gb152) (o := .cells #[.int .i64 a0_0, .int .i64 a0_1, .int .i64 a0_2, .int .i64 a0_3, .int .i64 a0_4, .bool a0_5, .bool a0_6] 51 (0, 0)) (by (with_reducible repeat (first | refine blk_drewN ?_ _ | refine blk_drew ?_ | refine blk_alloc ?_ _)); exact BK152.out) hb); have n1_ := Aside0.mk (below_step (by repeat (first | (with_reducible first | exact HB.out | apply below_alloc | apply pw_below_drewN | apply below_drew1 | refine below_set ?_ GE152.out) | exact HB.out)) hb); clear BK152; clear HB; have BK152 := n0_; have HB := n1_; clear n0_ n1_; (try clear hb); (try clear hb2); (try clear hk); (try clear hi); have hcz18_0 : w17.cell? ⟨gb152, 0, none⟩ = some (.int .i64 a0_0) := (blk_cell BK152.out 0).trans rfl; have hcz18_1 : w17.cell? ⟨gb152, 1, none⟩ = some (.int .i64 a0_1) := (blk_cell BK152.out 1).trans rfl; have hcz18_2 : w17.cell? ⟨gb152, 2, none⟩ = some (.int .i64 a0_2) := (blk_cell BK152.out 2).trans rfl; have hcz18_3 : w17.cell? ⟨gb152, 3, none⟩ = some (.int .i64 a0_3) := (blk_cell BK152.out 3).trans rfl; have hcz18_4 : w17.cell? ⟨gb152, 4, none⟩ = some (.int .i64 a0_4) := (blk_cell BK152.out 4).trans rfl; have hcz18_5 : w17.cell? ⟨gb152, 5, none⟩ = some (.bool a0_5) := (blk_cell BK152.out 5).trans rfl; have hcz18_6 : w17.cell? ⟨gb152, 6, none⟩ = some (.bool a0_6) := (blk_cell BK152.out 6).trans rfl; have hfz18_0 := blk_frozen BK152.out 0; have hfz18_1 := blk_frozen BK152.out 1; have hfz18_2 := blk_frozen BK152.out 2; have hfz18_3 := blk_frozen BK152.out 3; have hfz18_4 := blk_frozen BK152.out 4; have hfz18_5 := blk_frozen BK152.out 5; have hfz18_6 := blk_frozen BK152.out 6) | (go_at_call 60; (with_reducible refine (lrsc_leads.calls a0_0 a0_1 a0_2 a0_3 a0_4 a0_5 a0_6 true _ A11.out).mono ?_); rintro e w19 ⟨rfl, hb⟩; have n0_ := Aside0.mk (blk_below (g := gb152) (o := .cells #[.int .i64 a0_0, .int .i64 a0_1, .int .i64 a0_2, .int .i64 a0_3, .int .i64 a0_4, .bool a0_5, .bool a0_6] 51 (0, 0)) (by (with_reducible repeat (first | refine blk_drewN ?_ _ | refine blk_drew ?_ | refine blk_alloc ?_ _)); exact BK152.out) hb); have n1_ := Aside0.mk (below_step (by repeat (first | (with_reducible first | exact HB.out | apply below_alloc | apply pw_below_drewN | apply below_drew1 | refine below_set ?_ GE152.out) | exact HB.out)) hb); clear BK152; clear HB; have BK152 := n0_; have HB := n1_; clear n0_ n1_; (try clear hb); (try clear hb2); (try clear hk); (try clear hi); have hcz20_0 : w19.cell? ⟨gb152, 0, none⟩ = some (.int .i64 a0_0) := (blk_cell BK152.out 0).trans rfl; have hcz20_1 : w19.cell? ⟨gb152, 1, none⟩ = some (.int .i64 a0_1) := (blk_cell BK152.out 1).trans rfl; have hcz20_2 : w19.cell? ⟨gb152, 2, none⟩ = some (.int .i64 a0_2) := (blk_cell BK152.out 2).trans rfl; have hcz20_3 : w19.cell? ⟨gb152, 3, none⟩ = some (.int .i64 a0_3) := (blk_cell BK152.out 3).trans rfl; have hcz20_4 : w19.cell? ⟨gb152, 4, none⟩ = some (.int .i64 a0_4) := (blk_cell BK152.out 4).trans rfl; have hcz20_5 : w19.cell? ⟨gb152, 5, none⟩ = some (.bool a0_5) := (blk_cell BK152.out 5).trans rfl; have hcz20_6 : w19.cell? ⟨gb152, 6, none⟩ = some (.bool a0_6) := (blk_cell BK152.out 6).trans rfl; have hfz20_0 := blk_frozen BK152.out 0; have hfz20_1 := blk_frozen BK152.out 1; have hfz20_2 := blk_frozen BK152.out 2; have hfz20_3 := blk_frozen BK152.out 3; have hfz20_4 := blk_frozen BK152.out 4; have hfz20_5 := blk_frozen BK152.out 5; have hfz20_6 := blk_frozen BK152.out 6))
    go_ret
    exact ⟨by first | rfl | (simp [errW_none, errW_some] <;> rfl) | (simp [*, errW_none, errW_some] <;> rfl), by repeat (first | (with_reducible first | exact HB.out | apply below_alloc | apply pw_below_drewN | apply below_drew1 | refine below_set ?_ GE152.out) | exact HB.out)⟩
   ·replace c12 := Bool.eq_false_iff.mpr c12
    subst c12
    have H1 : (some false) = some r := by rw [if_neg (show ¬ (false = true) by decide)] at H; exact H
    clear H
    have H := H1
    clear H1
    obtain rfl := Option.some.inj H
    go_enter Tryd.func58, Tryd.ntmps58
    go_wp2_with (first | ((with_reducible refine gate_dst (N := 1) rfl ?_); refine box_event ?hg (N := 1) ?hd (cs := #[.int .i64 a0_0, .int .i64 a0_1, .int .i64 a0_2, .int .i64 a0_3, .int .i64 a0_4, .bool a0_5, .bool a0_6]) (t := 51) ?hr ?_; (case hd => rfl); (case hg => rfl); (case hr => first | (go_simp; done) | (go_simp; rfl)); intro gb152 hg w21 hbox hb; have n0_ := Aside0.mk (below_step (by repeat (first | (with_reducible first | exact HB.out | apply below_alloc | apply pw_below_drewN | apply below_drew1) | exact HB.out)) hb); have n1_ := Aside0.mk (hbox); have n2_ := Aside0.mk ((by rw [hg]; exact (below_size (by repeat (first | (with_reducible first | exact HB.out | apply below_alloc | apply pw_below_drewN | apply below_drew1) | exact HB.out))) : w.heap.size ≤ gb152)); have n3_ := Aside0.mk ((by rw [hg]; exact (below_size (by repeat (first | (with_reducible first | exact HB.out | apply below_alloc | apply pw_below_drewN | apply below_drew1) | exact HB.out))) : w.heap.size ≤ gb152)); clear HB; have HB := n0_; have BK152 := n1_; have GW152 := n2_; have GE152 := n3_; clear n0_ n1_ n2_ n3_; clear hb hbox hg; have hcz22_0 : w21.cell? ⟨gb152, 0, none⟩ = some (.int .i64 a0_0) := (blk_cell BK152.out 0).trans rfl; have hcz22_1 : w21.cell? ⟨gb152, 1, none⟩ = some (.int .i64 a0_1) := (blk_cell BK152.out 1).trans rfl; have hcz22_2 : w21.cell? ⟨gb152, 2, none⟩ = some (.int .i64 a0_2) := (blk_cell BK152.out 2).trans rfl; have hcz22_3 : w21.cell? ⟨gb152, 3, none⟩ = some (.int .i64 a0_3) := (blk_cell BK152.out 3).trans rfl; have hcz22_4 : w21.cell? ⟨gb152, 4, none⟩ = some (.int .i64 a0_4) := (blk_cell BK152.out 4).trans rfl; have hcz22_5 : w21.cell? ⟨gb152, 5, none⟩ = some (.bool a0_5) := (blk_cell BK152.out 5).trans rfl; have hcz22_6 : w21.cell? ⟨gb152, 6, none⟩ = some (.bool a0_6) := (blk_cell BK152.out 6).trans rfl; have hfz22_0 := blk_frozen BK152.out 0; have hfz22_1 := blk_frozen BK152.out 1; have hfz22_2 := blk_frozen BK152.out 2; have hfz22_3 := blk_frozen BK152.out 3; have hfz22_4 := blk_frozen BK152.out 4; have hfz22_5 := blk_frozen BK152.out 5; have hfz22_6 := blk_frozen BK152.out 6) | ((with_reducible refine gate_callee (f := 54) rfl ?_); refine goesL_ (some 4) rfl rfl Tryd.func54 (by kernel_rfl) rfl #[.agg #[.int .i64 a0_0, .int .i64 a0_1, .int .i64 a0_2, .int .i64 a0_3, .int .i64 a0_4, .bool a0_5, .bool a0_6]] rfl (by (try simp only [List.map_toArray, List.map_cons, List.map_nil]); first | done | rfl | (simp only [List.length_drop, List.length_take]; rfl)) ?_; (with_reducible refine (isa_May.calls k a0_0 a0_1 a0_2 a0_3 a0_4 a0_5 a0_6 true _ (by first | exact HL.out | exact laid_drewN HL.out | exact laid_below HL.out (by repeat (first | (with_reducible first | exact HB.out | apply below_alloc | apply pw_below_drewN | apply below_drew1 | refine below_set ?_ (Aside0.out (by assumption))) | exact HB.out)) | exact laid_below HL.out HB.out | exact laid_belowd HL.out HB.out) A2.out).mono ?_); rintro e w23 ⟨rfl, hb⟩; refine ⟨_, rfl, ?_⟩; have n0_ := Aside0.mk (blk_below (g := gb152) (o := .cells #[.int .i64 a0_0, .int .i64 a0_1, .int .i64 a0_2, .int .i64 a0_3, .int .i64 a0_4, .bool a0_5, .bool a0_6] 51 (0, 0)) (by (with_reducible repeat (first | refine blk_drewN ?_ _ | refine blk_drew ?_ | refine blk_alloc ?_ _)); exact BK152.out) hb); have n1_ := Aside0.mk (below_step (by repeat (first | (with_reducible first | exact HB.out | apply below_alloc | apply pw_below_drewN | apply below_drew1 | refine below_set ?_ GE152.out) | exact HB.out)) hb); clear BK152; clear HB; have BK152 := n0_; have HB := n1_; clear n0_ n1_; (try clear hb); (try clear hb2); (try clear hk); (try clear hi); have hcz24_0 : w23.cell? ⟨gb152, 0, none⟩ = some (.int .i64 a0_0) := (blk_cell BK152.out 0).trans rfl; have hcz24_1 : w23.cell? ⟨gb152, 1, none⟩ = some (.int .i64 a0_1) := (blk_cell BK152.out 1).trans rfl; have hcz24_2 : w23.cell? ⟨gb152, 2, none⟩ = some (.int .i64 a0_2) := (blk_cell BK152.out 2).trans rfl; have hcz24_3 : w23.cell? ⟨gb152, 3, none⟩ = some (.int .i64 a0_3) := (blk_cell BK152.out 3).trans rfl; have hcz24_4 : w23.cell? ⟨gb152, 4, none⟩ = some (.int .i64 a0_4) := (blk_cell BK152.out 4).trans rfl; have hcz24_5 : w23.cell? ⟨gb152, 5, none⟩ = some (.bool a0_5) := (blk_cell BK152.out 5).trans rfl; have hcz24_6 : w23.cell? ⟨gb152, 6, none⟩ = some (.bool a0_6) := (blk_cell BK152.out 6).trans rfl; have hfz24_0 := blk_frozen BK152.out 0; have hfz24_1 := blk_frozen BK152.out 1; have hfz24_2 := blk_frozen BK152.out 2; have hfz24_3 := blk_frozen BK152.out 3; have hfz24_4 := blk_frozen BK152.out 4; have hfz24_5 := blk_frozen BK152.out 5; have hfz24_6 := blk_frozen BK152.out 6) | (go_at_call 59; (with_reducible refine (lrsc_plain.calls a0_0 a0_1 a0_2 a0_3 a0_4 a0_5 a0_6 false _ A4.out).mono ?_); rintro e w25 ⟨rfl, hb⟩; have n0_ := Aside0.mk (blk_below (g := gb152) (o := .cells #[.int .i64 a0_0, .int .i64 a0_1, .int .i64 a0_2, .int .i64 a0_3, .int .i64 a0_4, .bool a0_5, .bool a0_6] 51 (0, 0)) (by (with_reducible repeat (first | refine blk_drewN ?_ _ | refine blk_drew ?_ | refine blk_alloc ?_ _)); exact BK152.out) hb); have n1_ := Aside0.mk (below_step (by repeat (first | (with_reducible first | exact HB.out | apply below_alloc | apply pw_below_drewN | apply below_drew1 | refine below_set ?_ GE152.out) | exact HB.out)) hb); clear BK152; clear HB; have BK152 := n0_; have HB := n1_; clear n0_ n1_; (try clear hb); (try clear hb2); (try clear hk); (try clear hi); have hcz26_0 : w25.cell? ⟨gb152, 0, none⟩ = some (.int .i64 a0_0) := (blk_cell BK152.out 0).trans rfl; have hcz26_1 : w25.cell? ⟨gb152, 1, none⟩ = some (.int .i64 a0_1) := (blk_cell BK152.out 1).trans rfl; have hcz26_2 : w25.cell? ⟨gb152, 2, none⟩ = some (.int .i64 a0_2) := (blk_cell BK152.out 2).trans rfl; have hcz26_3 : w25.cell? ⟨gb152, 3, none⟩ = some (.int .i64 a0_3) := (blk_cell BK152.out 3).trans rfl; have hcz26_4 : w25.cell? ⟨gb152, 4, none⟩ = some (.int .i64 a0_4) := (blk_cell BK152.out 4).trans rfl; have hcz26_5 : w25.cell? ⟨gb152, 5, none⟩ = some (.bool a0_5) := (blk_cell BK152.out 5).trans rfl; have hcz26_6 : w25.cell? ⟨gb152, 6, none⟩ = some (.bool a0_6) := (blk_cell BK152.out 6).trans rfl; have hfz26_0 := blk_frozen BK152.out 0; have hfz26_1 := blk_frozen BK152.out 1; have hfz26_2 := blk_frozen BK152.out 2; have hfz26_3 := blk_frozen BK152.out 3; have hfz26_4 := blk_frozen BK152.out 4; have hfz26_5 := blk_frozen BK152.out 5; have hfz26_6 := blk_frozen BK152.out 6) | (go_at_call 60; (with_reducible refine (lrsc_leads.calls a0_0 a0_1 a0_2 a0_3 a0_4 a0_5 a0_6 false _ A11.out).mono ?_); rintro e w27 ⟨rfl, hb⟩; have n0_ := Aside0.mk (blk_below (g := gb152) (o := .cells #[.int .i64 a0_0, .int .i64 a0_1, .int .i64 a0_2, .int .i64 a0_3, .int .i64 a0_4, .bool a0_5, .bool a0_6] 51 (0, 0)) (by (with_reducible repeat (first | refine blk_drewN ?_ _ | refine blk_drew ?_ | refine blk_alloc ?_ _)); exact BK152.out) hb); have n1_ := Aside0.mk (below_step (by repeat (first | (with_reducible first | exact HB.out | apply below_alloc | apply pw_below_drewN | apply below_drew1 | refine below_set ?_ GE152.out) | exact HB.out)) hb); clear BK152; clear HB; have BK152 := n0_; have HB := n1_; clear n0_ n1_; (try clear hb); (try clear hb2); (try clear hk); (try clear hi)))
    go_ret
    exact ⟨by first | rfl | (simp [errW_none, errW_some] <;> rfl) | (simp [*, errW_none, errW_some] <;> rfl), by repeat (first | (with_reducible first | exact HB.out | apply below_alloc | apply pw_below_drewN | apply below_drew1 | refine below_set ?_ GE152.out) | exact HB.out)⟩
 ·replace c3 := Bool.eq_false_iff.mpr c3
  subst c3
  have H1 : (some false) = some r := by rw [if_neg (show ¬ (false = true) by decide)] at H; exact H
  clear H
  have H := H1
  clear H1
  obtain rfl := Option.some.inj H
  go_enter Tryd.func58, Tryd.ntmps58
  go_wp2_with (first | ((with_reducible refine gate_dst (N := 1) rfl ?_); refine box_event ?hg (N := 1) ?hd (cs := #[.int .i64 a0_0, .int .i64 a0_1, .int .i64 a0_2, .int .i64 a0_3, .int .i64 a0_4, .bool a0_5, .bool a0_6]) (t := 51) ?hr ?_; (case hd => rfl); (case hg => rfl); (case hr => first | (go_simp; done) | (go_simp; rfl)); intro gb152 hg w28 hbox hb; have n0_ := Aside0.mk (below_step (by repeat (first | (with_reducible first | exact HB.out | apply below_alloc | apply pw_below_drewN | apply below_drew1) | exact HB.out)) hb); have n1_ := Aside0.mk (hbox); have n2_ := Aside0.mk ((by rw [hg]; exact (below_size (by repeat (first | (with_reducible first | exact HB.out | apply below_alloc | apply pw_below_drewN | apply below_drew1) | exact HB.out))) : w.heap.size ≤ gb152)); have n3_ := Aside0.mk ((by rw [hg]; exact (below_size (by repeat (first | (with_reducible first | exact HB.out | apply below_alloc | apply pw_below_drewN | apply below_drew1) | exact HB.out))) : w.heap.size ≤ gb152)); clear HB; have HB := n0_; have BK152 := n1_; have GW152 := n2_; have GE152 := n3_; clear n0_ n1_ n2_ n3_; clear hb hbox hg; have hcz29_0 : w28.cell? ⟨gb152, 0, none⟩ = some (.int .i64 a0_0) := (blk_cell BK152.out 0).trans rfl; have hcz29_1 : w28.cell? ⟨gb152, 1, none⟩ = some (.int .i64 a0_1) := (blk_cell BK152.out 1).trans rfl; have hcz29_2 : w28.cell? ⟨gb152, 2, none⟩ = some (.int .i64 a0_2) := (blk_cell BK152.out 2).trans rfl; have hcz29_3 : w28.cell? ⟨gb152, 3, none⟩ = some (.int .i64 a0_3) := (blk_cell BK152.out 3).trans rfl; have hcz29_4 : w28.cell? ⟨gb152, 4, none⟩ = some (.int .i64 a0_4) := (blk_cell BK152.out 4).trans rfl; have hcz29_5 : w28.cell? ⟨gb152, 5, none⟩ = some (.bool a0_5) := (blk_cell BK152.out 5).trans rfl; have hcz29_6 : w28.cell? ⟨gb152, 6, none⟩ = some (.bool a0_6) := (blk_cell BK152.out 6).trans rfl; have hfz29_0 := blk_frozen BK152.out 0; have hfz29_1 := blk_frozen BK152.out 1; have hfz29_2 := blk_frozen BK152.out 2; have hfz29_3 := blk_frozen BK152.out 3; have hfz29_4 := blk_frozen BK152.out 4; have hfz29_5 := blk_frozen BK152.out 5; have hfz29_6 := blk_frozen BK152.out 6) | ((with_reducible refine gate_callee (f := 54) rfl ?_); refine goesL_ (some 4) rfl rfl Tryd.func54 (by kernel_rfl) rfl #[.agg #[.int .i64 a0_0, .int .i64 a0_1, .int .i64 a0_2, .int .i64 a0_3, .int .i64 a0_4, .bool a0_5, .bool a0_6]] rfl (by (try simp only [List.map_toArray, List.map_cons, List.map_nil]); first | done | rfl | (simp only [List.length_drop, List.length_take]; rfl)) ?_; (with_reducible refine (isa_May.calls k a0_0 a0_1 a0_2 a0_3 a0_4 a0_5 a0_6 false _ (by first | exact HL.out | exact laid_drewN HL.out | exact laid_below HL.out (by repeat (first | (with_reducible first | exact HB.out | apply below_alloc | apply pw_below_drewN | apply below_drew1 | refine below_set ?_ (Aside0.out (by assumption))) | exact HB.out)) | exact laid_below HL.out HB.out | exact laid_belowd HL.out HB.out) A2.out).mono ?_); rintro e w30 ⟨rfl, hb⟩; refine ⟨_, rfl, ?_⟩; have n0_ := Aside0.mk (blk_below (g := gb152) (o := .cells #[.int .i64 a0_0, .int .i64 a0_1, .int .i64 a0_2, .int .i64 a0_3, .int .i64 a0_4, .bool a0_5, .bool a0_6] 51 (0, 0)) (by (with_reducible repeat (first | refine blk_drewN ?_ _ | refine blk_drew ?_ | refine blk_alloc ?_ _)); exact BK152.out) hb); have n1_ := Aside0.mk (below_step (by repeat (first | (with_reducible first | exact HB.out | apply below_alloc | apply pw_below_drewN | apply below_drew1 | refine below_set ?_ GE152.out) | exact HB.out)) hb); clear BK152; clear HB; have BK152 := n0_; have HB := n1_; clear n0_ n1_; (try clear hb); (try clear hb2); (try clear hk); (try clear hi)))
  go_ret
  exact ⟨by first | rfl | (simp [errW_none, errW_some] <;> rfl) | (simp [*, errW_none, errW_some] <;> rfl), by repeat (first | (with_reducible first | exact HB.out | apply below_alloc | apply pw_below_drewN | apply below_drew1 | refine below_set ?_ GE152.out) | exact HB.out)⟩

/-! ### lrsc_runLength: function 163 -/
def lrsc_runLength.l0 : Nat → List (S51) → Int → Int → Option (Int)
  | 0, _, _, _ => none
  | k + 1, x0, x1, x7 => if x7 < 16 then (if (wrap64 (x1 + x7)) < (x0.length : Int) then (if 0 ≤ (wrap64 (x1 + x7)) then ((lrsc_LengthF1.f k ((rd_T51 x0 (wrap64 (x1 + x7))).f0) ((rd_T51 x0 (wrap64 (x1 + x7))).f1) ((rd_T51 x0 (wrap64 (x1 + x7))).f2) ((rd_T51 x0 (wrap64 (x1 + x7))).f3) ((rd_T51 x0 (wrap64 (x1 + x7))).f4) ((rd_T51 x0 (wrap64 (x1 + x7))).f5) ((rd_T51 x0 (wrap64 (x1 + x7))).f6)).bind fun t157 => (if t157 = true then (lrsc_runLength.l0 k x0 x1 (wrap64 (x7 + 1))) else (some x7))) else (none)) else (some x7)) else (some x7)
def lrsc_runLength.f (k : Nat) (l0 : List (S51)) (a1 : Int) : Option (Int) := lrsc_runLength.l0 k l0 a1 0
theorem lrsc_runLength.mono_l : ∀ k, (∀ y0 y1 y2, LeO (lrsc_runLength.l0 k y0 y1 y2) (lrsc_runLength.l0 (k + 1) y0 y1 y2))
 | 0 => fun _ _ _ r h => by simp [lrsc_runLength.l0] at h
 | k + 1 => by
  have ih0 := lrsc_runLength.mono_l k
  ·intro y0 y1 y2
   unfold lrsc_runLength.l0
   repeat' first
   | (with_reducible exact ih0 _ _ _)
   | (with_reducible exact lrsc_LengthF1.mono _ _ _ _ _ _ _ _)
   | (with_reducible exact LeO.refl _)
   | (with_reducible exact LeO.none _)
   | (with_reducible refine LeO.ite ?_ ?_)
   | (with_reducible refine LeO.bind ?_ (fun _ => ?_))
   | exact ih0 _ _ _
   | exact lrsc_LengthF1.mono _ _ _ _ _ _ _ _
   | exact LeO.none _
   | refine LeO.ite ?_ ?_
   | refine LeO.bind ?_ (fun _ => ?_)
theorem lrsc_runLength.mono : ∀ a0 a1 k, LeO (lrsc_runLength.f k a0 a1) (lrsc_runLength.f (k + 1) a0 a1) := by
 intro a0 a1 k
 have ih0 := lrsc_runLength.mono_l k
 unfold lrsc_runLength.f
 repeat' first
   | (with_reducible exact ih0 _ _ _)
   | (with_reducible exact lrsc_LengthF1.mono _ _ _ _ _ _ _ _)
   | (with_reducible exact LeO.refl _)
   | (with_reducible exact LeO.none _)
   | (with_reducible refine LeO.ite ?_ ?_)
   | (with_reducible refine LeO.bind ?_ (fun _ => ?_))
   | exact ih0 _ _ _
   | exact lrsc_LengthF1.mono _ _ _ _ _ _ _ _
   | exact LeO.none _
   | refine LeO.ite ?_ ?_
   | refine LeO.bind ?_ (fun _ => ?_)
set_option maxHeartbeats 8000000 in
set_option maxRecDepth 100000 in
theorem lrsc_runLength.calls (k : Nat) (A0 : Option Addr) (c0 : Nat) (l0 : List (S51)) (a1 : Int) (r : Int) (w : World) (hL : Laid w) (hr0 : Kd.C k51 w A0 l0.length l0) (hc0 : l0.length ≤ c0) (h : lrsc_runLength.f k l0 a1 = some r) :
  Calls Tryd.prog 57 #[.slice A0 l0.length c0, .int .i64 a1, .func (.func 58) #[] #[]] w fun e w' => e = .returned (.int .i64 r) ∧ Below w.heap.size w w' := by
 have HL := Aside0.mk hL
 clear hL
 have hu51 := Tryd.underlying51
 have HR0 := Aside0.mk hr0
 have HC0 := Aside0.mk hc0
 clear hr0 hc0
 have HB := Aside0.mk (Below.refl w.heap.size w)
 have H : (lrsc_runLength.l0 k l0 a1 0) = some r := h
 clear h
 have H' := Aside0.mk H
 clear H
 go_enter Tryd.func57, Tryd.ntmps57
 go_wp2
 go_loopg [7] k (fun kq v7 w' => ∃ (x7_1 : Int), v7 = .int .i64 x7_1 ∧ Aside0 (lrsc_runLength.l0 kq l0 a1 x7_1 = some r) ∧ Aside0 (kq ≤ k) ∧ Aside0 (Below w.heap.size w w'))
 case atStart => exact ⟨(0), (by first | rfl | (simp; done) | (simp [*]; done)), H', ⟨Nat.le_refl _⟩, ⟨by repeat (first | (with_reducible first | exact HB.out | apply below_alloc | apply pw_below_drewN | apply below_drew1) | exact HB.out)⟩⟩
 case round =>
  clear H'
  try clear c1
  try clear p2
  obtain ⟨x7_1, rfl, HA, HK1, HB⟩ := hrel
  cases gk with
  | zero => exact absurd HA.out (by simp [lrsc_runLength.l0])
  | succ k1 =>
   have H := HA.out
   clear HA
   simp only [lrsc_runLength.l0] at H
   by_cases c3 : x7_1 < 16
   ·rw [if_pos c3] at H
    have c3b0 : decide (x7_1 < 16) = true := decide_eq_true c3
    clear c3
    by_cases c4 : (wrap64 (a1 + x7_1)) < (l0.length : Int)
    ·rw [if_pos c4] at H
     have c4b0 : decide ((wrap64 (a1 + x7_1)) < (l0.length : Int)) = true := decide_eq_true c4
     clear c4
     obtain ⟨ji5, hji5⟩ : ∃ j_ : Int, (wrap64 (a1 + x7_1)) = j_ := ⟨_, rfl⟩
     replace H : (if 0 ≤ (ji5) then ((lrsc_LengthF1.f k1 ((rd_T51 l0 (ji5)).f0) ((rd_T51 l0 (ji5)).f1) ((rd_T51 l0 (ji5)).f2) ((rd_T51 l0 (ji5)).f3) ((rd_T51 l0 (ji5)).f4) ((rd_T51 l0 (ji5)).f5) ((rd_T51 l0 (ji5)).f6)).bind fun t157 => (if t157 = true then (lrsc_runLength.l0 k1 l0 a1 (wrap64 (x7_1 + 1))) else (some x7_1))) else (none)) = some r := by first | (rw [hji5] at H; exact H) | (simp only [hji5] at H ⊢; exact H)
     (try rw [hji5] at c4b0)
     have hji5w : (IntKind.i64.wrap (a1 + x7_1)) = ji5 := (i64_w _).trans hji5
     by_cases c6 : 0 ≤ (ji5)
     ·rw [if_pos c6] at H
      have c6b0 : decide (0 ≤ (ji5)) = true := decide_eq_true c6
      clear c6
      replace H := Option.bind_eq_some_iff.mp H
      obtain ⟨t157, A70, H⟩ := H
      replace H : (if t157 = true then (lrsc_runLength.l0 k1 l0 a1 (wrap64 (x7_1 + 1))) else (some x7_1)) = some r := H
      have A7 := Aside0.mk A70
      clear A70
      by_cases c8 : t157 = true
      ·subst c8
       have H1 : (lrsc_runLength.l0 k1 l0 a1 (wrap64 (x7_1 + 1))) = some r := by rw [if_pos rfl] at H; exact H
       clear H
       have H := H1
       clear H1
       have H' := Aside0.mk H
       clear H
       have p156 : 0 ≤ ((ji5) : Int) := of_decide_eq_true (by first | (with_reducible assumption) | assumption)
       have q156 : (ji5) < (l0.length : Int) := of_decide_eq_true (by first | (with_reducible assumption) | assumption)
       obtain ⟨ad156, e156, hx156_0, hx156_1, hx156_2, hx156_3, hx156_4, hx156_5, hx156_6⟩ := at_T51 HR0.out (ji5) p156 q156
       cases e156
       replace hx156_0 := (HB.out.cell (World.block_lt_of_cell? w _ hx156_0)).trans hx156_0
       replace hx156_1 := (HB.out.cell (World.block_lt_of_cell? w _ hx156_1)).trans hx156_1
       replace hx156_2 := (HB.out.cell (World.block_lt_of_cell? w _ hx156_2)).trans hx156_2
       replace hx156_3 := (HB.out.cell (World.block_lt_of_cell? w _ hx156_3)).trans hx156_3
       replace hx156_4 := (HB.out.cell (World.block_lt_of_cell? w _ hx156_4)).trans hx156_4
       replace hx156_5 := (HB.out.cell (World.block_lt_of_cell? w _ hx156_5)).trans hx156_5
       replace hx156_6 := (HB.out.cell (World.block_lt_of_cell? w _ hx156_6)).trans hx156_6
       replace p156 := eq_true p156
       replace q156 := eq_true q156
       go_wp2_with (first | (go_at_call 58; (with_reducible refine (lrsc_LengthF1.calls k1 ((rd_T51 l0 (ji5)).f0) ((rd_T51 l0 (ji5)).f1) ((rd_T51 l0 (ji5)).f2) ((rd_T51 l0 (ji5)).f3) ((rd_T51 l0 (ji5)).f4) ((rd_T51 l0 (ji5)).f5) ((rd_T51 l0 (ji5)).f6) true _ (by first | exact HL.out | exact laid_drewN HL.out | exact laid_below HL.out (by repeat (first | (with_reducible first | exact HB.out | apply below_alloc | apply pw_below_drewN | apply below_drew1 | refine below_set ?_ (Aside0.out (by assumption))) | exact HB.out)) | exact laid_below HL.out HB.out | exact laid_belowd HL.out HB.out) A7.out).mono ?_); rintro e w9 ⟨rfl, hb⟩; have n0_ := Aside0.mk (below_step (by repeat (first | (with_reducible first | exact HB.out | apply below_alloc | apply pw_below_drewN | apply below_drew1) | exact HB.out)) hb); clear HB; have HB := n0_; clear n0_; (try clear hb); (try clear hb2); (try clear hk); (try clear hi)))
       go_roundg k1
       case measure => have := HK1.out; omega
       case rel => exact ⟨(wrap64 (x7_1 + 1)), (by first | rfl | (simp; done) | (simp [*]; done)), H', ⟨by have := HK1.out; omega⟩, ⟨by repeat (first | (with_reducible first | exact HB.out | apply below_alloc | apply pw_below_drewN | apply below_drew1) | exact HB.out)⟩⟩
      ·replace c8 := Bool.eq_false_iff.mpr c8
       subst c8
       have H1 : (some x7_1) = some r := by rw [if_neg (show ¬ (false = true) by decide)] at H; exact H
       clear H
       have H := H1
       clear H1
       obtain rfl := Option.some.inj H
       have p156 : 0 ≤ ((ji5) : Int) := of_decide_eq_true (by first | (with_reducible assumption) | assumption)
       have q156 : (ji5) < (l0.length : Int) := of_decide_eq_true (by first | (with_reducible assumption) | assumption)
       obtain ⟨ad156, e156, hx156_0, hx156_1, hx156_2, hx156_3, hx156_4, hx156_5, hx156_6⟩ := at_T51 HR0.out (ji5) p156 q156
       cases e156
       replace hx156_0 := (HB.out.cell (World.block_lt_of_cell? w _ hx156_0)).trans hx156_0
       replace hx156_1 := (HB.out.cell (World.block_lt_of_cell? w _ hx156_1)).trans hx156_1
       replace hx156_2 := (HB.out.cell (World.block_lt_of_cell? w _ hx156_2)).trans hx156_2
       replace hx156_3 := (HB.out.cell (World.block_lt_of_cell? w _ hx156_3)).trans hx156_3
       replace hx156_4 := (HB.out.cell (World.block_lt_of_cell? w _ hx156_4)).trans hx156_4
       replace hx156_5 := (HB.out.cell (World.block_lt_of_cell? w _ hx156_5)).trans hx156_5
       replace hx156_6 := (HB.out.cell (World.block_lt_of_cell? w _ hx156_6)).trans hx156_6
       replace p156 := eq_true p156
       replace q156 := eq_true q156
       go_wp2_with (first | (go_at_call 58; (with_reducible refine (lrsc_LengthF1.calls k1 ((rd_T51 l0 (ji5)).f0) ((rd_T51 l0 (ji5)).f1) ((rd_T51 l0 (ji5)).f2) ((rd_T51 l0 (ji5)).f3) ((rd_T51 l0 (ji5)).f4) ((rd_T51 l0 (ji5)).f5) ((rd_T51 l0 (ji5)).f6) false _ (by first | exact HL.out | exact laid_drewN HL.out | exact laid_below HL.out (by repeat (first | (with_reducible first | exact HB.out | apply below_alloc | apply pw_below_drewN | apply below_drew1 | refine below_set ?_ (Aside0.out (by assumption))) | exact HB.out)) | exact laid_below HL.out HB.out | exact laid_belowd HL.out HB.out) A7.out).mono ?_); rintro e w10 ⟨rfl, hb⟩; have n0_ := Aside0.mk (below_step (by repeat (first | (with_reducible first | exact HB.out | apply below_alloc | apply pw_below_drewN | apply below_drew1) | exact HB.out)) hb); clear HB; have HB := n0_; clear n0_; (try clear hb); (try clear hb2); (try clear hk); (try clear hi)))
       go_ret
       exact ⟨by first | rfl | (simp [errW_none, errW_some] <;> rfl) | (simp only [← hji5]; first | rfl | (simp [errW_none, errW_some] <;> rfl)) | (simp [*, errW_none, errW_some] <;> rfl), by repeat (first | (with_reducible first | exact HB.out | apply below_alloc | apply pw_below_drewN | apply below_drew1) | exact HB.out)⟩
     ·rw [if_neg c6] at H
      exact absurd H (by simp)
    ·rw [if_neg c4] at H
     have c4b0 : decide ((wrap64 (a1 + x7_1)) < (l0.length : Int)) = false := decide_eq_false c4
     clear c4
     obtain rfl := Option.some.inj H
     go_wp2
     go_ret
     exact ⟨by first | rfl | (simp [errW_none, errW_some] <;> rfl) | (simp [*, errW_none, errW_some] <;> rfl), by repeat (first | (with_reducible first | exact HB.out | apply below_alloc | apply pw_below_drewN | apply below_drew1) | exact HB.out)⟩
   ·rw [if_neg c3] at H
    have c3b0 : decide (x7_1 < 16) = false := decide_eq_false c3
    clear c3
    obtain rfl := Option.some.inj H
    go_wp2
    go_ret
    exact ⟨by first | rfl | (simp [errW_none, errW_some] <;> rfl) | (simp [*, errW_none, errW_some] <;> rfl), by repeat (first | (with_reducible first | exact HB.out | apply below_alloc | apply pw_below_drewN | apply below_drew1) | exact HB.out)⟩

/-! ### lrsc_Length: function 16 -/
def lrsc_Length.j0 : Nat → List (S51) → Int → Bool → Option (Int)
  | 0, _, _, _ => none
  | k + 1, x0, x1, x32 => if x32 = true then (some 0) else ((lrsc_store.f k x0 x1).bind fun bt162 => (if bt162.2 = true then ((lrsc_runLength.f k x0 (wrap64 (bt162.1 + 1))).bind fun t164 => (if (wrap64 ((wrap64 (bt162.1 + 1)) + t164)) ≥ (x0.length : Int) then (some 0) else (if 0 ≤ (wrap64 ((wrap64 (bt162.1 + 1)) + t164)) then (if (wrap64 ((wrap64 (bt162.1 + 1)) + t164)) < (x0.length : Int) then ((isa_May.f k ((rd_T51 x0 (wrap64 ((wrap64 (bt162.1 + 1)) + t164))).f0) ((rd_T51 x0 (wrap64 ((wrap64 (bt162.1 + 1)) + t164))).f1) ((rd_T51 x0 (wrap64 ((wrap64 (bt162.1 + 1)) + t164))).f2) ((rd_T51 x0 (wrap64 ((wrap64 (bt162.1 + 1)) + t164))).f3) ((rd_T51 x0 (wrap64 ((wrap64 (bt162.1 + 1)) + t164))).f4) ((rd_T51 x0 (wrap64 ((wrap64 (bt162.1 + 1)) + t164))).f5) ((rd_T51 x0 (wrap64 ((wrap64 (bt162.1 + 1)) + t164))).f6)).bind fun t166 => (if t166 = true then ((lrsc_leads.f ((rd_T51 x0 (wrap64 ((wrap64 (bt162.1 + 1)) + t164))).f0) ((rd_T51 x0 (wrap64 ((wrap64 (bt162.1 + 1)) + t164))).f1) ((rd_T51 x0 (wrap64 ((wrap64 (bt162.1 + 1)) + t164))).f2) ((rd_T51 x0 (wrap64 ((wrap64 (bt162.1 + 1)) + t164))).f3) ((rd_T51 x0 (wrap64 ((wrap64 (bt162.1 + 1)) + t164))).f4) ((rd_T51 x0 (wrap64 ((wrap64 (bt162.1 + 1)) + t164))).f5) ((rd_T51 x0 (wrap64 ((wrap64 (bt162.1 + 1)) + t164))).f6)).bind fun t168 => (if t168 = true then (if ((rd_T51 x0 (wrap64 ((wrap64 (bt162.1 + 1)) + t164))).f4) = (wrap64 (4 * (wrap64 (x1 - (wrap64 ((wrap64 (bt162.1 + 1)) + t164)))))) then (if (wrap64 ((wrap64 ((wrap64 (bt162.1 + 1)) + t164)) - x1)) ≥ 16 then (some 0) else (some (wrap64 ((wrap64 ((wrap64 ((wrap64 (bt162.1 + 1)) + t164)) - x1)) + 1)))) else (some 0)) else (some 0))) else (some 0))) else (none)) else (none)))) else (some 0)))
def lrsc_Length.f (k : Nat) (l0 : List (S51)) (a1 : Int) : Option (Int) := if a1 < 0 then (lrsc_Length.j0 k l0 a1 true) else (if a1 ≥ (l0.length : Int) then (lrsc_Length.j0 k l0 a1 true) else (if 0 ≤ a1 then (if a1 < (l0.length : Int) then ((isa_May.f k ((rd_T51 l0 a1).f0) ((rd_T51 l0 a1).f1) ((rd_T51 l0 a1).f2) ((rd_T51 l0 a1).f3) ((rd_T51 l0 a1).f4) ((rd_T51 l0 a1).f5) ((rd_T51 l0 a1).f6)).bind fun t159 => (if t159 = true then ((lrsc_pair.f ((rd_T51 l0 a1).f0)).bind fun t161 => (lrsc_Length.j0 k l0 a1 (t161 == 0))) else (lrsc_Length.j0 k l0 a1 true))) else (none)) else (none)))
theorem lrsc_Length.mono_l : ∀ k, (∀ y0 y1 y2, LeO (lrsc_Length.j0 k y0 y1 y2) (lrsc_Length.j0 (k + 1) y0 y1 y2))
 | 0 => fun _ _ _ r h => by simp [lrsc_Length.j0] at h
 | k + 1 => by
  have ih0 := lrsc_Length.mono_l k
  ·intro y0 y1 y2
   unfold lrsc_Length.j0
   repeat' first
   | (with_reducible exact ih0 _ _ _)
   | (with_reducible exact isa_May.mono _ _ _ _ _ _ _ _)
   | (with_reducible exact lrsc_runLength.mono _ _ _)
   | (with_reducible exact lrsc_store.mono _ _ _)
   | (with_reducible exact LeO.refl _)
   | (with_reducible exact LeO.none _)
   | (with_reducible refine LeO.ite ?_ ?_)
   | (with_reducible refine LeO.bind ?_ (fun _ => ?_))
   | exact ih0 _ _ _
   | exact isa_May.mono _ _ _ _ _ _ _ _
   | exact lrsc_runLength.mono _ _ _
   | exact lrsc_store.mono _ _ _
   | exact LeO.none _
   | refine LeO.ite ?_ ?_
   | refine LeO.bind ?_ (fun _ => ?_)
theorem lrsc_Length.mono : ∀ a0 a1 k, LeO (lrsc_Length.f k a0 a1) (lrsc_Length.f (k + 1) a0 a1) := by
 intro a0 a1 k
 have ih0 := lrsc_Length.mono_l k
 unfold lrsc_Length.f
 repeat' first
   | (with_reducible exact ih0 _ _ _)
   | (with_reducible exact isa_May.mono _ _ _ _ _ _ _ _)
   | (with_reducible exact lrsc_runLength.mono _ _ _)
   | (with_reducible exact lrsc_store.mono _ _ _)
   | (with_reducible exact LeO.refl _)
   | (with_reducible exact LeO.none _)
   | (with_reducible refine LeO.ite ?_ ?_)
   | (with_reducible refine LeO.bind ?_ (fun _ => ?_))
   | exact ih0 _ _ _
   | exact isa_May.mono _ _ _ _ _ _ _ _
   | exact lrsc_runLength.mono _ _ _
   | exact lrsc_store.mono _ _ _
   | exact LeO.none _
   | refine LeO.ite ?_ ?_
   | refine LeO.bind ?_ (fun _ => ?_)
set_option maxHeartbeats 8000000 in
set_option maxRecDepth 100000 in
theorem lrsc_Length.calls (k : Nat) (A0 : Option Addr) (c0 : Nat) (l0 : List (S51)) (a1 : Int) (r : Int) (w : World) (hL : Laid w) (hr0 : Kd.C k51 w A0 l0.length l0) (hc0 : l0.length ≤ c0) (h : lrsc_Length.f k l0 a1 = some r) :
  Calls Tryd.prog 16 #[.slice A0 l0.length c0, .int .i64 a1] w fun e w' => e = .returned (.int .i64 r) ∧ Below w.heap.size w w' := by
 have HL := Aside0.mk hL
 clear hL
 have hu51 := Tryd.underlying51
 have HR0 := Aside0.mk hr0
 have HC0 := Aside0.mk hc0
 clear hr0 hc0
 have HB := Aside0.mk (Below.refl w.heap.size w)
 have H : (if a1 < 0 then (lrsc_Length.j0 k l0 a1 true) else (if a1 ≥ (l0.length : Int) then (lrsc_Length.j0 k l0 a1 true) else (if 0 ≤ a1 then (if a1 < (l0.length : Int) then ((isa_May.f k ((rd_T51 l0 a1).f0) ((rd_T51 l0 a1).f1) ((rd_T51 l0 a1).f2) ((rd_T51 l0 a1).f3) ((rd_T51 l0 a1).f4) ((rd_T51 l0 a1).f5) ((rd_T51 l0 a1).f6)).bind fun t159 => (if t159 = true then ((lrsc_pair.f ((rd_T51 l0 a1).f0)).bind fun t161 => (lrsc_Length.j0 k l0 a1 (t161 == 0))) else (lrsc_Length.j0 k l0 a1 true))) else (none)) else (none)))) = some r := h
 clear h
 have HC3 := Aside0.mk H
 clear H
 go_enter Tryd.func16, Tryd.ntmps16
 go_upto_region 1 with (fail)
 go_cut [32] (fun v32 wc => ∃ (kq : Nat) (x32_2 : Bool), v32 = .bool x32_2 ∧ Aside0 (lrsc_Length.j0 kq l0 a1 x32_2 = some r) ∧ Aside0 (kq ≤ k) ∧ Aside0 (Below w.heap.size w wc))
 case first =>
  have H := HC3.out
  clear HC3
  by_cases c4 : a1 < 0
  ·rw [if_pos c4] at H
   have c4b0 : decide (a1 < 0) = true := decide_eq_true c4
   clear c4
   (first | rw [c4b0] | (simp only [i64_w, i32_w]; rw [c4b0]) | skip)
   have H' := Aside0.mk H
   clear H
   go_wp2
   go_meet
   case rel => exact ⟨_, (true), (by first | rfl | (simp; done) | (simp [*]; done)), H', ⟨by first | omega | exact Nat.le_refl _⟩, ⟨by repeat (first | (with_reducible first | exact HB.out | apply below_alloc | apply pw_below_drewN | apply below_drew1) | exact HB.out)⟩⟩
  ·rw [if_neg c4] at H
   have c4b0 : decide (a1 < 0) = false := decide_eq_false c4
   clear c4
   (first | rw [c4b0] | (simp only [i64_w, i32_w]; rw [c4b0]) | skip)
   by_cases c5 : a1 ≥ (l0.length : Int)
   ·rw [if_pos c5] at H
    have c5b0 : decide ((l0.length : Int) ≤ a1) = true := decide_eq_true c5
    clear c5
    have H' := Aside0.mk H
    clear H
    go_wp2
    go_meet
    case rel => exact ⟨_, (true), (by first | rfl | (simp; done) | (simp [*]; done)), H', ⟨by first | omega | exact Nat.le_refl _⟩, ⟨by repeat (first | (with_reducible first | exact HB.out | apply below_alloc | apply pw_below_drewN | apply below_drew1) | exact HB.out)⟩⟩
   ·rw [if_neg c5] at H
    have c5b0 : decide ((l0.length : Int) ≤ a1) = false := decide_eq_false c5
    clear c5
    by_cases c6 : 0 ≤ a1
    ·rw [if_pos c6] at H
     have c6b0 : decide (0 ≤ a1) = true := decide_eq_true c6
     clear c6
     by_cases c7 : a1 < (l0.length : Int)
     ·rw [if_pos c7] at H
      have c7b0 : decide (a1 < (l0.length : Int)) = true := decide_eq_true c7
      clear c7
      replace H := Option.bind_eq_some_iff.mp H
      obtain ⟨t159, A80, H⟩ := H
      replace H : (if t159 = true then ((lrsc_pair.f ((rd_T51 l0 a1).f0)).bind fun t161 => (lrsc_Length.j0 k l0 a1 (t161 == 0))) else (lrsc_Length.j0 k l0 a1 true)) = some r := H
      have A8 := Aside0.mk A80
      clear A80
      by_cases c9 : t159 = true
      ·subst c9
       have H1 : ((lrsc_pair.f ((rd_T51 l0 a1).f0)).bind fun t161 => (lrsc_Length.j0 k l0 a1 (t161 == 0))) = some r := by rw [if_pos rfl] at H; exact H
       clear H
       have H := H1
       clear H1
       replace H := Option.bind_eq_some_iff.mp H
       obtain ⟨t161, A100, H⟩ := H
       replace H : (lrsc_Length.j0 k l0 a1 (t161 == 0)) = some r := H
       have A10 := Aside0.mk A100
       clear A100
       have H' := Aside0.mk H
       clear H
       have p158 : 0 ≤ (a1 : Int) := of_decide_eq_true (by first | (with_reducible assumption) | assumption)
       have q158 : a1 < (l0.length : Int) := of_decide_eq_true (by first | (with_reducible assumption) | assumption)
       obtain ⟨ad158, e158, hx158_0, hx158_1, hx158_2, hx158_3, hx158_4, hx158_5, hx158_6⟩ := at_T51 HR0.out a1 p158 q158
       cases e158
       replace hx158_0 := (HB.out.cell (World.block_lt_of_cell? w _ hx158_0)).trans hx158_0
       replace hx158_1 := (HB.out.cell (World.block_lt_of_cell? w _ hx158_1)).trans hx158_1
       replace hx158_2 := (HB.out.cell (World.block_lt_of_cell? w _ hx158_2)).trans hx158_2
       replace hx158_3 := (HB.out.cell (World.block_lt_of_cell? w _ hx158_3)).trans hx158_3
       replace hx158_4 := (HB.out.cell (World.block_lt_of_cell? w _ hx158_4)).trans hx158_4
       replace hx158_5 := (HB.out.cell (World.block_lt_of_cell? w _ hx158_5)).trans hx158_5
       replace hx158_6 := (HB.out.cell (World.block_lt_of_cell? w _ hx158_6)).trans hx158_6
       replace p158 := eq_true p158
       replace q158 := eq_true q158
       go_wp2_with (first | (go_at_call 54; (with_reducible refine (isa_May.calls k ((rd_T51 l0 a1).f0) ((rd_T51 l0 a1).f1) ((rd_T51 l0 a1).f2) ((rd_T51 l0 a1).f3) ((rd_T51 l0 a1).f4) ((rd_T51 l0 a1).f5) ((rd_T51 l0 a1).f6) true _ (by first | exact HL.out | exact laid_drewN HL.out | exact laid_below HL.out (by repeat (first | (with_reducible first | exact HB.out | apply below_alloc | apply pw_below_drewN | apply below_drew1 | refine below_set ?_ (Aside0.out (by assumption))) | exact HB.out)) | exact laid_below HL.out HB.out | exact laid_belowd HL.out HB.out) A8.out).mono ?_); rintro e w11 ⟨rfl, hb⟩; have n0_ := Aside0.mk (below_step (by repeat (first | (with_reducible first | exact HB.out | apply below_alloc | apply pw_below_drewN | apply below_drew1) | exact HB.out)) hb); clear HB; have HB := n0_; clear n0_; (try clear hb); (try clear hb2); (try clear hk); (try clear hi); have p160 : 0 ≤ (a1 : Int) := of_decide_eq_true (by first | (with_reducible assumption) | assumption); have q160 : a1 < (l0.length : Int) := of_decide_eq_true (by first | (with_reducible assumption) | assumption); obtain ⟨ad160, e160, hx160_0, hx160_1, hx160_2, hx160_3, hx160_4, hx160_5, hx160_6⟩ := at_T51 HR0.out a1 p160 q160; obtain rfl : ad158 = ad160 := (by injection e160); replace hx160_0 := (HB.out.cell (World.block_lt_of_cell? w _ hx160_0)).trans hx160_0; replace hx160_1 := (HB.out.cell (World.block_lt_of_cell? w _ hx160_1)).trans hx160_1; replace hx160_2 := (HB.out.cell (World.block_lt_of_cell? w _ hx160_2)).trans hx160_2; replace hx160_3 := (HB.out.cell (World.block_lt_of_cell? w _ hx160_3)).trans hx160_3; replace hx160_4 := (HB.out.cell (World.block_lt_of_cell? w _ hx160_4)).trans hx160_4; replace hx160_5 := (HB.out.cell (World.block_lt_of_cell? w _ hx160_5)).trans hx160_5; replace hx160_6 := (HB.out.cell (World.block_lt_of_cell? w _ hx160_6)).trans hx160_6; replace p160 := eq_true p160; replace q160 := eq_true q160) | (go_at_call 55; (with_reducible refine (lrsc_pair.calls ((rd_T51 l0 a1).f0) t161 _ A10.out).mono ?_); rintro e w' ⟨rfl, ⟨nd, rfl⟩⟩))
       go_meet
       case rel => exact ⟨_, ((t161 == 0)), (by first | rfl | (simp; done) | (simp [*]; done)), H', ⟨by first | omega | exact Nat.le_refl _⟩, ⟨by repeat (first | (with_reducible first | exact HB.out | apply below_alloc | apply pw_below_drewN | apply below_drew1) | exact HB.out)⟩⟩
      ·replace c9 := Bool.eq_false_iff.mpr c9
       subst c9
       have H1 : (lrsc_Length.j0 k l0 a1 true) = some r := by rw [if_neg (show ¬ (false = true) by decide)] at H; exact H
       clear H
       have H := H1
       clear H1
       have H' := Aside0.mk H
       clear H
       have p158 : 0 ≤ (a1 : Int) := of_decide_eq_true (by first | (with_reducible assumption) | assumption)
       have q158 : a1 < (l0.length : Int) := of_decide_eq_true (by first | (with_reducible assumption) | assumption)
       obtain ⟨ad158, e158, hx158_0, hx158_1, hx158_2, hx158_3, hx158_4, hx158_5, hx158_6⟩ := at_T51 HR0.out a1 p158 q158
       cases e158
       replace hx158_0 := (HB.out.cell (World.block_lt_of_cell? w _ hx158_0)).trans hx158_0
       replace hx158_1 := (HB.out.cell (World.block_lt_of_cell? w _ hx158_1)).trans hx158_1
       replace hx158_2 := (HB.out.cell (World.block_lt_of_cell? w _ hx158_2)).trans hx158_2
       replace hx158_3 := (HB.out.cell (World.block_lt_of_cell? w _ hx158_3)).trans hx158_3
       replace hx158_4 := (HB.out.cell (World.block_lt_of_cell? w _ hx158_4)).trans hx158_4
       replace hx158_5 := (HB.out.cell (World.block_lt_of_cell? w _ hx158_5)).trans hx158_5
       replace hx158_6 := (HB.out.cell (World.block_lt_of_cell? w _ hx158_6)).trans hx158_6
       replace p158 := eq_true p158
       replace q158 := eq_true q158
       go_wp2_with (first | (go_at_call 54; (with_reducible refine (isa_May.calls k ((rd_T51 l0 a1).f0) ((rd_T51 l0 a1).f1) ((rd_T51 l0 a1).f2) ((rd_T51 l0 a1).f3) ((rd_T51 l0 a1).f4) ((rd_T51 l0 a1).f5) ((rd_T51 l0 a1).f6) false _ (by first | exact HL.out | exact laid_drewN HL.out | exact laid_below HL.out (by repeat (first | (with_reducible first | exact HB.out | apply below_alloc | apply pw_below_drewN | apply below_drew1 | refine below_set ?_ (Aside0.out (by assumption))) | exact HB.out)) | exact laid_below HL.out HB.out | exact laid_belowd HL.out HB.out) A8.out).mono ?_); rintro e w12 ⟨rfl, hb⟩; have n0_ := Aside0.mk (below_step (by repeat (first | (with_reducible first | exact HB.out | apply below_alloc | apply pw_below_drewN | apply below_drew1) | exact HB.out)) hb); clear HB; have HB := n0_; clear n0_; (try clear hb); (try clear hb2); (try clear hk); (try clear hi)))
       go_meet
       case rel => exact ⟨_, (true), (by first | rfl | (simp; done) | (simp [*]; done)), H', ⟨by first | omega | exact Nat.le_refl _⟩, ⟨by repeat (first | (with_reducible first | exact HB.out | apply below_alloc | apply pw_below_drewN | apply below_drew1) | exact HB.out)⟩⟩
     ·rw [if_neg c7] at H
      exact absurd H (by simp)
    ·rw [if_neg c6] at H
     exact absurd H (by simp)
 case rest =>
  clear HC3
  try clear c1
  try clear p1
  try clear q1
  try clear hx1
  try clear p2
  try clear c4
  try clear c4b0
  try clear c5
  try clear c5b0
  try clear c6
  try clear c6b0
  try clear c7
  try clear c7b0
  try clear c9
  try clear hx158_0
  try clear hx158_1
  try clear hx158_2
  try clear hx158_3
  try clear hx158_4
  try clear hx158_5
  try clear hx158_6
  try clear hx160_0
  try clear hx160_1
  try clear hx160_2
  try clear hx160_3
  try clear hx160_4
  try clear hx160_5
  try clear hx160_6
  try clear p158
  try clear p160
  try clear q158
  try clear q160
  obtain ⟨kq, x32_2, rfl, HA, HJ2, HB⟩ := hcut
  cases kq with
  | zero => exact absurd HA.out (by simp [lrsc_Length.j0])
  | succ kj2 =>
   have H := HA.out
   clear HA
   simp only [lrsc_Length.j0] at H
   by_cases c13 : x32_2 = true
   ·subst c13
    have H1 : (some 0) = some r := by rw [if_pos rfl] at H; exact H
    clear H
    have H := H1
    clear H1
    obtain rfl := Option.some.inj H
    go_wp2
    go_ret
    exact ⟨by first | rfl | (simp [errW_none, errW_some] <;> rfl) | (simp [*, errW_none, errW_some] <;> rfl), by repeat (first | (with_reducible first | exact HB.out | apply below_alloc | apply pw_below_drewN | apply below_drew1) | exact HB.out)⟩
   ·replace c13 := Bool.eq_false_iff.mpr c13
    subst c13
    have H1 : ((lrsc_store.f kj2 l0 a1).bind fun bt162 => (if bt162.2 = true then ((lrsc_runLength.f kj2 l0 (wrap64 (bt162.1 + 1))).bind fun t164 => (if (wrap64 ((wrap64 (bt162.1 + 1)) + t164)) ≥ (l0.length : Int) then (some 0) else (if 0 ≤ (wrap64 ((wrap64 (bt162.1 + 1)) + t164)) then (if (wrap64 ((wrap64 (bt162.1 + 1)) + t164)) < (l0.length : Int) then ((isa_May.f kj2 ((rd_T51 l0 (wrap64 ((wrap64 (bt162.1 + 1)) + t164))).f0) ((rd_T51 l0 (wrap64 ((wrap64 (bt162.1 + 1)) + t164))).f1) ((rd_T51 l0 (wrap64 ((wrap64 (bt162.1 + 1)) + t164))).f2) ((rd_T51 l0 (wrap64 ((wrap64 (bt162.1 + 1)) + t164))).f3) ((rd_T51 l0 (wrap64 ((wrap64 (bt162.1 + 1)) + t164))).f4) ((rd_T51 l0 (wrap64 ((wrap64 (bt162.1 + 1)) + t164))).f5) ((rd_T51 l0 (wrap64 ((wrap64 (bt162.1 + 1)) + t164))).f6)).bind fun t166 => (if t166 = true then ((lrsc_leads.f ((rd_T51 l0 (wrap64 ((wrap64 (bt162.1 + 1)) + t164))).f0) ((rd_T51 l0 (wrap64 ((wrap64 (bt162.1 + 1)) + t164))).f1) ((rd_T51 l0 (wrap64 ((wrap64 (bt162.1 + 1)) + t164))).f2) ((rd_T51 l0 (wrap64 ((wrap64 (bt162.1 + 1)) + t164))).f3) ((rd_T51 l0 (wrap64 ((wrap64 (bt162.1 + 1)) + t164))).f4) ((rd_T51 l0 (wrap64 ((wrap64 (bt162.1 + 1)) + t164))).f5) ((rd_T51 l0 (wrap64 ((wrap64 (bt162.1 + 1)) + t164))).f6)).bind fun t168 => (if t168 = true then (if ((rd_T51 l0 (wrap64 ((wrap64 (bt162.1 + 1)) + t164))).f4) = (wrap64 (4 * (wrap64 (a1 - (wrap64 ((wrap64 (bt162.1 + 1)) + t164)))))) then (if (wrap64 ((wrap64 ((wrap64 (bt162.1 + 1)) + t164)) - a1)) ≥ 16 then (some 0) else (some (wrap64 ((wrap64 ((wrap64 ((wrap64 (bt162.1 + 1)) + t164)) - a1)) + 1)))) else (some 0)) else (some 0))) else (some 0))) else (none)) else (none)))) else (some 0))) = some r := by rw [if_neg (show ¬ (false = true) by decide)] at H; exact H
    clear H
    have H := H1
    clear H1
    replace H := Option.bind_eq_some_iff.mp H
    obtain ⟨⟨t162, t163⟩, A140, H⟩ := H
    replace H : (if t163 = true then ((lrsc_runLength.f kj2 l0 (wrap64 (t162 + 1))).bind fun t164 => (if (wrap64 ((wrap64 (t162 + 1)) + t164)) ≥ (l0.length : Int) then (some 0) else (if 0 ≤ (wrap64 ((wrap64 (t162 + 1)) + t164)) then (if (wrap64 ((wrap64 (t162 + 1)) + t164)) < (l0.length : Int) then ((isa_May.f kj2 ((rd_T51 l0 (wrap64 ((wrap64 (t162 + 1)) + t164))).f0) ((rd_T51 l0 (wrap64 ((wrap64 (t162 + 1)) + t164))).f1) ((rd_T51 l0 (wrap64 ((wrap64 (t162 + 1)) + t164))).f2) ((rd_T51 l0 (wrap64 ((wrap64 (t162 + 1)) + t164))).f3) ((rd_T51 l0 (wrap64 ((wrap64 (t162 + 1)) + t164))).f4) ((rd_T51 l0 (wrap64 ((wrap64 (t162 + 1)) + t164))).f5) ((rd_T51 l0 (wrap64 ((wrap64 (t162 + 1)) + t164))).f6)).bind fun t166 => (if t166 = true then ((lrsc_leads.f ((rd_T51 l0 (wrap64 ((wrap64 (t162 + 1)) + t164))).f0) ((rd_T51 l0 (wrap64 ((wrap64 (t162 + 1)) + t164))).f1) ((rd_T51 l0 (wrap64 ((wrap64 (t162 + 1)) + t164))).f2) ((rd_T51 l0 (wrap64 ((wrap64 (t162 + 1)) + t164))).f3) ((rd_T51 l0 (wrap64 ((wrap64 (t162 + 1)) + t164))).f4) ((rd_T51 l0 (wrap64 ((wrap64 (t162 + 1)) + t164))).f5) ((rd_T51 l0 (wrap64 ((wrap64 (t162 + 1)) + t164))).f6)).bind fun t168 => (if t168 = true then (if ((rd_T51 l0 (wrap64 ((wrap64 (t162 + 1)) + t164))).f4) = (wrap64 (4 * (wrap64 (a1 - (wrap64 ((wrap64 (t162 + 1)) + t164)))))) then (if (wrap64 ((wrap64 ((wrap64 (t162 + 1)) + t164)) - a1)) ≥ 16 then (some 0) else (some (wrap64 ((wrap64 ((wrap64 ((wrap64 (t162 + 1)) + t164)) - a1)) + 1)))) else (some 0)) else (some 0))) else (some 0))) else (none)) else (none)))) else (some 0)) = some r := H
    have A14 := Aside0.mk A140
    clear A140
    by_cases c15 : t163 = true
    ·subst c15
     have H1 : ((lrsc_runLength.f kj2 l0 (wrap64 (t162 + 1))).bind fun t164 => (if (wrap64 ((wrap64 (t162 + 1)) + t164)) ≥ (l0.length : Int) then (some 0) else (if 0 ≤ (wrap64 ((wrap64 (t162 + 1)) + t164)) then (if (wrap64 ((wrap64 (t162 + 1)) + t164)) < (l0.length : Int) then ((isa_May.f kj2 ((rd_T51 l0 (wrap64 ((wrap64 (t162 + 1)) + t164))).f0) ((rd_T51 l0 (wrap64 ((wrap64 (t162 + 1)) + t164))).f1) ((rd_T51 l0 (wrap64 ((wrap64 (t162 + 1)) + t164))).f2) ((rd_T51 l0 (wrap64 ((wrap64 (t162 + 1)) + t164))).f3) ((rd_T51 l0 (wrap64 ((wrap64 (t162 + 1)) + t164))).f4) ((rd_T51 l0 (wrap64 ((wrap64 (t162 + 1)) + t164))).f5) ((rd_T51 l0 (wrap64 ((wrap64 (t162 + 1)) + t164))).f6)).bind fun t166 => (if t166 = true then ((lrsc_leads.f ((rd_T51 l0 (wrap64 ((wrap64 (t162 + 1)) + t164))).f0) ((rd_T51 l0 (wrap64 ((wrap64 (t162 + 1)) + t164))).f1) ((rd_T51 l0 (wrap64 ((wrap64 (t162 + 1)) + t164))).f2) ((rd_T51 l0 (wrap64 ((wrap64 (t162 + 1)) + t164))).f3) ((rd_T51 l0 (wrap64 ((wrap64 (t162 + 1)) + t164))).f4) ((rd_T51 l0 (wrap64 ((wrap64 (t162 + 1)) + t164))).f5) ((rd_T51 l0 (wrap64 ((wrap64 (t162 + 1)) + t164))).f6)).bind fun t168 => (if t168 = true then (if ((rd_T51 l0 (wrap64 ((wrap64 (t162 + 1)) + t164))).f4) = (wrap64 (4 * (wrap64 (a1 - (wrap64 ((wrap64 (t162 + 1)) + t164)))))) then (if (wrap64 ((wrap64 ((wrap64 (t162 + 1)) + t164)) - a1)) ≥ 16 then (some 0) else (some (wrap64 ((wrap64 ((wrap64 ((wrap64 (t162 + 1)) + t164)) - a1)) + 1)))) else (some 0)) else (some 0))) else (some 0))) else (none)) else (none)))) = some r := by rw [if_pos rfl] at H; exact H
     clear H
     have H := H1
     clear H1
     replace H := Option.bind_eq_some_iff.mp H
     obtain ⟨t164, A160, H⟩ := H
     replace H : (if (wrap64 ((wrap64 (t162 + 1)) + t164)) ≥ (l0.length : Int) then (some 0) else (if 0 ≤ (wrap64 ((wrap64 (t162 + 1)) + t164)) then (if (wrap64 ((wrap64 (t162 + 1)) + t164)) < (l0.length : Int) then ((isa_May.f kj2 ((rd_T51 l0 (wrap64 ((wrap64 (t162 + 1)) + t164))).f0) ((rd_T51 l0 (wrap64 ((wrap64 (t162 + 1)) + t164))).f1) ((rd_T51 l0 (wrap64 ((wrap64 (t162 + 1)) + t164))).f2) ((rd_T51 l0 (wrap64 ((wrap64 (t162 + 1)) + t164))).f3) ((rd_T51 l0 (wrap64 ((wrap64 (t162 + 1)) + t164))).f4) ((rd_T51 l0 (wrap64 ((wrap64 (t162 + 1)) + t164))).f5) ((rd_T51 l0 (wrap64 ((wrap64 (t162 + 1)) + t164))).f6)).bind fun t166 => (if t166 = true then ((lrsc_leads.f ((rd_T51 l0 (wrap64 ((wrap64 (t162 + 1)) + t164))).f0) ((rd_T51 l0 (wrap64 ((wrap64 (t162 + 1)) + t164))).f1) ((rd_T51 l0 (wrap64 ((wrap64 (t162 + 1)) + t164))).f2) ((rd_T51 l0 (wrap64 ((wrap64 (t162 + 1)) + t164))).f3) ((rd_T51 l0 (wrap64 ((wrap64 (t162 + 1)) + t164))).f4) ((rd_T51 l0 (wrap64 ((wrap64 (t162 + 1)) + t164))).f5) ((rd_T51 l0 (wrap64 ((wrap64 (t162 + 1)) + t164))).f6)).bind fun t168 => (if t168 = true then (if ((rd_T51 l0 (wrap64 ((wrap64 (t162 + 1)) + t164))).f4) = (wrap64 (4 * (wrap64 (a1 - (wrap64 ((wrap64 (t162 + 1)) + t164)))))) then (if (wrap64 ((wrap64 ((wrap64 (t162 + 1)) + t164)) - a1)) ≥ 16 then (some 0) else (some (wrap64 ((wrap64 ((wrap64 ((wrap64 (t162 + 1)) + t164)) - a1)) + 1)))) else (some 0)) else (some 0))) else (some 0))) else (none)) else (none))) = some r := H
     have A16 := Aside0.mk A160
     clear A160
     by_cases c17 : (wrap64 ((wrap64 (t162 + 1)) + t164)) ≥ (l0.length : Int)
     ·rw [if_pos c17] at H
      have c17b0 : decide ((l0.length : Int) ≤ (wrap64 ((wrap64 (t162 + 1)) + t164))) = true := decide_eq_true c17
      clear c17
      obtain rfl := Option.some.inj H
      go_wp2_with (first | ((with_reducible refine gate_callee (f := 56) rfl ?_); refine goesL_ (some 36) rfl rfl Tryd.func56 (by kernel_rfl) rfl #[.slice A0 l0.length c0, .int .i64 a1] rfl (by (try simp only [List.map_toArray, List.map_cons, List.map_nil]); first | done | rfl | (simp only [List.length_drop, List.length_take]; rfl)) ?_; (with_reducible refine (lrsc_store.calls kj2 _ _ l0 a1 t162 true _ (by first | exact HL.out | exact laid_drewN HL.out | exact laid_below HL.out (by repeat (first | (with_reducible first | exact HB.out | apply below_alloc | apply pw_below_drewN | apply below_drew1 | refine below_set ?_ (Aside0.out (by assumption))) | exact HB.out)) | exact laid_below HL.out HB.out | exact laid_belowd HL.out HB.out) ?side1 ?side2 A14.out).mono ?_); (case side1 => repeat (first | exact (Kd.C_below HR0.out HB.out) | (with_reducible refine Kd.C_alloc ?_ _) | (with_reducible refine Kd.C_drewN ?_ _) | (with_reducible refine Kd.C_drew ?_))); (case side2 => exact HC0.out); rintro e w18 ⟨rfl, hb⟩; refine ⟨_, rfl, ?_⟩; have n0_ := Aside0.mk (below_step (by repeat (first | (with_reducible first | exact HB.out | apply below_alloc | apply pw_below_drewN | apply below_drew1) | exact HB.out)) hb); clear HB; have HB := n0_; clear n0_; (try clear hb); (try clear hb2); (try clear hk); (try clear hi)) | ((with_reducible refine gate_callee (f := 57) rfl ?_); refine goesL_ (some 46) rfl rfl Tryd.func57 (by kernel_rfl) rfl #[.slice A0 l0.length c0, .int .i64 (wrap64 (t162 + 1)), .func (.func 58) #[] #[]] rfl (by (try simp only [List.map_toArray, List.map_cons, List.map_nil]); first | done | rfl | (simp only [List.length_drop, List.length_take]; rfl)) ?_; (with_reducible refine (lrsc_runLength.calls kj2 _ _ l0 (wrap64 (t162 + 1)) t164 _ (by first | exact HL.out | exact laid_drewN HL.out | exact laid_below HL.out (by repeat (first | (with_reducible first | exact HB.out | apply below_alloc | apply pw_below_drewN | apply below_drew1 | refine below_set ?_ (Aside0.out (by assumption))) | exact HB.out)) | exact laid_below HL.out HB.out | exact laid_belowd HL.out HB.out) ?side1 ?side2 A16.out).mono ?_); (case side1 => repeat (first | exact (Kd.C_below HR0.out HB.out) | (with_reducible refine Kd.C_alloc ?_ _) | (with_reducible refine Kd.C_drewN ?_ _) | (with_reducible refine Kd.C_drew ?_))); (case side2 => exact HC0.out); rintro e w19 ⟨rfl, hb⟩; refine ⟨_, rfl, ?_⟩; have n0_ := Aside0.mk (below_step (by repeat (first | (with_reducible first | exact HB.out | apply below_alloc | apply pw_below_drewN | apply below_drew1) | exact HB.out)) hb); clear HB; have HB := n0_; clear n0_; (try clear hb); (try clear hb2); (try clear hk); (try clear hi)))
      go_ret
      exact ⟨by first | rfl | (simp [errW_none, errW_some] <;> rfl) | (simp [*, errW_none, errW_some] <;> rfl), by repeat (first | (with_reducible first | exact HB.out | apply below_alloc | apply pw_below_drewN | apply below_drew1) | exact HB.out)⟩
     ·rw [if_neg c17] at H
      have c17b0 : decide ((l0.length : Int) ≤ (wrap64 ((wrap64 (t162 + 1)) + t164))) = false := decide_eq_false c17
      clear c17
      obtain ⟨ji20, hji20⟩ : ∃ j_ : Int, (wrap64 ((wrap64 (t162 + 1)) + t164)) = j_ := ⟨_, rfl⟩
      replace H : (if 0 ≤ (ji20) then (if (ji20) < (l0.length : Int) then ((isa_May.f kj2 ((rd_T51 l0 (ji20)).f0) ((rd_T51 l0 (ji20)).f1) ((rd_T51 l0 (ji20)).f2) ((rd_T51 l0 (ji20)).f3) ((rd_T51 l0 (ji20)).f4) ((rd_T51 l0 (ji20)).f5) ((rd_T51 l0 (ji20)).f6)).bind fun t166 => (if t166 = true then ((lrsc_leads.f ((rd_T51 l0 (ji20)).f0) ((rd_T51 l0 (ji20)).f1) ((rd_T51 l0 (ji20)).f2) ((rd_T51 l0 (ji20)).f3) ((rd_T51 l0 (ji20)).f4) ((rd_T51 l0 (ji20)).f5) ((rd_T51 l0 (ji20)).f6)).bind fun t168 => (if t168 = true then (if ((rd_T51 l0 (ji20)).f4) = (wrap64 (4 * (wrap64 (a1 - (ji20))))) then (if (wrap64 ((ji20) - a1)) ≥ 16 then (some 0) else (some (wrap64 ((wrap64 ((ji20) - a1)) + 1)))) else (some 0)) else (some 0))) else (some 0))) else (none)) else (none)) = some r := by first | (rw [hji20] at H; exact H) | (simp only [hji20] at H ⊢; exact H)
      (try rw [hji20] at c17b0)
      (try rw [hji20] at A14)
      (try rw [hji20] at A16)
      have hji20w : (IntKind.i64.wrap ((wrap64 (t162 + 1)) + t164)) = ji20 := (i64_w _).trans hji20
      by_cases c21 : 0 ≤ (ji20)
      ·rw [if_pos c21] at H
       have c21b0 : decide (0 ≤ (ji20)) = true := decide_eq_true c21
       clear c21
       by_cases c22 : (ji20) < (l0.length : Int)
       ·rw [if_pos c22] at H
        have c22b0 : decide ((ji20) < (l0.length : Int)) = true := decide_eq_true c22
        clear c22
        replace H := Option.bind_eq_some_iff.mp H
        obtain ⟨t166, A230, H⟩ := H
        replace H : (if t166 = true then ((lrsc_leads.f ((rd_T51 l0 (ji20)).f0) ((rd_T51 l0 (ji20)).f1) ((rd_T51 l0 (ji20)).f2) ((rd_T51 l0 (ji20)).f3) ((rd_T51 l0 (ji20)).f4) ((rd_T51 l0 (ji20)).f5) ((rd_T51 l0 (ji20)).f6)).bind fun t168 => (if t168 = true then (if ((rd_T51 l0 (ji20)).f4) = (wrap64 (4 * (wrap64 (a1 - (ji20))))) then (if (wrap64 ((ji20) - a1)) ≥ 16 then (some 0) else (some (wrap64 ((wrap64 ((ji20) - a1)) + 1)))) else (some 0)) else (some 0))) else (some 0)) = some r := H
        have A23 := Aside0.mk A230
        clear A230
        by_cases c24 : t166 = true
        ·subst c24
         have H1 : ((lrsc_leads.f ((rd_T51 l0 (ji20)).f0) ((rd_T51 l0 (ji20)).f1) ((rd_T51 l0 (ji20)).f2) ((rd_T51 l0 (ji20)).f3) ((rd_T51 l0 (ji20)).f4) ((rd_T51 l0 (ji20)).f5) ((rd_T51 l0 (ji20)).f6)).bind fun t168 => (if t168 = true then (if ((rd_T51 l0 (ji20)).f4) = (wrap64 (4 * (wrap64 (a1 - (ji20))))) then (if (wrap64 ((ji20) - a1)) ≥ 16 then (some 0) else (some (wrap64 ((wrap64 ((ji20) - a1)) + 1)))) else (some 0)) else (some 0))) = some r := by rw [if_pos rfl] at H; exact H
         clear H
         have H := H1
         clear H1
         replace H := Option.bind_eq_some_iff.mp H
         obtain ⟨t168, A250, H⟩ := H
         replace H : (if t168 = true then (if ((rd_T51 l0 (ji20)).f4) = (wrap64 (4 * (wrap64 (a1 - (ji20))))) then (if (wrap64 ((ji20) - a1)) ≥ 16 then (some 0) else (some (wrap64 ((wrap64 ((ji20) - a1)) + 1)))) else (some 0)) else (some 0)) = some r := H
         have A25 := Aside0.mk A250
         clear A250
         by_cases c26 : t168 = true
         ·subst c26
          have H1 : (if ((rd_T51 l0 (ji20)).f4) = (wrap64 (4 * (wrap64 (a1 - (ji20))))) then (if (wrap64 ((ji20) - a1)) ≥ 16 then (some 0) else (some (wrap64 ((wrap64 ((ji20) - a1)) + 1)))) else (some 0)) = some r := by rw [if_pos rfl] at H; exact H
          clear H
          have H := H1
          clear H1
          by_cases c27 : ((rd_T51 l0 (ji20)).f4) = (wrap64 (4 * (wrap64 (a1 - (ji20)))))
          ·rw [if_pos c27] at H
           have c27b0 : (((rd_T51 l0 (ji20)).f4) == (wrap64 (4 * (wrap64 (a1 - (ji20)))))) = true := beq_iff_eq.mpr c27
           have c27b1 : (((rd_T51 l0 (ji20)).f4) != (wrap64 (4 * (wrap64 (a1 - (ji20)))))) = false := bne_eq_false_iff_eq.mpr c27
           clear c27
           by_cases c28 : (wrap64 ((ji20) - a1)) ≥ 16
           ·rw [if_pos c28] at H
            have c28b0 : decide (16 ≤ (wrap64 ((ji20) - a1))) = true := decide_eq_true c28
            clear c28
            obtain rfl := Option.some.inj H
            go_wp2_with (first | ((with_reducible refine gate_callee (f := 56) rfl ?_); refine goesL_ (some 36) rfl rfl Tryd.func56 (by kernel_rfl) rfl #[.slice A0 l0.length c0, .int .i64 a1] rfl (by (try simp only [List.map_toArray, List.map_cons, List.map_nil]); first | done | rfl | (simp only [List.length_drop, List.length_take]; rfl)) ?_; (with_reducible refine (lrsc_store.calls kj2 _ _ l0 a1 t162 true _ (by first | exact HL.out | exact laid_drewN HL.out | exact laid_below HL.out (by repeat (first | (with_reducible first | exact HB.out | apply below_alloc | apply pw_below_drewN | apply below_drew1 | refine below_set ?_ (Aside0.out (by assumption))) | exact HB.out)) | exact laid_below HL.out HB.out | exact laid_belowd HL.out HB.out) ?side1 ?side2 A14.out).mono ?_); (case side1 => repeat (first | exact (Kd.C_below HR0.out HB.out) | (with_reducible refine Kd.C_alloc ?_ _) | (with_reducible refine Kd.C_drewN ?_ _) | (with_reducible refine Kd.C_drew ?_))); (case side2 => exact HC0.out); rintro e w29 ⟨rfl, hb⟩; refine ⟨_, rfl, ?_⟩; have n0_ := Aside0.mk (below_step (by repeat (first | (with_reducible first | exact HB.out | apply below_alloc | apply pw_below_drewN | apply below_drew1) | exact HB.out)) hb); clear HB; have HB := n0_; clear n0_; (try clear hb); (try clear hb2); (try clear hk); (try clear hi)) | ((with_reducible refine gate_callee (f := 57) rfl ?_); refine goesL_ (some 46) rfl rfl Tryd.func57 (by kernel_rfl) rfl #[.slice A0 l0.length c0, .int .i64 (wrap64 (t162 + 1)), .func (.func 58) #[] #[]] rfl (by (try simp only [List.map_toArray, List.map_cons, List.map_nil]); first | done | rfl | (simp only [List.length_drop, List.length_take]; rfl)) ?_; (with_reducible refine (lrsc_runLength.calls kj2 _ _ l0 (wrap64 (t162 + 1)) t164 _ (by first | exact HL.out | exact laid_drewN HL.out | exact laid_below HL.out (by repeat (first | (with_reducible first | exact HB.out | apply below_alloc | apply pw_below_drewN | apply below_drew1 | refine below_set ?_ (Aside0.out (by assumption))) | exact HB.out)) | exact laid_below HL.out HB.out | exact laid_belowd HL.out HB.out) ?side1 ?side2 A16.out).mono ?_); (case side1 => repeat (first | exact (Kd.C_below HR0.out HB.out) | (with_reducible refine Kd.C_alloc ?_ _) | (with_reducible refine Kd.C_drewN ?_ _) | (with_reducible refine Kd.C_drew ?_))); (case side2 => exact HC0.out); rintro e w30 ⟨rfl, hb⟩; refine ⟨_, rfl, ?_⟩; have n0_ := Aside0.mk (below_step (by repeat (first | (with_reducible first | exact HB.out | apply below_alloc | apply pw_below_drewN | apply below_drew1) | exact HB.out)) hb); clear HB; have HB := n0_; clear n0_; (try clear hb); (try clear hb2); (try clear hk); (try clear hi); have p165 : 0 ≤ ((ji20) : Int) := of_decide_eq_true (by first | (with_reducible assumption) | assumption); have q165 : (ji20) < (l0.length : Int) := of_decide_eq_true (by first | (with_reducible assumption) | assumption); obtain ⟨ad165, e165, hx165_0, hx165_1, hx165_2, hx165_3, hx165_4, hx165_5, hx165_6⟩ := at_T51 HR0.out (ji20) p165 q165; cases e165; replace hx165_0 := (HB.out.cell (World.block_lt_of_cell? w _ hx165_0)).trans hx165_0; replace hx165_1 := (HB.out.cell (World.block_lt_of_cell? w _ hx165_1)).trans hx165_1; replace hx165_2 := (HB.out.cell (World.block_lt_of_cell? w _ hx165_2)).trans hx165_2; replace hx165_3 := (HB.out.cell (World.block_lt_of_cell? w _ hx165_3)).trans hx165_3; replace hx165_4 := (HB.out.cell (World.block_lt_of_cell? w _ hx165_4)).trans hx165_4; replace hx165_5 := (HB.out.cell (World.block_lt_of_cell? w _ hx165_5)).trans hx165_5; replace hx165_6 := (HB.out.cell (World.block_lt_of_cell? w _ hx165_6)).trans hx165_6; replace p165 := eq_true p165; replace q165 := eq_true q165) | (go_at_call 54; (with_reducible refine (isa_May.calls kj2 ((rd_T51 l0 (ji20)).f0) ((rd_T51 l0 (ji20)).f1) ((rd_T51 l0 (ji20)).f2) ((rd_T51 l0 (ji20)).f3) ((rd_T51 l0 (ji20)).f4) ((rd_T51 l0 (ji20)).f5) ((rd_T51 l0 (ji20)).f6) true _ (by first | exact HL.out | exact laid_drewN HL.out | exact laid_below HL.out (by repeat (first | (with_reducible first | exact HB.out | apply below_alloc | apply pw_below_drewN | apply below_drew1 | refine below_set ?_ (Aside0.out (by assumption))) | exact HB.out)) | exact laid_below HL.out HB.out | exact laid_belowd HL.out HB.out) A23.out).mono ?_); rintro e w31 ⟨rfl, hb⟩; have n0_ := Aside0.mk (below_step (by repeat (first | (with_reducible first | exact HB.out | apply below_alloc | apply pw_below_drewN | apply below_drew1) | exact HB.out)) hb); clear HB; have HB := n0_; clear n0_; (try clear hb); (try clear hb2); (try clear hk); (try clear hi); have p167 : 0 ≤ ((ji20) : Int) := of_decide_eq_true (by first | (with_reducible assumption) | assumption); have q167 : (ji20) < (l0.length : Int) := of_decide_eq_true (by first | (with_reducible assumption) | assumption); obtain ⟨ad167, e167, hx167_0, hx167_1, hx167_2, hx167_3, hx167_4, hx167_5, hx167_6⟩ := at_T51 HR0.out (ji20) p167 q167; obtain rfl : ad165 = ad167 := (by injection e167); replace hx167_0 := (HB.out.cell (World.block_lt_of_cell? w _ hx167_0)).trans hx167_0; replace hx167_1 := (HB.out.cell (World.block_lt_of_cell? w _ hx167_1)).trans hx167_1; replace hx167_2 := (HB.out.cell (World.block_lt_of_cell? w _ hx167_2)).trans hx167_2; replace hx167_3 := (HB.out.cell (World.block_lt_of_cell? w _ hx167_3)).trans hx167_3; replace hx167_4 := (HB.out.cell (World.block_lt_of_cell? w _ hx167_4)).trans hx167_4; replace hx167_5 := (HB.out.cell (World.block_lt_of_cell? w _ hx167_5)).trans hx167_5; replace hx167_6 := (HB.out.cell (World.block_lt_of_cell? w _ hx167_6)).trans hx167_6; replace p167 := eq_true p167; replace q167 := eq_true q167) | (go_at_call 60; (with_reducible refine (lrsc_leads.calls ((rd_T51 l0 (ji20)).f0) ((rd_T51 l0 (ji20)).f1) ((rd_T51 l0 (ji20)).f2) ((rd_T51 l0 (ji20)).f3) ((rd_T51 l0 (ji20)).f4) ((rd_T51 l0 (ji20)).f5) ((rd_T51 l0 (ji20)).f6) true _ A25.out).mono ?_); rintro e w32 ⟨rfl, hb⟩; have n0_ := Aside0.mk (below_step (by repeat (first | (with_reducible first | exact HB.out | apply below_alloc | apply pw_below_drewN | apply below_drew1) | exact HB.out)) hb); clear HB; have HB := n0_; clear n0_; (try clear hb); (try clear hb2); (try clear hk); (try clear hi); have p169 : 0 ≤ ((ji20) : Int) := of_decide_eq_true (by first | (with_reducible assumption) | assumption); have q169 : (ji20) < (l0.length : Int) := of_decide_eq_true (by first | (with_reducible assumption) | assumption); obtain ⟨ad169, e169, hx169_0, hx169_1, hx169_2, hx169_3, hx169_4, hx169_5, hx169_6⟩ := at_T51 HR0.out (ji20) p169 q169; obtain rfl : ad165 = ad169 := (by injection e169); replace hx169_0 := (HB.out.cell (World.block_lt_of_cell? w _ hx169_0)).trans hx169_0; replace hx169_1 := (HB.out.cell (World.block_lt_of_cell? w _ hx169_1)).trans hx169_1; replace hx169_2 := (HB.out.cell (World.block_lt_of_cell? w _ hx169_2)).trans hx169_2; replace hx169_3 := (HB.out.cell (World.block_lt_of_cell? w _ hx169_3)).trans hx169_3; replace hx169_4 := (HB.out.cell (World.block_lt_of_cell? w _ hx169_4)).trans hx169_4; replace hx169_5 := (HB.out.cell (World.block_lt_of_cell? w _ hx169_5)).trans hx169_5; replace hx169_6 := (HB.out.cell (World.block_lt_of_cell? w _ hx169_6)).trans hx169_6; replace p169 := eq_true p169; replace q169 := eq_true q169))
            go_ret
            exact ⟨by first | rfl | (simp [errW_none, errW_some] <;> rfl) | (simp only [← hji20]; first | rfl | (simp [errW_none, errW_some] <;> rfl)) | (simp [*, errW_none, errW_some] <;> rfl), by repeat (first | (with_reducible first | exact HB.out | apply below_alloc | apply pw_below_drewN | apply below_drew1) | exact HB.out)⟩
           ·rw [if_neg c28] at H
            have c28b0 : decide (16 ≤ (wrap64 ((ji20) - a1))) = false := decide_eq_false c28
            clear c28
            obtain rfl := Option.some.inj H
            go_wp2_with (first | ((with_reducible refine gate_callee (f := 56) rfl ?_); refine goesL_ (some 36) rfl rfl Tryd.func56 (by kernel_rfl) rfl #[.slice A0 l0.length c0, .int .i64 a1] rfl (by (try simp only [List.map_toArray, List.map_cons, List.map_nil]); first | done | rfl | (simp only [List.length_drop, List.length_take]; rfl)) ?_; (with_reducible refine (lrsc_store.calls kj2 _ _ l0 a1 t162 true _ (by first | exact HL.out | exact laid_drewN HL.out | exact laid_below HL.out (by repeat (first | (with_reducible first | exact HB.out | apply below_alloc | apply pw_below_drewN | apply below_drew1 | refine below_set ?_ (Aside0.out (by assumption))) | exact HB.out)) | exact laid_below HL.out HB.out | exact laid_belowd HL.out HB.out) ?side1 ?side2 A14.out).mono ?_); (case side1 => repeat (first | exact (Kd.C_below HR0.out HB.out) | (with_reducible refine Kd.C_alloc ?_ _) | (with_reducible refine Kd.C_drewN ?_ _) | (with_reducible refine Kd.C_drew ?_))); (case side2 => exact HC0.out); rintro e w33 ⟨rfl, hb⟩; refine ⟨_, rfl, ?_⟩; have n0_ := Aside0.mk (below_step (by repeat (first | (with_reducible first | exact HB.out | apply below_alloc | apply pw_below_drewN | apply below_drew1) | exact HB.out)) hb); clear HB; have HB := n0_; clear n0_; (try clear hb); (try clear hb2); (try clear hk); (try clear hi)) | ((with_reducible refine gate_callee (f := 57) rfl ?_); refine goesL_ (some 46) rfl rfl Tryd.func57 (by kernel_rfl) rfl #[.slice A0 l0.length c0, .int .i64 (wrap64 (t162 + 1)), .func (.func 58) #[] #[]] rfl (by (try simp only [List.map_toArray, List.map_cons, List.map_nil]); first | done | rfl | (simp only [List.length_drop, List.length_take]; rfl)) ?_; (with_reducible refine (lrsc_runLength.calls kj2 _ _ l0 (wrap64 (t162 + 1)) t164 _ (by first | exact HL.out | exact laid_drewN HL.out | exact laid_below HL.out (by repeat (first | (with_reducible first | exact HB.out | apply below_alloc | apply pw_below_drewN | apply below_drew1 | refine below_set ?_ (Aside0.out (by assumption))) | exact HB.out)) | exact laid_below HL.out HB.out | exact laid_belowd HL.out HB.out) ?side1 ?side2 A16.out).mono ?_); (case side1 => repeat (first | exact (Kd.C_below HR0.out HB.out) | (with_reducible refine Kd.C_alloc ?_ _) | (with_reducible refine Kd.C_drewN ?_ _) | (with_reducible refine Kd.C_drew ?_))); (case side2 => exact HC0.out); rintro e w34 ⟨rfl, hb⟩; refine ⟨_, rfl, ?_⟩; have n0_ := Aside0.mk (below_step (by repeat (first | (with_reducible first | exact HB.out | apply below_alloc | apply pw_below_drewN | apply below_drew1) | exact HB.out)) hb); clear HB; have HB := n0_; clear n0_; (try clear hb); (try clear hb2); (try clear hk); (try clear hi); have p165 : 0 ≤ ((ji20) : Int) := of_decide_eq_true (by first | (with_reducible assumption) | assumption); have q165 : (ji20) < (l0.length : Int) := of_decide_eq_true (by first | (with_reducible assumption) | assumption); obtain ⟨ad165, e165, hx165_0, hx165_1, hx165_2, hx165_3, hx165_4, hx165_5, hx165_6⟩ := at_T51 HR0.out (ji20) p165 q165; cases e165; replace hx165_0 := (HB.out.cell (World.block_lt_of_cell? w _ hx165_0)).trans hx165_0; replace hx165_1 := (HB.out.cell (World.block_lt_of_cell? w _ hx165_1)).trans hx165_1; replace hx165_2 := (HB.out.cell (World.block_lt_of_cell? w _ hx165_2)).trans hx165_2; replace hx165_3 := (HB.out.cell (World.block_lt_of_cell? w _ hx165_3)).trans hx165_3; replace hx165_4 := (HB.out.cell (World.block_lt_of_cell? w _ hx165_4)).trans hx165_4; replace hx165_5 := (HB.out.cell (World.block_lt_of_cell? w _ hx165_5)).trans hx165_5; replace hx165_6 := (HB.out.cell (World.block_lt_of_cell? w _ hx165_6)).trans hx165_6; replace p165 := eq_true p165; replace q165 := eq_true q165) | (go_at_call 54; (with_reducible refine (isa_May.calls kj2 ((rd_T51 l0 (ji20)).f0) ((rd_T51 l0 (ji20)).f1) ((rd_T51 l0 (ji20)).f2) ((rd_T51 l0 (ji20)).f3) ((rd_T51 l0 (ji20)).f4) ((rd_T51 l0 (ji20)).f5) ((rd_T51 l0 (ji20)).f6) true _ (by first | exact HL.out | exact laid_drewN HL.out | exact laid_below HL.out (by repeat (first | (with_reducible first | exact HB.out | apply below_alloc | apply pw_below_drewN | apply below_drew1 | refine below_set ?_ (Aside0.out (by assumption))) | exact HB.out)) | exact laid_below HL.out HB.out | exact laid_belowd HL.out HB.out) A23.out).mono ?_); rintro e w35 ⟨rfl, hb⟩; have n0_ := Aside0.mk (below_step (by repeat (first | (with_reducible first | exact HB.out | apply below_alloc | apply pw_below_drewN | apply below_drew1) | exact HB.out)) hb); clear HB; have HB := n0_; clear n0_; (try clear hb); (try clear hb2); (try clear hk); (try clear hi); have p167 : 0 ≤ ((ji20) : Int) := of_decide_eq_true (by first | (with_reducible assumption) | assumption); have q167 : (ji20) < (l0.length : Int) := of_decide_eq_true (by first | (with_reducible assumption) | assumption); obtain ⟨ad167, e167, hx167_0, hx167_1, hx167_2, hx167_3, hx167_4, hx167_5, hx167_6⟩ := at_T51 HR0.out (ji20) p167 q167; obtain rfl : ad165 = ad167 := (by injection e167); replace hx167_0 := (HB.out.cell (World.block_lt_of_cell? w _ hx167_0)).trans hx167_0; replace hx167_1 := (HB.out.cell (World.block_lt_of_cell? w _ hx167_1)).trans hx167_1; replace hx167_2 := (HB.out.cell (World.block_lt_of_cell? w _ hx167_2)).trans hx167_2; replace hx167_3 := (HB.out.cell (World.block_lt_of_cell? w _ hx167_3)).trans hx167_3; replace hx167_4 := (HB.out.cell (World.block_lt_of_cell? w _ hx167_4)).trans hx167_4; replace hx167_5 := (HB.out.cell (World.block_lt_of_cell? w _ hx167_5)).trans hx167_5; replace hx167_6 := (HB.out.cell (World.block_lt_of_cell? w _ hx167_6)).trans hx167_6; replace p167 := eq_true p167; replace q167 := eq_true q167) | (go_at_call 60; (with_reducible refine (lrsc_leads.calls ((rd_T51 l0 (ji20)).f0) ((rd_T51 l0 (ji20)).f1) ((rd_T51 l0 (ji20)).f2) ((rd_T51 l0 (ji20)).f3) ((rd_T51 l0 (ji20)).f4) ((rd_T51 l0 (ji20)).f5) ((rd_T51 l0 (ji20)).f6) true _ A25.out).mono ?_); rintro e w36 ⟨rfl, hb⟩; have n0_ := Aside0.mk (below_step (by repeat (first | (with_reducible first | exact HB.out | apply below_alloc | apply pw_below_drewN | apply below_drew1) | exact HB.out)) hb); clear HB; have HB := n0_; clear n0_; (try clear hb); (try clear hb2); (try clear hk); (try clear hi); have p169 : 0 ≤ ((ji20) : Int) := of_decide_eq_true (by first | (with_reducible assumption) | assumption); have q169 : (ji20) < (l0.length : Int) := of_decide_eq_true (by first | (with_reducible assumption) | assumption); obtain ⟨ad169, e169, hx169_0, hx169_1, hx169_2, hx169_3, hx169_4, hx169_5, hx169_6⟩ := at_T51 HR0.out (ji20) p169 q169; obtain rfl : ad165 = ad169 := (by injection e169); replace hx169_0 := (HB.out.cell (World.block_lt_of_cell? w _ hx169_0)).trans hx169_0; replace hx169_1 := (HB.out.cell (World.block_lt_of_cell? w _ hx169_1)).trans hx169_1; replace hx169_2 := (HB.out.cell (World.block_lt_of_cell? w _ hx169_2)).trans hx169_2; replace hx169_3 := (HB.out.cell (World.block_lt_of_cell? w _ hx169_3)).trans hx169_3; replace hx169_4 := (HB.out.cell (World.block_lt_of_cell? w _ hx169_4)).trans hx169_4; replace hx169_5 := (HB.out.cell (World.block_lt_of_cell? w _ hx169_5)).trans hx169_5; replace hx169_6 := (HB.out.cell (World.block_lt_of_cell? w _ hx169_6)).trans hx169_6; replace p169 := eq_true p169; replace q169 := eq_true q169))
            go_ret
            exact ⟨by first | rfl | (simp [errW_none, errW_some] <;> rfl) | (simp only [← hji20]; first | rfl | (simp [errW_none, errW_some] <;> rfl)) | (simp [*, errW_none, errW_some] <;> rfl), by repeat (first | (with_reducible first | exact HB.out | apply below_alloc | apply pw_below_drewN | apply below_drew1) | exact HB.out)⟩
          ·rw [if_neg c27] at H
           have c27b0 : (((rd_T51 l0 (ji20)).f4) == (wrap64 (4 * (wrap64 (a1 - (ji20)))))) = false := beq_eq_false_iff_ne.mpr c27
           have c27b1 : (((rd_T51 l0 (ji20)).f4) != (wrap64 (4 * (wrap64 (a1 - (ji20)))))) = true := bne_iff_ne.mpr c27
           obtain rfl := Option.some.inj H
           go_wp2_with (first | ((with_reducible refine gate_callee (f := 56) rfl ?_); refine goesL_ (some 36) rfl rfl Tryd.func56 (by kernel_rfl) rfl #[.slice A0 l0.length c0, .int .i64 a1] rfl (by (try simp only [List.map_toArray, List.map_cons, List.map_nil]); first | done | rfl | (simp only [List.length_drop, List.length_take]; rfl)) ?_; (with_reducible refine (lrsc_store.calls kj2 _ _ l0 a1 t162 true _ (by first | exact HL.out | exact laid_drewN HL.out | exact laid_below HL.out (by repeat (first | (with_reducible first | exact HB.out | apply below_alloc | apply pw_below_drewN | apply below_drew1 | refine below_set ?_ (Aside0.out (by assumption))) | exact HB.out)) | exact laid_below HL.out HB.out | exact laid_belowd HL.out HB.out) ?side1 ?side2 A14.out).mono ?_); (case side1 => repeat (first | exact (Kd.C_below HR0.out HB.out) | (with_reducible refine Kd.C_alloc ?_ _) | (with_reducible refine Kd.C_drewN ?_ _) | (with_reducible refine Kd.C_drew ?_))); (case side2 => exact HC0.out); rintro e w37 ⟨rfl, hb⟩; refine ⟨_, rfl, ?_⟩; have n0_ := Aside0.mk (below_step (by repeat (first | (with_reducible first | exact HB.out | apply below_alloc | apply pw_below_drewN | apply below_drew1) | exact HB.out)) hb); clear HB; have HB := n0_; clear n0_; (try clear hb); (try clear hb2); (try clear hk); (try clear hi)) | ((with_reducible refine gate_callee (f := 57) rfl ?_); refine goesL_ (some 46) rfl rfl Tryd.func57 (by kernel_rfl) rfl #[.slice A0 l0.length c0, .int .i64 (wrap64 (t162 + 1)), .func (.func 58) #[] #[]] rfl (by (try simp only [List.map_toArray, List.map_cons, List.map_nil]); first | done | rfl | (simp only [List.length_drop, List.length_take]; rfl)) ?_; (with_reducible refine (lrsc_runLength.calls kj2 _ _ l0 (wrap64 (t162 + 1)) t164 _ (by first | exact HL.out | exact laid_drewN HL.out | exact laid_below HL.out (by repeat (first | (with_reducible first | exact HB.out | apply below_alloc | apply pw_below_drewN | apply below_drew1 | refine below_set ?_ (Aside0.out (by assumption))) | exact HB.out)) | exact laid_below HL.out HB.out | exact laid_belowd HL.out HB.out) ?side1 ?side2 A16.out).mono ?_); (case side1 => repeat (first | exact (Kd.C_below HR0.out HB.out) | (with_reducible refine Kd.C_alloc ?_ _) | (with_reducible refine Kd.C_drewN ?_ _) | (with_reducible refine Kd.C_drew ?_))); (case side2 => exact HC0.out); rintro e w38 ⟨rfl, hb⟩; refine ⟨_, rfl, ?_⟩; have n0_ := Aside0.mk (below_step (by repeat (first | (with_reducible first | exact HB.out | apply below_alloc | apply pw_below_drewN | apply below_drew1) | exact HB.out)) hb); clear HB; have HB := n0_; clear n0_; (try clear hb); (try clear hb2); (try clear hk); (try clear hi); have p165 : 0 ≤ ((ji20) : Int) := of_decide_eq_true (by first | (with_reducible assumption) | assumption); have q165 : (ji20) < (l0.length : Int) := of_decide_eq_true (by first | (with_reducible assumption) | assumption); obtain ⟨ad165, e165, hx165_0, hx165_1, hx165_2, hx165_3, hx165_4, hx165_5, hx165_6⟩ := at_T51 HR0.out (ji20) p165 q165; cases e165; replace hx165_0 := (HB.out.cell (World.block_lt_of_cell? w _ hx165_0)).trans hx165_0; replace hx165_1 := (HB.out.cell (World.block_lt_of_cell? w _ hx165_1)).trans hx165_1; replace hx165_2 := (HB.out.cell (World.block_lt_of_cell? w _ hx165_2)).trans hx165_2; replace hx165_3 := (HB.out.cell (World.block_lt_of_cell? w _ hx165_3)).trans hx165_3; replace hx165_4 := (HB.out.cell (World.block_lt_of_cell? w _ hx165_4)).trans hx165_4; replace hx165_5 := (HB.out.cell (World.block_lt_of_cell? w _ hx165_5)).trans hx165_5; replace hx165_6 := (HB.out.cell (World.block_lt_of_cell? w _ hx165_6)).trans hx165_6; replace p165 := eq_true p165; replace q165 := eq_true q165) | (go_at_call 54; (with_reducible refine (isa_May.calls kj2 ((rd_T51 l0 (ji20)).f0) ((rd_T51 l0 (ji20)).f1) ((rd_T51 l0 (ji20)).f2) ((rd_T51 l0 (ji20)).f3) ((rd_T51 l0 (ji20)).f4) ((rd_T51 l0 (ji20)).f5) ((rd_T51 l0 (ji20)).f6) true _ (by first | exact HL.out | exact laid_drewN HL.out | exact laid_below HL.out (by repeat (first | (with_reducible first | exact HB.out | apply below_alloc | apply pw_below_drewN | apply below_drew1 | refine below_set ?_ (Aside0.out (by assumption))) | exact HB.out)) | exact laid_below HL.out HB.out | exact laid_belowd HL.out HB.out) A23.out).mono ?_); rintro e w39 ⟨rfl, hb⟩; have n0_ := Aside0.mk (below_step (by repeat (first | (with_reducible first | exact HB.out | apply below_alloc | apply pw_below_drewN | apply below_drew1) | exact HB.out)) hb); clear HB; have HB := n0_; clear n0_; (try clear hb); (try clear hb2); (try clear hk); (try clear hi); have p167 : 0 ≤ ((ji20) : Int) := of_decide_eq_true (by first | (with_reducible assumption) | assumption); have q167 : (ji20) < (l0.length : Int) := of_decide_eq_true (by first | (with_reducible assumption) | assumption); obtain ⟨ad167, e167, hx167_0, hx167_1, hx167_2, hx167_3, hx167_4, hx167_5, hx167_6⟩ := at_T51 HR0.out (ji20) p167 q167; obtain rfl : ad165 = ad167 := (by injection e167); replace hx167_0 := (HB.out.cell (World.block_lt_of_cell? w _ hx167_0)).trans hx167_0; replace hx167_1 := (HB.out.cell (World.block_lt_of_cell? w _ hx167_1)).trans hx167_1; replace hx167_2 := (HB.out.cell (World.block_lt_of_cell? w _ hx167_2)).trans hx167_2; replace hx167_3 := (HB.out.cell (World.block_lt_of_cell? w _ hx167_3)).trans hx167_3; replace hx167_4 := (HB.out.cell (World.block_lt_of_cell? w _ hx167_4)).trans hx167_4; replace hx167_5 := (HB.out.cell (World.block_lt_of_cell? w _ hx167_5)).trans hx167_5; replace hx167_6 := (HB.out.cell (World.block_lt_of_cell? w _ hx167_6)).trans hx167_6; replace p167 := eq_true p167; replace q167 := eq_true q167) | (go_at_call 60; (with_reducible refine (lrsc_leads.calls ((rd_T51 l0 (ji20)).f0) ((rd_T51 l0 (ji20)).f1) ((rd_T51 l0 (ji20)).f2) ((rd_T51 l0 (ji20)).f3) ((rd_T51 l0 (ji20)).f4) ((rd_T51 l0 (ji20)).f5) ((rd_T51 l0 (ji20)).f6) true _ A25.out).mono ?_); rintro e w40 ⟨rfl, hb⟩; have n0_ := Aside0.mk (below_step (by repeat (first | (with_reducible first | exact HB.out | apply below_alloc | apply pw_below_drewN | apply below_drew1) | exact HB.out)) hb); clear HB; have HB := n0_; clear n0_; (try clear hb); (try clear hb2); (try clear hk); (try clear hi); have p169 : 0 ≤ ((ji20) : Int) := of_decide_eq_true (by first | (with_reducible assumption) | assumption); have q169 : (ji20) < (l0.length : Int) := of_decide_eq_true (by first | (with_reducible assumption) | assumption); obtain ⟨ad169, e169, hx169_0, hx169_1, hx169_2, hx169_3, hx169_4, hx169_5, hx169_6⟩ := at_T51 HR0.out (ji20) p169 q169; obtain rfl : ad165 = ad169 := (by injection e169); replace hx169_0 := (HB.out.cell (World.block_lt_of_cell? w _ hx169_0)).trans hx169_0; replace hx169_1 := (HB.out.cell (World.block_lt_of_cell? w _ hx169_1)).trans hx169_1; replace hx169_2 := (HB.out.cell (World.block_lt_of_cell? w _ hx169_2)).trans hx169_2; replace hx169_3 := (HB.out.cell (World.block_lt_of_cell? w _ hx169_3)).trans hx169_3; replace hx169_4 := (HB.out.cell (World.block_lt_of_cell? w _ hx169_4)).trans hx169_4; replace hx169_5 := (HB.out.cell (World.block_lt_of_cell? w _ hx169_5)).trans hx169_5; replace hx169_6 := (HB.out.cell (World.block_lt_of_cell? w _ hx169_6)).trans hx169_6; replace p169 := eq_true p169; replace q169 := eq_true q169))
           go_ret
           exact ⟨by first | rfl | (simp [errW_none, errW_some] <;> rfl) | (simp only [← hji20]; first | rfl | (simp [errW_none, errW_some] <;> rfl)) | (simp [*, errW_none, errW_some] <;> rfl), by repeat (first | (with_reducible first | exact HB.out | apply below_alloc | apply pw_below_drewN | apply below_drew1) | exact HB.out)⟩
         ·replace c26 := Bool.eq_false_iff.mpr c26
          subst c26
          have H1 : (some 0) = some r := by rw [if_neg (show ¬ (false = true) by decide)] at H; exact H
          clear H
          have H := H1
          clear H1
          obtain rfl := Option.some.inj H
          go_wp2_with (first | ((with_reducible refine gate_callee (f := 56) rfl ?_); refine goesL_ (some 36) rfl rfl Tryd.func56 (by kernel_rfl) rfl #[.slice A0 l0.length c0, .int .i64 a1] rfl (by (try simp only [List.map_toArray, List.map_cons, List.map_nil]); first | done | rfl | (simp only [List.length_drop, List.length_take]; rfl)) ?_; (with_reducible refine (lrsc_store.calls kj2 _ _ l0 a1 t162 true _ (by first | exact HL.out | exact laid_drewN HL.out | exact laid_below HL.out (by repeat (first | (with_reducible first | exact HB.out | apply below_alloc | apply pw_below_drewN | apply below_drew1 | refine below_set ?_ (Aside0.out (by assumption))) | exact HB.out)) | exact laid_below HL.out HB.out | exact laid_belowd HL.out HB.out) ?side1 ?side2 A14.out).mono ?_); (case side1 => repeat (first | exact (Kd.C_below HR0.out HB.out) | (with_reducible refine Kd.C_alloc ?_ _) | (with_reducible refine Kd.C_drewN ?_ _) | (with_reducible refine Kd.C_drew ?_))); (case side2 => exact HC0.out); rintro e w41 ⟨rfl, hb⟩; refine ⟨_, rfl, ?_⟩; have n0_ := Aside0.mk (below_step (by repeat (first | (with_reducible first | exact HB.out | apply below_alloc | apply pw_below_drewN | apply below_drew1) | exact HB.out)) hb); clear HB; have HB := n0_; clear n0_; (try clear hb); (try clear hb2); (try clear hk); (try clear hi)) | ((with_reducible refine gate_callee (f := 57) rfl ?_); refine goesL_ (some 46) rfl rfl Tryd.func57 (by kernel_rfl) rfl #[.slice A0 l0.length c0, .int .i64 (wrap64 (t162 + 1)), .func (.func 58) #[] #[]] rfl (by (try simp only [List.map_toArray, List.map_cons, List.map_nil]); first | done | rfl | (simp only [List.length_drop, List.length_take]; rfl)) ?_; (with_reducible refine (lrsc_runLength.calls kj2 _ _ l0 (wrap64 (t162 + 1)) t164 _ (by first | exact HL.out | exact laid_drewN HL.out | exact laid_below HL.out (by repeat (first | (with_reducible first | exact HB.out | apply below_alloc | apply pw_below_drewN | apply below_drew1 | refine below_set ?_ (Aside0.out (by assumption))) | exact HB.out)) | exact laid_below HL.out HB.out | exact laid_belowd HL.out HB.out) ?side1 ?side2 A16.out).mono ?_); (case side1 => repeat (first | exact (Kd.C_below HR0.out HB.out) | (with_reducible refine Kd.C_alloc ?_ _) | (with_reducible refine Kd.C_drewN ?_ _) | (with_reducible refine Kd.C_drew ?_))); (case side2 => exact HC0.out); rintro e w42 ⟨rfl, hb⟩; refine ⟨_, rfl, ?_⟩; have n0_ := Aside0.mk (below_step (by repeat (first | (with_reducible first | exact HB.out | apply below_alloc | apply pw_below_drewN | apply below_drew1) | exact HB.out)) hb); clear HB; have HB := n0_; clear n0_; (try clear hb); (try clear hb2); (try clear hk); (try clear hi); have p165 : 0 ≤ ((ji20) : Int) := of_decide_eq_true (by first | (with_reducible assumption) | assumption); have q165 : (ji20) < (l0.length : Int) := of_decide_eq_true (by first | (with_reducible assumption) | assumption); obtain ⟨ad165, e165, hx165_0, hx165_1, hx165_2, hx165_3, hx165_4, hx165_5, hx165_6⟩ := at_T51 HR0.out (ji20) p165 q165; cases e165; replace hx165_0 := (HB.out.cell (World.block_lt_of_cell? w _ hx165_0)).trans hx165_0; replace hx165_1 := (HB.out.cell (World.block_lt_of_cell? w _ hx165_1)).trans hx165_1; replace hx165_2 := (HB.out.cell (World.block_lt_of_cell? w _ hx165_2)).trans hx165_2; replace hx165_3 := (HB.out.cell (World.block_lt_of_cell? w _ hx165_3)).trans hx165_3; replace hx165_4 := (HB.out.cell (World.block_lt_of_cell? w _ hx165_4)).trans hx165_4; replace hx165_5 := (HB.out.cell (World.block_lt_of_cell? w _ hx165_5)).trans hx165_5; replace hx165_6 := (HB.out.cell (World.block_lt_of_cell? w _ hx165_6)).trans hx165_6; replace p165 := eq_true p165; replace q165 := eq_true q165) | (go_at_call 54; (with_reducible refine (isa_May.calls kj2 ((rd_T51 l0 (ji20)).f0) ((rd_T51 l0 (ji20)).f1) ((rd_T51 l0 (ji20)).f2) ((rd_T51 l0 (ji20)).f3) ((rd_T51 l0 (ji20)).f4) ((rd_T51 l0 (ji20)).f5) ((rd_T51 l0 (ji20)).f6) true _ (by first | exact HL.out | exact laid_drewN HL.out | exact laid_below HL.out (by repeat (first | (with_reducible first | exact HB.out | apply below_alloc | apply pw_below_drewN | apply below_drew1 | refine below_set ?_ (Aside0.out (by assumption))) | exact HB.out)) | exact laid_below HL.out HB.out | exact laid_belowd HL.out HB.out) A23.out).mono ?_); rintro e w43 ⟨rfl, hb⟩; have n0_ := Aside0.mk (below_step (by repeat (first | (with_reducible first | exact HB.out | apply below_alloc | apply pw_below_drewN | apply below_drew1) | exact HB.out)) hb); clear HB; have HB := n0_; clear n0_; (try clear hb); (try clear hb2); (try clear hk); (try clear hi); have p167 : 0 ≤ ((ji20) : Int) := of_decide_eq_true (by first | (with_reducible assumption) | assumption); have q167 : (ji20) < (l0.length : Int) := of_decide_eq_true (by first | (with_reducible assumption) | assumption); obtain ⟨ad167, e167, hx167_0, hx167_1, hx167_2, hx167_3, hx167_4, hx167_5, hx167_6⟩ := at_T51 HR0.out (ji20) p167 q167; obtain rfl : ad165 = ad167 := (by injection e167); replace hx167_0 := (HB.out.cell (World.block_lt_of_cell? w _ hx167_0)).trans hx167_0; replace hx167_1 := (HB.out.cell (World.block_lt_of_cell? w _ hx167_1)).trans hx167_1; replace hx167_2 := (HB.out.cell (World.block_lt_of_cell? w _ hx167_2)).trans hx167_2; replace hx167_3 := (HB.out.cell (World.block_lt_of_cell? w _ hx167_3)).trans hx167_3; replace hx167_4 := (HB.out.cell (World.block_lt_of_cell? w _ hx167_4)).trans hx167_4; replace hx167_5 := (HB.out.cell (World.block_lt_of_cell? w _ hx167_5)).trans hx167_5; replace hx167_6 := (HB.out.cell (World.block_lt_of_cell? w _ hx167_6)).trans hx167_6; replace p167 := eq_true p167; replace q167 := eq_true q167) | (go_at_call 60; (with_reducible refine (lrsc_leads.calls ((rd_T51 l0 (ji20)).f0) ((rd_T51 l0 (ji20)).f1) ((rd_T51 l0 (ji20)).f2) ((rd_T51 l0 (ji20)).f3) ((rd_T51 l0 (ji20)).f4) ((rd_T51 l0 (ji20)).f5) ((rd_T51 l0 (ji20)).f6) false _ A25.out).mono ?_); rintro e w44 ⟨rfl, hb⟩; have n0_ := Aside0.mk (below_step (by repeat (first | (with_reducible first | exact HB.out | apply below_alloc | apply pw_below_drewN | apply below_drew1) | exact HB.out)) hb); clear HB; have HB := n0_; clear n0_; (try clear hb); (try clear hb2); (try clear hk); (try clear hi)))
          go_ret
          exact ⟨by first | rfl | (simp [errW_none, errW_some] <;> rfl) | (simp only [← hji20]; first | rfl | (simp [errW_none, errW_some] <;> rfl)) | (simp [*, errW_none, errW_some] <;> rfl), by repeat (first | (with_reducible first | exact HB.out | apply below_alloc | apply pw_below_drewN | apply below_drew1) | exact HB.out)⟩
        ·replace c24 := Bool.eq_false_iff.mpr c24
         subst c24
         have H1 : (some 0) = some r := by rw [if_neg (show ¬ (false = true) by decide)] at H; exact H
         clear H
         have H := H1
         clear H1
         obtain rfl := Option.some.inj H
         go_wp2_with (first | ((with_reducible refine gate_callee (f := 56) rfl ?_); refine goesL_ (some 36) rfl rfl Tryd.func56 (by kernel_rfl) rfl #[.slice A0 l0.length c0, .int .i64 a1] rfl (by (try simp only [List.map_toArray, List.map_cons, List.map_nil]); first | done | rfl | (simp only [List.length_drop, List.length_take]; rfl)) ?_; (with_reducible refine (lrsc_store.calls kj2 _ _ l0 a1 t162 true _ (by first | exact HL.out | exact laid_drewN HL.out | exact laid_below HL.out (by repeat (first | (with_reducible first | exact HB.out | apply below_alloc | apply pw_below_drewN | apply below_drew1 | refine below_set ?_ (Aside0.out (by assumption))) | exact HB.out)) | exact laid_below HL.out HB.out | exact laid_belowd HL.out HB.out) ?side1 ?side2 A14.out).mono ?_); (case side1 => repeat (first | exact (Kd.C_below HR0.out HB.out) | (with_reducible refine Kd.C_alloc ?_ _) | (with_reducible refine Kd.C_drewN ?_ _) | (with_reducible refine Kd.C_drew ?_))); (case side2 => exact HC0.out); rintro e w45 ⟨rfl, hb⟩; refine ⟨_, rfl, ?_⟩; have n0_ := Aside0.mk (below_step (by repeat (first | (with_reducible first | exact HB.out | apply below_alloc | apply pw_below_drewN | apply below_drew1) | exact HB.out)) hb); clear HB; have HB := n0_; clear n0_; (try clear hb); (try clear hb2); (try clear hk); (try clear hi)) | ((with_reducible refine gate_callee (f := 57) rfl ?_); refine goesL_ (some 46) rfl rfl Tryd.func57 (by kernel_rfl) rfl #[.slice A0 l0.length c0, .int .i64 (wrap64 (t162 + 1)), .func (.func 58) #[] #[]] rfl (by (try simp only [List.map_toArray, List.map_cons, List.map_nil]); first | done | rfl | (simp only [List.length_drop, List.length_take]; rfl)) ?_; (with_reducible refine (lrsc_runLength.calls kj2 _ _ l0 (wrap64 (t162 + 1)) t164 _ (by first | exact HL.out | exact laid_drewN HL.out | exact laid_below HL.out (by repeat (first | (with_reducible first | exact HB.out | apply below_alloc | apply pw_below_drewN | apply below_drew1 | refine below_set ?_ (Aside0.out (by assumption))) | exact HB.out)) | exact laid_below HL.out HB.out | exact laid_belowd HL.out HB.out) ?side1 ?side2 A16.out).mono ?_); (case side1 => repeat (first | exact (Kd.C_below HR0.out HB.out) | (with_reducible refine Kd.C_alloc ?_ _) | (with_reducible refine Kd.C_drewN ?_ _) | (with_reducible refine Kd.C_drew ?_))); (case side2 => exact HC0.out); rintro e w46 ⟨rfl, hb⟩; refine ⟨_, rfl, ?_⟩; have n0_ := Aside0.mk (below_step (by repeat (first | (with_reducible first | exact HB.out | apply below_alloc | apply pw_below_drewN | apply below_drew1) | exact HB.out)) hb); clear HB; have HB := n0_; clear n0_; (try clear hb); (try clear hb2); (try clear hk); (try clear hi); have p165 : 0 ≤ ((ji20) : Int) := of_decide_eq_true (by first | (with_reducible assumption) | assumption); have q165 : (ji20) < (l0.length : Int) := of_decide_eq_true (by first | (with_reducible assumption) | assumption); obtain ⟨ad165, e165, hx165_0, hx165_1, hx165_2, hx165_3, hx165_4, hx165_5, hx165_6⟩ := at_T51 HR0.out (ji20) p165 q165; cases e165; replace hx165_0 := (HB.out.cell (World.block_lt_of_cell? w _ hx165_0)).trans hx165_0; replace hx165_1 := (HB.out.cell (World.block_lt_of_cell? w _ hx165_1)).trans hx165_1; replace hx165_2 := (HB.out.cell (World.block_lt_of_cell? w _ hx165_2)).trans hx165_2; replace hx165_3 := (HB.out.cell (World.block_lt_of_cell? w _ hx165_3)).trans hx165_3; replace hx165_4 := (HB.out.cell (World.block_lt_of_cell? w _ hx165_4)).trans hx165_4; replace hx165_5 := (HB.out.cell (World.block_lt_of_cell? w _ hx165_5)).trans hx165_5; replace hx165_6 := (HB.out.cell (World.block_lt_of_cell? w _ hx165_6)).trans hx165_6; replace p165 := eq_true p165; replace q165 := eq_true q165) | (go_at_call 54; (with_reducible refine (isa_May.calls kj2 ((rd_T51 l0 (ji20)).f0) ((rd_T51 l0 (ji20)).f1) ((rd_T51 l0 (ji20)).f2) ((rd_T51 l0 (ji20)).f3) ((rd_T51 l0 (ji20)).f4) ((rd_T51 l0 (ji20)).f5) ((rd_T51 l0 (ji20)).f6) false _ (by first | exact HL.out | exact laid_drewN HL.out | exact laid_below HL.out (by repeat (first | (with_reducible first | exact HB.out | apply below_alloc | apply pw_below_drewN | apply below_drew1 | refine below_set ?_ (Aside0.out (by assumption))) | exact HB.out)) | exact laid_below HL.out HB.out | exact laid_belowd HL.out HB.out) A23.out).mono ?_); rintro e w47 ⟨rfl, hb⟩; have n0_ := Aside0.mk (below_step (by repeat (first | (with_reducible first | exact HB.out | apply below_alloc | apply pw_below_drewN | apply below_drew1) | exact HB.out)) hb); clear HB; have HB := n0_; clear n0_; (try clear hb); (try clear hb2); (try clear hk); (try clear hi)))
         go_ret
         exact ⟨by first | rfl | (simp [errW_none, errW_some] <;> rfl) | (simp only [← hji20]; first | rfl | (simp [errW_none, errW_some] <;> rfl)) | (simp [*, errW_none, errW_some] <;> rfl), by repeat (first | (with_reducible first | exact HB.out | apply below_alloc | apply pw_below_drewN | apply below_drew1) | exact HB.out)⟩
       ·rw [if_neg c22] at H
        exact absurd H (by simp)
      ·rw [if_neg c21] at H
       exact absurd H (by simp)
    ·replace c15 := Bool.eq_false_iff.mpr c15
     subst c15
     have H1 : (some 0) = some r := by rw [if_neg (show ¬ (false = true) by decide)] at H; exact H
     clear H
     have H := H1
     clear H1
     obtain rfl := Option.some.inj H
     go_wp2_with (first | ((with_reducible refine gate_callee (f := 56) rfl ?_); refine goesL_ (some 36) rfl rfl Tryd.func56 (by kernel_rfl) rfl #[.slice A0 l0.length c0, .int .i64 a1] rfl (by (try simp only [List.map_toArray, List.map_cons, List.map_nil]); first | done | rfl | (simp only [List.length_drop, List.length_take]; rfl)) ?_; (with_reducible refine (lrsc_store.calls kj2 _ _ l0 a1 t162 false _ (by first | exact HL.out | exact laid_drewN HL.out | exact laid_below HL.out (by repeat (first | (with_reducible first | exact HB.out | apply below_alloc | apply pw_below_drewN | apply below_drew1 | refine below_set ?_ (Aside0.out (by assumption))) | exact HB.out)) | exact laid_below HL.out HB.out | exact laid_belowd HL.out HB.out) ?side1 ?side2 A14.out).mono ?_); (case side1 => repeat (first | exact (Kd.C_below HR0.out HB.out) | (with_reducible refine Kd.C_alloc ?_ _) | (with_reducible refine Kd.C_drewN ?_ _) | (with_reducible refine Kd.C_drew ?_))); (case side2 => exact HC0.out); rintro e w48 ⟨rfl, hb⟩; refine ⟨_, rfl, ?_⟩; have n0_ := Aside0.mk (below_step (by repeat (first | (with_reducible first | exact HB.out | apply below_alloc | apply pw_below_drewN | apply below_drew1) | exact HB.out)) hb); clear HB; have HB := n0_; clear n0_; (try clear hb); (try clear hb2); (try clear hk); (try clear hi)))
     go_ret
     exact ⟨by first | rfl | (simp [errW_none, errW_some] <;> rfl) | (simp [*, errW_none, errW_some] <;> rfl), by repeat (first | (with_reducible first | exact HB.out | apply below_alloc | apply pw_below_drewN | apply below_drew1) | exact HB.out)⟩

/-! ### spinnakerlaw12_awake: function 15 -/
def spinnakerlaw12_awake.f (k : Nat)  : Option (Bool) := (lrsc_Length.f k (([(⟨77, 5, 10, 0, 0, false, false⟩ : S51), (⟨78, 7, 10, 8, 0, false, false⟩ : S51), (⟨6, 0, 7, 0, (-8), false, false⟩ : S51)] : List (S51))) 0).bind fun t173 => (some (t173 == 3))
theorem spinnakerlaw12_awake.mono : ∀ k, LeO (spinnakerlaw12_awake.f k ) (spinnakerlaw12_awake.f (k + 1) ) := by
 intro  k
 unfold spinnakerlaw12_awake.f
 repeat' first
   | (with_reducible exact lrsc_Length.mono _ _ _)
   | (with_reducible exact LeO.refl _)
   | (with_reducible exact LeO.none _)
   | (with_reducible refine LeO.ite ?_ ?_)
   | (with_reducible refine LeO.bind ?_ (fun _ => ?_))
   | exact lrsc_Length.mono _ _ _
   | exact LeO.none _
   | refine LeO.ite ?_ ?_
   | refine LeO.bind ?_ (fun _ => ?_)
set_option maxHeartbeats 8000000 in
set_option maxRecDepth 100000 in
theorem spinnakerlaw12_awake.calls (k : Nat)  (r : Bool) (w : World) (hL : Laid w) (h : spinnakerlaw12_awake.f k  = some r) :
  Calls Tryd.prog 15 #[] w fun e w' => e = .returned (.bool r) ∧ Below w.heap.size w w' := by
 have HL := Aside0.mk hL
 clear hL
 have hu51 := Tryd.underlying51
 have HB := Aside0.mk (Below.refl w.heap.size w)
 have H : ((lrsc_Length.f k (([(⟨77, 5, 10, 0, 0, false, false⟩ : S51), (⟨78, 7, 10, 8, 0, false, false⟩ : S51), (⟨6, 0, 7, 0, (-8), false, false⟩ : S51)] : List (S51))) 0).bind fun t173 => (some (t173 == 3))) = some r := h
 clear h
 obtain ⟨y170, hy170⟩ : ∃ y_ : List (S51), y_ = (([(⟨77, 5, 10, 0, 0, false, false⟩ : S51), (⟨78, 7, 10, 8, 0, false, false⟩ : S51), (⟨6, 0, 7, 0, (-8), false, false⟩ : S51)] : List (S51))) := ⟨_, rfl⟩
 replace H : ((lrsc_Length.f k y170 0).bind fun t173 => (some (t173 == 3))) = some r := by first | (rw [hy170]; with_reducible exact H) | (have H2_ := (Option.bind_some _ _).symm.trans H; rw [hy170]; with_reducible exact H2_) | (have H2_ := (Option.bind_some _ _).symm.trans H; with_reducible exact H2_) | with_reducible exact H | (rw [hy170]; exact H) | exact H
 have Ny170 := Aside0.mk hy170
 clear hy170
 replace H := Option.bind_eq_some_iff.mp H
 obtain ⟨t173, A10, H⟩ := H
 replace H : (some (t173 == 3)) = some r := H
 have A1 := Aside0.mk A10
 clear A10
 obtain rfl := Option.some.inj H
 go_enter Tryd.func15, Tryd.ntmps15
 go_wp2_with (first | ((with_reducible refine gate_dst (N := 5) rfl ?_); refine Kd.R_lit k51 _ 51 ?hg (N := 5) ?hd (xs := ([(⟨77, 5, 10, 0, 0, false, false⟩ : S51), (⟨78, 7, 10, 8, 0, false, false⟩ : S51), (⟨6, 0, 7, 0, (-8), false, false⟩ : S51)] : List (S51))) (inner := [.int .i64 77, .int .i64 5, .int .i64 10, .int .i64 0, .int .i64 0, .bool false, .bool false, .int .i64 78, .int .i64 7, .int .i64 10, .int .i64 8, .int .i64 0, .bool false, .bool false, .int .i64 6, .int .i64 0, .int .i64 7, .int .i64 0, .int .i64 (-8), .bool false, .bool false]) (ok := fun _ => True) (okp := fun _ => True) ?hr ?hp (fun _ hk => hk) trivial (Below.refl _ _) (Nat.le_refl _) (by simp) ?_; (case hd => rfl); (case hg => rfl); (case hr => first | (go_simp; done) | (go_simp; rfl)); (case hp => exact (Reps.c7 (show Kd.M k51 _ _ _ (⟨77, 5, 10, 0, 0, false, false⟩ : S51) [.int .i64 77, .int .i64 5, .int .i64 10, .int .i64 0, .int .i64 0, .bool false, .bool false] from (k51_mkM _ _ _ (⟨77, 5, 10, 0, 0, false, false⟩ : S51) )) (Reps.c7 (show Kd.M k51 _ _ _ (⟨78, 7, 10, 8, 0, false, false⟩ : S51) [.int .i64 78, .int .i64 7, .int .i64 10, .int .i64 8, .int .i64 0, .bool false, .bool false] from (k51_mkM _ _ _ (⟨78, 7, 10, 8, 0, false, false⟩ : S51) )) (Reps.c7 (show Kd.M k51 _ _ _ (⟨6, 0, 7, 0, (-8), false, false⟩ : S51) [.int .i64 6, .int .i64 0, .int .i64 7, .int .i64 0, .int .i64 (-8), .bool false, .bool false] from (k51_mkM _ _ _ (⟨6, 0, 7, 0, (-8), false, false⟩ : S51) )) (Reps.none _ _))))); intro v171 w2 ho3 hb hg_ hnew_; clear hg_ hnew_; (first | rw [← Ny170.out] at ho3 | (simp only [Int.reduceToNat] at ho3; rw [← Ny170.out] at ho3)); have n0_ := Aside0.mk (Kd.R_lower ho3 (below_size (by repeat (first | (with_reducible first | exact HB.out | apply below_alloc | apply pw_below_drewN | apply below_drew1) | exact HB.out)))); have n1_ := Aside0.mk (below_step (by repeat (first | (with_reducible first | exact HB.out | apply below_alloc | apply pw_below_drewN | apply below_drew1) | exact HB.out)) hb); clear HB; have HO172 := n0_; have HB := n1_; clear n0_ n1_; clear hb ho3; obtain ⟨Ao4, co4, eo4⟩ := Kd.R_slice HO172.out; subst eo4) | ((with_reducible refine gate_callee (f := 16) rfl ?_); refine goesL_ (some 7) rfl rfl Tryd.func16 (by kernel_rfl) rfl #[.slice Ao4 y170.length co4, .int .i64 0] rfl (by (try simp only [List.map_toArray, List.map_cons, List.map_nil]); first | done | rfl | (simp only [List.length_drop, List.length_take]; rfl)) ?_; (with_reducible refine (lrsc_Length.calls k _ _ y170 0 t173 _ (by first | exact HL.out | exact laid_drewN HL.out | exact laid_below HL.out (by repeat (first | (with_reducible first | exact HB.out | apply below_alloc | apply pw_below_drewN | apply below_drew1 | refine below_set ?_ (Aside0.out (by assumption))) | exact HB.out)) | exact laid_below HL.out HB.out | exact laid_belowd HL.out HB.out) ?side1 ?side2 A1.out).mono ?_); (case side1 => repeat (first | exact (Kd.R_reads' HO172.out).2.2 | (with_reducible refine Kd.C_alloc ?_ _) | (with_reducible refine Kd.C_drewN ?_ _) | (with_reducible refine Kd.C_drew ?_))); (case side2 => exact (Kd.R_reads' HO172.out).2.1); rintro e w5 ⟨rfl, hb⟩; refine ⟨_, rfl, ?_⟩; have n0_ := Aside0.mk (Kd.R_below (by (with_reducible repeat (first | apply Kd.R_alloc | apply Kd.R_drewN | apply Kd.R_drew)); exact HO172.out) hb); have n1_ := Aside0.mk (below_step (by repeat (first | (with_reducible first | exact HB.out | apply below_alloc | apply pw_below_drewN | apply below_drew1) | exact HB.out)) hb); clear HO172; clear HB; have HO172 := n0_; have HB := n1_; clear n0_ n1_; (try clear hb); (try clear hb2); (try clear hk); (try clear hi)))
 go_ret
 exact ⟨by first | rfl | (simp [errW_none, errW_some] <;> rfl) | (simp [*, errW_none, errW_some] <;> rfl), by repeat (first | (with_reducible first | exact HB.out | apply below_alloc | apply pw_below_drewN | apply below_drew1) | exact HB.out)⟩

end Go.Proofs.YtbmjbidekmkboaaDoor.GLrscAround
