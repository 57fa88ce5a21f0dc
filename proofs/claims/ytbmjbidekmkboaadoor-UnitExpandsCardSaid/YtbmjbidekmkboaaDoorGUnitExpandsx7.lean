-- Written by wip/stub.py of this repo.
import Derived.Carry
import Derived.Maps.Keyed
import Derived.Maps.Views
import Derived.Maps.OwnSet
import Derived.Maps.OwnOps
import Derived.Maps.Own
import Derived.Test.YtbmjbidekmkboaaDoorGUnitExpandsx0
import Derived.Test.YtbmjbidekmkboaaDoorGUnitExpandsx1
import Derived.Test.YtbmjbidekmkboaaDoorGUnitExpandsx3
import Derived.Test.YtbmjbidekmkboaaDoorGUnitExpandsx6
namespace Go.Proofs.YtbmjbidekmkboaaDoor.GUnitExpands
open Go.RowKit Go.Proofs.YtbmjbidekmkboaaDoorW.PrintWords Go.Proofs.YtbmjbidekmkboaaDoorW.PrintLast Go.Proofs.YtbmjbidekmkboaaDoorW.PrintMore
attribute [local go_sem] max2_int min2_int max_two min_two max_three min_three max_four min_four   -- for this text's walks alone
set_option linter.unusedVariables false
set_option linter.unusedSimpArgs false

attribute [local go_sem high] eqA51
/-! ### unit_may: function 87 -/
def unit_may.j0 : Nat → Int → Bool → Int → Int → Int → Int → Int → Int → Bool → Bool → Int → Int → Option (Bool)
  | 0, _, _, _, _, _, _, _, _, _, _, _, _ => none
  | k + 1, x7, x18, x183000, x183001, x183002, x183003, x183004, x183005, x183006, x183007, x183008, x183009 => if x18 = true then ((unit_bare.f x183000 x183001 x183002 x183003 x183004 x183005 x183006 x183007 x183008 x183009).bind fun t184 => (if t184 = true then (some (decide (x183008 ≥ 0))) else (some false))) else (if x7 = 3 then ((isa_Branch.f x183001).bind fun t185 => (if t185 = true then ((isa_May.f k x183001 x183002 x183003 x183004 x183005 x183006 x183007).bind fun t186 => (if t186 = true then (if x183005 = 0 then (some (decide (x183008 ≥ 0))) else (some false)) else (some false))) else (some false))) else (if x7 = 4 then ((reg_Name.f x183002).bind fun t187 => (if t187.toList = ([] : List UInt8) then (some false) else (some (x183001 == 0 && (x183003 == 0 && (x183004 == 0 && (x183005 == 0 && (!x183006 && (!x183007))))))))) else (some false)))
def unit_may.f (k : Nat) (a0_0 : Int) (a0_1 : Int) (a0_2 : Int) (a0_3 : Int) (a0_4 : Int) (a0_5 : Int) (a0_6 : Bool) (a0_7 : Bool) (a0_8 : Int) (a0_9 : Int) : Option (Bool) := if a0_9 < 0 then (some false) else (if a0_0 = 0 then ((isa_May.f k a0_1 a0_2 a0_3 a0_4 a0_5 a0_6 a0_7).bind fun t183 => (if t183 = true then (some (a0_8 == 0)) else (some false))) else (if a0_0 = 1 then (unit_may.j0 k a0_0 (a0_0 == 1) a0_0 a0_1 a0_2 a0_3 a0_4 a0_5 a0_6 a0_7 a0_8 a0_9) else (unit_may.j0 k a0_0 (a0_0 == 2) a0_0 a0_1 a0_2 a0_3 a0_4 a0_5 a0_6 a0_7 a0_8 a0_9)))
theorem unit_may.mono_l : ∀ k, (∀ y0 y1 y2 y3 y4 y5 y6 y7 y8 y9 y10 y11, LeO (unit_may.j0 k y0 y1 y2 y3 y4 y5 y6 y7 y8 y9 y10 y11) (unit_may.j0 (k + 1) y0 y1 y2 y3 y4 y5 y6 y7 y8 y9 y10 y11))
 | 0 => fun _ _ _ _ _ _ _ _ _ _ _ _ r h => by simp [unit_may.j0] at h
 | k + 1 => by
  have ih0 := unit_may.mono_l k
  ·intro y0 y1 y2 y3 y4 y5 y6 y7 y8 y9 y10 y11
   unfold unit_may.j0
   repeat' first
   | (with_reducible exact ih0 _ _ _ _ _ _ _ _ _ _ _ _)
   | (with_reducible exact isa_May.mono _ _ _ _ _ _ _ _)
   | (with_reducible exact LeO.refl _)
   | (with_reducible exact LeO.none _)
   | (with_reducible refine LeO.ite ?_ ?_)
   | (with_reducible refine LeO.bind ?_ (fun _ => ?_))
   | exact ih0 _ _ _ _ _ _ _ _ _ _ _ _
   | exact isa_May.mono _ _ _ _ _ _ _ _
   | exact LeO.none _
   | refine LeO.ite ?_ ?_
   | refine LeO.bind ?_ (fun _ => ?_)
theorem unit_may.mono : ∀ a0 a1 a2 a3 a4 a5 a6 a7 a8 a9 k, LeO (unit_may.f k a0 a1 a2 a3 a4 a5 a6 a7 a8 a9) (unit_may.f (k + 1) a0 a1 a2 a3 a4 a5 a6 a7 a8 a9) := by
 intro a0 a1 a2 a3 a4 a5 a6 a7 a8 a9 k
 have ih0 := unit_may.mono_l k
 unfold unit_may.f
 repeat' first
   | (with_reducible exact ih0 _ _ _ _ _ _ _ _ _ _ _ _)
   | (with_reducible exact isa_May.mono _ _ _ _ _ _ _ _)
   | (with_reducible exact LeO.refl _)
   | (with_reducible exact LeO.none _)
   | (with_reducible refine LeO.ite ?_ ?_)
   | (with_reducible refine LeO.bind ?_ (fun _ => ?_))
   | exact ih0 _ _ _ _ _ _ _ _ _ _ _ _
   | exact isa_May.mono _ _ _ _ _ _ _ _
   | exact LeO.none _
   | refine LeO.ite ?_ ?_
   | refine LeO.bind ?_ (fun _ => ?_)
set_option maxHeartbeats 8000000 in
set_option maxRecDepth 100000 in
theorem unit_may.calls (k : Nat) (a0_0 : Int) (a0_1 : Int) (a0_2 : Int) (a0_3 : Int) (a0_4 : Int) (a0_5 : Int) (a0_6 : Bool) (a0_7 : Bool) (a0_8 : Int) (a0_9 : Int) (r : Bool) (w : World) (hL : Laid w) (h : unit_may.f k a0_0 a0_1 a0_2 a0_3 a0_4 a0_5 a0_6 a0_7 a0_8 a0_9 = some r) :
  Calls Tryd.prog 87 #[.agg #[.int .i64 a0_0, .int .i64 a0_1, .int .i64 a0_2, .int .i64 a0_3, .int .i64 a0_4, .int .i64 a0_5, .bool a0_6, .bool a0_7, .int .i64 a0_8, .int .i64 a0_9]] w fun e w' => e = .returned (.bool r) ∧ Below w.heap.size w w' := by
 have HL := Aside0.mk hL
 clear hL
 have hu70 := Tryd.underlying70
 have hu51 := Tryd.underlying51
 have HB := Aside0.mk (Below.refl w.heap.size w)
 have H : (if a0_9 < 0 then (some false) else (if a0_0 = 0 then ((isa_May.f k a0_1 a0_2 a0_3 a0_4 a0_5 a0_6 a0_7).bind fun t183 => (if t183 = true then (some (a0_8 == 0)) else (some false))) else (if a0_0 = 1 then (unit_may.j0 k a0_0 (a0_0 == 1) a0_0 a0_1 a0_2 a0_3 a0_4 a0_5 a0_6 a0_7 a0_8 a0_9) else (unit_may.j0 k a0_0 (a0_0 == 2) a0_0 a0_1 a0_2 a0_3 a0_4 a0_5 a0_6 a0_7 a0_8 a0_9)))) = some r := h
 clear h
 by_cases c2 : a0_9 < 0
 ·rw [if_pos c2] at H
  have c2b0 : decide (a0_9 < 0) = true := decide_eq_true c2
  clear c2
  obtain rfl := Option.some.inj H
  go_enter Tryd.func87, Tryd.ntmps87
  go_wp2_with (first | ((with_reducible refine gate_dst (N := 1) rfl ?_); refine box_event ?hg (N := 1) ?hd (cs := #[.int .i64 a0_0, .int .i64 a0_1, .int .i64 a0_2, .int .i64 a0_3, .int .i64 a0_4, .int .i64 a0_5, .bool a0_6, .bool a0_7, .int .i64 a0_8, .int .i64 a0_9]) (t := 70) ?hr ?_; (case hd => rfl); (case hg => rfl); (case hr => first | (go_simp; done) | (go_simp; rfl)); intro gb182 hg w3 hbox hb; have n0_ := Aside0.mk (below_step (by repeat (first | (with_reducible first | exact HB.out | apply below_alloc | apply pw_below_drewN | apply below_drew1) | exact HB.out)) hb); have n1_ := Aside0.mk (hbox); have n2_ := Aside0.mk ((by rw [hg]; exact (below_size (by repeat (first | (with_reducible first | exact HB.out | apply below_alloc | apply pw_below_drewN | apply below_drew1) | exact HB.out))) : w.heap.size ≤ gb182)); have n3_ := Aside0.mk ((by rw [hg]; exact (below_size (by repeat (first | (with_reducible first | exact HB.out | apply below_alloc | apply pw_below_drewN | apply below_drew1) | exact HB.out))) : w.heap.size ≤ gb182)); clear HB; have HB := n0_; have BK182 := n1_; have GW182 := n2_; have GE182 := n3_; clear n0_ n1_ n2_ n3_; clear hb hbox hg; have hcz4_0 : w3.cell? ⟨gb182, 0, none⟩ = some (.int .i64 a0_0) := (blk_cell BK182.out 0).trans rfl; have hcz4_1 : w3.cell? ⟨gb182, 1, none⟩ = some (.int .i64 a0_1) := (blk_cell BK182.out 1).trans rfl; have hcz4_2 : w3.cell? ⟨gb182, 2, none⟩ = some (.int .i64 a0_2) := (blk_cell BK182.out 2).trans rfl; have hcz4_3 : w3.cell? ⟨gb182, 3, none⟩ = some (.int .i64 a0_3) := (blk_cell BK182.out 3).trans rfl; have hcz4_4 : w3.cell? ⟨gb182, 4, none⟩ = some (.int .i64 a0_4) := (blk_cell BK182.out 4).trans rfl; have hcz4_5 : w3.cell? ⟨gb182, 5, none⟩ = some (.int .i64 a0_5) := (blk_cell BK182.out 5).trans rfl; have hcz4_6 : w3.cell? ⟨gb182, 6, none⟩ = some (.bool a0_6) := (blk_cell BK182.out 6).trans rfl; have hcz4_7 : w3.cell? ⟨gb182, 7, none⟩ = some (.bool a0_7) := (blk_cell BK182.out 7).trans rfl; have hcz4_8 : w3.cell? ⟨gb182, 8, none⟩ = some (.int .i64 a0_8) := (blk_cell BK182.out 8).trans rfl; have hcz4_9 : w3.cell? ⟨gb182, 9, none⟩ = some (.int .i64 a0_9) := (blk_cell BK182.out 9).trans rfl; have hfz4_0 := blk_frozen BK182.out 0; have hfz4_1 := blk_frozen BK182.out 1; have hfz4_2 := blk_frozen BK182.out 2; have hfz4_3 := blk_frozen BK182.out 3; have hfz4_4 := blk_frozen BK182.out 4; have hfz4_5 := blk_frozen BK182.out 5; have hfz4_6 := blk_frozen BK182.out 6; have hfz4_7 := blk_frozen BK182.out 7; have hfz4_8 := blk_frozen BK182.out 8; have hfz4_9 := blk_frozen BK182.out 9))
  go_ret
  exact ⟨by first | rfl | (simp [errW_none, errW_some] <;> rfl) | (simp [*, errW_none, errW_some] <;> rfl), by repeat (first | (with_reducible first | exact HB.out | apply below_alloc | apply pw_below_drewN | apply below_drew1 | refine below_set ?_ GE182.out) | exact HB.out)⟩
 ·rw [if_neg c2] at H
  have c2b0 : decide (a0_9 < 0) = false := decide_eq_false c2
  clear c2
  by_cases c5 : a0_0 = 0
  ·rw [if_pos c5] at H
   have c5b0 : (a0_0 == 0) = true := beq_iff_eq.mpr c5
   have c5b1 : (a0_0 != 0) = false := bne_eq_false_iff_eq.mpr c5
   clear c5
   replace H := Option.bind_eq_some_iff.mp H
   obtain ⟨t183, A60, H⟩ := H
   replace H : (if t183 = true then (some (a0_8 == 0)) else (some false)) = some r := H
   have A6 := Aside0.mk A60
   clear A60
   by_cases c7 : t183 = true
   ·subst c7
    have H1 : (some (a0_8 == 0)) = some r := by rw [if_pos rfl] at H; exact H
    clear H
    have H := H1
    clear H1
    obtain rfl := Option.some.inj H
    go_enter Tryd.func87, Tryd.ntmps87
    go_wp2_with (first | ((with_reducible refine gate_dst (N := 1) rfl ?_); refine box_event ?hg (N := 1) ?hd (cs := #[.int .i64 a0_0, .int .i64 a0_1, .int .i64 a0_2, .int .i64 a0_3, .int .i64 a0_4, .int .i64 a0_5, .bool a0_6, .bool a0_7, .int .i64 a0_8, .int .i64 a0_9]) (t := 70) ?hr ?_; (case hd => rfl); (case hg => rfl); (case hr => first | (go_simp; done) | (go_simp; rfl)); intro gb182 hg w8 hbox hb; have n0_ := Aside0.mk (below_step (by repeat (first | (with_reducible first | exact HB.out | apply below_alloc | apply pw_below_drewN | apply below_drew1) | exact HB.out)) hb); have n1_ := Aside0.mk (hbox); have n2_ := Aside0.mk ((by rw [hg]; exact (below_size (by repeat (first | (with_reducible first | exact HB.out | apply below_alloc | apply pw_below_drewN | apply below_drew1) | exact HB.out))) : w.heap.size ≤ gb182)); have n3_ := Aside0.mk ((by rw [hg]; exact (below_size (by repeat (first | (with_reducible first | exact HB.out | apply below_alloc | apply pw_below_drewN | apply below_drew1) | exact HB.out))) : w.heap.size ≤ gb182)); clear HB; have HB := n0_; have BK182 := n1_; have GW182 := n2_; have GE182 := n3_; clear n0_ n1_ n2_ n3_; clear hb hbox hg; have hcz9_0 : w8.cell? ⟨gb182, 0, none⟩ = some (.int .i64 a0_0) := (blk_cell BK182.out 0).trans rfl; have hcz9_1 : w8.cell? ⟨gb182, 1, none⟩ = some (.int .i64 a0_1) := (blk_cell BK182.out 1).trans rfl; have hcz9_2 : w8.cell? ⟨gb182, 2, none⟩ = some (.int .i64 a0_2) := (blk_cell BK182.out 2).trans rfl; have hcz9_3 : w8.cell? ⟨gb182, 3, none⟩ = some (.int .i64 a0_3) := (blk_cell BK182.out 3).trans rfl; have hcz9_4 : w8.cell? ⟨gb182, 4, none⟩ = some (.int .i64 a0_4) := (blk_cell BK182.out 4).trans rfl; have hcz9_5 : w8.cell? ⟨gb182, 5, none⟩ = some (.int .i64 a0_5) := (blk_cell BK182.out 5).trans rfl; have hcz9_6 : w8.cell? ⟨gb182, 6, none⟩ = some (.bool a0_6) := (blk_cell BK182.out 6).trans rfl; have hcz9_7 : w8.cell? ⟨gb182, 7, none⟩ = some (.bool a0_7) := (blk_cell BK182.out 7).trans rfl; have hcz9_8 : w8.cell? ⟨gb182, 8, none⟩ = some (.int .i64 a0_8) := (blk_cell BK182.out 8).trans rfl; have hcz9_9 : w8.cell? ⟨gb182, 9, none⟩ = some (.int .i64 a0_9) := (blk_cell BK182.out 9).trans rfl; have hfz9_0 := blk_frozen BK182.out 0; have hfz9_1 := blk_frozen BK182.out 1; have hfz9_2 := blk_frozen BK182.out 2; have hfz9_3 := blk_frozen BK182.out 3; have hfz9_4 := blk_frozen BK182.out 4; have hfz9_5 := blk_frozen BK182.out 5; have hfz9_6 := blk_frozen BK182.out 6; have hfz9_7 := blk_frozen BK182.out 7; have hfz9_8 := blk_frozen BK182.out 8; have hfz9_9 := blk_frozen BK182.out 9) | ((with_reducible refine gate_callee (f := 54) rfl ?_); refine goesL_ (some 12) rfl rfl Tryd.func54 (by kernel_rfl) rfl #[.agg #[.int .i64 a0_1, .int .i64 a0_2, .int .i64 a0_3, .int .i64 a0_4, .int .i64 a0_5, .bool a0_6, .bool a0_7]] rfl (by (try simp only [List.map_toArray, List.map_cons, List.map_nil]); first | done | rfl | (simp only [List.length_drop, List.length_take]; rfl)) ?_; (with_reducible refine (isa_May.calls k a0_1 a0_2 a0_3 a0_4 a0_5 a0_6 a0_7 true _ (by first | exact HL.out | exact laid_drewN HL.out | exact laid_below HL.out (by repeat (first | (with_reducible first | exact HB.out | apply below_alloc | apply pw_below_drewN | apply below_drew1 | refine below_set ?_ (Aside0.out (by assumption))) | exact HB.out)) | exact laid_below HL.out HB.out | exact laid_belowd HL.out HB.out) A6.out).mono ?_); rintro e w10 ⟨rfl, hb⟩; refine ⟨_, rfl, ?_⟩; have n0_ := Aside0.mk (blk_below (g := gb182) (o := .cells #[.int .i64 a0_0, .int .i64 a0_1, .int .i64 a0_2, .int .i64 a0_3, .int .i64 a0_4, .int .i64 a0_5, .bool a0_6, .bool a0_7, .int .i64 a0_8, .int .i64 a0_9] 70 (0, 0)) (by (with_reducible repeat (first | refine blk_drewN ?_ _ | refine blk_drew ?_ | refine blk_alloc ?_ _)); exact BK182.out) hb); have n1_ := Aside0.mk (below_step (by repeat (first | (with_reducible first | exact HB.out | apply below_alloc | apply pw_below_drewN | apply below_drew1 | refine below_set ?_ GE182.out) | exact HB.out)) hb); clear BK182; clear HB; have BK182 := n0_; have HB := n1_; clear n0_ n1_; (try clear hb); have hcz11_0 : w10.cell? ⟨gb182, 0, none⟩ = some (.int .i64 a0_0) := (blk_cell BK182.out 0).trans rfl; have hcz11_1 : w10.cell? ⟨gb182, 1, none⟩ = some (.int .i64 a0_1) := (blk_cell BK182.out 1).trans rfl; have hcz11_2 : w10.cell? ⟨gb182, 2, none⟩ = some (.int .i64 a0_2) := (blk_cell BK182.out 2).trans rfl; have hcz11_3 : w10.cell? ⟨gb182, 3, none⟩ = some (.int .i64 a0_3) := (blk_cell BK182.out 3).trans rfl; have hcz11_4 : w10.cell? ⟨gb182, 4, none⟩ = some (.int .i64 a0_4) := (blk_cell BK182.out 4).trans rfl; have hcz11_5 : w10.cell? ⟨gb182, 5, none⟩ = some (.int .i64 a0_5) := (blk_cell BK182.out 5).trans rfl; have hcz11_6 : w10.cell? ⟨gb182, 6, none⟩ = some (.bool a0_6) := (blk_cell BK182.out 6).trans rfl; have hcz11_7 : w10.cell? ⟨gb182, 7, none⟩ = some (.bool a0_7) := (blk_cell BK182.out 7).trans rfl; have hcz11_8 : w10.cell? ⟨gb182, 8, none⟩ = some (.int .i64 a0_8) := (blk_cell BK182.out 8).trans rfl; have hcz11_9 : w10.cell? ⟨gb182, 9, none⟩ = some (.int .i64 a0_9) := (blk_cell BK182.out 9).trans rfl; have hfz11_0 := blk_frozen BK182.out 0; have hfz11_1 := blk_frozen BK182.out 1; have hfz11_2 := blk_frozen BK182.out 2; have hfz11_3 := blk_frozen BK182.out 3; have hfz11_4 := blk_frozen BK182.out 4; have hfz11_5 := blk_frozen BK182.out 5; have hfz11_6 := blk_frozen BK182.out 6; have hfz11_7 := blk_frozen BK182.out 7; have hfz11_8 := blk_frozen BK182.out 8; have hfz11_9 := blk_frozen BK182.out 9))
    go_ret
    exact ⟨by first | rfl | (simp [errW_none, errW_some] <;> rfl) | (simp [*, errW_none, errW_some] <;> rfl), by repeat (first | (with_reducible first | exact HB.out | apply below_alloc | apply pw_below_drewN | apply below_drew1 | refine below_set ?_ GE182.out) | exact HB.out)⟩
   ·replace c7 := Bool.eq_false_iff.mpr c7
    subst c7
    have H1 : (some false) = some r := by rw [if_neg (show ¬ (false = true) by decide)] at H; exact H
    clear H
    have H := H1
    clear H1
    obtain rfl := Option.some.inj H
    go_enter Tryd.func87, Tryd.ntmps87
    go_wp2_with (first | ((with_reducible refine gate_dst (N := 1) rfl ?_); refine box_event ?hg (N := 1) ?hd (cs := #[.int .i64 a0_0, .int .i64 a0_1, .int .i64 a0_2, .int .i64 a0_3, .int .i64 a0_4, .int .i64 a0_5, .bool a0_6, .bool a0_7, .int .i64 a0_8, .int .i64 a0_9]) (t := 70) ?hr ?_; (case hd => rfl); (case hg => rfl); (case hr => first | (go_simp; done) | (go_simp; rfl)); intro gb182 hg w12 hbox hb; have n0_ := Aside0.mk (below_step (by repeat (first | (with_reducible first | exact HB.out | apply below_alloc | apply pw_below_drewN | apply below_drew1) | exact HB.out)) hb); have n1_ := Aside0.mk (hbox); have n2_ := Aside0.mk ((by rw [hg]; exact (below_size (by repeat (first | (with_reducible first | exact HB.out | apply below_alloc | apply pw_below_drewN | apply below_drew1) | exact HB.out))) : w.heap.size ≤ gb182)); have n3_ := Aside0.mk ((by rw [hg]; exact (below_size (by repeat (first | (with_reducible first | exact HB.out | apply below_alloc | apply pw_below_drewN | apply below_drew1) | exact HB.out))) : w.heap.size ≤ gb182)); clear HB; have HB := n0_; have BK182 := n1_; have GW182 := n2_; have GE182 := n3_; clear n0_ n1_ n2_ n3_; clear hb hbox hg; have hcz13_0 : w12.cell? ⟨gb182, 0, none⟩ = some (.int .i64 a0_0) := (blk_cell BK182.out 0).trans rfl; have hcz13_1 : w12.cell? ⟨gb182, 1, none⟩ = some (.int .i64 a0_1) := (blk_cell BK182.out 1).trans rfl; have hcz13_2 : w12.cell? ⟨gb182, 2, none⟩ = some (.int .i64 a0_2) := (blk_cell BK182.out 2).trans rfl; have hcz13_3 : w12.cell? ⟨gb182, 3, none⟩ = some (.int .i64 a0_3) := (blk_cell BK182.out 3).trans rfl; have hcz13_4 : w12.cell? ⟨gb182, 4, none⟩ = some (.int .i64 a0_4) := (blk_cell BK182.out 4).trans rfl; have hcz13_5 : w12.cell? ⟨gb182, 5, none⟩ = some (.int .i64 a0_5) := (blk_cell BK182.out 5).trans rfl; have hcz13_6 : w12.cell? ⟨gb182, 6, none⟩ = some (.bool a0_6) := (blk_cell BK182.out 6).trans rfl; have hcz13_7 : w12.cell? ⟨gb182, 7, none⟩ = some (.bool a0_7) := (blk_cell BK182.out 7).trans rfl; have hcz13_8 : w12.cell? ⟨gb182, 8, none⟩ = some (.int .i64 a0_8) := (blk_cell BK182.out 8).trans rfl; have hcz13_9 : w12.cell? ⟨gb182, 9, none⟩ = some (.int .i64 a0_9) := (blk_cell BK182.out 9).trans rfl; have hfz13_0 := blk_frozen BK182.out 0; have hfz13_1 := blk_frozen BK182.out 1; have hfz13_2 := blk_frozen BK182.out 2; have hfz13_3 := blk_frozen BK182.out 3; have hfz13_4 := blk_frozen BK182.out 4; have hfz13_5 := blk_frozen BK182.out 5; have hfz13_6 := blk_frozen BK182.out 6; have hfz13_7 := blk_frozen BK182.out 7; have hfz13_8 := blk_frozen BK182.out 8; have hfz13_9 := blk_frozen BK182.out 9) | ((with_reducible refine gate_callee (f := 54) rfl ?_); refine goesL_ (some 12) rfl rfl Tryd.func54 (by kernel_rfl) rfl #[.agg #[.int .i64 a0_1, .int .i64 a0_2, .int .i64 a0_3, .int .i64 a0_4, .int .i64 a0_5, .bool a0_6, .bool a0_7]] rfl (by (try simp only [List.map_toArray, List.map_cons, List.map_nil]); first | done | rfl | (simp only [List.length_drop, List.length_take]; rfl)) ?_; (with_reducible refine (isa_May.calls k a0_1 a0_2 a0_3 a0_4 a0_5 a0_6 a0_7 false _ (by first | exact HL.out | exact laid_drewN HL.out | exact laid_below HL.out (by repeat (first | (with_reducible first | exact HB.out | apply below_alloc | apply pw_below_drewN | apply below_drew1 | refine below_set ?_ (Aside0.out (by assumption))) | exact HB.out)) | exact laid_below HL.out HB.out | exact laid_belowd HL.out HB.out) A6.out).mono ?_); rintro e w14 ⟨rfl, hb⟩; refine ⟨_, rfl, ?_⟩; have n0_ := Aside0.mk (blk_below (g := gb182) (o := .cells #[.int .i64 a0_0, .int .i64 a0_1, .int .i64 a0_2, .int .i64 a0_3, .int .i64 a0_4, .int .i64 a0_5, .bool a0_6, .bool a0_7, .int .i64 a0_8, .int .i64 a0_9] 70 (0, 0)) (by (with_reducible repeat (first | refine blk_drewN ?_ _ | refine blk_drew ?_ | refine blk_alloc ?_ _)); exact BK182.out) hb); have n1_ := Aside0.mk (below_step (by repeat (first | (with_reducible first | exact HB.out | apply below_alloc | apply pw_below_drewN | apply below_drew1 | refine below_set ?_ GE182.out) | exact HB.out)) hb); clear BK182; clear HB; have BK182 := n0_; have HB := n1_; clear n0_ n1_; (try clear hb)))
    go_ret
    exact ⟨by first | rfl | (simp [errW_none, errW_some] <;> rfl) | (simp [*, errW_none, errW_some] <;> rfl), by repeat (first | (with_reducible first | exact HB.out | apply below_alloc | apply pw_below_drewN | apply below_drew1 | refine below_set ?_ GE182.out) | exact HB.out)⟩
  ·rw [if_neg c5] at H
   have c5b0 : (a0_0 == 0) = false := beq_eq_false_iff_ne.mpr c5
   have c5b1 : (a0_0 != 0) = true := bne_iff_ne.mpr c5
   have HC15 := Aside0.mk H
   clear H
   go_enter Tryd.func87, Tryd.ntmps87
   go_upto_if 18 with (first | ((with_reducible refine gate_dst (N := 1) rfl ?_); refine box_event ?hg (N := 1) ?hd (cs := #[.int .i64 a0_0, .int .i64 a0_1, .int .i64 a0_2, .int .i64 a0_3, .int .i64 a0_4, .int .i64 a0_5, .bool a0_6, .bool a0_7, .int .i64 a0_8, .int .i64 a0_9]) (t := 70) ?hr ?_; (case hd => rfl); (case hg => rfl); (case hr => first | (go_simp; done) | (go_simp; rfl)); intro gb182 hg w16 hbox hb; have n0_ := Aside0.mk (below_step (by repeat (first | (with_reducible first | exact HB.out | apply below_alloc | apply pw_below_drewN | apply below_drew1) | exact HB.out)) hb); have n1_ := Aside0.mk (hbox); have n2_ := Aside0.mk ((by rw [hg]; exact (below_size (by repeat (first | (with_reducible first | exact HB.out | apply below_alloc | apply pw_below_drewN | apply below_drew1) | exact HB.out))) : w.heap.size ≤ gb182)); have n3_ := Aside0.mk ((by rw [hg]; exact (below_size (by repeat (first | (with_reducible first | exact HB.out | apply below_alloc | apply pw_below_drewN | apply below_drew1) | exact HB.out))) : w.heap.size ≤ gb182)); clear HB; have HB := n0_; have BK182 := n1_; have GW182 := n2_; have GE182 := n3_; clear n0_ n1_ n2_ n3_; clear hb hbox hg; have hcz17_0 : w16.cell? ⟨gb182, 0, none⟩ = some (.int .i64 a0_0) := (blk_cell BK182.out 0).trans rfl; have hcz17_1 : w16.cell? ⟨gb182, 1, none⟩ = some (.int .i64 a0_1) := (blk_cell BK182.out 1).trans rfl; have hcz17_2 : w16.cell? ⟨gb182, 2, none⟩ = some (.int .i64 a0_2) := (blk_cell BK182.out 2).trans rfl; have hcz17_3 : w16.cell? ⟨gb182, 3, none⟩ = some (.int .i64 a0_3) := (blk_cell BK182.out 3).trans rfl; have hcz17_4 : w16.cell? ⟨gb182, 4, none⟩ = some (.int .i64 a0_4) := (blk_cell BK182.out 4).trans rfl; have hcz17_5 : w16.cell? ⟨gb182, 5, none⟩ = some (.int .i64 a0_5) := (blk_cell BK182.out 5).trans rfl; have hcz17_6 : w16.cell? ⟨gb182, 6, none⟩ = some (.bool a0_6) := (blk_cell BK182.out 6).trans rfl; have hcz17_7 : w16.cell? ⟨gb182, 7, none⟩ = some (.bool a0_7) := (blk_cell BK182.out 7).trans rfl; have hcz17_8 : w16.cell? ⟨gb182, 8, none⟩ = some (.int .i64 a0_8) := (blk_cell BK182.out 8).trans rfl; have hcz17_9 : w16.cell? ⟨gb182, 9, none⟩ = some (.int .i64 a0_9) := (blk_cell BK182.out 9).trans rfl; have hfz17_0 := blk_frozen BK182.out 0; have hfz17_1 := blk_frozen BK182.out 1; have hfz17_2 := blk_frozen BK182.out 2; have hfz17_3 := blk_frozen BK182.out 3; have hfz17_4 := blk_frozen BK182.out 4; have hfz17_5 := blk_frozen BK182.out 5; have hfz17_6 := blk_frozen BK182.out 6; have hfz17_7 := blk_frozen BK182.out 7; have hfz17_8 := blk_frozen BK182.out 8; have hfz17_9 := blk_frozen BK182.out 9))
   (try simp only [Act.put, List.setIfInBounds_toArray, List.set_cons_zero, List.set_cons_succ])
   go_cut [18] (fun v18 wc => ∃ (kq : Nat) (x18_14 : Bool), v18 = .bool x18_14 ∧ Aside0 (unit_may.j0 kq a0_0 x18_14 a0_0 a0_1 a0_2 a0_3 a0_4 a0_5 a0_6 a0_7 a0_8 a0_9 = some r) ∧ Aside0 (kq ≤ k) ∧ Aside0 (wc.heap[gb182]? = some (.cells #[.int .i64 a0_0, .int .i64 a0_1, .int .i64 a0_2, .int .i64 a0_3, .int .i64 a0_4, .int .i64 a0_5, .bool a0_6, .bool a0_7, .int .i64 a0_8, .int .i64 a0_9] 70 (0, 0))) ∧ Aside0 (Below w.heap.size w wc))
   case first =>
    have H := HC15.out
    clear HC15
    by_cases c18 : a0_0 = 1
    ·rw [if_pos c18] at H
     have c18b0 : (a0_0 == 1) = true := beq_iff_eq.mpr c18
     have c18b1 : (a0_0 != 1) = false := bne_eq_false_iff_eq.mpr c18
     clear c18
     (first | rw [c18b0] | (simp only [i64_w, i32_w]; rw [c18b0]) | skip)
     have H' := Aside0.mk H
     clear H
     go_wp2
     go_meet
     case rel => exact ⟨_, ((a0_0 == 1)), (by first | rfl | (simp; done) | (simp [*]; done)), H', ⟨by first | omega | exact Nat.le_refl _⟩, ⟨by (with_reducible repeat (first | refine blk_drewN ?_ _ | refine blk_drew ?_ | refine blk_alloc ?_ _)); exact BK182.out⟩, ⟨by repeat (first | (with_reducible first | exact HB.out | apply below_alloc | apply pw_below_drewN | apply below_drew1 | refine below_set ?_ GE182.out) | exact HB.out)⟩⟩
    ·rw [if_neg c18] at H
     have c18b0 : (a0_0 == 1) = false := beq_eq_false_iff_ne.mpr c18
     have c18b1 : (a0_0 != 1) = true := bne_iff_ne.mpr c18
     (first | rw [c18b0] | (simp only [i64_w, i32_w]; rw [c18b0]) | skip)
     have H' := Aside0.mk H
     clear H
     go_wp2
     go_meet
     case rel => exact ⟨_, ((a0_0 == 2)), (by first | rfl | (simp; done) | (simp [*]; done)), H', ⟨by first | omega | exact Nat.le_refl _⟩, ⟨by (with_reducible repeat (first | refine blk_drewN ?_ _ | refine blk_drew ?_ | refine blk_alloc ?_ _)); exact BK182.out⟩, ⟨by repeat (first | (with_reducible first | exact HB.out | apply below_alloc | apply pw_below_drewN | apply below_drew1 | refine below_set ?_ GE182.out) | exact HB.out)⟩⟩
   case rest =>
    clear HC15
    try clear c1
    try clear c2
    try clear c2b0
    try clear p2
    try clear c5
    try clear c5b0
    try clear c5b1
    try clear c7
    try clear c8
    try clear c18
    try clear c18b0
    try clear c18b1
    try clear hcz11_0
    try clear hcz11_1
    try clear hcz11_2
    try clear hcz11_3
    try clear hcz11_4
    try clear hcz11_5
    try clear hcz11_6
    try clear hcz11_7
    try clear hcz11_8
    try clear hcz11_9
    try clear hcz13_0
    try clear hcz13_1
    try clear hcz13_2
    try clear hcz13_3
    try clear hcz13_4
    try clear hcz13_5
    try clear hcz13_6
    try clear hcz13_7
    try clear hcz13_8
    try clear hcz13_9
    try clear hcz17_0
    try clear hcz17_1
    try clear hcz17_2
    try clear hcz17_3
    try clear hcz17_4
    try clear hcz17_5
    try clear hcz17_6
    try clear hcz17_7
    try clear hcz17_8
    try clear hcz17_9
    try clear hcz4_0
    try clear hcz4_1
    try clear hcz4_2
    try clear hcz4_3
    try clear hcz4_4
    try clear hcz4_5
    try clear hcz4_6
    try clear hcz4_7
    try clear hcz4_8
    try clear hcz4_9
    try clear hcz9_0
    try clear hcz9_1
    try clear hcz9_2
    try clear hcz9_3
    try clear hcz9_4
    try clear hcz9_5
    try clear hcz9_6
    try clear hcz9_7
    try clear hcz9_8
    try clear hcz9_9
    try clear hfz11_0
    try clear hfz11_1
    try clear hfz11_2
    try clear hfz11_3
    try clear hfz11_4
    try clear hfz11_5
    try clear hfz11_6
    try clear hfz11_7
    try clear hfz11_8
    try clear hfz11_9
    try clear hfz13_0
    try clear hfz13_1
    try clear hfz13_2
    try clear hfz13_3
    try clear hfz13_4
    try clear hfz13_5
    try clear hfz13_6
    try clear hfz13_7
    try clear hfz13_8
    try clear hfz13_9
    try clear hfz17_0
    try clear hfz17_1
    try clear hfz17_2
    try clear hfz17_3
    try clear hfz17_4
    try clear hfz17_5
    try clear hfz17_6
    try clear hfz17_7
    try clear hfz17_8
    try clear hfz17_9
    try clear hfz4_0
    try clear hfz4_1
    try clear hfz4_2
    try clear hfz4_3
    try clear hfz4_4
    try clear hfz4_5
    try clear hfz4_6
    try clear hfz4_7
    try clear hfz4_8
    try clear hfz4_9
    try clear hfz9_0
    try clear hfz9_1
    try clear hfz9_2
    try clear hfz9_3
    try clear hfz9_4
    try clear hfz9_5
    try clear hfz9_6
    try clear hfz9_7
    try clear hfz9_8
    try clear hfz9_9
    obtain ⟨kq, x18_14, rfl, HA, HJ14, BK182, HB⟩ := hcut
    cases kq with
    | zero => exact absurd HA.out (by simp [unit_may.j0])
    | succ kj14 =>
     have H := HA.out
     clear HA
     simp only [unit_may.j0] at H
     by_cases c19 : x18_14 = true
     ·subst c19
      have H1 : ((unit_bare.f a0_0 a0_1 a0_2 a0_3 a0_4 a0_5 a0_6 a0_7 a0_8 a0_9).bind fun t184 => (if t184 = true then (some (decide (a0_8 ≥ 0))) else (some false))) = some r := by rw [if_pos rfl] at H; exact H
      clear H
      have H := H1
      clear H1
      replace H := Option.bind_eq_some_iff.mp H
      obtain ⟨t184, A200, H⟩ := H
      replace H : (if t184 = true then (some (decide (a0_8 ≥ 0))) else (some false)) = some r := H
      have A20 := Aside0.mk A200
      clear A200
      by_cases c21 : t184 = true
      ·subst c21
       have H1 : (some (decide (a0_8 ≥ 0))) = some r := by rw [if_pos rfl] at H; exact H
       clear H
       have H := H1
       clear H1
       obtain rfl := Option.some.inj H
       have hcz22_0 : wc.cell? ⟨gb182, 0, none⟩ = some (.int .i64 a0_0) := (blk_cell BK182.out 0).trans rfl
       have hcz22_1 : wc.cell? ⟨gb182, 1, none⟩ = some (.int .i64 a0_1) := (blk_cell BK182.out 1).trans rfl
       have hcz22_2 : wc.cell? ⟨gb182, 2, none⟩ = some (.int .i64 a0_2) := (blk_cell BK182.out 2).trans rfl
       have hcz22_3 : wc.cell? ⟨gb182, 3, none⟩ = some (.int .i64 a0_3) := (blk_cell BK182.out 3).trans rfl
       have hcz22_4 : wc.cell? ⟨gb182, 4, none⟩ = some (.int .i64 a0_4) := (blk_cell BK182.out 4).trans rfl
       have hcz22_5 : wc.cell? ⟨gb182, 5, none⟩ = some (.int .i64 a0_5) := (blk_cell BK182.out 5).trans rfl
       have hcz22_6 : wc.cell? ⟨gb182, 6, none⟩ = some (.bool a0_6) := (blk_cell BK182.out 6).trans rfl
       have hcz22_7 : wc.cell? ⟨gb182, 7, none⟩ = some (.bool a0_7) := (blk_cell BK182.out 7).trans rfl
       have hcz22_8 : wc.cell? ⟨gb182, 8, none⟩ = some (.int .i64 a0_8) := (blk_cell BK182.out 8).trans rfl
       have hcz22_9 : wc.cell? ⟨gb182, 9, none⟩ = some (.int .i64 a0_9) := (blk_cell BK182.out 9).trans rfl
       have hfz22_0 := blk_frozen BK182.out 0
       have hfz22_1 := blk_frozen BK182.out 1
       have hfz22_2 := blk_frozen BK182.out 2
       have hfz22_3 := blk_frozen BK182.out 3
       have hfz22_4 := blk_frozen BK182.out 4
       have hfz22_5 := blk_frozen BK182.out 5
       have hfz22_6 := blk_frozen BK182.out 6
       have hfz22_7 := blk_frozen BK182.out 7
       have hfz22_8 := blk_frozen BK182.out 8
       have hfz22_9 := blk_frozen BK182.out 9
       go_wp2_with (first | ((with_reducible refine gate_callee (f := 117) rfl ?_); refine goesL_ (some 22) rfl rfl Tryd.func117 (by kernel_rfl) rfl #[.agg #[.int .i64 a0_0, .int .i64 a0_1, .int .i64 a0_2, .int .i64 a0_3, .int .i64 a0_4, .int .i64 a0_5, .bool a0_6, .bool a0_7, .int .i64 a0_8, .int .i64 a0_9]] rfl (by (try simp only [List.map_toArray, List.map_cons, List.map_nil]); first | done | rfl | (simp only [List.length_drop, List.length_take]; rfl)) ?_; (with_reducible refine (unit_bare.calls a0_0 a0_1 a0_2 a0_3 a0_4 a0_5 a0_6 a0_7 a0_8 a0_9 true _ A20.out).mono ?_); rintro e w23 ⟨rfl, hb⟩; refine ⟨_, rfl, ?_⟩; have n0_ := Aside0.mk (blk_below (g := gb182) (o := .cells #[.int .i64 a0_0, .int .i64 a0_1, .int .i64 a0_2, .int .i64 a0_3, .int .i64 a0_4, .int .i64 a0_5, .bool a0_6, .bool a0_7, .int .i64 a0_8, .int .i64 a0_9] 70 (0, 0)) (by (with_reducible repeat (first | refine blk_drewN ?_ _ | refine blk_drew ?_ | refine blk_alloc ?_ _)); exact BK182.out) hb); have n1_ := Aside0.mk (below_step (by repeat (first | (with_reducible first | exact HB.out | apply below_alloc | apply pw_below_drewN | apply below_drew1 | refine below_set ?_ GE182.out) | exact HB.out)) hb); clear BK182; clear HB; have BK182 := n0_; have HB := n1_; clear n0_ n1_; (try clear hb); have hcz24_0 : w23.cell? ⟨gb182, 0, none⟩ = some (.int .i64 a0_0) := (blk_cell BK182.out 0).trans rfl; have hcz24_1 : w23.cell? ⟨gb182, 1, none⟩ = some (.int .i64 a0_1) := (blk_cell BK182.out 1).trans rfl; have hcz24_2 : w23.cell? ⟨gb182, 2, none⟩ = some (.int .i64 a0_2) := (blk_cell BK182.out 2).trans rfl; have hcz24_3 : w23.cell? ⟨gb182, 3, none⟩ = some (.int .i64 a0_3) := (blk_cell BK182.out 3).trans rfl; have hcz24_4 : w23.cell? ⟨gb182, 4, none⟩ = some (.int .i64 a0_4) := (blk_cell BK182.out 4).trans rfl; have hcz24_5 : w23.cell? ⟨gb182, 5, none⟩ = some (.int .i64 a0_5) := (blk_cell BK182.out 5).trans rfl; have hcz24_6 : w23.cell? ⟨gb182, 6, none⟩ = some (.bool a0_6) := (blk_cell BK182.out 6).trans rfl; have hcz24_7 : w23.cell? ⟨gb182, 7, none⟩ = some (.bool a0_7) := (blk_cell BK182.out 7).trans rfl; have hcz24_8 : w23.cell? ⟨gb182, 8, none⟩ = some (.int .i64 a0_8) := (blk_cell BK182.out 8).trans rfl; have hcz24_9 : w23.cell? ⟨gb182, 9, none⟩ = some (.int .i64 a0_9) := (blk_cell BK182.out 9).trans rfl; have hfz24_0 := blk_frozen BK182.out 0; have hfz24_1 := blk_frozen BK182.out 1; have hfz24_2 := blk_frozen BK182.out 2; have hfz24_3 := blk_frozen BK182.out 3; have hfz24_4 := blk_frozen BK182.out 4; have hfz24_5 := blk_frozen BK182.out 5; have hfz24_6 := blk_frozen BK182.out 6; have hfz24_7 := blk_frozen BK182.out 7; have hfz24_8 := blk_frozen BK182.out 8; have hfz24_9 := blk_frozen BK182.out 9))
       go_ret
       exact ⟨by first | rfl | (simp [errW_none, errW_some] <;> rfl) | (simp [*, errW_none, errW_some] <;> rfl), by repeat (first | (with_reducible first | exact HB.out | apply below_alloc | apply pw_below_drewN | apply below_drew1 | refine below_set ?_ GE182.out) | exact HB.out)⟩
      ·replace c21 := Bool.eq_false_iff.mpr c21
       subst c21
       have H1 : (some false) = some r := by rw [if_neg (show ¬ (false = true) by decide)] at H; exact H
       clear H
       have H := H1
       clear H1
       obtain rfl := Option.some.inj H
       have hcz25_0 : wc.cell? ⟨gb182, 0, none⟩ = some (.int .i64 a0_0) := (blk_cell BK182.out 0).trans rfl
       have hcz25_1 : wc.cell? ⟨gb182, 1, none⟩ = some (.int .i64 a0_1) := (blk_cell BK182.out 1).trans rfl
       have hcz25_2 : wc.cell? ⟨gb182, 2, none⟩ = some (.int .i64 a0_2) := (blk_cell BK182.out 2).trans rfl
       have hcz25_3 : wc.cell? ⟨gb182, 3, none⟩ = some (.int .i64 a0_3) := (blk_cell BK182.out 3).trans rfl
       have hcz25_4 : wc.cell? ⟨gb182, 4, none⟩ = some (.int .i64 a0_4) := (blk_cell BK182.out 4).trans rfl
       have hcz25_5 : wc.cell? ⟨gb182, 5, none⟩ = some (.int .i64 a0_5) := (blk_cell BK182.out 5).trans rfl
       have hcz25_6 : wc.cell? ⟨gb182, 6, none⟩ = some (.bool a0_6) := (blk_cell BK182.out 6).trans rfl
       have hcz25_7 : wc.cell? ⟨gb182, 7, none⟩ = some (.bool a0_7) := (blk_cell BK182.out 7).trans rfl
       have hcz25_8 : wc.cell? ⟨gb182, 8, none⟩ = some (.int .i64 a0_8) := (blk_cell BK182.out 8).trans rfl
       have hcz25_9 : wc.cell? ⟨gb182, 9, none⟩ = some (.int .i64 a0_9) := (blk_cell BK182.out 9).trans rfl
       have hfz25_0 := blk_frozen BK182.out 0
       have hfz25_1 := blk_frozen BK182.out 1
       have hfz25_2 := blk_frozen BK182.out 2
       have hfz25_3 := blk_frozen BK182.out 3
       have hfz25_4 := blk_frozen BK182.out 4
       have hfz25_5 := blk_frozen BK182.out 5
       have hfz25_6 := blk_frozen BK182.out 6
       have hfz25_7 := blk_frozen BK182.out 7
       have hfz25_8 := blk_frozen BK182.out 8
       have hfz25_9 := blk_frozen BK182.out 9
       go_wp2_with (first | ((with_reducible refine gate_callee (f := 117) rfl ?_); refine goesL_ (some 22) rfl rfl Tryd.func117 (by kernel_rfl) rfl #[.agg #[.int .i64 a0_0, .int .i64 a0_1, .int .i64 a0_2, .int .i64 a0_3, .int .i64 a0_4, .int .i64 a0_5, .bool a0_6, .bool a0_7, .int .i64 a0_8, .int .i64 a0_9]] rfl (by (try simp only [List.map_toArray, List.map_cons, List.map_nil]); first | done | rfl | (simp only [List.length_drop, List.length_take]; rfl)) ?_; (with_reducible refine (unit_bare.calls a0_0 a0_1 a0_2 a0_3 a0_4 a0_5 a0_6 a0_7 a0_8 a0_9 false _ A20.out).mono ?_); rintro e w26 ⟨rfl, hb⟩; refine ⟨_, rfl, ?_⟩; have n0_ := Aside0.mk (blk_below (g := gb182) (o := .cells #[.int .i64 a0_0, .int .i64 a0_1, .int .i64 a0_2, .int .i64 a0_3, .int .i64 a0_4, .int .i64 a0_5, .bool a0_6, .bool a0_7, .int .i64 a0_8, .int .i64 a0_9] 70 (0, 0)) (by (with_reducible repeat (first | refine blk_drewN ?_ _ | refine blk_drew ?_ | refine blk_alloc ?_ _)); exact BK182.out) hb); have n1_ := Aside0.mk (below_step (by repeat (first | (with_reducible first | exact HB.out | apply below_alloc | apply pw_below_drewN | apply below_drew1 | refine below_set ?_ GE182.out) | exact HB.out)) hb); clear BK182; clear HB; have BK182 := n0_; have HB := n1_; clear n0_ n1_; (try clear hb)))
       go_ret
       exact ⟨by first | rfl | (simp [errW_none, errW_some] <;> rfl) | (simp [*, errW_none, errW_some] <;> rfl), by repeat (first | (with_reducible first | exact HB.out | apply below_alloc | apply pw_below_drewN | apply below_drew1 | refine below_set ?_ GE182.out) | exact HB.out)⟩
     ·replace c19 := Bool.eq_false_iff.mpr c19
      subst c19
      have H1 : (if a0_0 = 3 then ((isa_Branch.f a0_1).bind fun t185 => (if t185 = true then ((isa_May.f kj14 a0_1 a0_2 a0_3 a0_4 a0_5 a0_6 a0_7).bind fun t186 => (if t186 = true then (if a0_5 = 0 then (some (decide (a0_8 ≥ 0))) else (some false)) else (some false))) else (some false))) else (if a0_0 = 4 then ((reg_Name.f a0_2).bind fun t187 => (if t187.toList = ([] : List UInt8) then (some false) else (some (a0_1 == 0 && (a0_3 == 0 && (a0_4 == 0 && (a0_5 == 0 && (!a0_6 && (!a0_7))))))))) else (some false))) = some r := by rw [if_neg (show ¬ (false = true) by decide)] at H; exact H
      clear H
      have H := H1
      clear H1
      by_cases c27 : a0_0 = 3
      ·rw [if_pos c27] at H
       have c27b0 : (a0_0 == 3) = true := beq_iff_eq.mpr c27
       have c27b1 : (a0_0 != 3) = false := bne_eq_false_iff_eq.mpr c27
       clear c27
       replace H := Option.bind_eq_some_iff.mp H
       obtain ⟨t185, A280, H⟩ := H
       replace H : (if t185 = true then ((isa_May.f kj14 a0_1 a0_2 a0_3 a0_4 a0_5 a0_6 a0_7).bind fun t186 => (if t186 = true then (if a0_5 = 0 then (some (decide (a0_8 ≥ 0))) else (some false)) else (some false))) else (some false)) = some r := H
       have A28 := Aside0.mk A280
       clear A280
       by_cases c29 : t185 = true
       ·subst c29
        have H1 : ((isa_May.f kj14 a0_1 a0_2 a0_3 a0_4 a0_5 a0_6 a0_7).bind fun t186 => (if t186 = true then (if a0_5 = 0 then (some (decide (a0_8 ≥ 0))) else (some false)) else (some false))) = some r := by rw [if_pos rfl] at H; exact H
        clear H
        have H := H1
        clear H1
        replace H := Option.bind_eq_some_iff.mp H
        obtain ⟨t186, A300, H⟩ := H
        replace H : (if t186 = true then (if a0_5 = 0 then (some (decide (a0_8 ≥ 0))) else (some false)) else (some false)) = some r := H
        have A30 := Aside0.mk A300
        clear A300
        by_cases c31 : t186 = true
        ·subst c31
         have H1 : (if a0_5 = 0 then (some (decide (a0_8 ≥ 0))) else (some false)) = some r := by rw [if_pos rfl] at H; exact H
         clear H
         have H := H1
         clear H1
         by_cases c32 : a0_5 = 0
         ·rw [if_pos c32] at H
          have c32b0 : (a0_5 == 0) = true := beq_iff_eq.mpr c32
          have c32b1 : (a0_5 != 0) = false := bne_eq_false_iff_eq.mpr c32
          clear c32
          obtain rfl := Option.some.inj H
          have hcz33_0 : wc.cell? ⟨gb182, 0, none⟩ = some (.int .i64 a0_0) := (blk_cell BK182.out 0).trans rfl
          have hcz33_1 : wc.cell? ⟨gb182, 1, none⟩ = some (.int .i64 a0_1) := (blk_cell BK182.out 1).trans rfl
          have hcz33_2 : wc.cell? ⟨gb182, 2, none⟩ = some (.int .i64 a0_2) := (blk_cell BK182.out 2).trans rfl
          have hcz33_3 : wc.cell? ⟨gb182, 3, none⟩ = some (.int .i64 a0_3) := (blk_cell BK182.out 3).trans rfl
          have hcz33_4 : wc.cell? ⟨gb182, 4, none⟩ = some (.int .i64 a0_4) := (blk_cell BK182.out 4).trans rfl
          have hcz33_5 : wc.cell? ⟨gb182, 5, none⟩ = some (.int .i64 a0_5) := (blk_cell BK182.out 5).trans rfl
          have hcz33_6 : wc.cell? ⟨gb182, 6, none⟩ = some (.bool a0_6) := (blk_cell BK182.out 6).trans rfl
          have hcz33_7 : wc.cell? ⟨gb182, 7, none⟩ = some (.bool a0_7) := (blk_cell BK182.out 7).trans rfl
          have hcz33_8 : wc.cell? ⟨gb182, 8, none⟩ = some (.int .i64 a0_8) := (blk_cell BK182.out 8).trans rfl
          have hcz33_9 : wc.cell? ⟨gb182, 9, none⟩ = some (.int .i64 a0_9) := (blk_cell BK182.out 9).trans rfl
          have hfz33_0 := blk_frozen BK182.out 0
          have hfz33_1 := blk_frozen BK182.out 1
          have hfz33_2 := blk_frozen BK182.out 2
          have hfz33_3 := blk_frozen BK182.out 3
          have hfz33_4 := blk_frozen BK182.out 4
          have hfz33_5 := blk_frozen BK182.out 5
          have hfz33_6 := blk_frozen BK182.out 6
          have hfz33_7 := blk_frozen BK182.out 7
          have hfz33_8 := blk_frozen BK182.out 8
          have hfz33_9 := blk_frozen BK182.out 9
          go_wp2_with (first | ((with_reducible refine gate_callee (f := 96) rfl ?_); refine goesL_ (some 33) rfl rfl Tryd.func96 (by kernel_rfl) rfl #[.int .i64 a0_1] rfl (by (try simp only [List.map_toArray, List.map_cons, List.map_nil]); first | done | rfl | (simp only [List.length_drop, List.length_take]; rfl)) ?_; (with_reducible refine (isa_Branch.calls a0_1 true _ A28.out).mono ?_); rintro e w' ⟨rfl, ⟨nd, rfl⟩⟩; refine ⟨_, rfl, ?_⟩) | (go_at_call 54; (with_reducible refine (isa_May.calls kj14 a0_1 a0_2 a0_3 a0_4 a0_5 a0_6 a0_7 true _ (by first | exact HL.out | exact laid_drewN HL.out | exact laid_below HL.out (by repeat (first | (with_reducible first | exact HB.out | apply below_alloc | apply pw_below_drewN | apply below_drew1 | refine below_set ?_ (Aside0.out (by assumption))) | exact HB.out)) | exact laid_below HL.out HB.out | exact laid_belowd HL.out HB.out) A30.out).mono ?_); rintro e w34 ⟨rfl, hb⟩; have n0_ := Aside0.mk (blk_below (g := gb182) (o := .cells #[.int .i64 a0_0, .int .i64 a0_1, .int .i64 a0_2, .int .i64 a0_3, .int .i64 a0_4, .int .i64 a0_5, .bool a0_6, .bool a0_7, .int .i64 a0_8, .int .i64 a0_9] 70 (0, 0)) (by (with_reducible repeat (first | refine blk_drewN ?_ _ | refine blk_drew ?_ | refine blk_alloc ?_ _)); exact BK182.out) hb); have n1_ := Aside0.mk (below_step (by repeat (first | (with_reducible first | exact HB.out | apply below_alloc | apply pw_below_drewN | apply below_drew1 | refine below_set ?_ GE182.out) | exact HB.out)) hb); clear BK182; clear HB; have BK182 := n0_; have HB := n1_; clear n0_ n1_; (try clear hb); have hcz35_0 : w34.cell? ⟨gb182, 0, none⟩ = some (.int .i64 a0_0) := (blk_cell BK182.out 0).trans rfl; have hcz35_1 : w34.cell? ⟨gb182, 1, none⟩ = some (.int .i64 a0_1) := (blk_cell BK182.out 1).trans rfl; have hcz35_2 : w34.cell? ⟨gb182, 2, none⟩ = some (.int .i64 a0_2) := (blk_cell BK182.out 2).trans rfl; have hcz35_3 : w34.cell? ⟨gb182, 3, none⟩ = some (.int .i64 a0_3) := (blk_cell BK182.out 3).trans rfl; have hcz35_4 : w34.cell? ⟨gb182, 4, none⟩ = some (.int .i64 a0_4) := (blk_cell BK182.out 4).trans rfl; have hcz35_5 : w34.cell? ⟨gb182, 5, none⟩ = some (.int .i64 a0_5) := (blk_cell BK182.out 5).trans rfl; have hcz35_6 : w34.cell? ⟨gb182, 6, none⟩ = some (.bool a0_6) := (blk_cell BK182.out 6).trans rfl; have hcz35_7 : w34.cell? ⟨gb182, 7, none⟩ = some (.bool a0_7) := (blk_cell BK182.out 7).trans rfl; have hcz35_8 : w34.cell? ⟨gb182, 8, none⟩ = some (.int .i64 a0_8) := (blk_cell BK182.out 8).trans rfl; have hcz35_9 : w34.cell? ⟨gb182, 9, none⟩ = some (.int .i64 a0_9) := (blk_cell BK182.out 9).trans rfl; have hfz35_0 := blk_frozen BK182.out 0; have hfz35_1 := blk_frozen BK182.out 1; have hfz35_2 := blk_frozen BK182.out 2; have hfz35_3 := blk_frozen BK182.out 3; have hfz35_4 := blk_frozen BK182.out 4; have hfz35_5 := blk_frozen BK182.out 5; have hfz35_6 := blk_frozen BK182.out 6; have hfz35_7 := blk_frozen BK182.out 7; have hfz35_8 := blk_frozen BK182.out 8; have hfz35_9 := blk_frozen BK182.out 9))
          go_ret
          exact ⟨by first | rfl | (simp [errW_none, errW_some] <;> rfl) | (simp [*, errW_none, errW_some] <;> rfl), by repeat (first | (with_reducible first | exact HB.out | apply below_alloc | apply pw_below_drewN | apply below_drew1 | refine below_set ?_ GE182.out) | exact HB.out)⟩
         ·rw [if_neg c32] at H
          have c32b0 : (a0_5 == 0) = false := beq_eq_false_iff_ne.mpr c32
          have c32b1 : (a0_5 != 0) = true := bne_iff_ne.mpr c32
          obtain rfl := Option.some.inj H
          have hcz36_0 : wc.cell? ⟨gb182, 0, none⟩ = some (.int .i64 a0_0) := (blk_cell BK182.out 0).trans rfl
          have hcz36_1 : wc.cell? ⟨gb182, 1, none⟩ = some (.int .i64 a0_1) := (blk_cell BK182.out 1).trans rfl
          have hcz36_2 : wc.cell? ⟨gb182, 2, none⟩ = some (.int .i64 a0_2) := (blk_cell BK182.out 2).trans rfl
          have hcz36_3 : wc.cell? ⟨gb182, 3, none⟩ = some (.int .i64 a0_3) := (blk_cell BK182.out 3).trans rfl
          have hcz36_4 : wc.cell? ⟨gb182, 4, none⟩ = some (.int .i64 a0_4) := (blk_cell BK182.out 4).trans rfl
          have hcz36_5 : wc.cell? ⟨gb182, 5, none⟩ = some (.int .i64 a0_5) := (blk_cell BK182.out 5).trans rfl
          have hcz36_6 : wc.cell? ⟨gb182, 6, none⟩ = some (.bool a0_6) := (blk_cell BK182.out 6).trans rfl
          have hcz36_7 : wc.cell? ⟨gb182, 7, none⟩ = some (.bool a0_7) := (blk_cell BK182.out 7).trans rfl
          have hcz36_8 : wc.cell? ⟨gb182, 8, none⟩ = some (.int .i64 a0_8) := (blk_cell BK182.out 8).trans rfl
          have hcz36_9 : wc.cell? ⟨gb182, 9, none⟩ = some (.int .i64 a0_9) := (blk_cell BK182.out 9).trans rfl
          have hfz36_0 := blk_frozen BK182.out 0
          have hfz36_1 := blk_frozen BK182.out 1
          have hfz36_2 := blk_frozen BK182.out 2
          have hfz36_3 := blk_frozen BK182.out 3
          have hfz36_4 := blk_frozen BK182.out 4
          have hfz36_5 := blk_frozen BK182.out 5
          have hfz36_6 := blk_frozen BK182.out 6
          have hfz36_7 := blk_frozen BK182.out 7
          have hfz36_8 := blk_frozen BK182.out 8
          have hfz36_9 := blk_frozen BK182.out 9
          go_wp2_with (first | ((with_reducible refine gate_callee (f := 96) rfl ?_); refine goesL_ (some 33) rfl rfl Tryd.func96 (by kernel_rfl) rfl #[.int .i64 a0_1] rfl (by (try simp only [List.map_toArray, List.map_cons, List.map_nil]); first | done | rfl | (simp only [List.length_drop, List.length_take]; rfl)) ?_; (with_reducible refine (isa_Branch.calls a0_1 true _ A28.out).mono ?_); rintro e w' ⟨rfl, ⟨nd, rfl⟩⟩; refine ⟨_, rfl, ?_⟩) | (go_at_call 54; (with_reducible refine (isa_May.calls kj14 a0_1 a0_2 a0_3 a0_4 a0_5 a0_6 a0_7 true _ (by first | exact HL.out | exact laid_drewN HL.out | exact laid_below HL.out (by repeat (first | (with_reducible first | exact HB.out | apply below_alloc | apply pw_below_drewN | apply below_drew1 | refine below_set ?_ (Aside0.out (by assumption))) | exact HB.out)) | exact laid_below HL.out HB.out | exact laid_belowd HL.out HB.out) A30.out).mono ?_); rintro e w37 ⟨rfl, hb⟩; have n0_ := Aside0.mk (blk_below (g := gb182) (o := .cells #[.int .i64 a0_0, .int .i64 a0_1, .int .i64 a0_2, .int .i64 a0_3, .int .i64 a0_4, .int .i64 a0_5, .bool a0_6, .bool a0_7, .int .i64 a0_8, .int .i64 a0_9] 70 (0, 0)) (by (with_reducible repeat (first | refine blk_drewN ?_ _ | refine blk_drew ?_ | refine blk_alloc ?_ _)); exact BK182.out) hb); have n1_ := Aside0.mk (below_step (by repeat (first | (with_reducible first | exact HB.out | apply below_alloc | apply pw_below_drewN | apply below_drew1 | refine below_set ?_ GE182.out) | exact HB.out)) hb); clear BK182; clear HB; have BK182 := n0_; have HB := n1_; clear n0_ n1_; (try clear hb); have hcz38_0 : w37.cell? ⟨gb182, 0, none⟩ = some (.int .i64 a0_0) := (blk_cell BK182.out 0).trans rfl; have hcz38_1 : w37.cell? ⟨gb182, 1, none⟩ = some (.int .i64 a0_1) := (blk_cell BK182.out 1).trans rfl; have hcz38_2 : w37.cell? ⟨gb182, 2, none⟩ = some (.int .i64 a0_2) := (blk_cell BK182.out 2).trans rfl; have hcz38_3 : w37.cell? ⟨gb182, 3, none⟩ = some (.int .i64 a0_3) := (blk_cell BK182.out 3).trans rfl; have hcz38_4 : w37.cell? ⟨gb182, 4, none⟩ = some (.int .i64 a0_4) := (blk_cell BK182.out 4).trans rfl; have hcz38_5 : w37.cell? ⟨gb182, 5, none⟩ = some (.int .i64 a0_5) := (blk_cell BK182.out 5).trans rfl; have hcz38_6 : w37.cell? ⟨gb182, 6, none⟩ = some (.bool a0_6) := (blk_cell BK182.out 6).trans rfl; have hcz38_7 : w37.cell? ⟨gb182, 7, none⟩ = some (.bool a0_7) := (blk_cell BK182.out 7).trans rfl; have hcz38_8 : w37.cell? ⟨gb182, 8, none⟩ = some (.int .i64 a0_8) := (blk_cell BK182.out 8).trans rfl; have hcz38_9 : w37.cell? ⟨gb182, 9, none⟩ = some (.int .i64 a0_9) := (blk_cell BK182.out 9).trans rfl; have hfz38_0 := blk_frozen BK182.out 0; have hfz38_1 := blk_frozen BK182.out 1; have hfz38_2 := blk_frozen BK182.out 2; have hfz38_3 := blk_frozen BK182.out 3; have hfz38_4 := blk_frozen BK182.out 4; have hfz38_5 := blk_frozen BK182.out 5; have hfz38_6 := blk_frozen BK182.out 6; have hfz38_7 := blk_frozen BK182.out 7; have hfz38_8 := blk_frozen BK182.out 8; have hfz38_9 := blk_frozen BK182.out 9))
          go_ret
          exact ⟨by first | rfl | (simp [errW_none, errW_some] <;> rfl) | (simp [*, errW_none, errW_some] <;> rfl), by repeat (first | (with_reducible first | exact HB.out | apply below_alloc | apply pw_below_drewN | apply below_drew1 | refine below_set ?_ GE182.out) | exact HB.out)⟩
        ·replace c31 := Bool.eq_false_iff.mpr c31
         subst c31
         have H1 : (some false) = some r := by rw [if_neg (show ¬ (false = true) by decide)] at H; exact H
         clear H
         have H := H1
         clear H1
         obtain rfl := Option.some.inj H
         have hcz39_0 : wc.cell? ⟨gb182, 0, none⟩ = some (.int .i64 a0_0) := (blk_cell BK182.out 0).trans rfl
         have hcz39_1 : wc.cell? ⟨gb182, 1, none⟩ = some (.int .i64 a0_1) := (blk_cell BK182.out 1).trans rfl
         have hcz39_2 : wc.cell? ⟨gb182, 2, none⟩ = some (.int .i64 a0_2) := (blk_cell BK182.out 2).trans rfl
         have hcz39_3 : wc.cell? ⟨gb182, 3, none⟩ = some (.int .i64 a0_3) := (blk_cell BK182.out 3).trans rfl
         have hcz39_4 : wc.cell? ⟨gb182, 4, none⟩ = some (.int .i64 a0_4) := (blk_cell BK182.out 4).trans rfl
         have hcz39_5 : wc.cell? ⟨gb182, 5, none⟩ = some (.int .i64 a0_5) := (blk_cell BK182.out 5).trans rfl
         have hcz39_6 : wc.cell? ⟨gb182, 6, none⟩ = some (.bool a0_6) := (blk_cell BK182.out 6).trans rfl
         have hcz39_7 : wc.cell? ⟨gb182, 7, none⟩ = some (.bool a0_7) := (blk_cell BK182.out 7).trans rfl
         have hcz39_8 : wc.cell? ⟨gb182, 8, none⟩ = some (.int .i64 a0_8) := (blk_cell BK182.out 8).trans rfl
         have hcz39_9 : wc.cell? ⟨gb182, 9, none⟩ = some (.int .i64 a0_9) := (blk_cell BK182.out 9).trans rfl
         have hfz39_0 := blk_frozen BK182.out 0
         have hfz39_1 := blk_frozen BK182.out 1
         have hfz39_2 := blk_frozen BK182.out 2
         have hfz39_3 := blk_frozen BK182.out 3
         have hfz39_4 := blk_frozen BK182.out 4
         have hfz39_5 := blk_frozen BK182.out 5
         have hfz39_6 := blk_frozen BK182.out 6
         have hfz39_7 := blk_frozen BK182.out 7
         have hfz39_8 := blk_frozen BK182.out 8
         have hfz39_9 := blk_frozen BK182.out 9
         go_wp2_with (first | ((with_reducible refine gate_callee (f := 96) rfl ?_); refine goesL_ (some 33) rfl rfl Tryd.func96 (by kernel_rfl) rfl #[.int .i64 a0_1] rfl (by (try simp only [List.map_toArray, List.map_cons, List.map_nil]); first | done | rfl | (simp only [List.length_drop, List.length_take]; rfl)) ?_; (with_reducible refine (isa_Branch.calls a0_1 true _ A28.out).mono ?_); rintro e w' ⟨rfl, ⟨nd, rfl⟩⟩; refine ⟨_, rfl, ?_⟩) | (go_at_call 54; (with_reducible refine (isa_May.calls kj14 a0_1 a0_2 a0_3 a0_4 a0_5 a0_6 a0_7 false _ (by first | exact HL.out | exact laid_drewN HL.out | exact laid_below HL.out (by repeat (first | (with_reducible first | exact HB.out | apply below_alloc | apply pw_below_drewN | apply below_drew1 | refine below_set ?_ (Aside0.out (by assumption))) | exact HB.out)) | exact laid_below HL.out HB.out | exact laid_belowd HL.out HB.out) A30.out).mono ?_); rintro e w40 ⟨rfl, hb⟩; have n0_ := Aside0.mk (blk_below (g := gb182) (o := .cells #[.int .i64 a0_0, .int .i64 a0_1, .int .i64 a0_2, .int .i64 a0_3, .int .i64 a0_4, .int .i64 a0_5, .bool a0_6, .bool a0_7, .int .i64 a0_8, .int .i64 a0_9] 70 (0, 0)) (by (with_reducible repeat (first | refine blk_drewN ?_ _ | refine blk_drew ?_ | refine blk_alloc ?_ _)); exact BK182.out) hb); have n1_ := Aside0.mk (below_step (by repeat (first | (with_reducible first | exact HB.out | apply below_alloc | apply pw_below_drewN | apply below_drew1 | refine below_set ?_ GE182.out) | exact HB.out)) hb); clear BK182; clear HB; have BK182 := n0_; have HB := n1_; clear n0_ n1_; (try clear hb)))
         go_ret
         exact ⟨by first | rfl | (simp [errW_none, errW_some] <;> rfl) | (simp [*, errW_none, errW_some] <;> rfl), by repeat (first | (with_reducible first | exact HB.out | apply below_alloc | apply pw_below_drewN | apply below_drew1 | refine below_set ?_ GE182.out) | exact HB.out)⟩
       ·replace c29 := Bool.eq_false_iff.mpr c29
        subst c29
        have H1 : (some false) = some r := by rw [if_neg (show ¬ (false = true) by decide)] at H; exact H
        clear H
        have H := H1
        clear H1
        obtain rfl := Option.some.inj H
        have hcz41_0 : wc.cell? ⟨gb182, 0, none⟩ = some (.int .i64 a0_0) := (blk_cell BK182.out 0).trans rfl
        have hcz41_1 : wc.cell? ⟨gb182, 1, none⟩ = some (.int .i64 a0_1) := (blk_cell BK182.out 1).trans rfl
        have hcz41_2 : wc.cell? ⟨gb182, 2, none⟩ = some (.int .i64 a0_2) := (blk_cell BK182.out 2).trans rfl
        have hcz41_3 : wc.cell? ⟨gb182, 3, none⟩ = some (.int .i64 a0_3) := (blk_cell BK182.out 3).trans rfl
        have hcz41_4 : wc.cell? ⟨gb182, 4, none⟩ = some (.int .i64 a0_4) := (blk_cell BK182.out 4).trans rfl
        have hcz41_5 : wc.cell? ⟨gb182, 5, none⟩ = some (.int .i64 a0_5) := (blk_cell BK182.out 5).trans rfl
        have hcz41_6 : wc.cell? ⟨gb182, 6, none⟩ = some (.bool a0_6) := (blk_cell BK182.out 6).trans rfl
        have hcz41_7 : wc.cell? ⟨gb182, 7, none⟩ = some (.bool a0_7) := (blk_cell BK182.out 7).trans rfl
        have hcz41_8 : wc.cell? ⟨gb182, 8, none⟩ = some (.int .i64 a0_8) := (blk_cell BK182.out 8).trans rfl
        have hcz41_9 : wc.cell? ⟨gb182, 9, none⟩ = some (.int .i64 a0_9) := (blk_cell BK182.out 9).trans rfl
        have hfz41_0 := blk_frozen BK182.out 0
        have hfz41_1 := blk_frozen BK182.out 1
        have hfz41_2 := blk_frozen BK182.out 2
        have hfz41_3 := blk_frozen BK182.out 3
        have hfz41_4 := blk_frozen BK182.out 4
        have hfz41_5 := blk_frozen BK182.out 5
        have hfz41_6 := blk_frozen BK182.out 6
        have hfz41_7 := blk_frozen BK182.out 7
        have hfz41_8 := blk_frozen BK182.out 8
        have hfz41_9 := blk_frozen BK182.out 9
        go_wp2_with (first | ((with_reducible refine gate_callee (f := 96) rfl ?_); refine goesL_ (some 33) rfl rfl Tryd.func96 (by kernel_rfl) rfl #[.int .i64 a0_1] rfl (by (try simp only [List.map_toArray, List.map_cons, List.map_nil]); first | done | rfl | (simp only [List.length_drop, List.length_take]; rfl)) ?_; (with_reducible refine (isa_Branch.calls a0_1 false _ A28.out).mono ?_); rintro e w' ⟨rfl, ⟨nd, rfl⟩⟩; refine ⟨_, rfl, ?_⟩))
        go_ret
        exact ⟨by first | rfl | (simp [errW_none, errW_some] <;> rfl) | (simp [*, errW_none, errW_some] <;> rfl), by repeat (first | (with_reducible first | exact HB.out | apply below_alloc | apply pw_below_drewN | apply below_drew1 | refine below_set ?_ GE182.out) | exact HB.out)⟩
      ·rw [if_neg c27] at H
       have c27b0 : (a0_0 == 3) = false := beq_eq_false_iff_ne.mpr c27
       have c27b1 : (a0_0 != 3) = true := bne_iff_ne.mpr c27
       by_cases c42 : a0_0 = 4
       ·rw [if_pos c42] at H
        have c42b0 : (a0_0 == 4) = true := beq_iff_eq.mpr c42
        have c42b1 : (a0_0 != 4) = false := bne_eq_false_iff_eq.mpr c42
        clear c42
        replace H := Option.bind_eq_some_iff.mp H
        obtain ⟨t187, A430, H⟩ := H
        replace H : (if t187.toList = ([] : List UInt8) then (some false) else (some (a0_1 == 0 && (a0_3 == 0 && (a0_4 == 0 && (a0_5 == 0 && (!a0_6 && (!a0_7)))))))) = some r := H
        have A43 := Aside0.mk A430
        clear A430
        by_cases c44 : t187.toList = ([] : List UInt8)
        ·rw [if_pos c44] at H
         have c44b0 : (t187.toList == ([] : List UInt8)) = true := beq_iff_eq.mpr c44
         have c44b1 : (t187.toList != ([] : List UInt8)) = false := bne_eq_false_iff_eq.mpr c44
         clear c44
         obtain rfl := Option.some.inj H
         have hcz45_0 : wc.cell? ⟨gb182, 0, none⟩ = some (.int .i64 a0_0) := (blk_cell BK182.out 0).trans rfl
         have hcz45_1 : wc.cell? ⟨gb182, 1, none⟩ = some (.int .i64 a0_1) := (blk_cell BK182.out 1).trans rfl
         have hcz45_2 : wc.cell? ⟨gb182, 2, none⟩ = some (.int .i64 a0_2) := (blk_cell BK182.out 2).trans rfl
         have hcz45_3 : wc.cell? ⟨gb182, 3, none⟩ = some (.int .i64 a0_3) := (blk_cell BK182.out 3).trans rfl
         have hcz45_4 : wc.cell? ⟨gb182, 4, none⟩ = some (.int .i64 a0_4) := (blk_cell BK182.out 4).trans rfl
         have hcz45_5 : wc.cell? ⟨gb182, 5, none⟩ = some (.int .i64 a0_5) := (blk_cell BK182.out 5).trans rfl
         have hcz45_6 : wc.cell? ⟨gb182, 6, none⟩ = some (.bool a0_6) := (blk_cell BK182.out 6).trans rfl
         have hcz45_7 : wc.cell? ⟨gb182, 7, none⟩ = some (.bool a0_7) := (blk_cell BK182.out 7).trans rfl
         have hcz45_8 : wc.cell? ⟨gb182, 8, none⟩ = some (.int .i64 a0_8) := (blk_cell BK182.out 8).trans rfl
         have hcz45_9 : wc.cell? ⟨gb182, 9, none⟩ = some (.int .i64 a0_9) := (blk_cell BK182.out 9).trans rfl
         have hfz45_0 := blk_frozen BK182.out 0
         have hfz45_1 := blk_frozen BK182.out 1
         have hfz45_2 := blk_frozen BK182.out 2
         have hfz45_3 := blk_frozen BK182.out 3
         have hfz45_4 := blk_frozen BK182.out 4
         have hfz45_5 := blk_frozen BK182.out 5
         have hfz45_6 := blk_frozen BK182.out 6
         have hfz45_7 := blk_frozen BK182.out 7
         have hfz45_8 := blk_frozen BK182.out 8
         have hfz45_9 := blk_frozen BK182.out 9
         go_wp2_with (first | ((with_reducible refine gate_callee (f := 23) rfl ?_); refine goesL_ (some 55) rfl rfl Tryd.func23 (by kernel_rfl) rfl #[.int .i64 a0_2] rfl (by (try simp only [List.map_toArray, List.map_cons, List.map_nil]); first | done | rfl | (simp only [List.length_drop, List.length_take]; rfl)) ?_; (with_reducible refine (reg_Name.calls a0_2 t187 _ A43.out).mono ?_); rintro e w' ⟨rfl, ⟨nd, rfl⟩⟩; refine ⟨_, rfl, ?_⟩))
         go_ret
         exact ⟨by first | rfl | (simp [errW_none, errW_some] <;> rfl) | (simp [*, errW_none, errW_some] <;> rfl), by repeat (first | (with_reducible first | exact HB.out | apply below_alloc | apply pw_below_drewN | apply below_drew1 | refine below_set ?_ GE182.out) | exact HB.out)⟩
        ·rw [if_neg c44] at H
         have c44b0 : (t187.toList == ([] : List UInt8)) = false := beq_eq_false_iff_ne.mpr c44
         have c44b1 : (t187.toList != ([] : List UInt8)) = true := bne_iff_ne.mpr c44
         obtain rfl := Option.some.inj H
         have hcz46_0 : wc.cell? ⟨gb182, 0, none⟩ = some (.int .i64 a0_0) := (blk_cell BK182.out 0).trans rfl
         have hcz46_1 : wc.cell? ⟨gb182, 1, none⟩ = some (.int .i64 a0_1) := (blk_cell BK182.out 1).trans rfl
         have hcz46_2 : wc.cell? ⟨gb182, 2, none⟩ = some (.int .i64 a0_2) := (blk_cell BK182.out 2).trans rfl
         have hcz46_3 : wc.cell? ⟨gb182, 3, none⟩ = some (.int .i64 a0_3) := (blk_cell BK182.out 3).trans rfl
         have hcz46_4 : wc.cell? ⟨gb182, 4, none⟩ = some (.int .i64 a0_4) := (blk_cell BK182.out 4).trans rfl
         have hcz46_5 : wc.cell? ⟨gb182, 5, none⟩ = some (.int .i64 a0_5) := (blk_cell BK182.out 5).trans rfl
         have hcz46_6 : wc.cell? ⟨gb182, 6, none⟩ = some (.bool a0_6) := (blk_cell BK182.out 6).trans rfl
         have hcz46_7 : wc.cell? ⟨gb182, 7, none⟩ = some (.bool a0_7) := (blk_cell BK182.out 7).trans rfl
         have hcz46_8 : wc.cell? ⟨gb182, 8, none⟩ = some (.int .i64 a0_8) := (blk_cell BK182.out 8).trans rfl
         have hcz46_9 : wc.cell? ⟨gb182, 9, none⟩ = some (.int .i64 a0_9) := (blk_cell BK182.out 9).trans rfl
         have hfz46_0 := blk_frozen BK182.out 0
         have hfz46_1 := blk_frozen BK182.out 1
         have hfz46_2 := blk_frozen BK182.out 2
         have hfz46_3 := blk_frozen BK182.out 3
         have hfz46_4 := blk_frozen BK182.out 4
         have hfz46_5 := blk_frozen BK182.out 5
         have hfz46_6 := blk_frozen BK182.out 6
         have hfz46_7 := blk_frozen BK182.out 7
         have hfz46_8 := blk_frozen BK182.out 8
         have hfz46_9 := blk_frozen BK182.out 9
         go_wp2_with (first | ((with_reducible refine gate_callee (f := 23) rfl ?_); refine goesL_ (some 55) rfl rfl Tryd.func23 (by kernel_rfl) rfl #[.int .i64 a0_2] rfl (by (try simp only [List.map_toArray, List.map_cons, List.map_nil]); first | done | rfl | (simp only [List.length_drop, List.length_take]; rfl)) ?_; (with_reducible refine (reg_Name.calls a0_2 t187 _ A43.out).mono ?_); rintro e w' ⟨rfl, ⟨nd, rfl⟩⟩; refine ⟨_, rfl, ?_⟩))
         go_ret
         exact ⟨by first | rfl | (simp [errW_none, errW_some] <;> rfl) | (simp [*, errW_none, errW_some] <;> rfl), by repeat (first | (with_reducible first | exact HB.out | apply below_alloc | apply pw_below_drewN | apply below_drew1 | refine below_set ?_ GE182.out) | exact HB.out)⟩
       ·rw [if_neg c42] at H
        have c42b0 : (a0_0 == 4) = false := beq_eq_false_iff_ne.mpr c42
        have c42b1 : (a0_0 != 4) = true := bne_iff_ne.mpr c42
        obtain rfl := Option.some.inj H
        go_wp2
        go_ret
        exact ⟨by first | rfl | (simp [errW_none, errW_some] <;> rfl) | (simp [*, errW_none, errW_some] <;> rfl), by repeat (first | (with_reducible first | exact HB.out | apply below_alloc | apply pw_below_drewN | apply below_drew1 | refine below_set ?_ GE182.out) | exact HB.out)⟩

/-! ### unit_stood: function 162 (by hand) -/
/-- Does a label stand among the first items? -/
def stood (l : List S70) (n at_ : Int) : Bool := (l.take at_.toNat).any fun x => x.f0 == 1 && x.f2 == n
def unit_stood.f (l0 : List S70) (a1 : Int) (a2 : Int) : Option Int := if (Lit.int .i64 a1).wf = true then some (if stood l0 a1 a2 = true then 1 else 0) else none
theorem stood_next {l : List S70} {x : Int} (h0 : 0 ≤ x) (h1 : x < l.length) (n : Int) : stood l n (x + 1) = (stood l n x || ((rd_T70 l x).f0 == 1 && (rd_T70 l x).f2 == n)) := by
 have hl : x.toNat < l.length := by omega
 have e : rd_T70 l x = l[x.toNat] := by unfold rd_T70; simp [hl]
 unfold stood
 rw [show (x + 1).toNat = x.toNat + 1 from by omega, List.take_succ_eq_append_getElem hl, List.any_append, e]
 simp
theorem zero_int (w : World) : (zeroValue 3).run Tryd.prog w = .ok (.int .i64 0) w := by kernel_rfl
/-- The map's block tells which labels stand among the first items. -/
def MapAt (l : List S70) (x : Int) (B : Nat) (w : World) : Prop :=
  ∃ (n : Nat) (D : DataW Unit), n ≤ min x.toNat l.length ∧ w.ownsMap Tryd.prog 3 (plainElem Tryd.prog 3) B n D ∧ ∀ key : Int, D.atKey (.int .i64 key) (.lit (.int .i64 0)) = .lit (.int .i64 (if stood l key x = true then 1 else 0))
theorem MapAt.made (l : List S70) (w : World) : MapAt l 0 w.heap.size (w.alloc (.map #[] 0)) :=
 ⟨0, .map [], Nat.zero_le _, World.ownsMap_made _ _ _ _, fun key => by simp [stood, DataW.atKey]⟩
section
variable {l : List S70} {x : Int} {B : Nat} {w w1 : World}
theorem MapAt.lt (h : MapAt l x B w) : B < w.heap.size := by obtain ⟨n, D, _, h, _⟩ := h; exact h.lt
theorem MapAt.below (h : MapAt l x B w) (hb : Below w.heap.size w w1) : MapAt l x B w1 := by
 obtain ⟨n, D, h1, h2, h3⟩ := h
 exact ⟨n, D, h1, h2.kept (grown_of_below hb none) (by simp), h3⟩
theorem MapAt.alloc (h : MapAt l x B w) (o : Obj) : MapAt l x B (w.alloc o) := h.below (below_alloc (Below.refl _ _) o)
theorem MapAt.drewN (h : MapAt l x B w) (n : Nat) : MapAt l x B (w.drewN n) := h.below (pw_below_drewN (Below.refl _ _) n)
theorem MapAt.drew1 (h : MapAt l x B w) : MapAt l x B w.drew := h.below (below_drew (Below.refl _ _))
theorem grown_set (w : World) (a : Addr) (u : Value) : w.grownBy (w.setCell a u) (some a.block) :=
 ⟨rfl, rfl, rfl, by simp, fun k _ hk => heap_setCell_other w a k u (fun e => hk (by rw [e]))⟩
theorem MapAt.set (h : MapAt l x B w) {g : Nat} (hne : g ≠ B) {i : Nat} {v : Value} : MapAt l x B (w.setCell ⟨g, i, none⟩ v) := by
 obtain ⟨n, D, h1, h2, h3⟩ := h
 exact ⟨n, D, h1, h2.kept (grown_set w ⟨g, i, none⟩ v) (by intro e; exact hne (Option.some.inj e).symm), h3⟩
theorem MapAt.ne (h : MapAt l x B w) {g : Nat} (hg : g = w.heap.size) : g ≠ B := by have := h.lt; omega
theorem MapAt.full (h : MapAt l x B w) (hx : ¬ x < (l.length : Int)) : MapAt l l.length B w := by
 obtain ⟨n, D, h1, h2, h3⟩ := h
 refine ⟨n, D, by omega, h2, fun key => ?_⟩
 rw [h3]
 unfold stood
 rw [List.take_of_length_le (by omega), List.take_of_length_le (by omega)]
theorem MapAt.next (h : MapAt l x B w) (h0 : decide (0 ≤ x) = true) (h1 : decide (x < (l.length : Int)) = true) (hne : ((rd_T70 l x).f0 == 1) = false) : MapAt l (x + 1) B w := by
 obtain ⟨n, D, g1, g2, g3⟩ := h
 have a := of_decide_eq_true h0
 have b := of_decide_eq_true h1
 refine ⟨n, D, by omega, g2, fun key => ?_⟩
 rw [g3, stood_next a b, hne]; simp
set_option maxRecDepth 100000 in
theorem wrap_next {A : Option Addr} (h : Kd.C k70 w A l.length l) (h0 : decide (0 ≤ x) = true) (h1 : decide (x < (l.length : Int)) = true) : wrap64 (x + 1) = x + 1 := by
 have a := of_decide_eq_true h0
 have b := of_decide_eq_true h1
 have c : (l.length : Int) ≤ 9223372036854775807 := by have c := h.2.1; exact Int.ofNat_le.2 c
 unfold wrap64
 rw [Int.emod_eq_of_lt (by omega) (by omega)]
 omega
set_option maxRecDepth 100000 in
theorem MapAt.look (h : MapAt l x B w) {key t : Int} (hf : unit_stood.f l key x = some t) : (Instr.lookup 99 (.map (some B)) (.int .i64 key) false).run Tryd.prog w = .ok (.int .i64 t) w := by
 obtain ⟨n, D, g1, g2, g3⟩ := h
 unfold unit_stood.f at hf
 by_cases hw : (Lit.int .i64 key).wf = true
 ·rw [if_pos hw] at hf
  obtain rfl := Option.some.inj hf
  obtain ⟨c, hrun, hat, _⟩ := g2.lookup_int (t := 99) (e := 3) (Maps.int_keyed Tryd.underlying3) Tryd.underlying99 Tryd.underlying3 (zero_int w) (Maps.keyOf_int_mk Tryd.underlying3 hw)
  rw [g3] at hat
  injection hat with hat
  injection hat with _ hat
  subst hat
  exact hrun
 ·rw [if_neg hw] at hf; cases hf
set_option maxRecDepth 100000 in
theorem MapAt.put_ (h : MapAt l x B w) (h0 : decide (0 ≤ x) = true) (h1 : decide (x < (l.length : Int)) = true) (hl : ((rd_T70 l x).f0 == 1) = true) {A : Option Addr} {w0 : World} (hc : Kd.C k70 w0 A l.length l)
  {t : Int} (hf : unit_stood.f l (rd_T70 l x).f2 x = some t) :
  ∃ w1, (Instr.mapUpdate 99 (.map (some B)) (.int .i64 (rd_T70 l x).f2) (.int .i64 1)).run Tryd.prog w = .ok () w1 ∧ MapAt l (x + 1) B w1 ∧ w.grownBy w1 (some B) := by
 obtain ⟨n, D, g1, g2, g3⟩ := h
 have a := of_decide_eq_true h0
 have b := of_decide_eq_true h1
 have c := hc.2.1
 unfold unit_stood.f at hf
 by_cases hw : (Lit.int .i64 (rd_T70 l x).f2).wf = true
 ·obtain ⟨w1, hrun, ho, hg⟩ := g2.update (t := 99) (e := 3) (Maps.int_keyed Tryd.underlying3) Tryd.underlying99 (Nat.lt_of_lt_of_le (Nat.lt_of_le_of_lt g1 (show min x.toNat l.length < l.length by clear c; omega)) (Nat.le_trans c (by decide))) (Maps.keyOf_int_mk Tryd.underlying3 hw) (plainElem_int Tryd.underlying3 (a := 1) (by decide))
  refine ⟨w1, hrun, ⟨n + 1, _, by omega, ho, fun key => ?_⟩, hg⟩
  rw [stood_next a b, hl, Bool.true_and]
  by_cases hk : (rd_T70 l x).f2 = key
  ·subst hk
   rw [Maps.atKey_put_same g2.isMap (by trivial)]
   simp
  ·rw [Maps.atKey_put_other (fun e => hk (by injection e with _ e; exact e.symm)), g3, beq_eq_false_iff_ne.mpr hk, Bool.or_false]
 ·rw [if_neg hw] at hf; cases hf
end
section
variable {P : Program} {ops : Array Oper} {rest : List Oper} {o : Oper} {a : Act} {Q : Exit → Act → World → Prop} {W : World}
theorem look_event (hgd : o.guard = none) {t : TypeId} {m x : Operand} (ho : o.op = .lookup t m x false) {g : Nat} {key c : Int} (hm : a.eval m = .map (some g)) (hx : a.eval x = .int .i64 key)
  (hrun : (Instr.lookup t (.map (some g)) (.int .i64 key) false).run P W = .ok (.int .i64 c) W) (h : wpList P ops Q rest (a.put o.dst (.int .i64 c)) W) : wpList P ops Q (o :: rest) a W := by
 refine wpList_plain hgd fun K' hK' => ?_
 unfold Oper.wp
 simp [execOp, ho, hm, hx, hrun, Result.andThen]
 exact hK' _ _ h
theorem put_event (hgd : o.guard = none) {t : TypeId} {m x v : Operand} (ho : o.op = .mapUpdate t m x v) {g : Nat} {key c : Int} (hm : a.eval m = .map (some g)) (hx : a.eval x = .int .i64 key) (hv : a.eval v = .int .i64 c)
  {w1 : World} (hrun : (Instr.mapUpdate t (.map (some g)) (.int .i64 key) (.int .i64 c)).run P W = .ok () w1) (h : wpList P ops Q rest (a.put o.dst undef) w1) : wpList P ops Q (o :: rest) a W := by
 refine wpList_plain hgd fun K' hK' => ?_
 unfold Oper.wp
 simp [execOp, ho, hm, hx, hv, hrun, Result.andThen]
 exact hK' _ _ h
end
section
variable {ops : Array Oper} {rest : List Oper} {o : Oper} {a : Act} {Q : Exit → Act → World → Prop} {W : World}
theorem put_map (hgd : o.guard = none) {m x' v : Operand} (ho : o.op = .mapUpdate 99 m x' v) {l : List S70} {x : Int} {B : Nat} (hm : a.eval m = .map (some B)) (hx : a.eval x' = .int .i64 (rd_T70 l x).f2) (hv : a.eval v = .int .i64 1)
  (hM : MapAt l x B W) (h0 : decide (0 ≤ x) = true) (h1 : decide (x < (l.length : Int)) = true) (hl : ((rd_T70 l x).f0 == 1) = true) {A : Option Addr} {w0 : World} (hc : Kd.C k70 w0 A l.length l)
  {t : Int} (hf : unit_stood.f l (rd_T70 l x).f2 x = some t) (h : ∀ w1, MapAt l (x + 1) B w1 → W.grownBy w1 (some B) → wpList Tryd.prog ops Q rest (a.put o.dst undef) w1) : wpList Tryd.prog ops Q (o :: rest) a W := by
 obtain ⟨w1, hrun, h2, h3⟩ := hM.put_ h0 h1 hl hc hf
 exact put_event hgd ho hm hx hv hrun (h w1 h2 h3)
end

end Go.Proofs.YtbmjbidekmkboaaDoor.GUnitExpands
