-- Written by wip/stub.py of this repo.
import Derived.Test.YtbmjbidekmkboaaDoorGUnitExpandsx0
import Derived.Test.YtbmjbidekmkboaaDoorGUnitExpandsx7
namespace Go.Proofs.YtbmjbidekmkboaaDoor.GUnitExpands
open Go.RowKit Go.Proofs.YtbmjbidekmkboaaDoorW.PrintWords Go.Proofs.YtbmjbidekmkboaaDoorW.PrintLast Go.Proofs.YtbmjbidekmkboaaDoorW.PrintMore
attribute [local go_sem] max2_int min2_int max_two min_two max_three min_three max_four min_four   -- for this text's walks alone
set_option linter.unusedVariables false
set_option linter.unusedSimpArgs false

/-! ### unit_Check: function 47 -/
mutual
def unit_Check.l0 : Nat → List (S70) → List (S70) → Int → Int → Option (Int × Int)
  | 0, _, _, _, _ => none
  | k + 1, x0, x12, x13, x14 => if x14 < x13 then (if 0 ≤ x14 then (if x14 < (x12.length : Int) then ((unit_may.f k ((rd_T70 x12 x14).f0) ((rd_T70 x12 x14).f1.f0) ((rd_T70 x12 x14).f1.f1) ((rd_T70 x12 x14).f1.f2) ((rd_T70 x12 x14).f1.f3) ((rd_T70 x12 x14).f1.f4) ((rd_T70 x12 x14).f1.f5) ((rd_T70 x12 x14).f1.f6) ((rd_T70 x12 x14).f2) ((rd_T70 x12 x14).f3)).bind fun t190 => (if t190 = true then (unit_Check.l0 k x0 x12 x13 (wrap64 (x14 + 1))) else (some (x14, 1)))) else (none)) else (none)) else (unit_Check.l1 k x0 x0 (x0.length : Int) 0)
def unit_Check.l1 : Nat → List (S70) → List (S70) → Int → Int → Option (Int × Int)
  | 0, _, _, _, _ => none
  | k + 1, x0, x24, x25, x26 => if x26 < x25 then (if 0 ≤ x26 then (if x26 < (x24.length : Int) then (if ((rd_T70 x24 x26).f0) = 1 then ((unit_stood.f x24 ((rd_T70 x24 x26).f2) x26).bind fun t193 => (if t193 > 0 then (some (x26, 5)) else (unit_Check.l1 k x0 x24 x25 (wrap64 (x26 + 1))))) else (unit_Check.l1 k x0 x24 x25 (wrap64 (x26 + 1)))) else (none)) else (none)) else (unit_Check.l2 k x0 (x0.length : Int) 0)
def unit_Check.l2 : Nat → List (S70) → Int → Int → Option (Int × Int)
  | 0, _, _, _ => none
  | k + 1, x44, x45, x46 => if x46 < x45 then (if 0 ≤ x46 then (if x46 < (x44.length : Int) then (if ((rd_T70 x44 x46).f0) = 2 then ((unit_stood.f x44 ((rd_T70 x44 x46).f2) x45).bind fun t196 => (if t196 = 0 then (some (x46, 4)) else (unit_Check.l2 k x44 x45 (wrap64 (x46 + 1))))) else (if ((rd_T70 x44 x46).f0) = 3 then ((unit_stood.f x44 ((rd_T70 x44 x46).f2) x45).bind fun t197 => (if t197 = 0 then (some (x46, 4)) else (unit_Check.l2 k x44 x45 (wrap64 (x46 + 1))))) else (unit_Check.l2 k x44 x45 (wrap64 (x46 + 1))))) else (none)) else (none)) else (some (0, 0))
end
def unit_Check.f (k : Nat) (l0 : List (S70)) : Option (Int × Int) := unit_Check.l0 k l0 l0 (l0.length : Int) 0
theorem unit_Check.mono_l : ∀ k, (∀ y0 y1 y2 y3, LeO (unit_Check.l0 k y0 y1 y2 y3) (unit_Check.l0 (k + 1) y0 y1 y2 y3)) ∧ (∀ y0 y1 y2 y3, LeO (unit_Check.l1 k y0 y1 y2 y3) (unit_Check.l1 (k + 1) y0 y1 y2 y3)) ∧ (∀ y0 y1 y2, LeO (unit_Check.l2 k y0 y1 y2) (unit_Check.l2 (k + 1) y0 y1 y2))
 | 0 => ⟨fun _ _ _ _ r h => by simp [unit_Check.l0] at h, fun _ _ _ _ r h => by simp [unit_Check.l1] at h, fun _ _ _ r h => by simp [unit_Check.l2] at h⟩
 | k + 1 => by
  obtain ⟨ih0, ih1, ih2⟩ := unit_Check.mono_l k
  refine ⟨?_, ?_, ?_⟩
  ·intro y0 y1 y2 y3
   unfold unit_Check.l0
   repeat' first
   | (with_reducible exact ih0 _ _ _ _)
   | (with_reducible exact ih1 _ _ _ _)
   | (with_reducible exact ih2 _ _ _)
   | (with_reducible exact unit_may.mono _ _ _ _ _ _ _ _ _ _ _)
   | (with_reducible exact LeO.refl _)
   | (with_reducible exact LeO.none _)
   | (with_reducible refine LeO.ite ?_ ?_)
   | (with_reducible refine LeO.bind ?_ (fun _ => ?_))
   | exact ih0 _ _ _ _
   | exact ih1 _ _ _ _
   | exact ih2 _ _ _
   | exact unit_may.mono _ _ _ _ _ _ _ _ _ _ _
   | exact LeO.none _
   | refine LeO.ite ?_ ?_
   | refine LeO.bind ?_ (fun _ => ?_)
  ·intro y0 y1 y2 y3
   unfold unit_Check.l1
   repeat' first
   | (with_reducible exact ih0 _ _ _ _)
   | (with_reducible exact ih1 _ _ _ _)
   | (with_reducible exact ih2 _ _ _)
   | (with_reducible exact unit_may.mono _ _ _ _ _ _ _ _ _ _ _)
   | (with_reducible exact LeO.refl _)
   | (with_reducible exact LeO.none _)
   | (with_reducible refine LeO.ite ?_ ?_)
   | (with_reducible refine LeO.bind ?_ (fun _ => ?_))
   | exact ih0 _ _ _ _
   | exact ih1 _ _ _ _
   | exact ih2 _ _ _
   | exact unit_may.mono _ _ _ _ _ _ _ _ _ _ _
   | exact LeO.none _
   | refine LeO.ite ?_ ?_
   | refine LeO.bind ?_ (fun _ => ?_)
  ·intro y0 y1 y2
   unfold unit_Check.l2
   repeat' first
   | (with_reducible exact ih0 _ _ _ _)
   | (with_reducible exact ih1 _ _ _ _)
   | (with_reducible exact ih2 _ _ _)
   | (with_reducible exact unit_may.mono _ _ _ _ _ _ _ _ _ _ _)
   | (with_reducible exact LeO.refl _)
   | (with_reducible exact LeO.none _)
   | (with_reducible refine LeO.ite ?_ ?_)
   | (with_reducible refine LeO.bind ?_ (fun _ => ?_))
   | exact ih0 _ _ _ _
   | exact ih1 _ _ _ _
   | exact ih2 _ _ _
   | exact unit_may.mono _ _ _ _ _ _ _ _ _ _ _
   | exact LeO.none _
   | refine LeO.ite ?_ ?_
   | refine LeO.bind ?_ (fun _ => ?_)
theorem unit_Check.mono : ∀ a0 k, LeO (unit_Check.f k a0) (unit_Check.f (k + 1) a0) := by
 intro a0 k
 obtain ⟨ih0, ih1, ih2⟩ := unit_Check.mono_l k
 unfold unit_Check.f
 repeat' first
   | (with_reducible exact ih0 _ _ _ _)
   | (with_reducible exact ih1 _ _ _ _)
   | (with_reducible exact ih2 _ _ _)
   | (with_reducible exact unit_may.mono _ _ _ _ _ _ _ _ _ _ _)
   | (with_reducible exact LeO.refl _)
   | (with_reducible exact LeO.none _)
   | (with_reducible refine LeO.ite ?_ ?_)
   | (with_reducible refine LeO.bind ?_ (fun _ => ?_))
   | exact ih0 _ _ _ _
   | exact ih1 _ _ _ _
   | exact ih2 _ _ _
   | exact unit_may.mono _ _ _ _ _ _ _ _ _ _ _
   | exact LeO.none _
   | refine LeO.ite ?_ ?_
   | refine LeO.bind ?_ (fun _ => ?_)
set_option maxHeartbeats 8000000 in
set_option maxRecDepth 100000 in
theorem unit_Check.calls (k : Nat) (A0 : Option Addr) (c0 : Nat) (l0 : List (S70)) (r1 : Int) (r2 : Int) (w : World) (hL : Laid w) (hr0 : Kd.C k70 w A0 l0.length l0) (hc0 : l0.length ≤ c0) (h : unit_Check.f k l0 = some (r1, r2)) :
  Calls Tryd.prog 47 #[.slice A0 l0.length c0] w fun e w' => e = .returned (.tuple #[.int .i64 r1, .int .i64 r2]) ∧ Below w.heap.size w w' := by
 have HL := Aside0.mk hL
 clear hL
 have hu70 := Tryd.underlying70
 have HR0 := Aside0.mk hr0
 have HC0 := Aside0.mk hc0
 clear hr0 hc0
 have HB := Aside0.mk (Below.refl w.heap.size w)
 have H : (unit_Check.l0 k l0 l0 (l0.length : Int) 0) = some (r1, r2) := h
 clear h
 have H' := Aside0.mk H
 clear H
 have hmm := @run_makeMap Tryd.prog
 go_enter Tryd.func47, Tryd.ntmps47
 go_wp2
 go_loopg [14] k (fun kq v14 w' => ∃ (x14_1 : Int), v14 = .int .i64 x14_1 ∧ Aside0 (unit_Check.l0 kq l0 l0 (l0.length : Int) x14_1 = some (r1, r2)) ∧ Aside0 (kq ≤ k) ∧ Aside0 (Below w.heap.size w w') ∧ Aside0 (MapAt l0 0 w.heap.size w'))
 case atStart => exact ⟨(0), (by first | rfl | (simp; done) | (simp [*]; done)), H', ⟨Nat.le_refl _⟩, ⟨by repeat (first | (with_reducible first | exact HB.out | apply below_alloc | apply pw_below_drewN | apply below_drew1) | exact HB.out)⟩, ⟨(by first | (with_reducible exact MapAt.made l0 w) | (with_reducible exact HM.out) | (with_reducible exact HM.out.full (of_decide_eq_false (by assumption))))⟩⟩
 case round =>
  clear H'
  obtain ⟨x14_1, rfl, HA, HK1, HB, HM⟩ := hrel
  cases gk with
  | zero => exact absurd HA.out (by simp [unit_Check.l0])
  | succ k1 =>
   have H := HA.out
   clear HA
   simp only [unit_Check.l0] at H
   by_cases c2 : x14_1 < (l0.length : Int)
   ·rw [if_pos c2] at H
    have c2b0 : decide (x14_1 < (l0.length : Int)) = true := decide_eq_true c2
    clear c2
    by_cases c3 : 0 ≤ x14_1
    ·rw [if_pos c3] at H
     have c3b0 : decide (0 ≤ x14_1) = true := decide_eq_true c3
     clear c3
     by_cases c4 : x14_1 < (l0.length : Int)
     ·rw [if_pos c4] at H
      have c4b0 : decide (x14_1 < (l0.length : Int)) = true := decide_eq_true c4
      clear c4
      replace H := Option.bind_eq_some_iff.mp H
      obtain ⟨t190, A50, H⟩ := H
      replace H : (if t190 = true then (unit_Check.l0 k1 l0 l0 (l0.length : Int) (wrap64 (x14_1 + 1))) else (some (x14_1, 1))) = some (r1, r2) := H
      have A5 := Aside0.mk A50
      clear A50
      by_cases c6 : t190 = true
      ·subst c6
       have H1 : (unit_Check.l0 k1 l0 l0 (l0.length : Int) (wrap64 (x14_1 + 1))) = some (r1, r2) := by rw [if_pos rfl] at H; exact H
       clear H
       have H := H1
       clear H1
       have H' := Aside0.mk H
       clear H
       have p188 : 0 ≤ (x14_1 : Int) := of_decide_eq_true (by first | (with_reducible assumption) | assumption)
       have q188 : x14_1 < (l0.length : Int) := of_decide_eq_true (by first | (with_reducible assumption) | assumption)
       obtain ⟨ad188, e188, hx188_0, hx188_1, hx188_2, hx188_3, hx188_4, hx188_5, hx188_6, hx188_7, hx188_8, hx188_9⟩ := at_T70 HR0.out x14_1 p188 q188
       cases e188
       replace hx188_0 := (HB.out.cell (World.block_lt_of_cell? w _ hx188_0)).trans hx188_0
       replace hx188_1 := (HB.out.cell (World.block_lt_of_cell? w _ hx188_1)).trans hx188_1
       replace hx188_2 := (HB.out.cell (World.block_lt_of_cell? w _ hx188_2)).trans hx188_2
       replace hx188_3 := (HB.out.cell (World.block_lt_of_cell? w _ hx188_3)).trans hx188_3
       replace hx188_4 := (HB.out.cell (World.block_lt_of_cell? w _ hx188_4)).trans hx188_4
       replace hx188_5 := (HB.out.cell (World.block_lt_of_cell? w _ hx188_5)).trans hx188_5
       replace hx188_6 := (HB.out.cell (World.block_lt_of_cell? w _ hx188_6)).trans hx188_6
       replace hx188_7 := (HB.out.cell (World.block_lt_of_cell? w _ hx188_7)).trans hx188_7
       replace hx188_8 := (HB.out.cell (World.block_lt_of_cell? w _ hx188_8)).trans hx188_8
       replace hx188_9 := (HB.out.cell (World.block_lt_of_cell? w _ hx188_9)).trans hx188_9
       replace p188 := eq_true p188
       replace q188 := eq_true q188
       go_wp2_with (first | ((with_reducible refine gate_dst (N := 6) rfl ?_); refine box_event ?hg (N := 6) ?hd (cs := #[.int .i64 0, .int .i64 0, .int .i64 0, .int .i64 0, .int .i64 0, .int .i64 0, .bool false, .bool false, .int .i64 0, .int .i64 0]) (t := 70) ?hr ?_; (case hd => rfl); (case hg => rfl); (case hr => first | (go_simp; done) | (go_simp; rfl)); intro gb189 hg w7 hbox hb; have NEB := Aside0.mk (MapAt.ne HM.out hg); have mz_ := Aside0.mk (MapAt.below HM.out hb); clear HM; have HM := mz_; clear mz_; have n0_ := Aside0.mk (below_step (by repeat (first | (with_reducible first | exact HB.out | apply below_alloc | apply pw_below_drewN | apply below_drew1) | exact HB.out)) hb); have n1_ := Aside0.mk (hbox); have n2_ := Aside0.mk ((by rw [hg]; exact (below_size (by repeat (first | (with_reducible first | exact HB.out | apply below_alloc | apply pw_below_drewN | apply below_drew1) | exact HB.out))) : w.heap.size ≤ gb189)); have n3_ := Aside0.mk ((by rw [hg]; exact (below_size (by repeat (first | (with_reducible first | exact HB.out | apply below_alloc | apply pw_below_drewN | apply below_drew1) | exact HB.out))) : w.heap.size ≤ gb189)); clear HB; have HB := n0_; have BK189 := n1_; have GW189 := n2_; have GE189 := n3_; clear n0_ n1_ n2_ n3_; clear hb hbox hg; have hcz8_0 : w7.cell? ⟨gb189, 0, none⟩ = some (.int .i64 0) := (blk_cell BK189.out 0).trans rfl; have hcz8_1 : w7.cell? ⟨gb189, 1, none⟩ = some (.int .i64 0) := (blk_cell BK189.out 1).trans rfl; have hcz8_2 : w7.cell? ⟨gb189, 2, none⟩ = some (.int .i64 0) := (blk_cell BK189.out 2).trans rfl; have hcz8_3 : w7.cell? ⟨gb189, 3, none⟩ = some (.int .i64 0) := (blk_cell BK189.out 3).trans rfl; have hcz8_4 : w7.cell? ⟨gb189, 4, none⟩ = some (.int .i64 0) := (blk_cell BK189.out 4).trans rfl; have hcz8_5 : w7.cell? ⟨gb189, 5, none⟩ = some (.int .i64 0) := (blk_cell BK189.out 5).trans rfl; have hcz8_6 : w7.cell? ⟨gb189, 6, none⟩ = some (.bool false) := (blk_cell BK189.out 6).trans rfl; have hcz8_7 : w7.cell? ⟨gb189, 7, none⟩ = some (.bool false) := (blk_cell BK189.out 7).trans rfl; have hcz8_8 : w7.cell? ⟨gb189, 8, none⟩ = some (.int .i64 0) := (blk_cell BK189.out 8).trans rfl; have hcz8_9 : w7.cell? ⟨gb189, 9, none⟩ = some (.int .i64 0) := (blk_cell BK189.out 9).trans rfl; have hfz8_0 := blk_frozen BK189.out 0; have hfz8_1 := blk_frozen BK189.out 1; have hfz8_2 := blk_frozen BK189.out 2; have hfz8_3 := blk_frozen BK189.out 3; have hfz8_4 := blk_frozen BK189.out 4; have hfz8_5 := blk_frozen BK189.out 5; have hfz8_6 := blk_frozen BK189.out 6; have hfz8_7 := blk_frozen BK189.out 7; have hfz8_8 := blk_frozen BK189.out 8; have hfz8_9 := blk_frozen BK189.out 9) | ((with_reducible refine gate_callee (f := 87) rfl ?_); refine goesL_ (some 20) rfl rfl Tryd.func87 (by kernel_rfl) rfl #[.agg #[.int .i64 ((rd_T70 l0 x14_1).f0), .int .i64 ((rd_T70 l0 x14_1).f1.f0), .int .i64 ((rd_T70 l0 x14_1).f1.f1), .int .i64 ((rd_T70 l0 x14_1).f1.f2), .int .i64 ((rd_T70 l0 x14_1).f1.f3), .int .i64 ((rd_T70 l0 x14_1).f1.f4), .bool ((rd_T70 l0 x14_1).f1.f5), .bool ((rd_T70 l0 x14_1).f1.f6), .int .i64 ((rd_T70 l0 x14_1).f2), .int .i64 ((rd_T70 l0 x14_1).f3)]] rfl (by (try simp only [List.map_toArray, List.map_cons, List.map_nil]); first | done | rfl | (simp only [List.length_drop, List.length_take]; rfl)) ?_; (with_reducible refine (unit_may.calls k1 ((rd_T70 l0 x14_1).f0) ((rd_T70 l0 x14_1).f1.f0) ((rd_T70 l0 x14_1).f1.f1) ((rd_T70 l0 x14_1).f1.f2) ((rd_T70 l0 x14_1).f1.f3) ((rd_T70 l0 x14_1).f1.f4) ((rd_T70 l0 x14_1).f1.f5) ((rd_T70 l0 x14_1).f1.f6) ((rd_T70 l0 x14_1).f2) ((rd_T70 l0 x14_1).f3) true _ (by first | exact HL.out | exact laid_drewN HL.out | exact laid_below HL.out (by repeat (first | (with_reducible first | exact HB.out | apply below_alloc | apply pw_below_drewN | apply below_drew1 | refine below_set ?_ (Aside0.out (by assumption))) | exact HB.out)) | exact laid_below HL.out HB.out | exact laid_belowd HL.out HB.out) A5.out).mono ?_); rintro e w9 ⟨rfl, hb⟩; refine ⟨_, rfl, ?_⟩; have mz_ := Aside0.mk (MapAt.below (l := l0) (x := 0) (B := w.heap.size) (by with_reducible repeat (first | exact HM.out | refine MapAt.set ?_ (Aside0.out (by assumption)) | refine MapAt.drewN ?_ _ | refine MapAt.drew1 ?_ | refine MapAt.alloc ?_ _)) hb); clear HM; have HM := mz_; clear mz_; have n0_ := Aside0.mk (blk_below (g := gb189) (o := .cells #[.int .i64 ((rd_T70 l0 x14_1).f0), .int .i64 ((rd_T70 l0 x14_1).f1.f0), .int .i64 ((rd_T70 l0 x14_1).f1.f1), .int .i64 ((rd_T70 l0 x14_1).f1.f2), .int .i64 ((rd_T70 l0 x14_1).f1.f3), .int .i64 ((rd_T70 l0 x14_1).f1.f4), .bool ((rd_T70 l0 x14_1).f1.f5), .bool ((rd_T70 l0 x14_1).f1.f6), .int .i64 ((rd_T70 l0 x14_1).f2), .int .i64 ((rd_T70 l0 x14_1).f3)] 70 (0, 0)) (by (with_reducible repeat (first | refine blk_drewN ?_ _ | refine blk_drew ?_ | refine blk_alloc ?_ _)); refine blk_put (cs := #[.int .i64 ((rd_T70 l0 x14_1).f0), .int .i64 ((rd_T70 l0 x14_1).f1.f0), .int .i64 ((rd_T70 l0 x14_1).f1.f1), .int .i64 ((rd_T70 l0 x14_1).f1.f2), .int .i64 ((rd_T70 l0 x14_1).f1.f3), .int .i64 ((rd_T70 l0 x14_1).f1.f4), .bool ((rd_T70 l0 x14_1).f1.f5), .bool ((rd_T70 l0 x14_1).f1.f6), .int .i64 ((rd_T70 l0 x14_1).f2), .int .i64 0]) ?_ 9 _ rfl; (with_reducible repeat (first | refine blk_drewN ?_ _ | refine blk_drew ?_ | refine blk_alloc ?_ _)); refine blk_put (cs := #[.int .i64 ((rd_T70 l0 x14_1).f0), .int .i64 ((rd_T70 l0 x14_1).f1.f0), .int .i64 ((rd_T70 l0 x14_1).f1.f1), .int .i64 ((rd_T70 l0 x14_1).f1.f2), .int .i64 ((rd_T70 l0 x14_1).f1.f3), .int .i64 ((rd_T70 l0 x14_1).f1.f4), .bool ((rd_T70 l0 x14_1).f1.f5), .bool ((rd_T70 l0 x14_1).f1.f6), .int .i64 0, .int .i64 0]) ?_ 8 _ rfl; (with_reducible repeat (first | refine blk_drewN ?_ _ | refine blk_drew ?_ | refine blk_alloc ?_ _)); refine blk_put (cs := #[.int .i64 ((rd_T70 l0 x14_1).f0), .int .i64 ((rd_T70 l0 x14_1).f1.f0), .int .i64 ((rd_T70 l0 x14_1).f1.f1), .int .i64 ((rd_T70 l0 x14_1).f1.f2), .int .i64 ((rd_T70 l0 x14_1).f1.f3), .int .i64 ((rd_T70 l0 x14_1).f1.f4), .bool ((rd_T70 l0 x14_1).f1.f5), .bool false, .int .i64 0, .int .i64 0]) ?_ 7 _ rfl; (with_reducible repeat (first | refine blk_drewN ?_ _ | refine blk_drew ?_ | refine blk_alloc ?_ _)); refine blk_put (cs := #[.int .i64 ((rd_T70 l0 x14_1).f0), .int .i64 ((rd_T70 l0 x14_1).f1.f0), .int .i64 ((rd_T70 l0 x14_1).f1.f1), .int .i64 ((rd_T70 l0 x14_1).f1.f2), .int .i64 ((rd_T70 l0 x14_1).f1.f3), .int .i64 ((rd_T70 l0 x14_1).f1.f4), .bool false, .bool false, .int .i64 0, .int .i64 0]) ?_ 6 _ rfl; (with_reducible repeat (first | refine blk_drewN ?_ _ | refine blk_drew ?_ | refine blk_alloc ?_ _)); refine blk_put (cs := #[.int .i64 ((rd_T70 l0 x14_1).f0), .int .i64 ((rd_T70 l0 x14_1).f1.f0), .int .i64 ((rd_T70 l0 x14_1).f1.f1), .int .i64 ((rd_T70 l0 x14_1).f1.f2), .int .i64 ((rd_T70 l0 x14_1).f1.f3), .int .i64 0, .bool false, .bool false, .int .i64 0, .int .i64 0]) ?_ 5 _ rfl; (with_reducible repeat (first | refine blk_drewN ?_ _ | refine blk_drew ?_ | refine blk_alloc ?_ _)); refine blk_put (cs := #[.int .i64 ((rd_T70 l0 x14_1).f0), .int .i64 ((rd_T70 l0 x14_1).f1.f0), .int .i64 ((rd_T70 l0 x14_1).f1.f1), .int .i64 ((rd_T70 l0 x14_1).f1.f2), .int .i64 0, .int .i64 0, .bool false, .bool false, .int .i64 0, .int .i64 0]) ?_ 4 _ rfl; (with_reducible repeat (first | refine blk_drewN ?_ _ | refine blk_drew ?_ | refine blk_alloc ?_ _)); refine blk_put (cs := #[.int .i64 ((rd_T70 l0 x14_1).f0), .int .i64 ((rd_T70 l0 x14_1).f1.f0), .int .i64 ((rd_T70 l0 x14_1).f1.f1), .int .i64 0, .int .i64 0, .int .i64 0, .bool false, .bool false, .int .i64 0, .int .i64 0]) ?_ 3 _ rfl; (with_reducible repeat (first | refine blk_drewN ?_ _ | refine blk_drew ?_ | refine blk_alloc ?_ _)); refine blk_put (cs := #[.int .i64 ((rd_T70 l0 x14_1).f0), .int .i64 ((rd_T70 l0 x14_1).f1.f0), .int .i64 0, .int .i64 0, .int .i64 0, .int .i64 0, .bool false, .bool false, .int .i64 0, .int .i64 0]) ?_ 2 _ rfl; (with_reducible repeat (first | refine blk_drewN ?_ _ | refine blk_drew ?_ | refine blk_alloc ?_ _)); refine blk_put (cs := #[.int .i64 ((rd_T70 l0 x14_1).f0), .int .i64 0, .int .i64 0, .int .i64 0, .int .i64 0, .int .i64 0, .bool false, .bool false, .int .i64 0, .int .i64 0]) ?_ 1 _ rfl; (with_reducible repeat (first | refine blk_drewN ?_ _ | refine blk_drew ?_ | refine blk_alloc ?_ _)); refine blk_put (cs := #[.int .i64 0, .int .i64 0, .int .i64 0, .int .i64 0, .int .i64 0, .int .i64 0, .bool false, .bool false, .int .i64 0, .int .i64 0]) ?_ 0 _ rfl; (with_reducible repeat (first | refine blk_drewN ?_ _ | refine blk_drew ?_ | refine blk_alloc ?_ _)); exact BK189.out) hb); have n1_ := Aside0.mk (below_step (by repeat (first | (with_reducible first | exact HB.out | apply below_alloc | apply pw_below_drewN | apply below_drew1 | refine below_set ?_ GE189.out) | exact HB.out)) hb); clear BK189; clear HB; have BK189 := n0_; have HB := n1_; clear n0_ n1_; (try clear hb)))
       go_roundg k1
       case measure => have := HK1.out; omega
       case rel => exact ⟨(wrap64 (x14_1 + 1)), (by first | rfl | (simp; done) | (simp [*]; done)), H', ⟨by have := HK1.out; omega⟩, ⟨by repeat (first | (with_reducible first | exact HB.out | apply below_alloc | apply pw_below_drewN | apply below_drew1 | refine below_set ?_ GE189.out) | exact HB.out)⟩, ⟨(by first | ((with_reducible repeat (first | exact HM.out | refine MapAt.set ?_ (Aside0.out (by assumption)) | refine MapAt.drewN ?_ _ | refine MapAt.drew1 ?_ | refine MapAt.alloc ?_ _)); done) | (rw [wrap_next HR0.out (by assumption) (by assumption)]; first | ((with_reducible repeat (first | exact HM.out | refine MapAt.set ?_ (Aside0.out (by assumption)) | refine MapAt.drewN ?_ _ | refine MapAt.drew1 ?_ | refine MapAt.alloc ?_ _)); done) | (refine MapAt.next ?_ (by assumption) (by assumption) (by assumption); exact (by with_reducible repeat (first | exact HM.out | refine MapAt.set ?_ (Aside0.out (by assumption)) | refine MapAt.drewN ?_ _ | refine MapAt.drew1 ?_ | refine MapAt.alloc ?_ _)))))⟩⟩
      ·replace c6 := Bool.eq_false_iff.mpr c6
       subst c6
       have H1 : (some (x14_1, 1)) = some (r1, r2) := by rw [if_neg (show ¬ (false = true) by decide)] at H; exact H
       clear H
       have H := H1
       clear H1
       simp only [Option.some.injEq, Prod.mk.injEq] at H
       obtain ⟨rfl, rfl⟩ := H
       have p188 : 0 ≤ (x14_1 : Int) := of_decide_eq_true (by first | (with_reducible assumption) | assumption)
       have q188 : x14_1 < (l0.length : Int) := of_decide_eq_true (by first | (with_reducible assumption) | assumption)
       obtain ⟨ad188, e188, hx188_0, hx188_1, hx188_2, hx188_3, hx188_4, hx188_5, hx188_6, hx188_7, hx188_8, hx188_9⟩ := at_T70 HR0.out x14_1 p188 q188
       cases e188
       replace hx188_0 := (HB.out.cell (World.block_lt_of_cell? w _ hx188_0)).trans hx188_0
       replace hx188_1 := (HB.out.cell (World.block_lt_of_cell? w _ hx188_1)).trans hx188_1
       replace hx188_2 := (HB.out.cell (World.block_lt_of_cell? w _ hx188_2)).trans hx188_2
       replace hx188_3 := (HB.out.cell (World.block_lt_of_cell? w _ hx188_3)).trans hx188_3
       replace hx188_4 := (HB.out.cell (World.block_lt_of_cell? w _ hx188_4)).trans hx188_4
       replace hx188_5 := (HB.out.cell (World.block_lt_of_cell? w _ hx188_5)).trans hx188_5
       replace hx188_6 := (HB.out.cell (World.block_lt_of_cell? w _ hx188_6)).trans hx188_6
       replace hx188_7 := (HB.out.cell (World.block_lt_of_cell? w _ hx188_7)).trans hx188_7
       replace hx188_8 := (HB.out.cell (World.block_lt_of_cell? w _ hx188_8)).trans hx188_8
       replace hx188_9 := (HB.out.cell (World.block_lt_of_cell? w _ hx188_9)).trans hx188_9
       replace p188 := eq_true p188
       replace q188 := eq_true q188
       go_wp2_with (first | ((with_reducible refine gate_dst (N := 6) rfl ?_); refine box_event ?hg (N := 6) ?hd (cs := #[.int .i64 0, .int .i64 0, .int .i64 0, .int .i64 0, .int .i64 0, .int .i64 0, .bool false, .bool false, .int .i64 0, .int .i64 0]) (t := 70) ?hr ?_; (case hd => rfl); (case hg => rfl); (case hr => first | (go_simp; done) | (go_simp; rfl)); intro gb189 hg w10 hbox hb; have NEB := Aside0.mk (MapAt.ne HM.out hg); have mz_ := Aside0.mk (MapAt.below HM.out hb); clear HM; have HM := mz_; clear mz_; have n0_ := Aside0.mk (below_step (by repeat (first | (with_reducible first | exact HB.out | apply below_alloc | apply pw_below_drewN | apply below_drew1) | exact HB.out)) hb); have n1_ := Aside0.mk (hbox); have n2_ := Aside0.mk ((by rw [hg]; exact (below_size (by repeat (first | (with_reducible first | exact HB.out | apply below_alloc | apply pw_below_drewN | apply below_drew1) | exact HB.out))) : w.heap.size ≤ gb189)); have n3_ := Aside0.mk ((by rw [hg]; exact (below_size (by repeat (first | (with_reducible first | exact HB.out | apply below_alloc | apply pw_below_drewN | apply below_drew1) | exact HB.out))) : w.heap.size ≤ gb189)); clear HB; have HB := n0_; have BK189 := n1_; have GW189 := n2_; have GE189 := n3_; clear n0_ n1_ n2_ n3_; clear hb hbox hg; have hcz11_0 : w10.cell? ⟨gb189, 0, none⟩ = some (.int .i64 0) := (blk_cell BK189.out 0).trans rfl; have hcz11_1 : w10.cell? ⟨gb189, 1, none⟩ = some (.int .i64 0) := (blk_cell BK189.out 1).trans rfl; have hcz11_2 : w10.cell? ⟨gb189, 2, none⟩ = some (.int .i64 0) := (blk_cell BK189.out 2).trans rfl; have hcz11_3 : w10.cell? ⟨gb189, 3, none⟩ = some (.int .i64 0) := (blk_cell BK189.out 3).trans rfl; have hcz11_4 : w10.cell? ⟨gb189, 4, none⟩ = some (.int .i64 0) := (blk_cell BK189.out 4).trans rfl; have hcz11_5 : w10.cell? ⟨gb189, 5, none⟩ = some (.int .i64 0) := (blk_cell BK189.out 5).trans rfl; have hcz11_6 : w10.cell? ⟨gb189, 6, none⟩ = some (.bool false) := (blk_cell BK189.out 6).trans rfl; have hcz11_7 : w10.cell? ⟨gb189, 7, none⟩ = some (.bool false) := (blk_cell BK189.out 7).trans rfl; have hcz11_8 : w10.cell? ⟨gb189, 8, none⟩ = some (.int .i64 0) := (blk_cell BK189.out 8).trans rfl; have hcz11_9 : w10.cell? ⟨gb189, 9, none⟩ = some (.int .i64 0) := (blk_cell BK189.out 9).trans rfl; have hfz11_0 := blk_frozen BK189.out 0; have hfz11_1 := blk_frozen BK189.out 1; have hfz11_2 := blk_frozen BK189.out 2; have hfz11_3 := blk_frozen BK189.out 3; have hfz11_4 := blk_frozen BK189.out 4; have hfz11_5 := blk_frozen BK189.out 5; have hfz11_6 := blk_frozen BK189.out 6; have hfz11_7 := blk_frozen BK189.out 7; have hfz11_8 := blk_frozen BK189.out 8; have hfz11_9 := blk_frozen BK189.out 9) | ((with_reducible refine gate_callee (f := 87) rfl ?_); refine goesL_ (some 20) rfl rfl Tryd.func87 (by kernel_rfl) rfl #[.agg #[.int .i64 ((rd_T70 l0 x14_1).f0), .int .i64 ((rd_T70 l0 x14_1).f1.f0), .int .i64 ((rd_T70 l0 x14_1).f1.f1), .int .i64 ((rd_T70 l0 x14_1).f1.f2), .int .i64 ((rd_T70 l0 x14_1).f1.f3), .int .i64 ((rd_T70 l0 x14_1).f1.f4), .bool ((rd_T70 l0 x14_1).f1.f5), .bool ((rd_T70 l0 x14_1).f1.f6), .int .i64 ((rd_T70 l0 x14_1).f2), .int .i64 ((rd_T70 l0 x14_1).f3)]] rfl (by (try simp only [List.map_toArray, List.map_cons, List.map_nil]); first | done | rfl | (simp only [List.length_drop, List.length_take]; rfl)) ?_; (with_reducible refine (unit_may.calls k1 ((rd_T70 l0 x14_1).f0) ((rd_T70 l0 x14_1).f1.f0) ((rd_T70 l0 x14_1).f1.f1) ((rd_T70 l0 x14_1).f1.f2) ((rd_T70 l0 x14_1).f1.f3) ((rd_T70 l0 x14_1).f1.f4) ((rd_T70 l0 x14_1).f1.f5) ((rd_T70 l0 x14_1).f1.f6) ((rd_T70 l0 x14_1).f2) ((rd_T70 l0 x14_1).f3) false _ (by first | exact HL.out | exact laid_drewN HL.out | exact laid_below HL.out (by repeat (first | (with_reducible first | exact HB.out | apply below_alloc | apply pw_below_drewN | apply below_drew1 | refine below_set ?_ (Aside0.out (by assumption))) | exact HB.out)) | exact laid_below HL.out HB.out | exact laid_belowd HL.out HB.out) A5.out).mono ?_); rintro e w12 ⟨rfl, hb⟩; refine ⟨_, rfl, ?_⟩; have mz_ := Aside0.mk (MapAt.below (l := l0) (x := 0) (B := w.heap.size) (by with_reducible repeat (first | exact HM.out | refine MapAt.set ?_ (Aside0.out (by assumption)) | refine MapAt.drewN ?_ _ | refine MapAt.drew1 ?_ | refine MapAt.alloc ?_ _)) hb); clear HM; have HM := mz_; clear mz_; have n0_ := Aside0.mk (blk_below (g := gb189) (o := .cells #[.int .i64 ((rd_T70 l0 x14_1).f0), .int .i64 ((rd_T70 l0 x14_1).f1.f0), .int .i64 ((rd_T70 l0 x14_1).f1.f1), .int .i64 ((rd_T70 l0 x14_1).f1.f2), .int .i64 ((rd_T70 l0 x14_1).f1.f3), .int .i64 ((rd_T70 l0 x14_1).f1.f4), .bool ((rd_T70 l0 x14_1).f1.f5), .bool ((rd_T70 l0 x14_1).f1.f6), .int .i64 ((rd_T70 l0 x14_1).f2), .int .i64 ((rd_T70 l0 x14_1).f3)] 70 (0, 0)) (by (with_reducible repeat (first | refine blk_drewN ?_ _ | refine blk_drew ?_ | refine blk_alloc ?_ _)); refine blk_put (cs := #[.int .i64 ((rd_T70 l0 x14_1).f0), .int .i64 ((rd_T70 l0 x14_1).f1.f0), .int .i64 ((rd_T70 l0 x14_1).f1.f1), .int .i64 ((rd_T70 l0 x14_1).f1.f2), .int .i64 ((rd_T70 l0 x14_1).f1.f3), .int .i64 ((rd_T70 l0 x14_1).f1.f4), .bool ((rd_T70 l0 x14_1).f1.f5), .bool ((rd_T70 l0 x14_1).f1.f6), .int .i64 ((rd_T70 l0 x14_1).f2), .int .i64 0]) ?_ 9 _ rfl; (with_reducible repeat (first | refine blk_drewN ?_ _ | refine blk_drew ?_ | refine blk_alloc ?_ _)); refine blk_put (cs := #[.int .i64 ((rd_T70 l0 x14_1).f0), .int .i64 ((rd_T70 l0 x14_1).f1.f0), .int .i64 ((rd_T70 l0 x14_1).f1.f1), .int .i64 ((rd_T70 l0 x14_1).f1.f2), .int .i64 ((rd_T70 l0 x14_1).f1.f3), .int .i64 ((rd_T70 l0 x14_1).f1.f4), .bool ((rd_T70 l0 x14_1).f1.f5), .bool ((rd_T70 l0 x14_1).f1.f6), .int .i64 0, .int .i64 0]) ?_ 8 _ rfl; (with_reducible repeat (first | refine blk_drewN ?_ _ | refine blk_drew ?_ | refine blk_alloc ?_ _)); refine blk_put (cs := #[.int .i64 ((rd_T70 l0 x14_1).f0), .int .i64 ((rd_T70 l0 x14_1).f1.f0), .int .i64 ((rd_T70 l0 x14_1).f1.f1), .int .i64 ((rd_T70 l0 x14_1).f1.f2), .int .i64 ((rd_T70 l0 x14_1).f1.f3), .int .i64 ((rd_T70 l0 x14_1).f1.f4), .bool ((rd_T70 l0 x14_1).f1.f5), .bool false, .int .i64 0, .int .i64 0]) ?_ 7 _ rfl; (with_reducible repeat (first | refine blk_drewN ?_ _ | refine blk_drew ?_ | refine blk_alloc ?_ _)); refine blk_put (cs := #[.int .i64 ((rd_T70 l0 x14_1).f0), .int .i64 ((rd_T70 l0 x14_1).f1.f0), .int .i64 ((rd_T70 l0 x14_1).f1.f1), .int .i64 ((rd_T70 l0 x14_1).f1.f2), .int .i64 ((rd_T70 l0 x14_1).f1.f3), .int .i64 ((rd_T70 l0 x14_1).f1.f4), .bool false, .bool false, .int .i64 0, .int .i64 0]) ?_ 6 _ rfl; (with_reducible repeat (first | refine blk_drewN ?_ _ | refine blk_drew ?_ | refine blk_alloc ?_ _)); refine blk_put (cs := #[.int .i64 ((rd_T70 l0 x14_1).f0), .int .i64 ((rd_T70 l0 x14_1).f1.f0), .int .i64 ((rd_T70 l0 x14_1).f1.f1), .int .i64 ((rd_T70 l0 x14_1).f1.f2), .int .i64 ((rd_T70 l0 x14_1).f1.f3), .int .i64 0, .bool false, .bool false, .int .i64 0, .int .i64 0]) ?_ 5 _ rfl; (with_reducible repeat (first | refine blk_drewN ?_ _ | refine blk_drew ?_ | refine blk_alloc ?_ _)); refine blk_put (cs := #[.int .i64 ((rd_T70 l0 x14_1).f0), .int .i64 ((rd_T70 l0 x14_1).f1.f0), .int .i64 ((rd_T70 l0 x14_1).f1.f1), .int .i64 ((rd_T70 l0 x14_1).f1.f2), .int .i64 0, .int .i64 0, .bool false, .bool false, .int .i64 0, .int .i64 0]) ?_ 4 _ rfl; (with_reducible repeat (first | refine blk_drewN ?_ _ | refine blk_drew ?_ | refine blk_alloc ?_ _)); refine blk_put (cs := #[.int .i64 ((rd_T70 l0 x14_1).f0), .int .i64 ((rd_T70 l0 x14_1).f1.f0), .int .i64 ((rd_T70 l0 x14_1).f1.f1), .int .i64 0, .int .i64 0, .int .i64 0, .bool false, .bool false, .int .i64 0, .int .i64 0]) ?_ 3 _ rfl; (with_reducible repeat (first | refine blk_drewN ?_ _ | refine blk_drew ?_ | refine blk_alloc ?_ _)); refine blk_put (cs := #[.int .i64 ((rd_T70 l0 x14_1).f0), .int .i64 ((rd_T70 l0 x14_1).f1.f0), .int .i64 0, .int .i64 0, .int .i64 0, .int .i64 0, .bool false, .bool false, .int .i64 0, .int .i64 0]) ?_ 2 _ rfl; (with_reducible repeat (first | refine blk_drewN ?_ _ | refine blk_drew ?_ | refine blk_alloc ?_ _)); refine blk_put (cs := #[.int .i64 ((rd_T70 l0 x14_1).f0), .int .i64 0, .int .i64 0, .int .i64 0, .int .i64 0, .int .i64 0, .bool false, .bool false, .int .i64 0, .int .i64 0]) ?_ 1 _ rfl; (with_reducible repeat (first | refine blk_drewN ?_ _ | refine blk_drew ?_ | refine blk_alloc ?_ _)); refine blk_put (cs := #[.int .i64 0, .int .i64 0, .int .i64 0, .int .i64 0, .int .i64 0, .int .i64 0, .bool false, .bool false, .int .i64 0, .int .i64 0]) ?_ 0 _ rfl; (with_reducible repeat (first | refine blk_drewN ?_ _ | refine blk_drew ?_ | refine blk_alloc ?_ _)); exact BK189.out) hb); have n1_ := Aside0.mk (below_step (by repeat (first | (with_reducible first | exact HB.out | apply below_alloc | apply pw_below_drewN | apply below_drew1 | refine below_set ?_ GE189.out) | exact HB.out)) hb); clear BK189; clear HB; have BK189 := n0_; have HB := n1_; clear n0_ n1_; (try clear hb)))
       go_ret2
       exact ⟨by first | rfl | (simp [errW_none, errW_some] <;> rfl) | (simp [*, errW_none, errW_some] <;> rfl), by repeat (first | (with_reducible first | exact HB.out | apply below_alloc | apply pw_below_drewN | apply below_drew1 | refine below_set ?_ GE189.out) | exact HB.out)⟩
     ·rw [if_neg c4] at H
      exact absurd H (by simp)
    ·rw [if_neg c3] at H
     exact absurd H (by simp)
   ·rw [if_neg c2] at H
    have c2b0 : decide (x14_1 < (l0.length : Int)) = false := decide_eq_false c2
    clear c2
    have H' := Aside0.mk H
    clear H
    go_wp2
    go_loopg [26] k1 (fun kq v26 w' => ∃ (x26_2 : Int), v26 = .int .i64 x26_2 ∧ Aside0 (unit_Check.l1 kq l0 l0 (l0.length : Int) x26_2 = some (r1, r2)) ∧ Aside0 (kq ≤ k1) ∧ Aside0 (Below w.heap.size w w') ∧ Aside0 (MapAt l0 x26_2 w.heap.size w'))
    case atStart => exact ⟨(0), (by first | rfl | (simp; done) | (simp [*]; done)), H', ⟨Nat.le_refl _⟩, ⟨by repeat (first | (with_reducible first | exact HB.out | apply below_alloc | apply pw_below_drewN | apply below_drew1) | exact HB.out)⟩, ⟨(by first | (with_reducible exact MapAt.made l0 w) | (with_reducible exact HM.out) | (with_reducible exact HM.out.full (of_decide_eq_false (by assumption))))⟩⟩
    case round =>
     clear H'
     try clear p1
     try clear q1
     try clear hx1
     try clear c2
     try clear c2b0
     try clear p2
     try clear c3
     try clear c3b0
     try clear c4
     try clear c4b0
     try clear c6
     try clear p6
     try clear c8
     try clear hcz11_0
     try clear hcz11_1
     try clear hcz11_2
     try clear hcz11_3
     try clear hcz11_4
     try clear hcz11_5
     try clear hcz11_6
     try clear hcz11_7
     try clear hcz11_8
     try clear hcz11_9
     try clear hcz8_0
     try clear hcz8_1
     try clear hcz8_2
     try clear hcz8_3
     try clear hcz8_4
     try clear hcz8_5
     try clear hcz8_6
     try clear hcz8_7
     try clear hcz8_8
     try clear hcz8_9
     try clear hfz11_0
     try clear hfz11_1
     try clear hfz11_2
     try clear hfz11_3
     try clear hfz11_4
     try clear hfz11_5
     try clear hfz11_6
     try clear hfz11_7
     try clear hfz11_8
     try clear hfz11_9
     try clear hfz8_0
     try clear hfz8_1
     try clear hfz8_2
     try clear hfz8_3
     try clear hfz8_4
     try clear hfz8_5
     try clear hfz8_6
     try clear hfz8_7
     try clear hfz8_8
     try clear hfz8_9
     try clear hx188_0
     try clear hx188_1
     try clear hx188_2
     try clear hx188_3
     try clear hx188_4
     try clear hx188_5
     try clear hx188_6
     try clear hx188_7
     try clear hx188_8
     try clear hx188_9
     try clear p188
     try clear q188
     obtain ⟨x26_2, rfl, HA, HK2, HB, HM⟩ := hrel
     cases gk with
     | zero => exact absurd HA.out (by simp [unit_Check.l1])
     | succ k2 =>
      have H := HA.out
      clear HA
      simp only [unit_Check.l1] at H
      by_cases c13 : x26_2 < (l0.length : Int)
      ·rw [if_pos c13] at H
       have c13b0 : decide (x26_2 < (l0.length : Int)) = true := decide_eq_true c13
       clear c13
       by_cases c14 : 0 ≤ x26_2
       ·rw [if_pos c14] at H
        have c14b0 : decide (0 ≤ x26_2) = true := decide_eq_true c14
        clear c14
        by_cases c15 : x26_2 < (l0.length : Int)
        ·rw [if_pos c15] at H
         have c15b0 : decide (x26_2 < (l0.length : Int)) = true := decide_eq_true c15
         clear c15
         by_cases c16 : ((rd_T70 l0 x26_2).f0) = 1
         ·rw [if_pos c16] at H
          have c16b0 : (((rd_T70 l0 x26_2).f0) == 1) = true := beq_iff_eq.mpr c16
          have c16b1 : (((rd_T70 l0 x26_2).f0) != 1) = false := bne_eq_false_iff_eq.mpr c16
          clear c16
          replace H := Option.bind_eq_some_iff.mp H
          obtain ⟨t193, A170, H⟩ := H
          replace H : (if t193 > 0 then (some (x26_2, 5)) else (unit_Check.l1 k2 l0 l0 (l0.length : Int) (wrap64 (x26_2 + 1)))) = some (r1, r2) := H
          have A17 := Aside0.mk A170
          clear A170
          by_cases c18 : t193 > 0
          ·rw [if_pos c18] at H
           have c18b0 : decide (0 < t193) = true := decide_eq_true c18
           clear c18
           simp only [Option.some.injEq, Prod.mk.injEq] at H
           obtain ⟨rfl, rfl⟩ := H
           have p191 : 0 ≤ (x26_2 : Int) := of_decide_eq_true (by first | (with_reducible assumption) | assumption)
           have q191 : x26_2 < (l0.length : Int) := of_decide_eq_true (by first | (with_reducible assumption) | assumption)
           obtain ⟨ad191, e191, hx191_0, hx191_1, hx191_2, hx191_3, hx191_4, hx191_5, hx191_6, hx191_7, hx191_8, hx191_9⟩ := at_T70 HR0.out x26_2 p191 q191
           cases e191
           replace hx191_0 := (HB.out.cell (World.block_lt_of_cell? w _ hx191_0)).trans hx191_0
           replace hx191_1 := (HB.out.cell (World.block_lt_of_cell? w _ hx191_1)).trans hx191_1
           replace hx191_2 := (HB.out.cell (World.block_lt_of_cell? w _ hx191_2)).trans hx191_2
           replace hx191_3 := (HB.out.cell (World.block_lt_of_cell? w _ hx191_3)).trans hx191_3
           replace hx191_4 := (HB.out.cell (World.block_lt_of_cell? w _ hx191_4)).trans hx191_4
           replace hx191_5 := (HB.out.cell (World.block_lt_of_cell? w _ hx191_5)).trans hx191_5
           replace hx191_6 := (HB.out.cell (World.block_lt_of_cell? w _ hx191_6)).trans hx191_6
           replace hx191_7 := (HB.out.cell (World.block_lt_of_cell? w _ hx191_7)).trans hx191_7
           replace hx191_8 := (HB.out.cell (World.block_lt_of_cell? w _ hx191_8)).trans hx191_8
           replace hx191_9 := (HB.out.cell (World.block_lt_of_cell? w _ hx191_9)).trans hx191_9
           replace p191 := eq_true p191
           replace q191 := eq_true q191
           go_wp2_with (first | ((with_reducible refine gate_dst (N := 8) rfl ?_); refine box_event ?hg (N := 8) ?hd (cs := #[.int .i64 0, .int .i64 0, .int .i64 0, .int .i64 0, .int .i64 0, .int .i64 0, .bool false, .bool false, .int .i64 0, .int .i64 0]) (t := 70) ?hr ?_; (case hd => rfl); (case hg => rfl); (case hr => first | (go_simp; done) | (go_simp; rfl)); intro gb192 hg w19 hbox hb; have NEB := Aside0.mk (MapAt.ne HM.out hg); have mz_ := Aside0.mk (MapAt.below HM.out hb); clear HM; have HM := mz_; clear mz_; have n0_ := Aside0.mk (below_step (by repeat (first | (with_reducible first | exact HB.out | apply below_alloc | apply pw_below_drewN | apply below_drew1) | exact HB.out)) hb); have n1_ := Aside0.mk (hbox); have n2_ := Aside0.mk ((by rw [hg]; exact (below_size (by repeat (first | (with_reducible first | exact HB.out | apply below_alloc | apply pw_below_drewN | apply below_drew1) | exact HB.out))) : w.heap.size ≤ gb192)); have n3_ := Aside0.mk ((by rw [hg]; exact (below_size (by repeat (first | (with_reducible first | exact HB.out | apply below_alloc | apply pw_below_drewN | apply below_drew1) | exact HB.out))) : w.heap.size ≤ gb192)); clear HB; have HB := n0_; have BK192 := n1_; have GW192 := n2_; have GE192 := n3_; clear n0_ n1_ n2_ n3_; clear hb hbox hg; have hcz20_0 : w19.cell? ⟨gb192, 0, none⟩ = some (.int .i64 0) := (blk_cell BK192.out 0).trans rfl; have hcz20_1 : w19.cell? ⟨gb192, 1, none⟩ = some (.int .i64 0) := (blk_cell BK192.out 1).trans rfl; have hcz20_2 : w19.cell? ⟨gb192, 2, none⟩ = some (.int .i64 0) := (blk_cell BK192.out 2).trans rfl; have hcz20_3 : w19.cell? ⟨gb192, 3, none⟩ = some (.int .i64 0) := (blk_cell BK192.out 3).trans rfl; have hcz20_4 : w19.cell? ⟨gb192, 4, none⟩ = some (.int .i64 0) := (blk_cell BK192.out 4).trans rfl; have hcz20_5 : w19.cell? ⟨gb192, 5, none⟩ = some (.int .i64 0) := (blk_cell BK192.out 5).trans rfl; have hcz20_6 : w19.cell? ⟨gb192, 6, none⟩ = some (.bool false) := (blk_cell BK192.out 6).trans rfl; have hcz20_7 : w19.cell? ⟨gb192, 7, none⟩ = some (.bool false) := (blk_cell BK192.out 7).trans rfl; have hcz20_8 : w19.cell? ⟨gb192, 8, none⟩ = some (.int .i64 0) := (blk_cell BK192.out 8).trans rfl; have hcz20_9 : w19.cell? ⟨gb192, 9, none⟩ = some (.int .i64 0) := (blk_cell BK192.out 9).trans rfl; have hfz20_0 := blk_frozen BK192.out 0; have hfz20_1 := blk_frozen BK192.out 1; have hfz20_2 := blk_frozen BK192.out 2; have hfz20_3 := blk_frozen BK192.out 3; have hfz20_4 := blk_frozen BK192.out 4; have hfz20_5 := blk_frozen BK192.out 5; have hfz20_6 := blk_frozen BK192.out 6; have hfz20_7 := blk_frozen BK192.out 7; have hfz20_8 := blk_frozen BK192.out 8; have hfz20_9 := blk_frozen BK192.out 9) | ((with_reducible refine gate_dst (N := 37) rfl ?_); refine look_event rfl (g := w.heap.size) (key := ((rd_T70 l0 x26_2).f2)) (c := t193) rfl ?hm ?hx ?hl ?_; (case hl => exact MapAt.look (l := l0) (x := x26_2) (B := w.heap.size) (by with_reducible repeat (first | exact HM.out | refine MapAt.set ?_ (Aside0.out (by assumption)) | refine MapAt.drewN ?_ _ | refine MapAt.drew1 ?_ | refine MapAt.alloc ?_ _)) A17.out); (case hm => first | rfl | (go_simp; done) | (go_simp; rfl)); (case hx => first | rfl | (go_simp; done) | (go_simp; rfl))))
           go_ret2
           exact ⟨by first | rfl | (simp [errW_none, errW_some] <;> rfl) | (simp [*, errW_none, errW_some] <;> rfl), by repeat (first | (with_reducible first | exact HB.out | apply below_alloc | apply pw_below_drewN | apply below_drew1 | refine below_set ?_ GE192.out) | exact HB.out)⟩
          ·rw [if_neg c18] at H
           have c18b0 : decide (0 < t193) = false := decide_eq_false c18
           clear c18
           have H' := Aside0.mk H
           clear H
           have p191 : 0 ≤ (x26_2 : Int) := of_decide_eq_true (by first | (with_reducible assumption) | assumption)
           have q191 : x26_2 < (l0.length : Int) := of_decide_eq_true (by first | (with_reducible assumption) | assumption)
           obtain ⟨ad191, e191, hx191_0, hx191_1, hx191_2, hx191_3, hx191_4, hx191_5, hx191_6, hx191_7, hx191_8, hx191_9⟩ := at_T70 HR0.out x26_2 p191 q191
           cases e191
           replace hx191_0 := (HB.out.cell (World.block_lt_of_cell? w _ hx191_0)).trans hx191_0
           replace hx191_1 := (HB.out.cell (World.block_lt_of_cell? w _ hx191_1)).trans hx191_1
           replace hx191_2 := (HB.out.cell (World.block_lt_of_cell? w _ hx191_2)).trans hx191_2
           replace hx191_3 := (HB.out.cell (World.block_lt_of_cell? w _ hx191_3)).trans hx191_3
           replace hx191_4 := (HB.out.cell (World.block_lt_of_cell? w _ hx191_4)).trans hx191_4
           replace hx191_5 := (HB.out.cell (World.block_lt_of_cell? w _ hx191_5)).trans hx191_5
           replace hx191_6 := (HB.out.cell (World.block_lt_of_cell? w _ hx191_6)).trans hx191_6
           replace hx191_7 := (HB.out.cell (World.block_lt_of_cell? w _ hx191_7)).trans hx191_7
           replace hx191_8 := (HB.out.cell (World.block_lt_of_cell? w _ hx191_8)).trans hx191_8
           replace hx191_9 := (HB.out.cell (World.block_lt_of_cell? w _ hx191_9)).trans hx191_9
           replace p191 := eq_true p191
           replace q191 := eq_true q191
           go_wp2_with (first | ((with_reducible refine gate_dst (N := 8) rfl ?_); refine box_event ?hg (N := 8) ?hd (cs := #[.int .i64 0, .int .i64 0, .int .i64 0, .int .i64 0, .int .i64 0, .int .i64 0, .bool false, .bool false, .int .i64 0, .int .i64 0]) (t := 70) ?hr ?_; (case hd => rfl); (case hg => rfl); (case hr => first | (go_simp; done) | (go_simp; rfl)); intro gb192 hg w21 hbox hb; have NEB := Aside0.mk (MapAt.ne HM.out hg); have mz_ := Aside0.mk (MapAt.below HM.out hb); clear HM; have HM := mz_; clear mz_; have n0_ := Aside0.mk (below_step (by repeat (first | (with_reducible first | exact HB.out | apply below_alloc | apply pw_below_drewN | apply below_drew1) | exact HB.out)) hb); have n1_ := Aside0.mk (hbox); have n2_ := Aside0.mk ((by rw [hg]; exact (below_size (by repeat (first | (with_reducible first | exact HB.out | apply below_alloc | apply pw_below_drewN | apply below_drew1) | exact HB.out))) : w.heap.size ≤ gb192)); have n3_ := Aside0.mk ((by rw [hg]; exact (below_size (by repeat (first | (with_reducible first | exact HB.out | apply below_alloc | apply pw_below_drewN | apply below_drew1) | exact HB.out))) : w.heap.size ≤ gb192)); clear HB; have HB := n0_; have BK192 := n1_; have GW192 := n2_; have GE192 := n3_; clear n0_ n1_ n2_ n3_; clear hb hbox hg; have hcz22_0 : w21.cell? ⟨gb192, 0, none⟩ = some (.int .i64 0) := (blk_cell BK192.out 0).trans rfl; have hcz22_1 : w21.cell? ⟨gb192, 1, none⟩ = some (.int .i64 0) := (blk_cell BK192.out 1).trans rfl; have hcz22_2 : w21.cell? ⟨gb192, 2, none⟩ = some (.int .i64 0) := (blk_cell BK192.out 2).trans rfl; have hcz22_3 : w21.cell? ⟨gb192, 3, none⟩ = some (.int .i64 0) := (blk_cell BK192.out 3).trans rfl; have hcz22_4 : w21.cell? ⟨gb192, 4, none⟩ = some (.int .i64 0) := (blk_cell BK192.out 4).trans rfl; have hcz22_5 : w21.cell? ⟨gb192, 5, none⟩ = some (.int .i64 0) := (blk_cell BK192.out 5).trans rfl; have hcz22_6 : w21.cell? ⟨gb192, 6, none⟩ = some (.bool false) := (blk_cell BK192.out 6).trans rfl; have hcz22_7 : w21.cell? ⟨gb192, 7, none⟩ = some (.bool false) := (blk_cell BK192.out 7).trans rfl; have hcz22_8 : w21.cell? ⟨gb192, 8, none⟩ = some (.int .i64 0) := (blk_cell BK192.out 8).trans rfl; have hcz22_9 : w21.cell? ⟨gb192, 9, none⟩ = some (.int .i64 0) := (blk_cell BK192.out 9).trans rfl; have hfz22_0 := blk_frozen BK192.out 0; have hfz22_1 := blk_frozen BK192.out 1; have hfz22_2 := blk_frozen BK192.out 2; have hfz22_3 := blk_frozen BK192.out 3; have hfz22_4 := blk_frozen BK192.out 4; have hfz22_5 := blk_frozen BK192.out 5; have hfz22_6 := blk_frozen BK192.out 6; have hfz22_7 := blk_frozen BK192.out 7; have hfz22_8 := blk_frozen BK192.out 8; have hfz22_9 := blk_frozen BK192.out 9) | ((with_reducible refine gate_dst (N := 37) rfl ?_); refine look_event rfl (g := w.heap.size) (key := ((rd_T70 l0 x26_2).f2)) (c := t193) rfl ?hm ?hx ?hl ?_; (case hl => exact MapAt.look (l := l0) (x := x26_2) (B := w.heap.size) (by with_reducible repeat (first | exact HM.out | refine MapAt.set ?_ (Aside0.out (by assumption)) | refine MapAt.drewN ?_ _ | refine MapAt.drew1 ?_ | refine MapAt.alloc ?_ _)) A17.out); (case hm => first | rfl | (go_simp; done) | (go_simp; rfl)); (case hx => first | rfl | (go_simp; done) | (go_simp; rfl))) | (at_mapUpdate; refine put_map rfl rfl (l := l0) (x := x26_2) (B := w.heap.size) ?hm ?hx ?hv ?hM (by assumption) (by assumption) (by assumption) HR0.out A17.out ?_; (case hM => exact (by with_reducible repeat (first | exact HM.out | refine MapAt.set ?_ (Aside0.out (by assumption)) | refine MapAt.drewN ?_ _ | refine MapAt.drew1 ?_ | refine MapAt.alloc ?_ _))); (case hm => first | rfl | (go_simp; done) | (go_simp; rfl)); (case hx => first | rfl | (go_simp; done) | (go_simp; rfl)); (case hv => first | rfl | (go_simp; done) | (go_simp; rfl)); intro wu hmu hgu; have n0_ := Aside0.mk (pw_below_grown (by repeat (first | (with_reducible first | exact HB.out | apply below_alloc | apply pw_below_drewN | apply below_drew1 | refine below_set ?_ GE192.out) | exact HB.out)) (some _) (below_size (by repeat (first | (with_reducible first | exact HB.out | apply below_alloc | apply pw_below_drewN | apply below_drew1 | refine below_set ?_ GE192.out) | exact HB.out))) hgu (fun k hk => by cases hk; exact Nat.le_refl _)); clear HB; have HB := n0_; clear n0_; clear HM; have HM := Aside0.mk hmu; clear hmu hgu))
           go_roundg k2
           case measure => have := HK1.out; have := HK2.out; omega
           case rel => exact ⟨(wrap64 (x26_2 + 1)), (by first | rfl | (simp; done) | (simp [*]; done)), H', ⟨by have := HK1.out; have := HK2.out; omega⟩, ⟨by repeat (first | (with_reducible first | exact HB.out | apply below_alloc | apply pw_below_drewN | apply below_drew1 | refine below_set ?_ GE192.out) | exact HB.out)⟩, ⟨(by first | ((with_reducible repeat (first | exact HM.out | refine MapAt.set ?_ (Aside0.out (by assumption)) | refine MapAt.drewN ?_ _ | refine MapAt.drew1 ?_ | refine MapAt.alloc ?_ _)); done) | (rw [wrap_next HR0.out (by assumption) (by assumption)]; first | ((with_reducible repeat (first | exact HM.out | refine MapAt.set ?_ (Aside0.out (by assumption)) | refine MapAt.drewN ?_ _ | refine MapAt.drew1 ?_ | refine MapAt.alloc ?_ _)); done) | (refine MapAt.next ?_ (by assumption) (by assumption) (by assumption); exact (by with_reducible repeat (first | exact HM.out | refine MapAt.set ?_ (Aside0.out (by assumption)) | refine MapAt.drewN ?_ _ | refine MapAt.drew1 ?_ | refine MapAt.alloc ?_ _)))))⟩⟩
         ·rw [if_neg c16] at H
          have c16b0 : (((rd_T70 l0 x26_2).f0) == 1) = false := beq_eq_false_iff_ne.mpr c16
          have c16b1 : (((rd_T70 l0 x26_2).f0) != 1) = true := bne_iff_ne.mpr c16
          have H' := Aside0.mk H
          clear H
          have p191 : 0 ≤ (x26_2 : Int) := of_decide_eq_true (by first | (with_reducible assumption) | assumption)
          have q191 : x26_2 < (l0.length : Int) := of_decide_eq_true (by first | (with_reducible assumption) | assumption)
          obtain ⟨ad191, e191, hx191_0, hx191_1, hx191_2, hx191_3, hx191_4, hx191_5, hx191_6, hx191_7, hx191_8, hx191_9⟩ := at_T70 HR0.out x26_2 p191 q191
          cases e191
          replace hx191_0 := (HB.out.cell (World.block_lt_of_cell? w _ hx191_0)).trans hx191_0
          replace hx191_1 := (HB.out.cell (World.block_lt_of_cell? w _ hx191_1)).trans hx191_1
          replace hx191_2 := (HB.out.cell (World.block_lt_of_cell? w _ hx191_2)).trans hx191_2
          replace hx191_3 := (HB.out.cell (World.block_lt_of_cell? w _ hx191_3)).trans hx191_3
          replace hx191_4 := (HB.out.cell (World.block_lt_of_cell? w _ hx191_4)).trans hx191_4
          replace hx191_5 := (HB.out.cell (World.block_lt_of_cell? w _ hx191_5)).trans hx191_5
          replace hx191_6 := (HB.out.cell (World.block_lt_of_cell? w _ hx191_6)).trans hx191_6
          replace hx191_7 := (HB.out.cell (World.block_lt_of_cell? w _ hx191_7)).trans hx191_7
          replace hx191_8 := (HB.out.cell (World.block_lt_of_cell? w _ hx191_8)).trans hx191_8
          replace hx191_9 := (HB.out.cell (World.block_lt_of_cell? w _ hx191_9)).trans hx191_9
          replace p191 := eq_true p191
          replace q191 := eq_true q191
          go_wp2_with (first | ((with_reducible refine gate_dst (N := 8) rfl ?_); refine box_event ?hg (N := 8) ?hd (cs := #[.int .i64 0, .int .i64 0, .int .i64 0, .int .i64 0, .int .i64 0, .int .i64 0, .bool false, .bool false, .int .i64 0, .int .i64 0]) (t := 70) ?hr ?_; (case hd => rfl); (case hg => rfl); (case hr => first | (go_simp; done) | (go_simp; rfl)); intro gb192 hg w23 hbox hb; have NEB := Aside0.mk (MapAt.ne HM.out hg); have mz_ := Aside0.mk (MapAt.below HM.out hb); clear HM; have HM := mz_; clear mz_; have n0_ := Aside0.mk (below_step (by repeat (first | (with_reducible first | exact HB.out | apply below_alloc | apply pw_below_drewN | apply below_drew1) | exact HB.out)) hb); have n1_ := Aside0.mk (hbox); have n2_ := Aside0.mk ((by rw [hg]; exact (below_size (by repeat (first | (with_reducible first | exact HB.out | apply below_alloc | apply pw_below_drewN | apply below_drew1) | exact HB.out))) : w.heap.size ≤ gb192)); have n3_ := Aside0.mk ((by rw [hg]; exact (below_size (by repeat (first | (with_reducible first | exact HB.out | apply below_alloc | apply pw_below_drewN | apply below_drew1) | exact HB.out))) : w.heap.size ≤ gb192)); clear HB; have HB := n0_; have BK192 := n1_; have GW192 := n2_; have GE192 := n3_; clear n0_ n1_ n2_ n3_; clear hb hbox hg; have hcz24_0 : w23.cell? ⟨gb192, 0, none⟩ = some (.int .i64 0) := (blk_cell BK192.out 0).trans rfl; have hcz24_1 : w23.cell? ⟨gb192, 1, none⟩ = some (.int .i64 0) := (blk_cell BK192.out 1).trans rfl; have hcz24_2 : w23.cell? ⟨gb192, 2, none⟩ = some (.int .i64 0) := (blk_cell BK192.out 2).trans rfl; have hcz24_3 : w23.cell? ⟨gb192, 3, none⟩ = some (.int .i64 0) := (blk_cell BK192.out 3).trans rfl; have hcz24_4 : w23.cell? ⟨gb192, 4, none⟩ = some (.int .i64 0) := (blk_cell BK192.out 4).trans rfl; have hcz24_5 : w23.cell? ⟨gb192, 5, none⟩ = some (.int .i64 0) := (blk_cell BK192.out 5).trans rfl; have hcz24_6 : w23.cell? ⟨gb192, 6, none⟩ = some (.bool false) := (blk_cell BK192.out 6).trans rfl; have hcz24_7 : w23.cell? ⟨gb192, 7, none⟩ = some (.bool false) := (blk_cell BK192.out 7).trans rfl; have hcz24_8 : w23.cell? ⟨gb192, 8, none⟩ = some (.int .i64 0) := (blk_cell BK192.out 8).trans rfl; have hcz24_9 : w23.cell? ⟨gb192, 9, none⟩ = some (.int .i64 0) := (blk_cell BK192.out 9).trans rfl; have hfz24_0 := blk_frozen BK192.out 0; have hfz24_1 := blk_frozen BK192.out 1; have hfz24_2 := blk_frozen BK192.out 2; have hfz24_3 := blk_frozen BK192.out 3; have hfz24_4 := blk_frozen BK192.out 4; have hfz24_5 := blk_frozen BK192.out 5; have hfz24_6 := blk_frozen BK192.out 6; have hfz24_7 := blk_frozen BK192.out 7; have hfz24_8 := blk_frozen BK192.out 8; have hfz24_9 := blk_frozen BK192.out 9))
          go_roundg k2
          case measure => have := HK1.out; have := HK2.out; omega
          case rel => exact ⟨(wrap64 (x26_2 + 1)), (by first | rfl | (simp; done) | (simp [*]; done)), H', ⟨by have := HK1.out; have := HK2.out; omega⟩, ⟨by repeat (first | (with_reducible first | exact HB.out | apply below_alloc | apply pw_below_drewN | apply below_drew1 | refine below_set ?_ GE192.out) | exact HB.out)⟩, ⟨(by first | ((with_reducible repeat (first | exact HM.out | refine MapAt.set ?_ (Aside0.out (by assumption)) | refine MapAt.drewN ?_ _ | refine MapAt.drew1 ?_ | refine MapAt.alloc ?_ _)); done) | (rw [wrap_next HR0.out (by assumption) (by assumption)]; first | ((with_reducible repeat (first | exact HM.out | refine MapAt.set ?_ (Aside0.out (by assumption)) | refine MapAt.drewN ?_ _ | refine MapAt.drew1 ?_ | refine MapAt.alloc ?_ _)); done) | (refine MapAt.next ?_ (by assumption) (by assumption) (by assumption); exact (by with_reducible repeat (first | exact HM.out | refine MapAt.set ?_ (Aside0.out (by assumption)) | refine MapAt.drewN ?_ _ | refine MapAt.drew1 ?_ | refine MapAt.alloc ?_ _)))))⟩⟩
        ·rw [if_neg c15] at H
         exact absurd H (by simp)
       ·rw [if_neg c14] at H
        exact absurd H (by simp)
      ·rw [if_neg c13] at H
       have c13b0 : decide (x26_2 < (l0.length : Int)) = false := decide_eq_false c13
       clear c13
       have H' := Aside0.mk H
       clear H
       go_wp2
       go_loopg [46] k2 (fun kq v46 w' => ∃ (x46_3 : Int), v46 = .int .i64 x46_3 ∧ Aside0 (unit_Check.l2 kq l0 (l0.length : Int) x46_3 = some (r1, r2)) ∧ Aside0 (kq ≤ k2) ∧ Aside0 (Below w.heap.size w w') ∧ Aside0 (MapAt l0 (l0.length : Int) w.heap.size w'))
       case atStart => exact ⟨(0), (by first | rfl | (simp; done) | (simp [*]; done)), H', ⟨Nat.le_refl _⟩, ⟨by repeat (first | (with_reducible first | exact HB.out | apply below_alloc | apply pw_below_drewN | apply below_drew1) | exact HB.out)⟩, ⟨(by first | (with_reducible exact MapAt.made l0 w) | (with_reducible exact HM.out) | (with_reducible exact HM.out.full (of_decide_eq_false (by assumption))))⟩⟩
       case round =>
        clear H'
        try clear c1
        try clear p1
        try clear q1
        try clear hx1
        try clear c2
        try clear c2b0
        try clear p2
        try clear c3
        try clear c3b0
        try clear c4
        try clear c4b0
        try clear c6
        try clear p6
        try clear c8
        try clear c13
        try clear c13b0
        try clear c14
        try clear c14b0
        try clear c15
        try clear c15b0
        try clear c16
        try clear c16b0
        try clear c16b1
        try clear c18
        try clear c18b0
        try clear p18
        try clear q18
        try clear hx18
        try clear p19
        try clear q19
        try clear hx19
        try clear hcz11_0
        try clear hcz11_1
        try clear hcz11_2
        try clear hcz11_3
        try clear hcz11_4
        try clear hcz11_5
        try clear hcz11_6
        try clear hcz11_7
        try clear hcz11_8
        try clear hcz11_9
        try clear hcz20_0
        try clear hcz20_1
        try clear hcz20_2
        try clear hcz20_3
        try clear hcz20_4
        try clear hcz20_5
        try clear hcz20_6
        try clear hcz20_7
        try clear hcz20_8
        try clear hcz20_9
        try clear hcz22_0
        try clear hcz22_1
        try clear hcz22_2
        try clear hcz22_3
        try clear hcz22_4
        try clear hcz22_5
        try clear hcz22_6
        try clear hcz22_7
        try clear hcz22_8
        try clear hcz22_9
        try clear hcz24_0
        try clear hcz24_1
        try clear hcz24_2
        try clear hcz24_3
        try clear hcz24_4
        try clear hcz24_5
        try clear hcz24_6
        try clear hcz24_7
        try clear hcz24_8
        try clear hcz24_9
        try clear hcz8_0
        try clear hcz8_1
        try clear hcz8_2
        try clear hcz8_3
        try clear hcz8_4
        try clear hcz8_5
        try clear hcz8_6
        try clear hcz8_7
        try clear hcz8_8
        try clear hcz8_9
        try clear hfz11_0
        try clear hfz11_1
        try clear hfz11_2
        try clear hfz11_3
        try clear hfz11_4
        try clear hfz11_5
        try clear hfz11_6
        try clear hfz11_7
        try clear hfz11_8
        try clear hfz11_9
        try clear hfz20_0
        try clear hfz20_1
        try clear hfz20_2
        try clear hfz20_3
        try clear hfz20_4
        try clear hfz20_5
        try clear hfz20_6
        try clear hfz20_7
        try clear hfz20_8
        try clear hfz20_9
        try clear hfz22_0
        try clear hfz22_1
        try clear hfz22_2
        try clear hfz22_3
        try clear hfz22_4
        try clear hfz22_5
        try clear hfz22_6
        try clear hfz22_7
        try clear hfz22_8
        try clear hfz22_9
        try clear hfz24_0
        try clear hfz24_1
        try clear hfz24_2
        try clear hfz24_3
        try clear hfz24_4
        try clear hfz24_5
        try clear hfz24_6
        try clear hfz24_7
        try clear hfz24_8
        try clear hfz24_9
        try clear hfz8_0
        try clear hfz8_1
        try clear hfz8_2
        try clear hfz8_3
        try clear hfz8_4
        try clear hfz8_5
        try clear hfz8_6
        try clear hfz8_7
        try clear hfz8_8
        try clear hfz8_9
        try clear hx188_0
        try clear hx188_1
        try clear hx188_2
        try clear hx188_3
        try clear hx188_4
        try clear hx188_5
        try clear hx188_6
        try clear hx188_7
        try clear hx188_8
        try clear hx188_9
        try clear hx191_0
        try clear hx191_1
        try clear hx191_2
        try clear hx191_3
        try clear hx191_4
        try clear hx191_5
        try clear hx191_6
        try clear hx191_7
        try clear hx191_8
        try clear hx191_9
        try clear p1
        try clear p188
        try clear p191
        try clear p2
        try clear p6
        try clear q1
        try clear q188
        try clear q191
        obtain ⟨x46_3, rfl, HA, HK3, HB, HM⟩ := hrel
        cases gk with
        | zero => exact absurd HA.out (by simp [unit_Check.l2])
        | succ k3 =>
         have H := HA.out
         clear HA
         simp only [unit_Check.l2] at H
         by_cases c25 : x46_3 < (l0.length : Int)
         ·rw [if_pos c25] at H
          have c25b0 : decide (x46_3 < (l0.length : Int)) = true := decide_eq_true c25
          clear c25
          by_cases c26 : 0 ≤ x46_3
          ·rw [if_pos c26] at H
           have c26b0 : decide (0 ≤ x46_3) = true := decide_eq_true c26
           clear c26
           by_cases c27 : x46_3 < (l0.length : Int)
           ·rw [if_pos c27] at H
            have c27b0 : decide (x46_3 < (l0.length : Int)) = true := decide_eq_true c27
            clear c27
            by_cases c28 : ((rd_T70 l0 x46_3).f0) = 2
            ·rw [if_pos c28] at H
             have c28b0 : (((rd_T70 l0 x46_3).f0) == 2) = true := beq_iff_eq.mpr c28
             have c28b1 : (((rd_T70 l0 x46_3).f0) != 2) = false := bne_eq_false_iff_eq.mpr c28
             clear c28
             replace H := Option.bind_eq_some_iff.mp H
             obtain ⟨t196, A290, H⟩ := H
             replace H : (if t196 = 0 then (some (x46_3, 4)) else (unit_Check.l2 k3 l0 (l0.length : Int) (wrap64 (x46_3 + 1)))) = some (r1, r2) := H
             have A29 := Aside0.mk A290
             clear A290
             by_cases c30 : t196 = 0
             ·rw [if_pos c30] at H
              have c30b0 : (t196 == 0) = true := beq_iff_eq.mpr c30
              have c30b1 : (t196 != 0) = false := bne_eq_false_iff_eq.mpr c30
              clear c30
              simp only [Option.some.injEq, Prod.mk.injEq] at H
              obtain ⟨rfl, rfl⟩ := H
              have p194 : 0 ≤ (x46_3 : Int) := of_decide_eq_true (by first | (with_reducible assumption) | assumption)
              have q194 : x46_3 < (l0.length : Int) := of_decide_eq_true (by first | (with_reducible assumption) | assumption)
              obtain ⟨ad194, e194, hx194_0, hx194_1, hx194_2, hx194_3, hx194_4, hx194_5, hx194_6, hx194_7, hx194_8, hx194_9⟩ := at_T70 HR0.out x46_3 p194 q194
              cases e194
              replace hx194_0 := (HB.out.cell (World.block_lt_of_cell? w _ hx194_0)).trans hx194_0
              replace hx194_1 := (HB.out.cell (World.block_lt_of_cell? w _ hx194_1)).trans hx194_1
              replace hx194_2 := (HB.out.cell (World.block_lt_of_cell? w _ hx194_2)).trans hx194_2
              replace hx194_3 := (HB.out.cell (World.block_lt_of_cell? w _ hx194_3)).trans hx194_3
              replace hx194_4 := (HB.out.cell (World.block_lt_of_cell? w _ hx194_4)).trans hx194_4
              replace hx194_5 := (HB.out.cell (World.block_lt_of_cell? w _ hx194_5)).trans hx194_5
              replace hx194_6 := (HB.out.cell (World.block_lt_of_cell? w _ hx194_6)).trans hx194_6
              replace hx194_7 := (HB.out.cell (World.block_lt_of_cell? w _ hx194_7)).trans hx194_7
              replace hx194_8 := (HB.out.cell (World.block_lt_of_cell? w _ hx194_8)).trans hx194_8
              replace hx194_9 := (HB.out.cell (World.block_lt_of_cell? w _ hx194_9)).trans hx194_9
              replace p194 := eq_true p194
              replace q194 := eq_true q194
              go_wp2_with (first | ((with_reducible refine gate_dst (N := 10) rfl ?_); refine box_event ?hg (N := 10) ?hd (cs := #[.int .i64 0, .int .i64 0, .int .i64 0, .int .i64 0, .int .i64 0, .int .i64 0, .bool false, .bool false, .int .i64 0, .int .i64 0]) (t := 70) ?hr ?_; (case hd => rfl); (case hg => rfl); (case hr => first | (go_simp; done) | (go_simp; rfl)); intro gb195 hg w31 hbox hb; have NEB := Aside0.mk (MapAt.ne HM.out hg); have mz_ := Aside0.mk (MapAt.below HM.out hb); clear HM; have HM := mz_; clear mz_; have n0_ := Aside0.mk (below_step (by repeat (first | (with_reducible first | exact HB.out | apply below_alloc | apply pw_below_drewN | apply below_drew1) | exact HB.out)) hb); have n1_ := Aside0.mk (hbox); have n2_ := Aside0.mk ((by rw [hg]; exact (below_size (by repeat (first | (with_reducible first | exact HB.out | apply below_alloc | apply pw_below_drewN | apply below_drew1) | exact HB.out))) : w.heap.size ≤ gb195)); have n3_ := Aside0.mk ((by rw [hg]; exact (below_size (by repeat (first | (with_reducible first | exact HB.out | apply below_alloc | apply pw_below_drewN | apply below_drew1) | exact HB.out))) : w.heap.size ≤ gb195)); clear HB; have HB := n0_; have BK195 := n1_; have GW195 := n2_; have GE195 := n3_; clear n0_ n1_ n2_ n3_; clear hb hbox hg; have hcz32_0 : w31.cell? ⟨gb195, 0, none⟩ = some (.int .i64 0) := (blk_cell BK195.out 0).trans rfl; have hcz32_1 : w31.cell? ⟨gb195, 1, none⟩ = some (.int .i64 0) := (blk_cell BK195.out 1).trans rfl; have hcz32_2 : w31.cell? ⟨gb195, 2, none⟩ = some (.int .i64 0) := (blk_cell BK195.out 2).trans rfl; have hcz32_3 : w31.cell? ⟨gb195, 3, none⟩ = some (.int .i64 0) := (blk_cell BK195.out 3).trans rfl; have hcz32_4 : w31.cell? ⟨gb195, 4, none⟩ = some (.int .i64 0) := (blk_cell BK195.out 4).trans rfl; have hcz32_5 : w31.cell? ⟨gb195, 5, none⟩ = some (.int .i64 0) := (blk_cell BK195.out 5).trans rfl; have hcz32_6 : w31.cell? ⟨gb195, 6, none⟩ = some (.bool false) := (blk_cell BK195.out 6).trans rfl; have hcz32_7 : w31.cell? ⟨gb195, 7, none⟩ = some (.bool false) := (blk_cell BK195.out 7).trans rfl; have hcz32_8 : w31.cell? ⟨gb195, 8, none⟩ = some (.int .i64 0) := (blk_cell BK195.out 8).trans rfl; have hcz32_9 : w31.cell? ⟨gb195, 9, none⟩ = some (.int .i64 0) := (blk_cell BK195.out 9).trans rfl; have hfz32_0 := blk_frozen BK195.out 0; have hfz32_1 := blk_frozen BK195.out 1; have hfz32_2 := blk_frozen BK195.out 2; have hfz32_3 := blk_frozen BK195.out 3; have hfz32_4 := blk_frozen BK195.out 4; have hfz32_5 := blk_frozen BK195.out 5; have hfz32_6 := blk_frozen BK195.out 6; have hfz32_7 := blk_frozen BK195.out 7; have hfz32_8 := blk_frozen BK195.out 8; have hfz32_9 := blk_frozen BK195.out 9; have hlk := MapAt.look (l := l0) (x := (l0.length : Int)) (B := w.heap.size) (w := (World.setCell (World.setCell (World.setCell (World.setCell (World.setCell (World.setCell (World.setCell (World.setCell (World.setCell (World.setCell w31 ⟨gb195, 0, none⟩ (.int .i64 ((rd_T70 l0 x46_3).f0))) ⟨gb195, 1, none⟩ (.int .i64 ((rd_T70 l0 x46_3).f1.f0))) ⟨gb195, 2, none⟩ (.int .i64 ((rd_T70 l0 x46_3).f1.f1))) ⟨gb195, 3, none⟩ (.int .i64 ((rd_T70 l0 x46_3).f1.f2))) ⟨gb195, 4, none⟩ (.int .i64 ((rd_T70 l0 x46_3).f1.f3))) ⟨gb195, 5, none⟩ (.int .i64 ((rd_T70 l0 x46_3).f1.f4))) ⟨gb195, 6, none⟩ (.bool ((rd_T70 l0 x46_3).f1.f5))) ⟨gb195, 7, none⟩ (.bool ((rd_T70 l0 x46_3).f1.f6))) ⟨gb195, 8, none⟩ (.int .i64 ((rd_T70 l0 x46_3).f2))) ⟨gb195, 9, none⟩ (.int .i64 ((rd_T70 l0 x46_3).f3)))) (by with_reducible repeat (first | exact HM.out | refine MapAt.set ?_ (Aside0.out (by assumption)) | refine MapAt.drewN ?_ _ | refine MapAt.drew1 ?_ | refine MapAt.alloc ?_ _)) A29.out))
              go_ret2
              exact ⟨by first | rfl | (simp [errW_none, errW_some] <;> rfl) | (simp [*, errW_none, errW_some] <;> rfl), by repeat (first | (with_reducible first | exact HB.out | apply below_alloc | apply pw_below_drewN | apply below_drew1 | refine below_set ?_ GE195.out) | exact HB.out)⟩
             ·rw [if_neg c30] at H
              have c30b0 : (t196 == 0) = false := beq_eq_false_iff_ne.mpr c30
              have c30b1 : (t196 != 0) = true := bne_iff_ne.mpr c30
              have H' := Aside0.mk H
              clear H
              have p194 : 0 ≤ (x46_3 : Int) := of_decide_eq_true (by first | (with_reducible assumption) | assumption)
              have q194 : x46_3 < (l0.length : Int) := of_decide_eq_true (by first | (with_reducible assumption) | assumption)
              obtain ⟨ad194, e194, hx194_0, hx194_1, hx194_2, hx194_3, hx194_4, hx194_5, hx194_6, hx194_7, hx194_8, hx194_9⟩ := at_T70 HR0.out x46_3 p194 q194
              cases e194
              replace hx194_0 := (HB.out.cell (World.block_lt_of_cell? w _ hx194_0)).trans hx194_0
              replace hx194_1 := (HB.out.cell (World.block_lt_of_cell? w _ hx194_1)).trans hx194_1
              replace hx194_2 := (HB.out.cell (World.block_lt_of_cell? w _ hx194_2)).trans hx194_2
              replace hx194_3 := (HB.out.cell (World.block_lt_of_cell? w _ hx194_3)).trans hx194_3
              replace hx194_4 := (HB.out.cell (World.block_lt_of_cell? w _ hx194_4)).trans hx194_4
              replace hx194_5 := (HB.out.cell (World.block_lt_of_cell? w _ hx194_5)).trans hx194_5
              replace hx194_6 := (HB.out.cell (World.block_lt_of_cell? w _ hx194_6)).trans hx194_6
              replace hx194_7 := (HB.out.cell (World.block_lt_of_cell? w _ hx194_7)).trans hx194_7
              replace hx194_8 := (HB.out.cell (World.block_lt_of_cell? w _ hx194_8)).trans hx194_8
              replace hx194_9 := (HB.out.cell (World.block_lt_of_cell? w _ hx194_9)).trans hx194_9
              replace p194 := eq_true p194
              replace q194 := eq_true q194
              go_wp2_with (first | ((with_reducible refine gate_dst (N := 10) rfl ?_); refine box_event ?hg (N := 10) ?hd (cs := #[.int .i64 0, .int .i64 0, .int .i64 0, .int .i64 0, .int .i64 0, .int .i64 0, .bool false, .bool false, .int .i64 0, .int .i64 0]) (t := 70) ?hr ?_; (case hd => rfl); (case hg => rfl); (case hr => first | (go_simp; done) | (go_simp; rfl)); intro gb195 hg w33 hbox hb; have NEB := Aside0.mk (MapAt.ne HM.out hg); have mz_ := Aside0.mk (MapAt.below HM.out hb); clear HM; have HM := mz_; clear mz_; have n0_ := Aside0.mk (below_step (by repeat (first | (with_reducible first | exact HB.out | apply below_alloc | apply pw_below_drewN | apply below_drew1) | exact HB.out)) hb); have n1_ := Aside0.mk (hbox); have n2_ := Aside0.mk ((by rw [hg]; exact (below_size (by repeat (first | (with_reducible first | exact HB.out | apply below_alloc | apply pw_below_drewN | apply below_drew1) | exact HB.out))) : w.heap.size ≤ gb195)); have n3_ := Aside0.mk ((by rw [hg]; exact (below_size (by repeat (first | (with_reducible first | exact HB.out | apply below_alloc | apply pw_below_drewN | apply below_drew1) | exact HB.out))) : w.heap.size ≤ gb195)); clear HB; have HB := n0_; have BK195 := n1_; have GW195 := n2_; have GE195 := n3_; clear n0_ n1_ n2_ n3_; clear hb hbox hg; have hcz34_0 : w33.cell? ⟨gb195, 0, none⟩ = some (.int .i64 0) := (blk_cell BK195.out 0).trans rfl; have hcz34_1 : w33.cell? ⟨gb195, 1, none⟩ = some (.int .i64 0) := (blk_cell BK195.out 1).trans rfl; have hcz34_2 : w33.cell? ⟨gb195, 2, none⟩ = some (.int .i64 0) := (blk_cell BK195.out 2).trans rfl; have hcz34_3 : w33.cell? ⟨gb195, 3, none⟩ = some (.int .i64 0) := (blk_cell BK195.out 3).trans rfl; have hcz34_4 : w33.cell? ⟨gb195, 4, none⟩ = some (.int .i64 0) := (blk_cell BK195.out 4).trans rfl; have hcz34_5 : w33.cell? ⟨gb195, 5, none⟩ = some (.int .i64 0) := (blk_cell BK195.out 5).trans rfl; have hcz34_6 : w33.cell? ⟨gb195, 6, none⟩ = some (.bool false) := (blk_cell BK195.out 6).trans rfl; have hcz34_7 : w33.cell? ⟨gb195, 7, none⟩ = some (.bool false) := (blk_cell BK195.out 7).trans rfl; have hcz34_8 : w33.cell? ⟨gb195, 8, none⟩ = some (.int .i64 0) := (blk_cell BK195.out 8).trans rfl; have hcz34_9 : w33.cell? ⟨gb195, 9, none⟩ = some (.int .i64 0) := (blk_cell BK195.out 9).trans rfl; have hfz34_0 := blk_frozen BK195.out 0; have hfz34_1 := blk_frozen BK195.out 1; have hfz34_2 := blk_frozen BK195.out 2; have hfz34_3 := blk_frozen BK195.out 3; have hfz34_4 := blk_frozen BK195.out 4; have hfz34_5 := blk_frozen BK195.out 5; have hfz34_6 := blk_frozen BK195.out 6; have hfz34_7 := blk_frozen BK195.out 7; have hfz34_8 := blk_frozen BK195.out 8; have hfz34_9 := blk_frozen BK195.out 9; have hlk := MapAt.look (l := l0) (x := (l0.length : Int)) (B := w.heap.size) (w := (World.setCell (World.setCell (World.setCell (World.setCell (World.setCell (World.setCell (World.setCell (World.setCell (World.setCell (World.setCell w33 ⟨gb195, 0, none⟩ (.int .i64 ((rd_T70 l0 x46_3).f0))) ⟨gb195, 1, none⟩ (.int .i64 ((rd_T70 l0 x46_3).f1.f0))) ⟨gb195, 2, none⟩ (.int .i64 ((rd_T70 l0 x46_3).f1.f1))) ⟨gb195, 3, none⟩ (.int .i64 ((rd_T70 l0 x46_3).f1.f2))) ⟨gb195, 4, none⟩ (.int .i64 ((rd_T70 l0 x46_3).f1.f3))) ⟨gb195, 5, none⟩ (.int .i64 ((rd_T70 l0 x46_3).f1.f4))) ⟨gb195, 6, none⟩ (.bool ((rd_T70 l0 x46_3).f1.f5))) ⟨gb195, 7, none⟩ (.bool ((rd_T70 l0 x46_3).f1.f6))) ⟨gb195, 8, none⟩ (.int .i64 ((rd_T70 l0 x46_3).f2))) ⟨gb195, 9, none⟩ (.int .i64 ((rd_T70 l0 x46_3).f3)))) (by with_reducible repeat (first | exact HM.out | refine MapAt.set ?_ (Aside0.out (by assumption)) | refine MapAt.drewN ?_ _ | refine MapAt.drew1 ?_ | refine MapAt.alloc ?_ _)) A29.out))
              go_roundg k3
              case measure => have := HK1.out; have := HK2.out; have := HK3.out; omega
              case rel => exact ⟨(wrap64 (x46_3 + 1)), (by first | rfl | (simp; done) | (simp [*]; done)), H', ⟨by have := HK1.out; have := HK2.out; have := HK3.out; omega⟩, ⟨by repeat (first | (with_reducible first | exact HB.out | apply below_alloc | apply pw_below_drewN | apply below_drew1 | refine below_set ?_ GE195.out) | exact HB.out)⟩, ⟨(by first | ((with_reducible repeat (first | exact HM.out | refine MapAt.set ?_ (Aside0.out (by assumption)) | refine MapAt.drewN ?_ _ | refine MapAt.drew1 ?_ | refine MapAt.alloc ?_ _)); done) | (rw [wrap_next HR0.out (by assumption) (by assumption)]; first | ((with_reducible repeat (first | exact HM.out | refine MapAt.set ?_ (Aside0.out (by assumption)) | refine MapAt.drewN ?_ _ | refine MapAt.drew1 ?_ | refine MapAt.alloc ?_ _)); done) | (refine MapAt.next ?_ (by assumption) (by assumption) (by assumption); exact (by with_reducible repeat (first | exact HM.out | refine MapAt.set ?_ (Aside0.out (by assumption)) | refine MapAt.drewN ?_ _ | refine MapAt.drew1 ?_ | refine MapAt.alloc ?_ _)))))⟩⟩
            ·rw [if_neg c28] at H
             have c28b0 : (((rd_T70 l0 x46_3).f0) == 2) = false := beq_eq_false_iff_ne.mpr c28
             have c28b1 : (((rd_T70 l0 x46_3).f0) != 2) = true := bne_iff_ne.mpr c28
             by_cases c35 : ((rd_T70 l0 x46_3).f0) = 3
             ·rw [if_pos c35] at H
              have c35b0 : (((rd_T70 l0 x46_3).f0) == 3) = true := beq_iff_eq.mpr c35
              have c35b1 : (((rd_T70 l0 x46_3).f0) != 3) = false := bne_eq_false_iff_eq.mpr c35
              clear c35
              replace H := Option.bind_eq_some_iff.mp H
              obtain ⟨t197, A360, H⟩ := H
              replace H : (if t197 = 0 then (some (x46_3, 4)) else (unit_Check.l2 k3 l0 (l0.length : Int) (wrap64 (x46_3 + 1)))) = some (r1, r2) := H
              have A36 := Aside0.mk A360
              clear A360
              by_cases c37 : t197 = 0
              ·rw [if_pos c37] at H
               have c37b0 : (t197 == 0) = true := beq_iff_eq.mpr c37
               have c37b1 : (t197 != 0) = false := bne_eq_false_iff_eq.mpr c37
               clear c37
               simp only [Option.some.injEq, Prod.mk.injEq] at H
               obtain ⟨rfl, rfl⟩ := H
               have p194 : 0 ≤ (x46_3 : Int) := of_decide_eq_true (by first | (with_reducible assumption) | assumption)
               have q194 : x46_3 < (l0.length : Int) := of_decide_eq_true (by first | (with_reducible assumption) | assumption)
               obtain ⟨ad194, e194, hx194_0, hx194_1, hx194_2, hx194_3, hx194_4, hx194_5, hx194_6, hx194_7, hx194_8, hx194_9⟩ := at_T70 HR0.out x46_3 p194 q194
               cases e194
               replace hx194_0 := (HB.out.cell (World.block_lt_of_cell? w _ hx194_0)).trans hx194_0
               replace hx194_1 := (HB.out.cell (World.block_lt_of_cell? w _ hx194_1)).trans hx194_1
               replace hx194_2 := (HB.out.cell (World.block_lt_of_cell? w _ hx194_2)).trans hx194_2
               replace hx194_3 := (HB.out.cell (World.block_lt_of_cell? w _ hx194_3)).trans hx194_3
               replace hx194_4 := (HB.out.cell (World.block_lt_of_cell? w _ hx194_4)).trans hx194_4
               replace hx194_5 := (HB.out.cell (World.block_lt_of_cell? w _ hx194_5)).trans hx194_5
               replace hx194_6 := (HB.out.cell (World.block_lt_of_cell? w _ hx194_6)).trans hx194_6
               replace hx194_7 := (HB.out.cell (World.block_lt_of_cell? w _ hx194_7)).trans hx194_7
               replace hx194_8 := (HB.out.cell (World.block_lt_of_cell? w _ hx194_8)).trans hx194_8
               replace hx194_9 := (HB.out.cell (World.block_lt_of_cell? w _ hx194_9)).trans hx194_9
               replace p194 := eq_true p194
               replace q194 := eq_true q194
               go_wp2_with (first | ((with_reducible refine gate_dst (N := 10) rfl ?_); refine box_event ?hg (N := 10) ?hd (cs := #[.int .i64 0, .int .i64 0, .int .i64 0, .int .i64 0, .int .i64 0, .int .i64 0, .bool false, .bool false, .int .i64 0, .int .i64 0]) (t := 70) ?hr ?_; (case hd => rfl); (case hg => rfl); (case hr => first | (go_simp; done) | (go_simp; rfl)); intro gb195 hg w38 hbox hb; have NEB := Aside0.mk (MapAt.ne HM.out hg); have mz_ := Aside0.mk (MapAt.below HM.out hb); clear HM; have HM := mz_; clear mz_; have n0_ := Aside0.mk (below_step (by repeat (first | (with_reducible first | exact HB.out | apply below_alloc | apply pw_below_drewN | apply below_drew1) | exact HB.out)) hb); have n1_ := Aside0.mk (hbox); have n2_ := Aside0.mk ((by rw [hg]; exact (below_size (by repeat (first | (with_reducible first | exact HB.out | apply below_alloc | apply pw_below_drewN | apply below_drew1) | exact HB.out))) : w.heap.size ≤ gb195)); have n3_ := Aside0.mk ((by rw [hg]; exact (below_size (by repeat (first | (with_reducible first | exact HB.out | apply below_alloc | apply pw_below_drewN | apply below_drew1) | exact HB.out))) : w.heap.size ≤ gb195)); clear HB; have HB := n0_; have BK195 := n1_; have GW195 := n2_; have GE195 := n3_; clear n0_ n1_ n2_ n3_; clear hb hbox hg; have hcz39_0 : w38.cell? ⟨gb195, 0, none⟩ = some (.int .i64 0) := (blk_cell BK195.out 0).trans rfl; have hcz39_1 : w38.cell? ⟨gb195, 1, none⟩ = some (.int .i64 0) := (blk_cell BK195.out 1).trans rfl; have hcz39_2 : w38.cell? ⟨gb195, 2, none⟩ = some (.int .i64 0) := (blk_cell BK195.out 2).trans rfl; have hcz39_3 : w38.cell? ⟨gb195, 3, none⟩ = some (.int .i64 0) := (blk_cell BK195.out 3).trans rfl; have hcz39_4 : w38.cell? ⟨gb195, 4, none⟩ = some (.int .i64 0) := (blk_cell BK195.out 4).trans rfl; have hcz39_5 : w38.cell? ⟨gb195, 5, none⟩ = some (.int .i64 0) := (blk_cell BK195.out 5).trans rfl; have hcz39_6 : w38.cell? ⟨gb195, 6, none⟩ = some (.bool false) := (blk_cell BK195.out 6).trans rfl; have hcz39_7 : w38.cell? ⟨gb195, 7, none⟩ = some (.bool false) := (blk_cell BK195.out 7).trans rfl; have hcz39_8 : w38.cell? ⟨gb195, 8, none⟩ = some (.int .i64 0) := (blk_cell BK195.out 8).trans rfl; have hcz39_9 : w38.cell? ⟨gb195, 9, none⟩ = some (.int .i64 0) := (blk_cell BK195.out 9).trans rfl; have hfz39_0 := blk_frozen BK195.out 0; have hfz39_1 := blk_frozen BK195.out 1; have hfz39_2 := blk_frozen BK195.out 2; have hfz39_3 := blk_frozen BK195.out 3; have hfz39_4 := blk_frozen BK195.out 4; have hfz39_5 := blk_frozen BK195.out 5; have hfz39_6 := blk_frozen BK195.out 6; have hfz39_7 := blk_frozen BK195.out 7; have hfz39_8 := blk_frozen BK195.out 8; have hfz39_9 := blk_frozen BK195.out 9; have hlk := MapAt.look (l := l0) (x := (l0.length : Int)) (B := w.heap.size) (w := (World.setCell (World.setCell (World.setCell (World.setCell (World.setCell (World.setCell (World.setCell (World.setCell (World.setCell (World.setCell w38 ⟨gb195, 0, none⟩ (.int .i64 ((rd_T70 l0 x46_3).f0))) ⟨gb195, 1, none⟩ (.int .i64 ((rd_T70 l0 x46_3).f1.f0))) ⟨gb195, 2, none⟩ (.int .i64 ((rd_T70 l0 x46_3).f1.f1))) ⟨gb195, 3, none⟩ (.int .i64 ((rd_T70 l0 x46_3).f1.f2))) ⟨gb195, 4, none⟩ (.int .i64 ((rd_T70 l0 x46_3).f1.f3))) ⟨gb195, 5, none⟩ (.int .i64 ((rd_T70 l0 x46_3).f1.f4))) ⟨gb195, 6, none⟩ (.bool ((rd_T70 l0 x46_3).f1.f5))) ⟨gb195, 7, none⟩ (.bool ((rd_T70 l0 x46_3).f1.f6))) ⟨gb195, 8, none⟩ (.int .i64 ((rd_T70 l0 x46_3).f2))) ⟨gb195, 9, none⟩ (.int .i64 ((rd_T70 l0 x46_3).f3)))) (by with_reducible repeat (first | exact HM.out | refine MapAt.set ?_ (Aside0.out (by assumption)) | refine MapAt.drewN ?_ _ | refine MapAt.drew1 ?_ | refine MapAt.alloc ?_ _)) A36.out))
               go_ret2
               exact ⟨by first | rfl | (simp [errW_none, errW_some] <;> rfl) | (simp [*, errW_none, errW_some] <;> rfl), by repeat (first | (with_reducible first | exact HB.out | apply below_alloc | apply pw_below_drewN | apply below_drew1 | refine below_set ?_ GE195.out) | exact HB.out)⟩
              ·rw [if_neg c37] at H
               have c37b0 : (t197 == 0) = false := beq_eq_false_iff_ne.mpr c37
               have c37b1 : (t197 != 0) = true := bne_iff_ne.mpr c37
               have H' := Aside0.mk H
               clear H
               have p194 : 0 ≤ (x46_3 : Int) := of_decide_eq_true (by first | (with_reducible assumption) | assumption)
               have q194 : x46_3 < (l0.length : Int) := of_decide_eq_true (by first | (with_reducible assumption) | assumption)
               obtain ⟨ad194, e194, hx194_0, hx194_1, hx194_2, hx194_3, hx194_4, hx194_5, hx194_6, hx194_7, hx194_8, hx194_9⟩ := at_T70 HR0.out x46_3 p194 q194
               cases e194
               replace hx194_0 := (HB.out.cell (World.block_lt_of_cell? w _ hx194_0)).trans hx194_0
               replace hx194_1 := (HB.out.cell (World.block_lt_of_cell? w _ hx194_1)).trans hx194_1
               replace hx194_2 := (HB.out.cell (World.block_lt_of_cell? w _ hx194_2)).trans hx194_2
               replace hx194_3 := (HB.out.cell (World.block_lt_of_cell? w _ hx194_3)).trans hx194_3
               replace hx194_4 := (HB.out.cell (World.block_lt_of_cell? w _ hx194_4)).trans hx194_4
               replace hx194_5 := (HB.out.cell (World.block_lt_of_cell? w _ hx194_5)).trans hx194_5
               replace hx194_6 := (HB.out.cell (World.block_lt_of_cell? w _ hx194_6)).trans hx194_6
               replace hx194_7 := (HB.out.cell (World.block_lt_of_cell? w _ hx194_7)).trans hx194_7
               replace hx194_8 := (HB.out.cell (World.block_lt_of_cell? w _ hx194_8)).trans hx194_8
               replace hx194_9 := (HB.out.cell (World.block_lt_of_cell? w _ hx194_9)).trans hx194_9
               replace p194 := eq_true p194
               replace q194 := eq_true q194
               go_wp2_with (first | ((with_reducible refine gate_dst (N := 10) rfl ?_); refine box_event ?hg (N := 10) ?hd (cs := #[.int .i64 0, .int .i64 0, .int .i64 0, .int .i64 0, .int .i64 0, .int .i64 0, .bool false, .bool false, .int .i64 0, .int .i64 0]) (t := 70) ?hr ?_; (case hd => rfl); (case hg => rfl); (case hr => first | (go_simp; done) | (go_simp; rfl)); intro gb195 hg w40 hbox hb; have NEB := Aside0.mk (MapAt.ne HM.out hg); have mz_ := Aside0.mk (MapAt.below HM.out hb); clear HM; have HM := mz_; clear mz_; have n0_ := Aside0.mk (below_step (by repeat (first | (with_reducible first | exact HB.out | apply below_alloc | apply pw_below_drewN | apply below_drew1) | exact HB.out)) hb); have n1_ := Aside0.mk (hbox); have n2_ := Aside0.mk ((by rw [hg]; exact (below_size (by repeat (first | (with_reducible first | exact HB.out | apply below_alloc | apply pw_below_drewN | apply below_drew1) | exact HB.out))) : w.heap.size ≤ gb195)); have n3_ := Aside0.mk ((by rw [hg]; exact (below_size (by repeat (first | (with_reducible first | exact HB.out | apply below_alloc | apply pw_below_drewN | apply below_drew1) | exact HB.out))) : w.heap.size ≤ gb195)); clear HB; have HB := n0_; have BK195 := n1_; have GW195 := n2_; have GE195 := n3_; clear n0_ n1_ n2_ n3_; clear hb hbox hg; have hcz41_0 : w40.cell? ⟨gb195, 0, none⟩ = some (.int .i64 0) := (blk_cell BK195.out 0).trans rfl; have hcz41_1 : w40.cell? ⟨gb195, 1, none⟩ = some (.int .i64 0) := (blk_cell BK195.out 1).trans rfl; have hcz41_2 : w40.cell? ⟨gb195, 2, none⟩ = some (.int .i64 0) := (blk_cell BK195.out 2).trans rfl; have hcz41_3 : w40.cell? ⟨gb195, 3, none⟩ = some (.int .i64 0) := (blk_cell BK195.out 3).trans rfl; have hcz41_4 : w40.cell? ⟨gb195, 4, none⟩ = some (.int .i64 0) := (blk_cell BK195.out 4).trans rfl; have hcz41_5 : w40.cell? ⟨gb195, 5, none⟩ = some (.int .i64 0) := (blk_cell BK195.out 5).trans rfl; have hcz41_6 : w40.cell? ⟨gb195, 6, none⟩ = some (.bool false) := (blk_cell BK195.out 6).trans rfl; have hcz41_7 : w40.cell? ⟨gb195, 7, none⟩ = some (.bool false) := (blk_cell BK195.out 7).trans rfl; have hcz41_8 : w40.cell? ⟨gb195, 8, none⟩ = some (.int .i64 0) := (blk_cell BK195.out 8).trans rfl; have hcz41_9 : w40.cell? ⟨gb195, 9, none⟩ = some (.int .i64 0) := (blk_cell BK195.out 9).trans rfl; have hfz41_0 := blk_frozen BK195.out 0; have hfz41_1 := blk_frozen BK195.out 1; have hfz41_2 := blk_frozen BK195.out 2; have hfz41_3 := blk_frozen BK195.out 3; have hfz41_4 := blk_frozen BK195.out 4; have hfz41_5 := blk_frozen BK195.out 5; have hfz41_6 := blk_frozen BK195.out 6; have hfz41_7 := blk_frozen BK195.out 7; have hfz41_8 := blk_frozen BK195.out 8; have hfz41_9 := blk_frozen BK195.out 9; have hlk := MapAt.look (l := l0) (x := (l0.length : Int)) (B := w.heap.size) (w := (World.setCell (World.setCell (World.setCell (World.setCell (World.setCell (World.setCell (World.setCell (World.setCell (World.setCell (World.setCell w40 ⟨gb195, 0, none⟩ (.int .i64 ((rd_T70 l0 x46_3).f0))) ⟨gb195, 1, none⟩ (.int .i64 ((rd_T70 l0 x46_3).f1.f0))) ⟨gb195, 2, none⟩ (.int .i64 ((rd_T70 l0 x46_3).f1.f1))) ⟨gb195, 3, none⟩ (.int .i64 ((rd_T70 l0 x46_3).f1.f2))) ⟨gb195, 4, none⟩ (.int .i64 ((rd_T70 l0 x46_3).f1.f3))) ⟨gb195, 5, none⟩ (.int .i64 ((rd_T70 l0 x46_3).f1.f4))) ⟨gb195, 6, none⟩ (.bool ((rd_T70 l0 x46_3).f1.f5))) ⟨gb195, 7, none⟩ (.bool ((rd_T70 l0 x46_3).f1.f6))) ⟨gb195, 8, none⟩ (.int .i64 ((rd_T70 l0 x46_3).f2))) ⟨gb195, 9, none⟩ (.int .i64 ((rd_T70 l0 x46_3).f3)))) (by with_reducible repeat (first | exact HM.out | refine MapAt.set ?_ (Aside0.out (by assumption)) | refine MapAt.drewN ?_ _ | refine MapAt.drew1 ?_ | refine MapAt.alloc ?_ _)) A36.out))
               go_roundg k3
               case measure => have := HK1.out; have := HK2.out; have := HK3.out; omega
               case rel => exact ⟨(wrap64 (x46_3 + 1)), (by first | rfl | (simp; done) | (simp [*]; done)), H', ⟨by have := HK1.out; have := HK2.out; have := HK3.out; omega⟩, ⟨by repeat (first | (with_reducible first | exact HB.out | apply below_alloc | apply pw_below_drewN | apply below_drew1 | refine below_set ?_ GE195.out) | exact HB.out)⟩, ⟨(by first | ((with_reducible repeat (first | exact HM.out | refine MapAt.set ?_ (Aside0.out (by assumption)) | refine MapAt.drewN ?_ _ | refine MapAt.drew1 ?_ | refine MapAt.alloc ?_ _)); done) | (rw [wrap_next HR0.out (by assumption) (by assumption)]; first | ((with_reducible repeat (first | exact HM.out | refine MapAt.set ?_ (Aside0.out (by assumption)) | refine MapAt.drewN ?_ _ | refine MapAt.drew1 ?_ | refine MapAt.alloc ?_ _)); done) | (refine MapAt.next ?_ (by assumption) (by assumption) (by assumption); exact (by with_reducible repeat (first | exact HM.out | refine MapAt.set ?_ (Aside0.out (by assumption)) | refine MapAt.drewN ?_ _ | refine MapAt.drew1 ?_ | refine MapAt.alloc ?_ _)))))⟩⟩
             ·rw [if_neg c35] at H
              have c35b0 : (((rd_T70 l0 x46_3).f0) == 3) = false := beq_eq_false_iff_ne.mpr c35
              have c35b1 : (((rd_T70 l0 x46_3).f0) != 3) = true := bne_iff_ne.mpr c35
              have H' := Aside0.mk H
              clear H
              have p194 : 0 ≤ (x46_3 : Int) := of_decide_eq_true (by first | (with_reducible assumption) | assumption)
              have q194 : x46_3 < (l0.length : Int) := of_decide_eq_true (by first | (with_reducible assumption) | assumption)
              obtain ⟨ad194, e194, hx194_0, hx194_1, hx194_2, hx194_3, hx194_4, hx194_5, hx194_6, hx194_7, hx194_8, hx194_9⟩ := at_T70 HR0.out x46_3 p194 q194
              cases e194
              replace hx194_0 := (HB.out.cell (World.block_lt_of_cell? w _ hx194_0)).trans hx194_0
              replace hx194_1 := (HB.out.cell (World.block_lt_of_cell? w _ hx194_1)).trans hx194_1
              replace hx194_2 := (HB.out.cell (World.block_lt_of_cell? w _ hx194_2)).trans hx194_2
              replace hx194_3 := (HB.out.cell (World.block_lt_of_cell? w _ hx194_3)).trans hx194_3
              replace hx194_4 := (HB.out.cell (World.block_lt_of_cell? w _ hx194_4)).trans hx194_4
              replace hx194_5 := (HB.out.cell (World.block_lt_of_cell? w _ hx194_5)).trans hx194_5
              replace hx194_6 := (HB.out.cell (World.block_lt_of_cell? w _ hx194_6)).trans hx194_6
              replace hx194_7 := (HB.out.cell (World.block_lt_of_cell? w _ hx194_7)).trans hx194_7
              replace hx194_8 := (HB.out.cell (World.block_lt_of_cell? w _ hx194_8)).trans hx194_8
              replace hx194_9 := (HB.out.cell (World.block_lt_of_cell? w _ hx194_9)).trans hx194_9
              replace p194 := eq_true p194
              replace q194 := eq_true q194
              go_wp2_with (first | ((with_reducible refine gate_dst (N := 10) rfl ?_); refine box_event ?hg (N := 10) ?hd (cs := #[.int .i64 0, .int .i64 0, .int .i64 0, .int .i64 0, .int .i64 0, .int .i64 0, .bool false, .bool false, .int .i64 0, .int .i64 0]) (t := 70) ?hr ?_; (case hd => rfl); (case hg => rfl); (case hr => first | (go_simp; done) | (go_simp; rfl)); intro gb195 hg w42 hbox hb; have NEB := Aside0.mk (MapAt.ne HM.out hg); have mz_ := Aside0.mk (MapAt.below HM.out hb); clear HM; have HM := mz_; clear mz_; have n0_ := Aside0.mk (below_step (by repeat (first | (with_reducible first | exact HB.out | apply below_alloc | apply pw_below_drewN | apply below_drew1) | exact HB.out)) hb); have n1_ := Aside0.mk (hbox); have n2_ := Aside0.mk ((by rw [hg]; exact (below_size (by repeat (first | (with_reducible first | exact HB.out | apply below_alloc | apply pw_below_drewN | apply below_drew1) | exact HB.out))) : w.heap.size ≤ gb195)); have n3_ := Aside0.mk ((by rw [hg]; exact (below_size (by repeat (first | (with_reducible first | exact HB.out | apply below_alloc | apply pw_below_drewN | apply below_drew1) | exact HB.out))) : w.heap.size ≤ gb195)); clear HB; have HB := n0_; have BK195 := n1_; have GW195 := n2_; have GE195 := n3_; clear n0_ n1_ n2_ n3_; clear hb hbox hg; have hcz43_0 : w42.cell? ⟨gb195, 0, none⟩ = some (.int .i64 0) := (blk_cell BK195.out 0).trans rfl; have hcz43_1 : w42.cell? ⟨gb195, 1, none⟩ = some (.int .i64 0) := (blk_cell BK195.out 1).trans rfl; have hcz43_2 : w42.cell? ⟨gb195, 2, none⟩ = some (.int .i64 0) := (blk_cell BK195.out 2).trans rfl; have hcz43_3 : w42.cell? ⟨gb195, 3, none⟩ = some (.int .i64 0) := (blk_cell BK195.out 3).trans rfl; have hcz43_4 : w42.cell? ⟨gb195, 4, none⟩ = some (.int .i64 0) := (blk_cell BK195.out 4).trans rfl; have hcz43_5 : w42.cell? ⟨gb195, 5, none⟩ = some (.int .i64 0) := (blk_cell BK195.out 5).trans rfl; have hcz43_6 : w42.cell? ⟨gb195, 6, none⟩ = some (.bool false) := (blk_cell BK195.out 6).trans rfl; have hcz43_7 : w42.cell? ⟨gb195, 7, none⟩ = some (.bool false) := (blk_cell BK195.out 7).trans rfl; have hcz43_8 : w42.cell? ⟨gb195, 8, none⟩ = some (.int .i64 0) := (blk_cell BK195.out 8).trans rfl; have hcz43_9 : w42.cell? ⟨gb195, 9, none⟩ = some (.int .i64 0) := (blk_cell BK195.out 9).trans rfl; have hfz43_0 := blk_frozen BK195.out 0; have hfz43_1 := blk_frozen BK195.out 1; have hfz43_2 := blk_frozen BK195.out 2; have hfz43_3 := blk_frozen BK195.out 3; have hfz43_4 := blk_frozen BK195.out 4; have hfz43_5 := blk_frozen BK195.out 5; have hfz43_6 := blk_frozen BK195.out 6; have hfz43_7 := blk_frozen BK195.out 7; have hfz43_8 := blk_frozen BK195.out 8; have hfz43_9 := blk_frozen BK195.out 9))
              go_roundg k3
              case measure => have := HK1.out; have := HK2.out; have := HK3.out; omega
              case rel => exact ⟨(wrap64 (x46_3 + 1)), (by first | rfl | (simp; done) | (simp [*]; done)), H', ⟨by have := HK1.out; have := HK2.out; have := HK3.out; omega⟩, ⟨by repeat (first | (with_reducible first | exact HB.out | apply below_alloc | apply pw_below_drewN | apply below_drew1 | refine below_set ?_ GE195.out) | exact HB.out)⟩, ⟨(by first | ((with_reducible repeat (first | exact HM.out | refine MapAt.set ?_ (Aside0.out (by assumption)) | refine MapAt.drewN ?_ _ | refine MapAt.drew1 ?_ | refine MapAt.alloc ?_ _)); done) | (rw [wrap_next HR0.out (by assumption) (by assumption)]; first | ((with_reducible repeat (first | exact HM.out | refine MapAt.set ?_ (Aside0.out (by assumption)) | refine MapAt.drewN ?_ _ | refine MapAt.drew1 ?_ | refine MapAt.alloc ?_ _)); done) | (refine MapAt.next ?_ (by assumption) (by assumption) (by assumption); exact (by with_reducible repeat (first | exact HM.out | refine MapAt.set ?_ (Aside0.out (by assumption)) | refine MapAt.drewN ?_ _ | refine MapAt.drew1 ?_ | refine MapAt.alloc ?_ _)))))⟩⟩
           ·rw [if_neg c27] at H
            exact absurd H (by simp)
          ·rw [if_neg c26] at H
           exact absurd H (by simp)
         ·rw [if_neg c25] at H
          have c25b0 : decide (x46_3 < (l0.length : Int)) = false := decide_eq_false c25
          clear c25
          simp only [Option.some.injEq, Prod.mk.injEq] at H
          obtain ⟨rfl, rfl⟩ := H
          go_wp2
          go_ret2
          exact ⟨by first | rfl | (simp [errW_none, errW_some] <;> rfl) | (simp [*, errW_none, errW_some] <;> rfl), by repeat (first | (with_reducible first | exact HB.out | apply below_alloc | apply pw_below_drewN | apply below_drew1) | exact HB.out)⟩

/-! ### spinnakerref03_letter: function 75 -/
def spinnakerref03_letter.f (a0 : Int) : Option (Int) := if a0 < 1 then (some 0) else (if a0 > 87 then (some 0) else (if 0 ≤ (wrap64 (a0 - 1)) then (if (wrap64 (a0 - 1)) < 87 then (some (bt (⟨#[85, 85, 74, 73, 66, 66, 66, 66, 66, 66, 73, 73, 73, 73, 73, 73, 73, 83, 83, 83, 83, 73, 73, 73, 73, 73, 73, 72, 72, 72, 73, 87, 87, 87, 82, 82, 82, 82, 82, 82, 82, 82, 82, 82, 82, 82, 82, 82, 82, 82, 82, 82, 82, 82, 82, 82, 82, 82, 82, 82, 82, 82, 70, 78, 78, 76, 65, 65, 65, 65, 65, 65, 65, 65, 65, 65, 76, 65, 65, 65, 65, 65, 65, 65, 65, 65, 65]⟩ : ByteArray) (wrap64 (a0 - 1)))) else (none)) else (none)))
set_option maxHeartbeats 8000000 in
set_option maxRecDepth 100000 in
theorem spinnakerref03_letter.calls (a0 : Int) (r : Int) (w : World) (h : spinnakerref03_letter.f a0 = some r) :
  Calls Tryd.prog 75 #[.int .i64 a0] w fun e w' => e = .returned (.int .u8 r) ∧ Drawn0 w w' := by
 have H : (if a0 < 1 then (some 0) else (if a0 > 87 then (some 0) else (if 0 ≤ (wrap64 (a0 - 1)) then (if (wrap64 (a0 - 1)) < 87 then (some (bt (⟨#[85, 85, 74, 73, 66, 66, 66, 66, 66, 66, 73, 73, 73, 73, 73, 73, 73, 83, 83, 83, 83, 73, 73, 73, 73, 73, 73, 72, 72, 72, 73, 87, 87, 87, 82, 82, 82, 82, 82, 82, 82, 82, 82, 82, 82, 82, 82, 82, 82, 82, 82, 82, 82, 82, 82, 82, 82, 82, 82, 82, 82, 82, 70, 78, 78, 76, 65, 65, 65, 65, 65, 65, 65, 65, 65, 65, 76, 65, 65, 65, 65, 65, 65, 65, 65, 65, 65]⟩ : ByteArray) (wrap64 (a0 - 1)))) else (none)) else (none)))) = some r := h
 clear h
 by_cases c2 : a0 < 1
 ·rw [if_pos c2] at H
  have c2b0 : decide (a0 < 1) = true := decide_eq_true c2
  clear c2
  obtain rfl := Option.some.inj H
  go_enter Tryd.func75, Tryd.ntmps75
  go_wp2
  go_ret
  exact ⟨by first | rfl | (simp; done) | (simp [*]; done), by repeat (first | exact Drawn0.refl _ | apply Drawn0.step)⟩
 ·rw [if_neg c2] at H
  have c2b0 : decide (a0 < 1) = false := decide_eq_false c2
  clear c2
  by_cases c3 : a0 > 87
  ·rw [if_pos c3] at H
   have c3b0 : decide (87 < a0) = true := decide_eq_true c3
   clear c3
   obtain rfl := Option.some.inj H
   go_enter Tryd.func75, Tryd.ntmps75
   go_wp2
   go_ret
   exact ⟨by first | rfl | (simp; done) | (simp [*]; done), by repeat (first | exact Drawn0.refl _ | apply Drawn0.step)⟩
  ·rw [if_neg c3] at H
   have c3b0 : decide (87 < a0) = false := decide_eq_false c3
   clear c3
   obtain ⟨ji4, hji4⟩ : ∃ j_ : Int, (wrap64 (a0 - 1)) = j_ := ⟨_, rfl⟩
   replace H : (if 0 ≤ (ji4) then (if (ji4) < 87 then (some (bt (⟨#[85, 85, 74, 73, 66, 66, 66, 66, 66, 66, 73, 73, 73, 73, 73, 73, 73, 83, 83, 83, 83, 73, 73, 73, 73, 73, 73, 72, 72, 72, 73, 87, 87, 87, 82, 82, 82, 82, 82, 82, 82, 82, 82, 82, 82, 82, 82, 82, 82, 82, 82, 82, 82, 82, 82, 82, 82, 82, 82, 82, 82, 82, 70, 78, 78, 76, 65, 65, 65, 65, 65, 65, 65, 65, 65, 65, 76, 65, 65, 65, 65, 65, 65, 65, 65, 65, 65]⟩ : ByteArray) (ji4))) else (none)) else (none)) = some r := by first | (rw [hji4] at H; exact H) | (simp only [hji4] at H ⊢; exact H)
   have hji4w : (IntKind.i64.wrap (a0 - 1)) = ji4 := (i64_w _).trans hji4
   by_cases c5 : 0 ≤ (ji4)
   ·rw [if_pos c5] at H
    have c5b0 : decide (0 ≤ (ji4)) = true := decide_eq_true c5
    clear c5
    by_cases c6 : (ji4) < 87
    ·rw [if_pos c6] at H
     have c6b0 : decide ((ji4) < 87) = true := decide_eq_true c6
     clear c6
     obtain rfl := Option.some.inj H
     have p7 : 0 ≤ ((ji4) : Int) := of_decide_eq_true (by first | (with_reducible assumption) | assumption)
     have q7 : (ji4) < (87 : Int) := of_decide_eq_true (by first | (with_reducible assumption) | assumption)
     have hx7 := bt_at (⟨#[85, 85, 74, 73, 66, 66, 66, 66, 66, 66, 73, 73, 73, 73, 73, 73, 73, 83, 83, 83, 83, 73, 73, 73, 73, 73, 73, 72, 72, 72, 73, 87, 87, 87, 82, 82, 82, 82, 82, 82, 82, 82, 82, 82, 82, 82, 82, 82, 82, 82, 82, 82, 82, 82, 82, 82, 82, 82, 82, 82, 82, 82, 70, 78, 78, 76, 65, 65, 65, 65, 65, 65, 65, 65, 65, 65, 76, 65, 65, 65, 65, 65, 65, 65, 65, 65, 65]⟩ : ByteArray) (ji4)
     replace p7 := eq_true p7
     replace q7 := eq_true q7
     go_enter Tryd.func75, Tryd.ntmps75
     go_wp2
     go_ret
     exact ⟨by first | rfl | (simp; done) | (simp only [← hji4] <;> (first | rfl | simp)) | (simp [*]; done), by repeat (first | exact Drawn0.refl _ | apply Drawn0.step)⟩
    ·rw [if_neg c6] at H
     exact absurd H (by simp)
   ·rw [if_neg c5] at H
    exact absurd H (by simp)

/-! ### spinnakerref03_register: function 76 -/
def spinnakerref03_register.f (a0 : Int) (a1 : Bool) : Option (Bool) := if a1 = true then (if a0 ≥ 0 then (some (decide (a0 ≤ 31))) else (some false)) else (some (a0 == 0))
set_option maxHeartbeats 8000000 in
set_option maxRecDepth 100000 in
theorem spinnakerref03_register.calls (a0 : Int) (a1 : Bool) (r : Bool) (w : World) (h : spinnakerref03_register.f a0 a1 = some r) :
  Calls Tryd.prog 76 #[.int .i64 a0, .bool a1] w fun e w' => e = .returned (.bool r) ∧ Drawn0 w w' := by
 have H : (if a1 = true then (if a0 ≥ 0 then (some (decide (a0 ≤ 31))) else (some false)) else (some (a0 == 0))) = some r := h
 clear h
 by_cases c3 : a1 = true
 ·subst c3
  have H1 : (if a0 ≥ 0 then (some (decide (a0 ≤ 31))) else (some false)) = some r := by rw [if_pos rfl] at H; exact H
  clear H
  have H := H1
  clear H1
  by_cases c4 : a0 ≥ 0
  ·rw [if_pos c4] at H
   have c4b0 : decide (0 ≤ a0) = true := decide_eq_true c4
   clear c4
   obtain rfl := Option.some.inj H
   go_enter Tryd.func76, Tryd.ntmps76
   go_wp2
   go_ret
   exact ⟨by first | rfl | (simp; done) | (simp [*]; done), by repeat (first | exact Drawn0.refl _ | apply Drawn0.step)⟩
  ·rw [if_neg c4] at H
   have c4b0 : decide (0 ≤ a0) = false := decide_eq_false c4
   clear c4
   obtain rfl := Option.some.inj H
   go_enter Tryd.func76, Tryd.ntmps76
   go_wp2
   go_ret
   exact ⟨by first | rfl | (simp; done) | (simp [*]; done), by repeat (first | exact Drawn0.refl _ | apply Drawn0.step)⟩
 ·replace c3 := Bool.eq_false_iff.mpr c3
  subst c3
  have H1 : (some (a0 == 0)) = some r := by rw [if_neg (show ¬ (false = true) by decide)] at H; exact H
  clear H
  have H := H1
  clear H1
  obtain rfl := Option.some.inj H
  go_enter Tryd.func76, Tryd.ntmps76
  go_wp2
  go_ret
  exact ⟨by first | rfl | (simp; done) | (simp [*]; done), by repeat (first | exact Drawn0.refl _ | apply Drawn0.step)⟩

end Go.Proofs.YtbmjbidekmkboaaDoor.GUnitExpands
