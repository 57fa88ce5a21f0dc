-- Written by wip/stub.py of this repo.
import Derived.Test.YtfjfmkobhbpelaaGWordFieldsx0
import Derived.Test.YtfjfmkobhbpelaaGWordFieldsx1
namespace Go.Proofs.Ytfjfmkobhbpelaa.GWordFields
open Go.RowKit Go.Proofs.YtfjfmkobhbpelaaW.PrintWords Go.Proofs.YtfjfmkobhbpelaaW.PrintLast Go.Proofs.YtfjfmkobhbpelaaW.PrintMore
attribute [local go_sem] max2_int min2_int max_two min_two max_three min_three max_four min_four   -- for this text's walks alone
set_option linter.unusedVariables false
set_option linter.unusedSimpArgs false

/-! ### spinnakerlaw01_WordFields: function 5 -/
mutual
def spinnakerlaw01_WordFields.j0 : Nat → Int → Int → Int → Int → Int → Int → Bool → Int → Int → Option (Bool)
  | 0, _, _, _, _, _, _, _, _, _ => none
  | k + 1, x0, x2, x7, x8, x9, x10, x57, x121000, x121001 => if x57 = true then (if x7 = 0 then (if x9 = 0 then (if x8 = 2 then (if x10 = 2 then ((spinnakerlaw01_awake.f k).bind fun t125 => (some t125)) else (some false)) else (some false)) else (some false)) else (some false)) else ((word_Get.f x9 x121000 x121001).bind fun bt126 => (spinnakerlaw01_WordFields.l0 k x0 x2 x7 x8 x9 x10 bt126.1 bt126.2 0 x121000 x121001))
def spinnakerlaw01_WordFields.l0 : Nat → Int → Int → Int → Int → Int → Int → Int → Int → Int → Int → Int → Option (Bool)
  | 0, _, _, _, _, _, _, _, _, _, _, _ => none
  | k + 1, x0, x2, x7, x8, x9, x10, x11, x12, x13, x121000, x121001 => if x13 < 32 then ((spinnakerref01_Bit.f k (IntKind.u64.wrap (x0)) x13).bind fun t129 => ((spinnakerref01_Bit.f k (IntKind.u64.wrap (x9)) x13).bind fun t130 => (if x13 ≥ x121000 then (spinnakerlaw01_WordFields.j2 k x0 x2 x7 x8 x9 x10 x11 x12 x13 t129 t130 (decide (x13 < (wrap64 (x121000 + x121001)))) x121000 x121001) else (spinnakerlaw01_WordFields.j2 k x0 x2 x7 x8 x9 x10 x11 x12 x13 t129 t130 false x121000 x121001)))) else (if 0 ≤ (IntKind.u64.wrap (x121001)) then (if x8 = 0 then (if x10 = 0 then (if x12 = 0 then (if (IntKind.u64.wrap (x7)) < (shl .u64 1 (IntKind.u64.wrap (x121001))) then (if (IntKind.u64.wrap (x11)) < (shl .u64 1 (IntKind.u64.wrap (x121001))) then ((spinnakerlaw01_awake.f k).bind fun t128 => (some t128)) else (some false)) else (some false)) else (some false)) else (some false)) else (some false)) else (none))
def spinnakerlaw01_WordFields.j2 : Nat → Int → Int → Int → Int → Int → Int → Int → Int → Int → Int → Int → Bool → Int → Int → Option (Bool)
  | 0, _, _, _, _, _, _, _, _, _, _, _, _, _, _ => none
  | k + 1, x0, x2, x7, x8, x9, x10, x11, x12, x13, x14, x15, x16, x121000, x121001 => if x16 = true then ((spinnakerref01_Bit.f k (IntKind.u64.wrap (x2)) (wrap64 (x13 - x121000))).bind fun t131 => (if x15 = t131 then ((spinnakerref01_Bit.f k (IntKind.u64.wrap (x7)) (wrap64 (x13 - x121000))).bind fun t132 => (if t132 = x14 then ((spinnakerref01_Bit.f k (IntKind.u64.wrap (x11)) (wrap64 (x13 - x121000))).bind fun t133 => (if t133 = x15 then (spinnakerlaw01_WordFields.l0 k x0 x2 x7 x8 x9 x10 x11 x12 (wrap64 (x13 + 1)) x121000 x121001) else (some false))) else (some false))) else (some false))) else (if x15 = x14 then (spinnakerlaw01_WordFields.l0 k x0 x2 x7 x8 x9 x10 x11 x12 (wrap64 (x13 + 1)) x121000 x121001) else (some false))
end
def spinnakerlaw01_WordFields.f (k : Nat) (a0 : Int) (a1_0 : Int) (a1_1 : Int) (a2 : Int) : Option (Bool) := (word_Get.f a0 a1_0 a1_1).bind fun bt121 => ((word_Put.f a0 a1_0 a1_1 a2).bind fun bt123 => (if a1_0 < 0 then (spinnakerlaw01_WordFields.j0 k a0 a2 bt121.1 bt121.2 bt123.1 bt123.2 true a1_0 a1_1) else (if a1_0 > 31 then (spinnakerlaw01_WordFields.j0 k a0 a2 bt121.1 bt121.2 bt123.1 bt123.2 true a1_0 a1_1) else (if a1_1 < 1 then (spinnakerlaw01_WordFields.j0 k a0 a2 bt121.1 bt121.2 bt123.1 bt123.2 true a1_0 a1_1) else (spinnakerlaw01_WordFields.j0 k a0 a2 bt121.1 bt121.2 bt123.1 bt123.2 (decide (a1_1 > (wrap64 (32 - a1_0)))) a1_0 a1_1)))))
theorem spinnakerlaw01_WordFields.mono_l : ∀ k, (∀ y0 y1 y2 y3 y4 y5 y6 y7 y8, LeO (spinnakerlaw01_WordFields.j0 k y0 y1 y2 y3 y4 y5 y6 y7 y8) (spinnakerlaw01_WordFields.j0 (k + 1) y0 y1 y2 y3 y4 y5 y6 y7 y8)) ∧ (∀ y0 y1 y2 y3 y4 y5 y6 y7 y8 y9 y10, LeO (spinnakerlaw01_WordFields.l0 k y0 y1 y2 y3 y4 y5 y6 y7 y8 y9 y10) (spinnakerlaw01_WordFields.l0 (k + 1) y0 y1 y2 y3 y4 y5 y6 y7 y8 y9 y10)) ∧ (∀ y0 y1 y2 y3 y4 y5 y6 y7 y8 y9 y10 y11 y12 y13, LeO (spinnakerlaw01_WordFields.j2 k y0 y1 y2 y3 y4 y5 y6 y7 y8 y9 y10 y11 y12 y13) (spinnakerlaw01_WordFields.j2 (k + 1) y0 y1 y2 y3 y4 y5 y6 y7 y8 y9 y10 y11 y12 y13))
  | 0 => ⟨fun _ _ _ _ _ _ _ _ _ r h => by simp [spinnakerlaw01_WordFields.j0] at h, fun _ _ _ _ _ _ _ _ _ _ _ r h => by simp [spinnakerlaw01_WordFields.l0] at h, fun _ _ _ _ _ _ _ _ _ _ _ _ _ _ r h => by simp [spinnakerlaw01_WordFields.j2] at h⟩
  | k + 1 => by
    obtain ⟨ih0, ih1, ih2⟩ := spinnakerlaw01_WordFields.mono_l k
    refine ⟨?_, ?_, ?_⟩
    · intro y0 y1 y2 y3 y4 y5 y6 y7 y8
      unfold spinnakerlaw01_WordFields.j0
      repeat' first
      | (with_reducible exact ih0 _ _ _ _ _ _ _ _ _)
      | (with_reducible exact ih1 _ _ _ _ _ _ _ _ _ _ _)
      | (with_reducible exact ih2 _ _ _ _ _ _ _ _ _ _ _ _ _ _)
      | (with_reducible exact spinnakerlaw01_awake.mono _)
      | (with_reducible exact spinnakerref01_Bit.mono _ _ _)
      | (with_reducible exact LeO.refl _)
      | (with_reducible exact LeO.none _)
      | (with_reducible refine LeO.ite ?_ ?_)
      | (with_reducible refine LeO.bind ?_ (fun _ => ?_))
      | exact ih0 _ _ _ _ _ _ _ _ _
      | exact ih1 _ _ _ _ _ _ _ _ _ _ _
      | exact ih2 _ _ _ _ _ _ _ _ _ _ _ _ _ _
      | exact spinnakerlaw01_awake.mono _
      | exact spinnakerref01_Bit.mono _ _ _
      | exact LeO.none _
      | refine LeO.ite ?_ ?_
      | refine LeO.bind ?_ (fun _ => ?_)
    · intro y0 y1 y2 y3 y4 y5 y6 y7 y8 y9 y10
      unfold spinnakerlaw01_WordFields.l0
      repeat' first
      | (with_reducible exact ih0 _ _ _ _ _ _ _ _ _)
      | (with_reducible exact ih1 _ _ _ _ _ _ _ _ _ _ _)
      | (with_reducible exact ih2 _ _ _ _ _ _ _ _ _ _ _ _ _ _)
      | (with_reducible exact spinnakerlaw01_awake.mono _)
      | (with_reducible exact spinnakerref01_Bit.mono _ _ _)
      | (with_reducible exact LeO.refl _)
      | (with_reducible exact LeO.none _)
      | (with_reducible refine LeO.ite ?_ ?_)
      | (with_reducible refine LeO.bind ?_ (fun _ => ?_))
      | exact ih0 _ _ _ _ _ _ _ _ _
      | exact ih1 _ _ _ _ _ _ _ _ _ _ _
      | exact ih2 _ _ _ _ _ _ _ _ _ _ _ _ _ _
      | exact spinnakerlaw01_awake.mono _
      | exact spinnakerref01_Bit.mono _ _ _
      | exact LeO.none _
      | refine LeO.ite ?_ ?_
      | refine LeO.bind ?_ (fun _ => ?_)
    · intro y0 y1 y2 y3 y4 y5 y6 y7 y8 y9 y10 y11 y12 y13
      unfold spinnakerlaw01_WordFields.j2
      repeat' first
      | (with_reducible exact ih0 _ _ _ _ _ _ _ _ _)
      | (with_reducible exact ih1 _ _ _ _ _ _ _ _ _ _ _)
      | (with_reducible exact ih2 _ _ _ _ _ _ _ _ _ _ _ _ _ _)
      | (with_reducible exact spinnakerlaw01_awake.mono _)
      | (with_reducible exact spinnakerref01_Bit.mono _ _ _)
      | (with_reducible exact LeO.refl _)
      | (with_reducible exact LeO.none _)
      | (with_reducible refine LeO.ite ?_ ?_)
      | (with_reducible refine LeO.bind ?_ (fun _ => ?_))
      | exact ih0 _ _ _ _ _ _ _ _ _
      | exact ih1 _ _ _ _ _ _ _ _ _ _ _
      | exact ih2 _ _ _ _ _ _ _ _ _ _ _ _ _ _
      | exact spinnakerlaw01_awake.mono _
      | exact spinnakerref01_Bit.mono _ _ _
      | exact LeO.none _
      | refine LeO.ite ?_ ?_
      | refine LeO.bind ?_ (fun _ => ?_)
theorem spinnakerlaw01_WordFields.mono : ∀ a0 a1 a2 a3 k, LeO (spinnakerlaw01_WordFields.f k a0 a1 a2 a3) (spinnakerlaw01_WordFields.f (k + 1) a0 a1 a2 a3) := by
  intro a0 a1 a2 a3 k
  obtain ⟨ih0, ih1, ih2⟩ := spinnakerlaw01_WordFields.mono_l k
  unfold spinnakerlaw01_WordFields.f
  repeat' first
      | (with_reducible exact ih0 _ _ _ _ _ _ _ _ _)
      | (with_reducible exact ih1 _ _ _ _ _ _ _ _ _ _ _)
      | (with_reducible exact ih2 _ _ _ _ _ _ _ _ _ _ _ _ _ _)
      | (with_reducible exact spinnakerlaw01_awake.mono _)
      | (with_reducible exact spinnakerref01_Bit.mono _ _ _)
      | (with_reducible exact LeO.refl _)
      | (with_reducible exact LeO.none _)
      | (with_reducible refine LeO.ite ?_ ?_)
      | (with_reducible refine LeO.bind ?_ (fun _ => ?_))
      | exact ih0 _ _ _ _ _ _ _ _ _
      | exact ih1 _ _ _ _ _ _ _ _ _ _ _
      | exact ih2 _ _ _ _ _ _ _ _ _ _ _ _ _ _
      | exact spinnakerlaw01_awake.mono _
      | exact spinnakerref01_Bit.mono _ _ _
      | exact LeO.none _
      | refine LeO.ite ?_ ?_
      | refine LeO.bind ?_ (fun _ => ?_)
set_option maxHeartbeats 8000000 in
set_option maxRecDepth 100000 in
theorem spinnakerlaw01_WordFields.calls (k : Nat) (a0 : Int) (a1_0 : Int) (a1_1 : Int) (a2 : Int) (r : Bool) (w : World) (h : spinnakerlaw01_WordFields.f k a0 a1_0 a1_1 a2 = some r) :
    Calls Try.prog 5 #[.int .u32 a0, .agg #[.int .i64 a1_0, .int .i64 a1_1], .int .u32 a2] w fun e w' => e = .returned (.bool r) ∧ Below w.heap.size w w' := by
  have hu31 := Try.underlying31
  have HB := Aside0.mk (Below.refl w.heap.size w)
  have H : ((word_Get.f a0 a1_0 a1_1).bind fun bt121 => ((word_Put.f a0 a1_0 a1_1 a2).bind fun bt123 => (if a1_0 < 0 then (spinnakerlaw01_WordFields.j0 k a0 a2 bt121.1 bt121.2 bt123.1 bt123.2 true a1_0 a1_1) else (if a1_0 > 31 then (spinnakerlaw01_WordFields.j0 k a0 a2 bt121.1 bt121.2 bt123.1 bt123.2 true a1_0 a1_1) else (if a1_1 < 1 then (spinnakerlaw01_WordFields.j0 k a0 a2 bt121.1 bt121.2 bt123.1 bt123.2 true a1_0 a1_1) else (spinnakerlaw01_WordFields.j0 k a0 a2 bt121.1 bt121.2 bt123.1 bt123.2 (decide (a1_1 > (wrap64 (32 - a1_0)))) a1_0 a1_1)))))) = some r := h
  clear h
  replace H := Option.bind_eq_some_iff.mp H
  obtain ⟨⟨t121, t122⟩, A40, H⟩ := H
  replace H : ((word_Put.f a0 a1_0 a1_1 a2).bind fun bt123 => (if a1_0 < 0 then (spinnakerlaw01_WordFields.j0 k a0 a2 t121 t122 bt123.1 bt123.2 true a1_0 a1_1) else (if a1_0 > 31 then (spinnakerlaw01_WordFields.j0 k a0 a2 t121 t122 bt123.1 bt123.2 true a1_0 a1_1) else (if a1_1 < 1 then (spinnakerlaw01_WordFields.j0 k a0 a2 t121 t122 bt123.1 bt123.2 true a1_0 a1_1) else (spinnakerlaw01_WordFields.j0 k a0 a2 t121 t122 bt123.1 bt123.2 (decide (a1_1 > (wrap64 (32 - a1_0)))) a1_0 a1_1))))) = some r := H
  have A4 := Aside0.mk A40
  clear A40
  replace H := Option.bind_eq_some_iff.mp H
  obtain ⟨⟨t123, t124⟩, A50, H⟩ := H
  replace H : (if a1_0 < 0 then (spinnakerlaw01_WordFields.j0 k a0 a2 t121 t122 t123 t124 true a1_0 a1_1) else (if a1_0 > 31 then (spinnakerlaw01_WordFields.j0 k a0 a2 t121 t122 t123 t124 true a1_0 a1_1) else (if a1_1 < 1 then (spinnakerlaw01_WordFields.j0 k a0 a2 t121 t122 t123 t124 true a1_0 a1_1) else (spinnakerlaw01_WordFields.j0 k a0 a2 t121 t122 t123 t124 (decide (a1_1 > (wrap64 (32 - a1_0)))) a1_0 a1_1)))) = some r := H
  have A5 := Aside0.mk A50
  clear A50
  have HC6 := Aside0.mk H
  clear H
  go_enter Try.func5, Try.ntmps5
  go_upto_region 3 with (first | ((with_reducible refine gate_dst (N := 4) rfl ?_); refine box_event ?hg (N := 4) ?hd (cs := #[.int .i64 a1_0, .int .i64 a1_1]) (t := 31) ?hr ?_; (case hd => rfl); (case hg => rfl); (case hr => first | (go_simp; done) | (go_simp; rfl)); intro gb120 hg w7 hbox hb; have n0_ := Aside0.mk (below_step (by repeat (first | (with_reducible first | exact HB.out | apply below_alloc | apply pw_below_drewN | apply below_drew1) | exact HB.out)) hb); have n1_ := Aside0.mk (hbox); have n2_ := Aside0.mk ((by rw [hg]; exact (below_size (by repeat (first | (with_reducible first | exact HB.out | apply below_alloc | apply pw_below_drewN | apply below_drew1) | exact HB.out))) : w.heap.size ≤ gb120)); have n3_ := Aside0.mk ((by rw [hg]; exact (below_size (by repeat (first | (with_reducible first | exact HB.out | apply below_alloc | apply pw_below_drewN | apply below_drew1) | exact HB.out))) : w.heap.size ≤ gb120)); clear HB; have HB := n0_; have BK120 := n1_; have GW120 := n2_; have GE120 := n3_; clear n0_ n1_ n2_ n3_; clear hb hbox hg; have hcz8_0 : w7.cell? ⟨gb120, 0, none⟩ = some (.int .i64 a1_0) := (blk_cell BK120.out 0).trans rfl; have hcz8_1 : w7.cell? ⟨gb120, 1, none⟩ = some (.int .i64 a1_1) := (blk_cell BK120.out 1).trans rfl; have hfz8_0 := blk_frozen BK120.out 0; have hfz8_1 := blk_frozen BK120.out 1) | ((with_reducible refine gate_callee (f := 13) rfl ?_); refine goesL_ (some 24) rfl rfl Try.func13 (by kernel_rfl) rfl #[.int .u32 a0, .int .i64 a1_0, .int .i64 a1_1] rfl (by (try simp only [List.map_toArray, List.map_cons, List.map_nil]); first | done | rfl | (simp only [List.length_drop, List.length_take]; rfl)) ?_; (with_reducible refine (word_Get.calls a0 a1_0 a1_1 t121 t122 _ A4.out).mono ?_); rintro e w' ⟨rfl, ⟨nd, rfl⟩⟩; refine ⟨_, rfl, ?_⟩) | ((with_reducible refine gate_callee (f := 14) rfl ?_); refine goesL_ (some 34) rfl rfl Try.func14 (by kernel_rfl) rfl #[.int .u32 a0, .int .i64 a1_0, .int .i64 a1_1, .int .u32 a2] rfl (by (try simp only [List.map_toArray, List.map_cons, List.map_nil]); first | done | rfl | (simp only [List.length_drop, List.length_take]; rfl)) ?_; (with_reducible refine (word_Put.calls a0 a1_0 a1_1 a2 t123 t124 _ A5.out).mono ?_); rintro e w' ⟨rfl, ⟨nd, rfl⟩⟩; refine ⟨_, rfl, ?_⟩))
  (try simp only [Act.put, List.setIfInBounds_toArray, List.set_cons_zero, List.set_cons_succ])
  go_cut [57] (fun v57 wc => ∃ (kq : Nat) (x57_5 : Bool), v57 = .bool x57_5 ∧ Aside0 (spinnakerlaw01_WordFields.j0 kq a0 a2 t121 t122 t123 t124 x57_5 a1_0 a1_1 = some r) ∧ Aside0 (kq ≤ k) ∧ Aside0 (wc.heap[gb120]? = some (.cells #[.int .i64 a1_0, .int .i64 a1_1] 31 (0, 0))) ∧ Aside0 (Below w.heap.size w wc))
  case first =>
    have H := HC6.out
    clear HC6
    by_cases c9 : a1_0 < 0
    · rw [if_pos c9] at H
      have c9b0 : decide (a1_0 < 0) = true := decide_eq_true c9
      clear c9
      (first | rw [c9b0] | (simp only [i64_w, i32_w]; rw [c9b0]) | skip)
      have H' := Aside0.mk H
      clear H
      have hcz10_0 : w7.cell? ⟨gb120, 0, none⟩ = some (.int .i64 a1_0) := (blk_cell BK120.out 0).trans rfl
      have hcz10_1 : w7.cell? ⟨gb120, 1, none⟩ = some (.int .i64 a1_1) := (blk_cell BK120.out 1).trans rfl
      have hfz10_0 := blk_frozen BK120.out 0
      have hfz10_1 := blk_frozen BK120.out 1
      go_wp2
      go_meet
      case rel => exact ⟨_, (true), (by first | rfl | (simp; done) | (simp [*]; done)), H', ⟨by first | omega | exact Nat.le_refl _⟩, ⟨by (with_reducible repeat (first | refine blk_drewN ?_ _ | refine blk_drew ?_ | refine blk_alloc ?_ _)); exact BK120.out⟩, ⟨by repeat (first | (with_reducible first | exact HB.out | apply below_alloc | apply pw_below_drewN | apply below_drew1 | refine below_set ?_ GE120.out) | exact HB.out)⟩⟩
    · rw [if_neg c9] at H
      have c9b0 : decide (a1_0 < 0) = false := decide_eq_false c9
      clear c9
      (first | rw [c9b0] | (simp only [i64_w, i32_w]; rw [c9b0]) | skip)
      by_cases c11 : a1_0 > 31
      · rw [if_pos c11] at H
        have c11b0 : decide (31 < a1_0) = true := decide_eq_true c11
        clear c11
        have H' := Aside0.mk H
        clear H
        have hcz12_0 : w7.cell? ⟨gb120, 0, none⟩ = some (.int .i64 a1_0) := (blk_cell BK120.out 0).trans rfl
        have hcz12_1 : w7.cell? ⟨gb120, 1, none⟩ = some (.int .i64 a1_1) := (blk_cell BK120.out 1).trans rfl
        have hfz12_0 := blk_frozen BK120.out 0
        have hfz12_1 := blk_frozen BK120.out 1
        go_wp2
        go_meet
        case rel => exact ⟨_, (true), (by first | rfl | (simp; done) | (simp [*]; done)), H', ⟨by first | omega | exact Nat.le_refl _⟩, ⟨by (with_reducible repeat (first | refine blk_drewN ?_ _ | refine blk_drew ?_ | refine blk_alloc ?_ _)); exact BK120.out⟩, ⟨by repeat (first | (with_reducible first | exact HB.out | apply below_alloc | apply pw_below_drewN | apply below_drew1 | refine below_set ?_ GE120.out) | exact HB.out)⟩⟩
      · rw [if_neg c11] at H
        have c11b0 : decide (31 < a1_0) = false := decide_eq_false c11
        clear c11
        by_cases c13 : a1_1 < 1
        · rw [if_pos c13] at H
          have c13b0 : decide (a1_1 < 1) = true := decide_eq_true c13
          clear c13
          have H' := Aside0.mk H
          clear H
          have hcz14_0 : w7.cell? ⟨gb120, 0, none⟩ = some (.int .i64 a1_0) := (blk_cell BK120.out 0).trans rfl
          have hcz14_1 : w7.cell? ⟨gb120, 1, none⟩ = some (.int .i64 a1_1) := (blk_cell BK120.out 1).trans rfl
          have hfz14_0 := blk_frozen BK120.out 0
          have hfz14_1 := blk_frozen BK120.out 1
          go_wp2
          go_meet
          case rel => exact ⟨_, (true), (by first | rfl | (simp; done) | (simp [*]; done)), H', ⟨by first | omega | exact Nat.le_refl _⟩, ⟨by (with_reducible repeat (first | refine blk_drewN ?_ _ | refine blk_drew ?_ | refine blk_alloc ?_ _)); exact BK120.out⟩, ⟨by repeat (first | (with_reducible first | exact HB.out | apply below_alloc | apply pw_below_drewN | apply below_drew1 | refine below_set ?_ GE120.out) | exact HB.out)⟩⟩
        · rw [if_neg c13] at H
          have c13b0 : decide (a1_1 < 1) = false := decide_eq_false c13
          clear c13
          have H' := Aside0.mk H
          clear H
          have hcz15_0 : w7.cell? ⟨gb120, 0, none⟩ = some (.int .i64 a1_0) := (blk_cell BK120.out 0).trans rfl
          have hcz15_1 : w7.cell? ⟨gb120, 1, none⟩ = some (.int .i64 a1_1) := (blk_cell BK120.out 1).trans rfl
          have hfz15_0 := blk_frozen BK120.out 0
          have hfz15_1 := blk_frozen BK120.out 1
          go_wp2
          go_meet
          case rel => exact ⟨_, (decide (a1_1 > (wrap64 (32 - a1_0)))), (by first | rfl | (simp; done) | (simp [*]; done)), H', ⟨by first | omega | exact Nat.le_refl _⟩, ⟨by (with_reducible repeat (first | refine blk_drewN ?_ _ | refine blk_drew ?_ | refine blk_alloc ?_ _)); exact BK120.out⟩, ⟨by repeat (first | (with_reducible first | exact HB.out | apply below_alloc | apply pw_below_drewN | apply below_drew1 | refine below_set ?_ GE120.out) | exact HB.out)⟩⟩
  case rest =>
    clear HC6
    try clear c1
    try clear p2
    try clear c5
    try clear p6
    try clear c9
    try clear c9b0
    try clear c11
    try clear c11b0
    try clear c13
    try clear c13b0
    try clear c14
    try clear hcz10_0
    try clear hcz10_1
    try clear hcz12_0
    try clear hcz12_1
    try clear hcz14_0
    try clear hcz14_1
    try clear hcz15_0
    try clear hcz15_1
    try clear hcz8_0
    try clear hcz8_1
    try clear hfz10_0
    try clear hfz10_1
    try clear hfz12_0
    try clear hfz12_1
    try clear hfz14_0
    try clear hfz14_1
    try clear hfz15_0
    try clear hfz15_1
    try clear hfz8_0
    try clear hfz8_1
    obtain ⟨kq, x57_5, rfl, HA, HJ5, BK120, HB⟩ := hcut
    cases kq with
    | zero => exact absurd HA.out (by simp [spinnakerlaw01_WordFields.j0])
    | succ kj5 =>
      have H := HA.out
      clear HA
      simp only [spinnakerlaw01_WordFields.j0] at H
      by_cases c16 : x57_5 = true
      · subst c16
        have H1 : (if t121 = 0 then (if t123 = 0 then (if t122 = 2 then (if t124 = 2 then ((spinnakerlaw01_awake.f kj5).bind fun t125 => (some t125)) else (some false)) else (some false)) else (some false)) else (some false)) = some r := by rw [if_pos rfl] at H; exact H
        clear H
        have H := H1
        clear H1
        by_cases c17 : t121 = 0
        · rw [if_pos c17] at H
          have c17b0 : (t121 == 0) = true := beq_iff_eq.mpr c17
          have c17b1 : (t121 != 0) = false := bne_eq_false_iff_eq.mpr c17
          clear c17
          by_cases c18 : t123 = 0
          · rw [if_pos c18] at H
            have c18b0 : (t123 == 0) = true := beq_iff_eq.mpr c18
            have c18b1 : (t123 != 0) = false := bne_eq_false_iff_eq.mpr c18
            clear c18
            by_cases c19 : t122 = 2
            · rw [if_pos c19] at H
              have c19b0 : (t122 == 2) = true := beq_iff_eq.mpr c19
              have c19b1 : (t122 != 2) = false := bne_eq_false_iff_eq.mpr c19
              clear c19
              by_cases c20 : t124 = 2
              · rw [if_pos c20] at H
                have c20b0 : (t124 == 2) = true := beq_iff_eq.mpr c20
                have c20b1 : (t124 != 2) = false := bne_eq_false_iff_eq.mpr c20
                clear c20
                replace H := Option.bind_eq_some_iff.mp H
                obtain ⟨t125, A210, H⟩ := H
                replace H : (some t125) = some r := H
                have A21 := Aside0.mk A210
                clear A210
                obtain rfl := Option.some.inj H
                go_wp2_with (first | (go_at_call 9; (with_reducible refine (spinnakerlaw01_awake.calls kj5  t125 _ A21.out).mono ?_); rintro e w22 ⟨rfl, hb⟩; have n0_ := Aside0.mk (blk_below (g := gb120) (o := .cells #[.int .i64 a1_0, .int .i64 a1_1] 31 (0, 0)) (by (with_reducible repeat (first | refine blk_drewN ?_ _ | refine blk_drew ?_ | refine blk_alloc ?_ _)); exact BK120.out) hb); have n1_ := Aside0.mk (below_step (by repeat (first | (with_reducible first | exact HB.out | apply below_alloc | apply pw_below_drewN | apply below_drew1 | refine below_set ?_ GE120.out) | exact HB.out)) hb); clear BK120; clear HB; have BK120 := n0_; have HB := n1_; clear n0_ n1_; (try clear hb); (try clear hb2); (try clear hk); (try clear hi)))
                go_ret
                exact ⟨by first | rfl | (simp [errW_none, errW_some] <;> rfl) | (simp [*, errW_none, errW_some] <;> rfl), by repeat (first | (with_reducible first | exact HB.out | apply below_alloc | apply pw_below_drewN | apply below_drew1 | refine below_set ?_ GE120.out) | exact HB.out)⟩
              · rw [if_neg c20] at H
                have c20b0 : (t124 == 2) = false := beq_eq_false_iff_ne.mpr c20
                have c20b1 : (t124 != 2) = true := bne_iff_ne.mpr c20
                obtain rfl := Option.some.inj H
                go_wp2
                go_ret
                exact ⟨by first | rfl | (simp [errW_none, errW_some] <;> rfl) | (simp [*, errW_none, errW_some] <;> rfl), by repeat (first | (with_reducible first | exact HB.out | apply below_alloc | apply pw_below_drewN | apply below_drew1 | refine below_set ?_ GE120.out) | exact HB.out)⟩
            · rw [if_neg c19] at H
              have c19b0 : (t122 == 2) = false := beq_eq_false_iff_ne.mpr c19
              have c19b1 : (t122 != 2) = true := bne_iff_ne.mpr c19
              obtain rfl := Option.some.inj H
              go_wp2
              go_ret
              exact ⟨by first | rfl | (simp [errW_none, errW_some] <;> rfl) | (simp [*, errW_none, errW_some] <;> rfl), by repeat (first | (with_reducible first | exact HB.out | apply below_alloc | apply pw_below_drewN | apply below_drew1 | refine below_set ?_ GE120.out) | exact HB.out)⟩
          · rw [if_neg c18] at H
            have c18b0 : (t123 == 0) = false := beq_eq_false_iff_ne.mpr c18
            have c18b1 : (t123 != 0) = true := bne_iff_ne.mpr c18
            obtain rfl := Option.some.inj H
            go_wp2
            go_ret
            exact ⟨by first | rfl | (simp [errW_none, errW_some] <;> rfl) | (simp [*, errW_none, errW_some] <;> rfl), by repeat (first | (with_reducible first | exact HB.out | apply below_alloc | apply pw_below_drewN | apply below_drew1 | refine below_set ?_ GE120.out) | exact HB.out)⟩
        · rw [if_neg c17] at H
          have c17b0 : (t121 == 0) = false := beq_eq_false_iff_ne.mpr c17
          have c17b1 : (t121 != 0) = true := bne_iff_ne.mpr c17
          obtain rfl := Option.some.inj H
          go_wp2
          go_ret
          exact ⟨by first | rfl | (simp [errW_none, errW_some] <;> rfl) | (simp [*, errW_none, errW_some] <;> rfl), by repeat (first | (with_reducible first | exact HB.out | apply below_alloc | apply pw_below_drewN | apply below_drew1 | refine below_set ?_ GE120.out) | exact HB.out)⟩
      · replace c16 := Bool.eq_false_iff.mpr c16
        subst c16
        have H1 : ((word_Get.f t123 a1_0 a1_1).bind fun bt126 => (spinnakerlaw01_WordFields.l0 kj5 a0 a2 t121 t122 t123 t124 bt126.1 bt126.2 0 a1_0 a1_1)) = some r := by rw [if_neg (show ¬ (false = true) by decide)] at H; exact H
        clear H
        have H := H1
        clear H1
        replace H := Option.bind_eq_some_iff.mp H
        obtain ⟨⟨t126, t127⟩, A230, H⟩ := H
        replace H : (spinnakerlaw01_WordFields.l0 kj5 a0 a2 t121 t122 t123 t124 t126 t127 0 a1_0 a1_1) = some r := H
        have A23 := Aside0.mk A230
        clear A230
        have H' := Aside0.mk H
        clear H
        have hcz24_0 : wc.cell? ⟨gb120, 0, none⟩ = some (.int .i64 a1_0) := (blk_cell BK120.out 0).trans rfl
        have hcz24_1 : wc.cell? ⟨gb120, 1, none⟩ = some (.int .i64 a1_1) := (blk_cell BK120.out 1).trans rfl
        have hfz24_0 := blk_frozen BK120.out 0
        have hfz24_1 := blk_frozen BK120.out 1
        go_wp2_with (first | ((with_reducible refine gate_callee (f := 13) rfl ?_); refine goesL_ (some 81) rfl rfl Try.func13 (by kernel_rfl) rfl #[.int .u32 t123, .int .i64 a1_0, .int .i64 a1_1] rfl (by (try simp only [List.map_toArray, List.map_cons, List.map_nil]); first | done | rfl | (simp only [List.length_drop, List.length_take]; rfl)) ?_; (with_reducible refine (word_Get.calls t123 a1_0 a1_1 t126 t127 _ A23.out).mono ?_); rintro e w' ⟨rfl, ⟨nd, rfl⟩⟩; refine ⟨_, rfl, ?_⟩))
        go_loopg [13] kj5 (fun kq v13 w' => ∃ (x13_2 : Int), v13 = .int .i64 x13_2 ∧ Aside0 (spinnakerlaw01_WordFields.l0 kq a0 a2 t121 t122 t123 t124 t126 t127 x13_2 a1_0 a1_1 = some r) ∧ Aside0 (kq ≤ kj5) ∧ Aside0 (w'.heap[gb120]? = some (.cells #[.int .i64 a1_0, .int .i64 a1_1] 31 (0, 0))) ∧ Aside0 (Below w.heap.size w w'))
        case atStart => exact ⟨(0), (by first | rfl | (simp; done) | (simp [*]; done)), H', ⟨Nat.le_refl _⟩, ⟨by (with_reducible repeat (first | refine blk_drewN ?_ _ | refine blk_drew ?_ | refine blk_alloc ?_ _)); exact BK120.out⟩, ⟨by repeat (first | (with_reducible first | exact HB.out | apply below_alloc | apply pw_below_drewN | apply below_drew1 | refine below_set ?_ GE120.out) | exact HB.out)⟩⟩
        case round =>
          clear H'
          try clear c1
          try clear c2
          try clear p2
          try clear c5
          try clear p6
          try clear c9
          try clear c9b0
          try clear c11
          try clear c11b0
          try clear c13
          try clear c13b0
          try clear c14
          try clear c16
          try clear c17
          try clear c17b0
          try clear c17b1
          try clear c18
          try clear c18b0
          try clear c18b1
          try clear c19
          try clear c19b0
          try clear c19b1
          try clear c20
          try clear c20b0
          try clear c20b1
          try clear hcz10_0
          try clear hcz10_1
          try clear hcz12_0
          try clear hcz12_1
          try clear hcz14_0
          try clear hcz14_1
          try clear hcz15_0
          try clear hcz15_1
          try clear hcz24_0
          try clear hcz24_1
          try clear hcz8_0
          try clear hcz8_1
          try clear hfz10_0
          try clear hfz10_1
          try clear hfz12_0
          try clear hfz12_1
          try clear hfz14_0
          try clear hfz14_1
          try clear hfz15_0
          try clear hfz15_1
          try clear hfz24_0
          try clear hfz24_1
          try clear hfz8_0
          try clear hfz8_1
          try clear p2
          try clear p6
          obtain ⟨x13_2, rfl, HA, HK2, BK120, HB⟩ := hrel
          cases gk with
          | zero => exact absurd HA.out (by simp [spinnakerlaw01_WordFields.l0])
          | succ k2 =>
            have H := HA.out
            clear HA
            simp only [spinnakerlaw01_WordFields.l0] at H
            by_cases c25 : x13_2 < 32
            · rw [if_pos c25] at H
              have c25b0 : decide (x13_2 < 32) = true := decide_eq_true c25
              clear c25
              replace H := Option.bind_eq_some_iff.mp H
              obtain ⟨t129, A260, H⟩ := H
              replace H : ((spinnakerref01_Bit.f k2 (IntKind.u64.wrap (t123)) x13_2).bind fun t130 => (if x13_2 ≥ a1_0 then (spinnakerlaw01_WordFields.j2 k2 a0 a2 t121 t122 t123 t124 t126 t127 x13_2 t129 t130 (decide (x13_2 < (wrap64 (a1_0 + a1_1)))) a1_0 a1_1) else (spinnakerlaw01_WordFields.j2 k2 a0 a2 t121 t122 t123 t124 t126 t127 x13_2 t129 t130 false a1_0 a1_1))) = some r := H
              have A26 := Aside0.mk A260
              clear A260
              replace H := Option.bind_eq_some_iff.mp H
              obtain ⟨t130, A270, H⟩ := H
              replace H : (if x13_2 ≥ a1_0 then (spinnakerlaw01_WordFields.j2 k2 a0 a2 t121 t122 t123 t124 t126 t127 x13_2 t129 t130 (decide (x13_2 < (wrap64 (a1_0 + a1_1)))) a1_0 a1_1) else (spinnakerlaw01_WordFields.j2 k2 a0 a2 t121 t122 t123 t124 t126 t127 x13_2 t129 t130 false a1_0 a1_1)) = some r := H
              have A27 := Aside0.mk A270
              clear A270
              have HC28 := Aside0.mk H
              clear H
              go_upto_region 10 with (first | ((with_reducible refine gate_callee (f := 15) rfl ?_); refine goesL_ (some 91) rfl rfl Try.func15 (by kernel_rfl) rfl #[.int .u64 (IntKind.u64.wrap (a0)), .int .i64 x13_2] rfl (by (try simp only [List.map_toArray, List.map_cons, List.map_nil]); first | done | rfl | (simp only [List.length_drop, List.length_take]; rfl)) ?_; (with_reducible refine (spinnakerref01_Bit.calls k2 (IntKind.u64.wrap (a0)) x13_2 t129 _ A26.out).mono ?_); rintro e w' ⟨rfl, ⟨nd, rfl⟩⟩; refine ⟨_, rfl, ?_⟩) | ((with_reducible refine gate_callee (f := 15) rfl ?_); refine goesL_ (some 95) rfl rfl Try.func15 (by kernel_rfl) rfl #[.int .u64 (IntKind.u64.wrap (t123)), .int .i64 x13_2] rfl (by (try simp only [List.map_toArray, List.map_cons, List.map_nil]); first | done | rfl | (simp only [List.length_drop, List.length_take]; rfl)) ?_; (with_reducible refine (spinnakerref01_Bit.calls k2 (IntKind.u64.wrap (t123)) x13_2 t130 _ A27.out).mono ?_); rintro e w' ⟨rfl, ⟨nd, rfl⟩⟩; refine ⟨_, rfl, ?_⟩))
              (try simp only [Act.put, List.setIfInBounds_toArray, List.set_cons_zero, List.set_cons_succ])
              go_cut [16] (fun v16 wc => ∃ (kq : Nat) (x16_27 : Bool), v16 = .bool x16_27 ∧ Aside0 (spinnakerlaw01_WordFields.j2 kq a0 a2 t121 t122 t123 t124 t126 t127 x13_2 t129 t130 x16_27 a1_0 a1_1 = some r) ∧ Aside0 (kq ≤ k2) ∧ Aside0 (wc.heap[gb120]? = some (.cells #[.int .i64 a1_0, .int .i64 a1_1] 31 (0, 0))) ∧ Aside0 (Below w.heap.size w wc))
              case first =>
                have H := HC28.out
                clear HC28
                by_cases c29 : x13_2 ≥ a1_0
                · rw [if_pos c29] at H
                  have c29b0 : decide (a1_0 ≤ x13_2) = true := decide_eq_true c29
                  clear c29
                  (first | rw [c29b0] | (simp only [i64_w, i32_w]; rw [c29b0]) | skip)
                  have H' := Aside0.mk H
                  clear H
                  have hcz30_0 : wr.cell? ⟨gb120, 0, none⟩ = some (.int .i64 a1_0) := (blk_cell BK120.out 0).trans rfl
                  have hcz30_1 : wr.cell? ⟨gb120, 1, none⟩ = some (.int .i64 a1_1) := (blk_cell BK120.out 1).trans rfl
                  have hfz30_0 := blk_frozen BK120.out 0
                  have hfz30_1 := blk_frozen BK120.out 1
                  go_wp2
                  go_meet
                  case rel => exact ⟨_, (decide (x13_2 < (wrap64 (a1_0 + a1_1)))), (by first | rfl | (simp; done) | (simp [*]; done)), H', ⟨by have := HJ5.out; have := HK2.out; first | omega | exact Nat.le_refl _⟩, ⟨by (with_reducible repeat (first | refine blk_drewN ?_ _ | refine blk_drew ?_ | refine blk_alloc ?_ _)); exact BK120.out⟩, ⟨by repeat (first | (with_reducible first | exact HB.out | apply below_alloc | apply pw_below_drewN | apply below_drew1 | refine below_set ?_ GE120.out) | exact HB.out)⟩⟩
                · rw [if_neg c29] at H
                  have c29b0 : decide (a1_0 ≤ x13_2) = false := decide_eq_false c29
                  clear c29
                  (first | rw [c29b0] | (simp only [i64_w, i32_w]; rw [c29b0]) | skip)
                  have H' := Aside0.mk H
                  clear H
                  have hcz31_0 : wr.cell? ⟨gb120, 0, none⟩ = some (.int .i64 a1_0) := (blk_cell BK120.out 0).trans rfl
                  have hcz31_1 : wr.cell? ⟨gb120, 1, none⟩ = some (.int .i64 a1_1) := (blk_cell BK120.out 1).trans rfl
                  have hfz31_0 := blk_frozen BK120.out 0
                  have hfz31_1 := blk_frozen BK120.out 1
                  go_wp2
                  go_meet
                  case rel => exact ⟨_, (false), (by first | rfl | (simp; done) | (simp [*]; done)), H', ⟨by have := HJ5.out; have := HK2.out; first | omega | exact Nat.le_refl _⟩, ⟨by (with_reducible repeat (first | refine blk_drewN ?_ _ | refine blk_drew ?_ | refine blk_alloc ?_ _)); exact BK120.out⟩, ⟨by repeat (first | (with_reducible first | exact HB.out | apply below_alloc | apply pw_below_drewN | apply below_drew1 | refine below_set ?_ GE120.out) | exact HB.out)⟩⟩
              case rest =>
                clear HC28
                try clear c1
                try clear c2
                try clear p2
                try clear c5
                try clear p6
                try clear c9
                try clear c9b0
                try clear c11
                try clear c11b0
                try clear c13
                try clear c13b0
                try clear c14
                try clear c15
                try clear c16
                try clear c17
                try clear c17b0
                try clear c17b1
                try clear c18
                try clear c18b0
                try clear c18b1
                try clear c19
                try clear c19b0
                try clear c19b1
                try clear c20
                try clear c20b0
                try clear c20b1
                try clear c25
                try clear c25b0
                try clear c29
                try clear c29b0
                try clear hcz10_0
                try clear hcz10_1
                try clear hcz12_0
                try clear hcz12_1
                try clear hcz14_0
                try clear hcz14_1
                try clear hcz15_0
                try clear hcz15_1
                try clear hcz24_0
                try clear hcz24_1
                try clear hcz30_0
                try clear hcz30_1
                try clear hcz31_0
                try clear hcz31_1
                try clear hcz8_0
                try clear hcz8_1
                try clear hfz10_0
                try clear hfz10_1
                try clear hfz12_0
                try clear hfz12_1
                try clear hfz14_0
                try clear hfz14_1
                try clear hfz15_0
                try clear hfz15_1
                try clear hfz24_0
                try clear hfz24_1
                try clear hfz30_0
                try clear hfz30_1
                try clear hfz31_0
                try clear hfz31_1
                try clear hfz8_0
                try clear hfz8_1
                try clear p2
                try clear p6
                obtain ⟨kq, x16_27, rfl, HA, HJ27, BK120, HB⟩ := hcut
                cases kq with
                | zero => exact absurd HA.out (by simp [spinnakerlaw01_WordFields.j2])
                | succ kj27 =>
                  have H := HA.out
                  clear HA
                  simp only [spinnakerlaw01_WordFields.j2] at H
                  by_cases c32 : x16_27 = true
                  · subst c32
                    have H1 : ((spinnakerref01_Bit.f kj27 (IntKind.u64.wrap (a2)) (wrap64 (x13_2 - a1_0))).bind fun t131 => (if t130 = t131 then ((spinnakerref01_Bit.f kj27 (IntKind.u64.wrap (t121)) (wrap64 (x13_2 - a1_0))).bind fun t132 => (if t132 = t129 then ((spinnakerref01_Bit.f kj27 (IntKind.u64.wrap (t126)) (wrap64 (x13_2 - a1_0))).bind fun t133 => (if t133 = t130 then (spinnakerlaw01_WordFields.l0 kj27 a0 a2 t121 t122 t123 t124 t126 t127 (wrap64 (x13_2 + 1)) a1_0 a1_1) else (some false))) else (some false))) else (some false))) = some r := by rw [if_pos rfl] at H; exact H
                    clear H
                    have H := H1
                    clear H1
                    replace H := Option.bind_eq_some_iff.mp H
                    obtain ⟨t131, A330, H⟩ := H
                    replace H : (if t130 = t131 then ((spinnakerref01_Bit.f kj27 (IntKind.u64.wrap (t121)) (wrap64 (x13_2 - a1_0))).bind fun t132 => (if t132 = t129 then ((spinnakerref01_Bit.f kj27 (IntKind.u64.wrap (t126)) (wrap64 (x13_2 - a1_0))).bind fun t133 => (if t133 = t130 then (spinnakerlaw01_WordFields.l0 kj27 a0 a2 t121 t122 t123 t124 t126 t127 (wrap64 (x13_2 + 1)) a1_0 a1_1) else (some false))) else (some false))) else (some false)) = some r := H
                    have A33 := Aside0.mk A330
                    clear A330
                    by_cases c34 : t130 = t131
                    · rw [if_pos c34] at H
                      have c34b0 : (t130 == t131) = true := beq_iff_eq.mpr c34
                      have c34b1 : (t130 != t131) = false := bne_eq_false_iff_eq.mpr c34
                      clear c34
                      replace H := Option.bind_eq_some_iff.mp H
                      obtain ⟨t132, A350, H⟩ := H
                      replace H : (if t132 = t129 then ((spinnakerref01_Bit.f kj27 (IntKind.u64.wrap (t126)) (wrap64 (x13_2 - a1_0))).bind fun t133 => (if t133 = t130 then (spinnakerlaw01_WordFields.l0 kj27 a0 a2 t121 t122 t123 t124 t126 t127 (wrap64 (x13_2 + 1)) a1_0 a1_1) else (some false))) else (some false)) = some r := H
                      have A35 := Aside0.mk A350
                      clear A350
                      by_cases c36 : t132 = t129
                      · rw [if_pos c36] at H
                        have c36b0 : (t132 == t129) = true := beq_iff_eq.mpr c36
                        have c36b1 : (t132 != t129) = false := bne_eq_false_iff_eq.mpr c36
                        clear c36
                        replace H := Option.bind_eq_some_iff.mp H
                        obtain ⟨t133, A370, H⟩ := H
                        replace H : (if t133 = t130 then (spinnakerlaw01_WordFields.l0 kj27 a0 a2 t121 t122 t123 t124 t126 t127 (wrap64 (x13_2 + 1)) a1_0 a1_1) else (some false)) = some r := H
                        have A37 := Aside0.mk A370
                        clear A370
                        by_cases c38 : t133 = t130
                        · rw [if_pos c38] at H
                          have c38b0 : (t133 == t130) = true := beq_iff_eq.mpr c38
                          have c38b1 : (t133 != t130) = false := bne_eq_false_iff_eq.mpr c38
                          clear c38
                          have H' := Aside0.mk H
                          clear H
                          have hcz39_0 : wc.cell? ⟨gb120, 0, none⟩ = some (.int .i64 a1_0) := (blk_cell BK120.out 0).trans rfl
                          have hcz39_1 : wc.cell? ⟨gb120, 1, none⟩ = some (.int .i64 a1_1) := (blk_cell BK120.out 1).trans rfl
                          have hfz39_0 := blk_frozen BK120.out 0
                          have hfz39_1 := blk_frozen BK120.out 1
                          go_wp2_with (first | (go_at_call 15; (with_reducible refine (spinnakerref01_Bit.calls kj27 (IntKind.u64.wrap (a2)) (wrap64 (x13_2 - a1_0)) t131 _ A33.out).mono ?_); rintro e w' ⟨rfl, ⟨nd, rfl⟩⟩) | (go_at_call 15; (with_reducible refine (spinnakerref01_Bit.calls kj27 (IntKind.u64.wrap (t121)) (wrap64 (x13_2 - a1_0)) t132 _ A35.out).mono ?_); rintro e w' ⟨rfl, ⟨nd, rfl⟩⟩) | (go_at_call 15; (with_reducible refine (spinnakerref01_Bit.calls kj27 (IntKind.u64.wrap (t126)) (wrap64 (x13_2 - a1_0)) t133 _ A37.out).mono ?_); rintro e w' ⟨rfl, ⟨nd, rfl⟩⟩))
                          go_roundg kj27
                          case measure => have := HJ5.out; have := HK2.out; have := HJ27.out; omega
                          case rel => exact ⟨(wrap64 (x13_2 + 1)), (by first | rfl | (simp; done) | (simp [*]; done)), H', ⟨by have := HJ5.out; have := HK2.out; have := HJ27.out; omega⟩, ⟨by (with_reducible repeat (first | refine blk_drewN ?_ _ | refine blk_drew ?_ | refine blk_alloc ?_ _)); exact BK120.out⟩, ⟨by repeat (first | (with_reducible first | exact HB.out | apply below_alloc | apply pw_below_drewN | apply below_drew1 | refine below_set ?_ GE120.out) | exact HB.out)⟩⟩
                        · rw [if_neg c38] at H
                          have c38b0 : (t133 == t130) = false := beq_eq_false_iff_ne.mpr c38
                          have c38b1 : (t133 != t130) = true := bne_iff_ne.mpr c38
                          obtain rfl := Option.some.inj H
                          have hcz40_0 : wc.cell? ⟨gb120, 0, none⟩ = some (.int .i64 a1_0) := (blk_cell BK120.out 0).trans rfl
                          have hcz40_1 : wc.cell? ⟨gb120, 1, none⟩ = some (.int .i64 a1_1) := (blk_cell BK120.out 1).trans rfl
                          have hfz40_0 := blk_frozen BK120.out 0
                          have hfz40_1 := blk_frozen BK120.out 1
                          go_wp2_with (first | (go_at_call 15; (with_reducible refine (spinnakerref01_Bit.calls kj27 (IntKind.u64.wrap (a2)) (wrap64 (x13_2 - a1_0)) t131 _ A33.out).mono ?_); rintro e w' ⟨rfl, ⟨nd, rfl⟩⟩) | (go_at_call 15; (with_reducible refine (spinnakerref01_Bit.calls kj27 (IntKind.u64.wrap (t121)) (wrap64 (x13_2 - a1_0)) t132 _ A35.out).mono ?_); rintro e w' ⟨rfl, ⟨nd, rfl⟩⟩) | (go_at_call 15; (with_reducible refine (spinnakerref01_Bit.calls kj27 (IntKind.u64.wrap (t126)) (wrap64 (x13_2 - a1_0)) t133 _ A37.out).mono ?_); rintro e w' ⟨rfl, ⟨nd, rfl⟩⟩))
                          go_ret
                          exact ⟨by first | rfl | (simp [errW_none, errW_some] <;> rfl) | (simp [*, errW_none, errW_some] <;> rfl), by repeat (first | (with_reducible first | exact HB.out | apply below_alloc | apply pw_below_drewN | apply below_drew1 | refine below_set ?_ GE120.out) | exact HB.out)⟩
                      · rw [if_neg c36] at H
                        have c36b0 : (t132 == t129) = false := beq_eq_false_iff_ne.mpr c36
                        have c36b1 : (t132 != t129) = true := bne_iff_ne.mpr c36
                        obtain rfl := Option.some.inj H
                        have hcz41_0 : wc.cell? ⟨gb120, 0, none⟩ = some (.int .i64 a1_0) := (blk_cell BK120.out 0).trans rfl
                        have hcz41_1 : wc.cell? ⟨gb120, 1, none⟩ = some (.int .i64 a1_1) := (blk_cell BK120.out 1).trans rfl
                        have hfz41_0 := blk_frozen BK120.out 0
                        have hfz41_1 := blk_frozen BK120.out 1
                        go_wp2_with (first | (go_at_call 15; (with_reducible refine (spinnakerref01_Bit.calls kj27 (IntKind.u64.wrap (a2)) (wrap64 (x13_2 - a1_0)) t131 _ A33.out).mono ?_); rintro e w' ⟨rfl, ⟨nd, rfl⟩⟩) | (go_at_call 15; (with_reducible refine (spinnakerref01_Bit.calls kj27 (IntKind.u64.wrap (t121)) (wrap64 (x13_2 - a1_0)) t132 _ A35.out).mono ?_); rintro e w' ⟨rfl, ⟨nd, rfl⟩⟩))
                        go_ret
                        exact ⟨by first | rfl | (simp [errW_none, errW_some] <;> rfl) | (simp [*, errW_none, errW_some] <;> rfl), by repeat (first | (with_reducible first | exact HB.out | apply below_alloc | apply pw_below_drewN | apply below_drew1 | refine below_set ?_ GE120.out) | exact HB.out)⟩
                    · rw [if_neg c34] at H
                      have c34b0 : (t130 == t131) = false := beq_eq_false_iff_ne.mpr c34
                      have c34b1 : (t130 != t131) = true := bne_iff_ne.mpr c34
                      obtain rfl := Option.some.inj H
                      have hcz42_0 : wc.cell? ⟨gb120, 0, none⟩ = some (.int .i64 a1_0) := (blk_cell BK120.out 0).trans rfl
                      have hcz42_1 : wc.cell? ⟨gb120, 1, none⟩ = some (.int .i64 a1_1) := (blk_cell BK120.out 1).trans rfl
                      have hfz42_0 := blk_frozen BK120.out 0
                      have hfz42_1 := blk_frozen BK120.out 1
                      go_wp2_with (first | (go_at_call 15; (with_reducible refine (spinnakerref01_Bit.calls kj27 (IntKind.u64.wrap (a2)) (wrap64 (x13_2 - a1_0)) t131 _ A33.out).mono ?_); rintro e w' ⟨rfl, ⟨nd, rfl⟩⟩))
                      go_ret
                      exact ⟨by first | rfl | (simp [errW_none, errW_some] <;> rfl) | (simp [*, errW_none, errW_some] <;> rfl), by repeat (first | (with_reducible first | exact HB.out | apply below_alloc | apply pw_below_drewN | apply below_drew1 | refine below_set ?_ GE120.out) | exact HB.out)⟩
                  · replace c32 := Bool.eq_false_iff.mpr c32
                    subst c32
                    have H1 : (if t130 = t129 then (spinnakerlaw01_WordFields.l0 kj27 a0 a2 t121 t122 t123 t124 t126 t127 (wrap64 (x13_2 + 1)) a1_0 a1_1) else (some false)) = some r := by rw [if_neg (show ¬ (false = true) by decide)] at H; exact H
                    clear H
                    have H := H1
                    clear H1
                    by_cases c43 : t130 = t129
                    · rw [if_pos c43] at H
                      have c43b0 : (t130 == t129) = true := beq_iff_eq.mpr c43
                      have c43b1 : (t130 != t129) = false := bne_eq_false_iff_eq.mpr c43
                      clear c43
                      have H' := Aside0.mk H
                      clear H
                      go_wp2
                      go_roundg kj27
                      case measure => have := HJ5.out; have := HK2.out; have := HJ27.out; omega
                      case rel => exact ⟨(wrap64 (x13_2 + 1)), (by first | rfl | (simp; done) | (simp [*]; done)), H', ⟨by have := HJ5.out; have := HK2.out; have := HJ27.out; omega⟩, ⟨by (with_reducible repeat (first | refine blk_drewN ?_ _ | refine blk_drew ?_ | refine blk_alloc ?_ _)); exact BK120.out⟩, ⟨by repeat (first | (with_reducible first | exact HB.out | apply below_alloc | apply pw_below_drewN | apply below_drew1 | refine below_set ?_ GE120.out) | exact HB.out)⟩⟩
                    · rw [if_neg c43] at H
                      have c43b0 : (t130 == t129) = false := beq_eq_false_iff_ne.mpr c43
                      have c43b1 : (t130 != t129) = true := bne_iff_ne.mpr c43
                      obtain rfl := Option.some.inj H
                      go_wp2
                      go_ret
                      exact ⟨by first | rfl | (simp [errW_none, errW_some] <;> rfl) | (simp [*, errW_none, errW_some] <;> rfl), by repeat (first | (with_reducible first | exact HB.out | apply below_alloc | apply pw_below_drewN | apply below_drew1 | refine below_set ?_ GE120.out) | exact HB.out)⟩
            · rw [if_neg c25] at H
              have c25b0 : decide (x13_2 < 32) = false := decide_eq_false c25
              clear c25
              obtain ⟨ji44, hji44⟩ : ∃ j_ : Int, (IntKind.u64.wrap (a1_1)) = j_ := ⟨_, rfl⟩
              replace H : (if 0 ≤ (ji44) then (if t122 = 0 then (if t124 = 0 then (if t127 = 0 then (if (IntKind.u64.wrap (t121)) < (shl .u64 1 (ji44)) then (if (IntKind.u64.wrap (t126)) < (shl .u64 1 (ji44)) then ((spinnakerlaw01_awake.f k2).bind fun t128 => (some t128)) else (some false)) else (some false)) else (some false)) else (some false)) else (some false)) else (none)) = some r := by first | (rw [hji44] at H; exact H) | (simp only [hji44] at H ⊢; exact H)
              by_cases c45 : 0 ≤ (ji44)
              · rw [if_pos c45] at H
                have c45b0 := eq_true c45
                have c45b1 : decide (0 ≤ (ji44)) = true := decide_eq_true c45
                clear c45
                obtain ⟨ji46, hji46⟩ : ∃ j_ : Int, (shl .u64 1 (ji44)) = j_ := ⟨_, rfl⟩
                replace H : (if t122 = 0 then (if t124 = 0 then (if t127 = 0 then (if (IntKind.u64.wrap (t121)) < (ji46) then (if (IntKind.u64.wrap (t126)) < (ji46) then ((spinnakerlaw01_awake.f k2).bind fun t128 => (some t128)) else (some false)) else (some false)) else (some false)) else (some false)) else (some false)) = some r := by first | (rw [hji46] at H; exact H) | (simp only [hji46] at H ⊢; exact H)
                have hji46_ : (IntKind.u64.wrap (1 * 2 ^ min (ji44).toNat 64)) = ji46 := hji46
                have hji46z : (ji44) ≤ 64 → (IntKind.u64.wrap (1 * 2 ^ (ji44).toNat)) = ji46 := shl_small hji46
                have hji46u : (IntKind.u64.wrap (2 ^ min (ji44).toNat 64)) = ji46 := by have h_ := hji46_; rw [Int.one_mul] at h_; exact h_
                have hji46v : (ji44) ≤ 64 → (IntKind.u64.wrap (2 ^ (ji44).toNat)) = ji46 := fun hle_ => by have h_ := hji46z hle_; rw [Int.one_mul] at h_; exact h_
                by_cases c47 : t122 = 0
                · rw [if_pos c47] at H
                  have c47b0 : (t122 == 0) = true := beq_iff_eq.mpr c47
                  have c47b1 : (t122 != 0) = false := bne_eq_false_iff_eq.mpr c47
                  clear c47
                  by_cases c48 : t124 = 0
                  · rw [if_pos c48] at H
                    have c48b0 : (t124 == 0) = true := beq_iff_eq.mpr c48
                    have c48b1 : (t124 != 0) = false := bne_eq_false_iff_eq.mpr c48
                    clear c48
                    by_cases c49 : t127 = 0
                    · rw [if_pos c49] at H
                      have c49b0 : (t127 == 0) = true := beq_iff_eq.mpr c49
                      have c49b1 : (t127 != 0) = false := bne_eq_false_iff_eq.mpr c49
                      clear c49
                      by_cases c50 : (IntKind.u64.wrap (t121)) < (ji46)
                      · rw [if_pos c50] at H
                        have c50b0 : decide ((IntKind.u64.wrap (t121)) < (ji46)) = true := decide_eq_true c50
                        clear c50
                        by_cases c51 : (IntKind.u64.wrap (t126)) < (ji46)
                        · rw [if_pos c51] at H
                          have c51b0 : decide ((IntKind.u64.wrap (t126)) < (ji46)) = true := decide_eq_true c51
                          clear c51
                          replace H := Option.bind_eq_some_iff.mp H
                          obtain ⟨t128, A520, H⟩ := H
                          replace H : (some t128) = some r := H
                          have A52 := Aside0.mk A520
                          clear A520
                          obtain rfl := Option.some.inj H
                          have hcz53_0 : wr.cell? ⟨gb120, 0, none⟩ = some (.int .i64 a1_0) := (blk_cell BK120.out 0).trans rfl
                          have hcz53_1 : wr.cell? ⟨gb120, 1, none⟩ = some (.int .i64 a1_1) := (blk_cell BK120.out 1).trans rfl
                          have hfz53_0 := blk_frozen BK120.out 0
                          have hfz53_1 := blk_frozen BK120.out 1
                          go_wp2_with (first | (go_at_call 9; (with_reducible refine (spinnakerlaw01_awake.calls k2  t128 _ A52.out).mono ?_); rintro e w54 ⟨rfl, hb⟩; have n0_ := Aside0.mk (blk_below (g := gb120) (o := .cells #[.int .i64 a1_0, .int .i64 a1_1] 31 (0, 0)) (by (with_reducible repeat (first | refine blk_drewN ?_ _ | refine blk_drew ?_ | refine blk_alloc ?_ _)); exact BK120.out) hb); have n1_ := Aside0.mk (below_step (by repeat (first | (with_reducible first | exact HB.out | apply below_alloc | apply pw_below_drewN | apply below_drew1 | refine below_set ?_ GE120.out) | exact HB.out)) hb); clear BK120; clear HB; have BK120 := n0_; have HB := n1_; clear n0_ n1_; (try clear hb); (try clear hb2); (try clear hk); (try clear hi)))
                          go_ret
                          exact ⟨by first | rfl | (simp [errW_none, errW_some] <;> rfl) | (simp only [← hji44, ← hji46]; first | rfl | (simp [errW_none, errW_some] <;> rfl)) | (simp [*, errW_none, errW_some] <;> rfl), by repeat (first | (with_reducible first | exact HB.out | apply below_alloc | apply pw_below_drewN | apply below_drew1 | refine below_set ?_ GE120.out) | exact HB.out)⟩
                        · rw [if_neg c51] at H
                          have c51b0 : decide ((IntKind.u64.wrap (t126)) < (ji46)) = false := decide_eq_false c51
                          clear c51
                          obtain rfl := Option.some.inj H
                          have hcz55_0 : wr.cell? ⟨gb120, 0, none⟩ = some (.int .i64 a1_0) := (blk_cell BK120.out 0).trans rfl
                          have hcz55_1 : wr.cell? ⟨gb120, 1, none⟩ = some (.int .i64 a1_1) := (blk_cell BK120.out 1).trans rfl
                          have hfz55_0 := blk_frozen BK120.out 0
                          have hfz55_1 := blk_frozen BK120.out 1
                          go_wp2
                          go_ret
                          exact ⟨by first | rfl | (simp [errW_none, errW_some] <;> rfl) | (simp only [← hji44, ← hji46]; first | rfl | (simp [errW_none, errW_some] <;> rfl)) | (simp [*, errW_none, errW_some] <;> rfl), by repeat (first | (with_reducible first | exact HB.out | apply below_alloc | apply pw_below_drewN | apply below_drew1 | refine below_set ?_ GE120.out) | exact HB.out)⟩
                      · rw [if_neg c50] at H
                        have c50b0 : decide ((IntKind.u64.wrap (t121)) < (ji46)) = false := decide_eq_false c50
                        clear c50
                        obtain rfl := Option.some.inj H
                        have hcz56_0 : wr.cell? ⟨gb120, 0, none⟩ = some (.int .i64 a1_0) := (blk_cell BK120.out 0).trans rfl
                        have hcz56_1 : wr.cell? ⟨gb120, 1, none⟩ = some (.int .i64 a1_1) := (blk_cell BK120.out 1).trans rfl
                        have hfz56_0 := blk_frozen BK120.out 0
                        have hfz56_1 := blk_frozen BK120.out 1
                        go_wp2
                        go_ret
                        exact ⟨by first | rfl | (simp [errW_none, errW_some] <;> rfl) | (simp only [← hji44, ← hji46]; first | rfl | (simp [errW_none, errW_some] <;> rfl)) | (simp [*, errW_none, errW_some] <;> rfl), by repeat (first | (with_reducible first | exact HB.out | apply below_alloc | apply pw_below_drewN | apply below_drew1 | refine below_set ?_ GE120.out) | exact HB.out)⟩
                    · rw [if_neg c49] at H
                      have c49b0 : (t127 == 0) = false := beq_eq_false_iff_ne.mpr c49
                      have c49b1 : (t127 != 0) = true := bne_iff_ne.mpr c49
                      obtain rfl := Option.some.inj H
                      have hcz57_0 : wr.cell? ⟨gb120, 0, none⟩ = some (.int .i64 a1_0) := (blk_cell BK120.out 0).trans rfl
                      have hcz57_1 : wr.cell? ⟨gb120, 1, none⟩ = some (.int .i64 a1_1) := (blk_cell BK120.out 1).trans rfl
                      have hfz57_0 := blk_frozen BK120.out 0
                      have hfz57_1 := blk_frozen BK120.out 1
                      go_wp2
                      go_ret
                      exact ⟨by first | rfl | (simp [errW_none, errW_some] <;> rfl) | (simp only [← hji44, ← hji46]; first | rfl | (simp [errW_none, errW_some] <;> rfl)) | (simp [*, errW_none, errW_some] <;> rfl), by repeat (first | (with_reducible first | exact HB.out | apply below_alloc | apply pw_below_drewN | apply below_drew1 | refine below_set ?_ GE120.out) | exact HB.out)⟩
                  · rw [if_neg c48] at H
                    have c48b0 : (t124 == 0) = false := beq_eq_false_iff_ne.mpr c48
                    have c48b1 : (t124 != 0) = true := bne_iff_ne.mpr c48
                    obtain rfl := Option.some.inj H
                    have hcz58_0 : wr.cell? ⟨gb120, 0, none⟩ = some (.int .i64 a1_0) := (blk_cell BK120.out 0).trans rfl
                    have hcz58_1 : wr.cell? ⟨gb120, 1, none⟩ = some (.int .i64 a1_1) := (blk_cell BK120.out 1).trans rfl
                    have hfz58_0 := blk_frozen BK120.out 0
                    have hfz58_1 := blk_frozen BK120.out 1
                    go_wp2
                    go_ret
                    exact ⟨by first | rfl | (simp [errW_none, errW_some] <;> rfl) | (simp only [← hji44, ← hji46]; first | rfl | (simp [errW_none, errW_some] <;> rfl)) | (simp [*, errW_none, errW_some] <;> rfl), by repeat (first | (with_reducible first | exact HB.out | apply below_alloc | apply pw_below_drewN | apply below_drew1 | refine below_set ?_ GE120.out) | exact HB.out)⟩
                · rw [if_neg c47] at H
                  have c47b0 : (t122 == 0) = false := beq_eq_false_iff_ne.mpr c47
                  have c47b1 : (t122 != 0) = true := bne_iff_ne.mpr c47
                  obtain rfl := Option.some.inj H
                  have hcz59_0 : wr.cell? ⟨gb120, 0, none⟩ = some (.int .i64 a1_0) := (blk_cell BK120.out 0).trans rfl
                  have hcz59_1 : wr.cell? ⟨gb120, 1, none⟩ = some (.int .i64 a1_1) := (blk_cell BK120.out 1).trans rfl
                  have hfz59_0 := blk_frozen BK120.out 0
                  have hfz59_1 := blk_frozen BK120.out 1
                  go_wp2
                  go_ret
                  exact ⟨by first | rfl | (simp [errW_none, errW_some] <;> rfl) | (simp only [← hji44, ← hji46]; first | rfl | (simp [errW_none, errW_some] <;> rfl)) | (simp [*, errW_none, errW_some] <;> rfl), by repeat (first | (with_reducible first | exact HB.out | apply below_alloc | apply pw_below_drewN | apply below_drew1 | refine below_set ?_ GE120.out) | exact HB.out)⟩
              · rw [if_neg c45] at H
                exact absurd H (by simp)

end Go.Proofs.Ytfjfmkobhbpelaa.GWordFields
