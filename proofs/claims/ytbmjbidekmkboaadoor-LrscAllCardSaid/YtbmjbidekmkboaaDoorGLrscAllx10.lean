-- Written by wip/stub.py of this repo.
import Derived.Test.YtbmjbidekmkboaaDoorGLrscAllx0
import Derived.Test.YtbmjbidekmkboaaDoorGLrscAllx7
import Derived.Test.YtbmjbidekmkboaaDoorGLrscAllx8
import Derived.Test.YtbmjbidekmkboaaDoorGLrscAllx9
namespace Go.Proofs.YtbmjbidekmkboaaDoor.GLrscAll
open Go.RowKit Go.Proofs.YtbmjbidekmkboaaDoorW.PrintWords Go.Proofs.YtbmjbidekmkboaaDoorW.PrintLast Go.Proofs.YtbmjbidekmkboaaDoorW.PrintMore
attribute [local go_sem] max2_int min2_int max_two min_two max_three min_three max_four min_four   -- for this text's walks alone
set_option linter.unusedVariables false
set_option linter.unusedSimpArgs false

/-! ### spinnakerref12_loop: function 62 -/
mutual
def spinnakerref12_loop.l0 : Nat → List (S51) → Int → Int → Int → Int → Option (Bool)
  | 0, _, _, _, _, _ => none
  | k + 1, x0, x1, x2, x3, x9 => if x9 ≤ x3 then (if 0 ≤ x9 then (if x9 < (x0.length : Int) then ((spinnakerref03_HasRd.f k ((rd_T51 x0 x9).f0)).bind fun t201 => (if t201 = true then (if ((rd_T51 x0 x9).f1) = 0 then (spinnakerref12_loop.j1 k x0 x1 x2 x3 x9 false ((rd_T51 x0 x9).f0) ((rd_T51 x0 x9).f1) ((rd_T51 x0 x9).f2) ((rd_T51 x0 x9).f3) ((rd_T51 x0 x9).f4) ((rd_T51 x0 x9).f5) ((rd_T51 x0 x9).f6)) else (if 0 ≤ x1 then (if x1 < (x0.length : Int) then (spinnakerref12_loop.j1 k x0 x1 x2 x3 x9 (((rd_T51 x0 x9).f1) == ((rd_T51 x0 x1).f2)) ((rd_T51 x0 x9).f0) ((rd_T51 x0 x9).f1) ((rd_T51 x0 x9).f2) ((rd_T51 x0 x9).f3) ((rd_T51 x0 x9).f4) ((rd_T51 x0 x9).f5) ((rd_T51 x0 x9).f6)) else (none)) else (none))) else (spinnakerref12_loop.j1 k x0 x1 x2 x3 x9 false ((rd_T51 x0 x9).f0) ((rd_T51 x0 x9).f1) ((rd_T51 x0 x9).f2) ((rd_T51 x0 x9).f3) ((rd_T51 x0 x9).f4) ((rd_T51 x0 x9).f5) ((rd_T51 x0 x9).f6)))) else (none)) else (none)) else (some true)
def spinnakerref12_loop.j1 : Nat → List (S51) → Int → Int → Int → Int → Bool → Int → Int → Int → Int → Int → Bool → Bool → Option (Bool)
  | 0, _, _, _, _, _, _, _, _, _, _, _, _, _ => none
  | k + 1, x0, x1, x2, x3, x9, x11, x201000, x201001, x201002, x201003, x201004, x201005, x201006 => (spinnakerref03_May.f k x201000 x201001 x201002 x201003 x201004 x201005 x201006).bind fun t203 => (if t203 = true then (if x9 = x1 then (if x11 = true then (some false) else (spinnakerref12_loop.l0 k x0 x1 x2 x3 (wrap64 (x9 + 1)))) else (if x9 < x2 then (if x11 = true then (some false) else ((spinnakerref12_reckons.f x201000 x201001 x201002 x201003 x201004 x201005 x201006).bind fun t204 => (if t204 = true then (spinnakerref12_loop.l0 k x0 x1 x2 x3 (wrap64 (x9 + 1))) else ((spinnakerref12_turns.f x201000 x201001 x201002 x201003 x201004 x201005 x201006).bind fun t205 => (if t205 = true then (if x201004 > 0 then (spinnakerref12_loop.l0 k x0 x1 x2 x3 (wrap64 (x9 + 1))) else (some false)) else (some false)))))) else (if x9 = x2 then ((spinnakerref12_conditional.f x201000 x201001 x201002 x201003 x201004 x201005 x201006).bind fun t206 => (if t206 = true then (if 0 ≤ x1 then (if x1 < (x0.length : Int) then (if x201002 = ((rd_T51 x0 x1).f2) then (if ((x201000 == 67) != (((rd_T51 x0 x1).f0) == 66)) = true then (some false) else (spinnakerref12_loop.l0 k x0 x1 x2 x3 (wrap64 (x9 + 1)))) else (some false)) else (none)) else (none)) else (some false))) else (if x9 < x3 then ((spinnakerref12_reckons.f x201000 x201001 x201002 x201003 x201004 x201005 x201006).bind fun t209 => (if t209 = true then (spinnakerref12_loop.l0 k x0 x1 x2 x3 (wrap64 (x9 + 1))) else ((spinnakerref12_turns.f x201000 x201001 x201002 x201003 x201004 x201005 x201006).bind fun t210 => (if t210 = true then (if x201004 > 0 then (spinnakerref12_loop.l0 k x0 x1 x2 x3 (wrap64 (x9 + 1))) else (some false)) else (some false))))) else ((spinnakerref12_turns.f x201000 x201001 x201002 x201003 x201004 x201005 x201006).bind fun t211 => (if t211 = true then (if x201004 = (wrap64 (4 * (wrap64 (x1 - x3)))) then (spinnakerref12_loop.l0 k x0 x1 x2 x3 (wrap64 (x9 + 1))) else (some false)) else (some false))))))) else (some false))
end
def spinnakerref12_loop.f (k : Nat) (l0 : List (S51)) (a1 : Int) (a2 : Int) (a3 : Int) : Option (Bool) := spinnakerref12_loop.l0 k l0 a1 a2 a3 a1
theorem spinnakerref12_loop.mono_l : ∀ k, (∀ y0 y1 y2 y3 y4, LeO (spinnakerref12_loop.l0 k y0 y1 y2 y3 y4) (spinnakerref12_loop.l0 (k + 1) y0 y1 y2 y3 y4)) ∧ (∀ y0 y1 y2 y3 y4 y5 y6 y7 y8 y9 y10 y11 y12, LeO (spinnakerref12_loop.j1 k y0 y1 y2 y3 y4 y5 y6 y7 y8 y9 y10 y11 y12) (spinnakerref12_loop.j1 (k + 1) y0 y1 y2 y3 y4 y5 y6 y7 y8 y9 y10 y11 y12))
 | 0 => ⟨fun _ _ _ _ _ r h => by simp [spinnakerref12_loop.l0] at h, fun _ _ _ _ _ _ _ _ _ _ _ _ _ r h => by simp [spinnakerref12_loop.j1] at h⟩
 | k + 1 => by
  obtain ⟨ih0, ih1⟩ := spinnakerref12_loop.mono_l k
  refine ⟨?_, ?_⟩
  ·intro y0 y1 y2 y3 y4
   unfold spinnakerref12_loop.l0
   repeat' first
   | (with_reducible exact ih0 _ _ _ _ _)
   | (with_reducible exact ih1 _ _ _ _ _ _ _ _ _ _ _ _ _)
   | (with_reducible exact spinnakerref03_HasRd.mono _ _)
   | (with_reducible exact spinnakerref03_May.mono _ _ _ _ _ _ _ _)
   | (with_reducible exact LeO.refl _)
   | (with_reducible exact LeO.none _)
   | (with_reducible refine LeO.ite ?_ ?_)
   | (with_reducible refine LeO.bind ?_ (fun _ => ?_))
   | exact ih0 _ _ _ _ _
   | exact ih1 _ _ _ _ _ _ _ _ _ _ _ _ _
   | exact spinnakerref03_HasRd.mono _ _
   | exact spinnakerref03_May.mono _ _ _ _ _ _ _ _
   | exact LeO.none _
   | refine LeO.ite ?_ ?_
   | refine LeO.bind ?_ (fun _ => ?_)
  ·intro y0 y1 y2 y3 y4 y5 y6 y7 y8 y9 y10 y11 y12
   unfold spinnakerref12_loop.j1
   repeat' first
   | (with_reducible exact ih0 _ _ _ _ _)
   | (with_reducible exact ih1 _ _ _ _ _ _ _ _ _ _ _ _ _)
   | (with_reducible exact spinnakerref03_HasRd.mono _ _)
   | (with_reducible exact spinnakerref03_May.mono _ _ _ _ _ _ _ _)
   | (with_reducible exact LeO.refl _)
   | (with_reducible exact LeO.none _)
   | (with_reducible refine LeO.ite ?_ ?_)
   | (with_reducible refine LeO.bind ?_ (fun _ => ?_))
   | exact ih0 _ _ _ _ _
   | exact ih1 _ _ _ _ _ _ _ _ _ _ _ _ _
   | exact spinnakerref03_HasRd.mono _ _
   | exact spinnakerref03_May.mono _ _ _ _ _ _ _ _
   | exact LeO.none _
   | refine LeO.ite ?_ ?_
   | refine LeO.bind ?_ (fun _ => ?_)
theorem spinnakerref12_loop.mono : ∀ a0 a1 a2 a3 k, LeO (spinnakerref12_loop.f k a0 a1 a2 a3) (spinnakerref12_loop.f (k + 1) a0 a1 a2 a3) := by
 intro a0 a1 a2 a3 k
 obtain ⟨ih0, ih1⟩ := spinnakerref12_loop.mono_l k
 unfold spinnakerref12_loop.f
 repeat' first
   | (with_reducible exact ih0 _ _ _ _ _)
   | (with_reducible exact ih1 _ _ _ _ _ _ _ _ _ _ _ _ _)
   | (with_reducible exact spinnakerref03_HasRd.mono _ _)
   | (with_reducible exact spinnakerref03_May.mono _ _ _ _ _ _ _ _)
   | (with_reducible exact LeO.refl _)
   | (with_reducible exact LeO.none _)
   | (with_reducible refine LeO.ite ?_ ?_)
   | (with_reducible refine LeO.bind ?_ (fun _ => ?_))
   | exact ih0 _ _ _ _ _
   | exact ih1 _ _ _ _ _ _ _ _ _ _ _ _ _
   | exact spinnakerref03_HasRd.mono _ _
   | exact spinnakerref03_May.mono _ _ _ _ _ _ _ _
   | exact LeO.none _
   | refine LeO.ite ?_ ?_
   | refine LeO.bind ?_ (fun _ => ?_)
def spinnakerref12_loop.T5 : Bool × List (List Nat × List Nat) := (true, [([], []), ([0], [0]), ([1], [1]), ([2, 2], [2]), ([3], [3]), ([4, 3], [3, 4]), ([5, 3], [3, 5]), ([3, 6], [3, 6]), ([7, 3], [7]), ([8], [8]), ([9, 8], [8, 9]), ([8], [8]), ([8], [8]), ([11, 12, 8], [8, 11, 12]), ([13, 8], [8, 13]), ([14, 8], [8, 14]), ([10, 15, 8], [8, 10, 15]), ([8, 16], [8, 16]), ([17, 8, 0, 1, 2, 3, 4, 5, 6, 7, 8, 9, 10, 11, 12, 13, 14, 15, 16, 17], [17])])
def spinnakerref12_loop.B5 : List Nat := [0, 1, 3, 7, 15, 31, 63, 127, 255, 511, 1023, 511, 511, 6655, 14847, 31231, 65535, 131071, 262143]
theorem spinnakerref12_loop.tab5 : rtab .any (opsOf Tryd.f62 5) = spinnakerref12_loop.T5 := by kernel_rfl
theorem spinnakerref12_loop.bits5 : waitsOk spinnakerref12_loop.T5.2 spinnakerref12_loop.B5 = true := by kernel_rfl
def spinnakerref12_loop.T17 : Bool × List (List Nat × List Nat) := (true, [([], []), ([0], [0]), ([1], [1]), ([2, 1], [2]), ([3], [3]), ([4, 3], [3, 4]), ([3], [3]), ([3], [3]), ([6, 7, 3], [3, 6, 7]), ([8, 3], [3, 8]), ([9, 3], [3, 9]), ([5, 10, 3], [3, 5, 10]), ([3, 11], [3, 11]), ([12, 3], [12]), ([13], [13]), ([14, 13], [13, 14]), ([15, 13], [13, 15]), ([13], [13]), ([13], [13]), ([17, 18, 13], [13, 17, 18]), ([19, 13], [13, 19]), ([20, 13], [13, 20]), ([21, 13], [13, 21]), ([16, 22, 13], [13, 16, 22]), ([13, 23], [13, 23])])
def spinnakerref12_loop.B17 : List Nat := [0, 1, 3, 7, 15, 31, 15, 15, 207, 463, 975, 2047, 4095, 8191, 16383, 32767, 65535, 16383, 16383, 409599, 933887, 1982463, 4079615, 8388607, 16777215]
theorem spinnakerref12_loop.tab17 : rtab .any (opsOf Tryd.f62 17) = spinnakerref12_loop.T17 := by kernel_rfl
theorem spinnakerref12_loop.bits17 : waitsOk spinnakerref12_loop.T17.2 spinnakerref12_loop.B17 = true := by kernel_rfl
set_option maxHeartbeats 8000000 in
set_option maxRecDepth 100000 in
theorem spinnakerref12_loop.calls (k : Nat) (A0 : Option Addr) (c0 : Nat) (l0 : List (S51)) (a1 : Int) (a2 : Int) (a3 : Int) (r : Bool) (w : World) (hr0 : Kd.C k51 w A0 l0.length l0) (hc0 : l0.length ≤ c0) (h : spinnakerref12_loop.f k l0 a1 a2 a3 = some r) :
  Calls Tryd.prog 62 #[.slice A0 l0.length c0, .int .i64 a1, .int .i64 a2, .int .i64 a3] w fun e w' => e = .returned (.bool r) ∧ Below w.heap.size w w' := by
 have hu51 := Tryd.underlying51
 have HR0 := Aside0.mk hr0
 have HC0 := Aside0.mk hc0
 clear hr0 hc0
 have HB := Aside0.mk (Below.refl w.heap.size w)
 have H : (spinnakerref12_loop.l0 k l0 a1 a2 a3 a1) = some r := h
 clear h
 have H' := Aside0.mk H
 clear H
 go_enter Tryd.func62, Tryd.ntmps62
 go_wp2
 go_loopg [9] k (fun kq v9 w' => ∃ (x9_1 : Int), v9 = .int .i64 x9_1 ∧ Aside0 (spinnakerref12_loop.l0 kq l0 a1 a2 a3 x9_1 = some r) ∧ Aside0 (kq ≤ k) ∧ Aside0 (Below w.heap.size w w'))
 case atStart => exact ⟨(a1), (by first | rfl | (simp; done) | (simp [*]; done)), H', ⟨Nat.le_refl _⟩, ⟨by repeat (first | (with_reducible first | exact HB.out | apply below_alloc | apply pw_below_drewN | apply below_drew1) | exact HB.out)⟩⟩
 case round =>
  clear H'
  try clear p2
  obtain ⟨x9_1, rfl, HA, HK1, HB⟩ := hrel
  cases gk with
  | zero => exact absurd HA.out (by simp [spinnakerref12_loop.l0])
  | succ k1 =>
   have H := HA.out
   clear HA
   simp only [spinnakerref12_loop.l0] at H
   by_cases c5 : x9_1 ≤ a3
   ·rw [if_pos c5] at H
    have c5b0 : decide (x9_1 ≤ a3) = true := decide_eq_true c5
    clear c5
    by_cases c6 : 0 ≤ x9_1
    ·rw [if_pos c6] at H
     have c6b0 : decide (0 ≤ x9_1) = true := decide_eq_true c6
     clear c6
     by_cases c7 : x9_1 < (l0.length : Int)
     ·rw [if_pos c7] at H
      have c7b0 : decide (x9_1 < (l0.length : Int)) = true := decide_eq_true c7
      clear c7
      have HC8 := Aside0.mk H
      clear H
      have p199 : 0 ≤ (x9_1 : Int) := of_decide_eq_true (by first | (with_reducible assumption) | assumption)
      have q199 : x9_1 < (l0.length : Int) := of_decide_eq_true (by first | (with_reducible assumption) | assumption)
      obtain ⟨ad199, e199, hx199_0, hx199_1, hx199_2, hx199_3, hx199_4, hx199_5, hx199_6⟩ := at_T51 HR0.out x9_1 p199 q199
      cases e199
      replace hx199_0 := (HB.out.cell (World.block_lt_of_cell? w _ hx199_0)).trans hx199_0
      replace hx199_1 := (HB.out.cell (World.block_lt_of_cell? w _ hx199_1)).trans hx199_1
      replace hx199_2 := (HB.out.cell (World.block_lt_of_cell? w _ hx199_2)).trans hx199_2
      replace hx199_3 := (HB.out.cell (World.block_lt_of_cell? w _ hx199_3)).trans hx199_3
      replace hx199_4 := (HB.out.cell (World.block_lt_of_cell? w _ hx199_4)).trans hx199_4
      replace hx199_5 := (HB.out.cell (World.block_lt_of_cell? w _ hx199_5)).trans hx199_5
      replace hx199_6 := (HB.out.cell (World.block_lt_of_cell? w _ hx199_6)).trans hx199_6
      replace p199 := eq_true p199
      replace q199 := eq_true q199
      go_upto_region 5 with (first | ((with_reducible refine gate_dst (N := 10) rfl ?_); refine box_event ?hg (N := 10) ?hd (cs := #[.int .i64 0, .int .i64 0, .int .i64 0, .int .i64 0, .int .i64 0, .bool false, .bool false]) (t := 51) ?hr ?_; (case hd => rfl); (case hg => rfl); (case hr => first | (go_simp; done) | (go_simp; rfl)); intro gb200 hg w9 hbox hb; have n0_ := Aside0.mk (below_step (by repeat (first | (with_reducible first | exact HB.out | apply below_alloc | apply pw_below_drewN | apply below_drew1) | exact HB.out)) hb); have n1_ := Aside0.mk (hbox); have n2_ := Aside0.mk ((by rw [hg]; exact (below_size (by repeat (first | (with_reducible first | exact HB.out | apply below_alloc | apply pw_below_drewN | apply below_drew1) | exact HB.out))) : w.heap.size ≤ gb200)); have n3_ := Aside0.mk ((by rw [hg]; exact (below_size (by repeat (first | (with_reducible first | exact HB.out | apply below_alloc | apply pw_below_drewN | apply below_drew1) | exact HB.out))) : w.heap.size ≤ gb200)); clear HB; have HB := n0_; have BK200 := n1_; have GW200 := n2_; have GE200 := n3_; clear n0_ n1_ n2_ n3_; clear hb hbox hg; have hcz10_0 : w9.cell? ⟨gb200, 0, none⟩ = some (.int .i64 0) := (blk_cell BK200.out 0).trans rfl; have hcz10_1 : w9.cell? ⟨gb200, 1, none⟩ = some (.int .i64 0) := (blk_cell BK200.out 1).trans rfl; have hcz10_2 : w9.cell? ⟨gb200, 2, none⟩ = some (.int .i64 0) := (blk_cell BK200.out 2).trans rfl; have hcz10_3 : w9.cell? ⟨gb200, 3, none⟩ = some (.int .i64 0) := (blk_cell BK200.out 3).trans rfl; have hcz10_4 : w9.cell? ⟨gb200, 4, none⟩ = some (.int .i64 0) := (blk_cell BK200.out 4).trans rfl; have hcz10_5 : w9.cell? ⟨gb200, 5, none⟩ = some (.bool false) := (blk_cell BK200.out 5).trans rfl; have hcz10_6 : w9.cell? ⟨gb200, 6, none⟩ = some (.bool false) := (blk_cell BK200.out 6).trans rfl; have hfz10_0 := blk_frozen BK200.out 0; have hfz10_1 := blk_frozen BK200.out 1; have hfz10_2 := blk_frozen BK200.out 2; have hfz10_3 := blk_frozen BK200.out 3; have hfz10_4 := blk_frozen BK200.out 4; have hfz10_5 := blk_frozen BK200.out 5; have hfz10_6 := blk_frozen BK200.out 6))
      (try simp only [Act.put, List.setIfInBounds_toArray, List.set_cons_zero, List.set_cons_succ])
      go_cut [11] (fun v11 wc => ∃ (kq : Nat) (x11_7 : Bool), v11 = .bool x11_7 ∧ Aside0 (spinnakerref12_loop.j1 kq l0 a1 a2 a3 x9_1 x11_7 ((rd_T51 l0 x9_1).f0) ((rd_T51 l0 x9_1).f1) ((rd_T51 l0 x9_1).f2) ((rd_T51 l0 x9_1).f3) ((rd_T51 l0 x9_1).f4) ((rd_T51 l0 x9_1).f5) ((rd_T51 l0 x9_1).f6) = some r) ∧ Aside0 (kq ≤ k1) ∧ Aside0 (wc.heap[gb200]? = some (.cells #[.int .i64 ((rd_T51 l0 x9_1).f0), .int .i64 ((rd_T51 l0 x9_1).f1), .int .i64 ((rd_T51 l0 x9_1).f2), .int .i64 ((rd_T51 l0 x9_1).f3), .int .i64 ((rd_T51 l0 x9_1).f4), .bool ((rd_T51 l0 x9_1).f5), .bool ((rd_T51 l0 x9_1).f6)] 51 (0, 0))) ∧ Aside0 (Below w.heap.size w wc))
      case first =>
       have H := HC8.out
       clear HC8
       replace H := Option.bind_eq_some_iff.mp H
       obtain ⟨t201, A110, H⟩ := H
       replace H : (if t201 = true then (if ((rd_T51 l0 x9_1).f1) = 0 then (spinnakerref12_loop.j1 k1 l0 a1 a2 a3 x9_1 false ((rd_T51 l0 x9_1).f0) ((rd_T51 l0 x9_1).f1) ((rd_T51 l0 x9_1).f2) ((rd_T51 l0 x9_1).f3) ((rd_T51 l0 x9_1).f4) ((rd_T51 l0 x9_1).f5) ((rd_T51 l0 x9_1).f6)) else (if 0 ≤ a1 then (if a1 < (l0.length : Int) then (spinnakerref12_loop.j1 k1 l0 a1 a2 a3 x9_1 (((rd_T51 l0 x9_1).f1) == ((rd_T51 l0 a1).f2)) ((rd_T51 l0 x9_1).f0) ((rd_T51 l0 x9_1).f1) ((rd_T51 l0 x9_1).f2) ((rd_T51 l0 x9_1).f3) ((rd_T51 l0 x9_1).f4) ((rd_T51 l0 x9_1).f5) ((rd_T51 l0 x9_1).f6)) else (none)) else (none))) else (spinnakerref12_loop.j1 k1 l0 a1 a2 a3 x9_1 false ((rd_T51 l0 x9_1).f0) ((rd_T51 l0 x9_1).f1) ((rd_T51 l0 x9_1).f2) ((rd_T51 l0 x9_1).f3) ((rd_T51 l0 x9_1).f4) ((rd_T51 l0 x9_1).f5) ((rd_T51 l0 x9_1).f6))) = some r := H
       have A11 := Aside0.mk A110
       clear A110
       by_cases c12 : t201 = true
       ·subst c12
        have H1 : (if ((rd_T51 l0 x9_1).f1) = 0 then (spinnakerref12_loop.j1 k1 l0 a1 a2 a3 x9_1 false ((rd_T51 l0 x9_1).f0) ((rd_T51 l0 x9_1).f1) ((rd_T51 l0 x9_1).f2) ((rd_T51 l0 x9_1).f3) ((rd_T51 l0 x9_1).f4) ((rd_T51 l0 x9_1).f5) ((rd_T51 l0 x9_1).f6)) else (if 0 ≤ a1 then (if a1 < (l0.length : Int) then (spinnakerref12_loop.j1 k1 l0 a1 a2 a3 x9_1 (((rd_T51 l0 x9_1).f1) == ((rd_T51 l0 a1).f2)) ((rd_T51 l0 x9_1).f0) ((rd_T51 l0 x9_1).f1) ((rd_T51 l0 x9_1).f2) ((rd_T51 l0 x9_1).f3) ((rd_T51 l0 x9_1).f4) ((rd_T51 l0 x9_1).f5) ((rd_T51 l0 x9_1).f6)) else (none)) else (none))) = some r := by rw [if_pos rfl] at H; exact H
        clear H
        have H := H1
        clear H1
        by_cases c13 : ((rd_T51 l0 x9_1).f1) = 0
        ·rw [if_pos c13] at H
         have c13b0 : (((rd_T51 l0 x9_1).f1) == 0) = true := beq_iff_eq.mpr c13
         have c13b1 : (((rd_T51 l0 x9_1).f1) != 0) = false := bne_eq_false_iff_eq.mpr c13
         clear c13
         (first | rw [c13b0] | (simp only [i64_w, i32_w]; rw [c13b0]) | skip)
         have H' := Aside0.mk H
         clear H
         try go_wp2
         have n0_ : Aside0 ((((((((w9.setCell ⟨gb200, 0, none⟩ (.int .i64 ((rd_T51 l0 x9_1).f0))).setCell ⟨gb200, 1, none⟩ (.int .i64 ((rd_T51 l0 x9_1).f1))).setCell ⟨gb200, 2, none⟩ (.int .i64 ((rd_T51 l0 x9_1).f2))).setCell ⟨gb200, 3, none⟩ (.int .i64 ((rd_T51 l0 x9_1).f3))).setCell ⟨gb200, 4, none⟩ (.int .i64 ((rd_T51 l0 x9_1).f4))).setCell ⟨gb200, 5, none⟩ (.bool ((rd_T51 l0 x9_1).f5))).setCell ⟨gb200, 6, none⟩ (.bool ((rd_T51 l0 x9_1).f6))).heap[gb200]? = some (.cells #[.int .i64 ((rd_T51 l0 x9_1).f0), .int .i64 ((rd_T51 l0 x9_1).f1), .int .i64 ((rd_T51 l0 x9_1).f2), .int .i64 ((rd_T51 l0 x9_1).f3), .int .i64 ((rd_T51 l0 x9_1).f4), .bool ((rd_T51 l0 x9_1).f5), .bool ((rd_T51 l0 x9_1).f6)] 51 (0, 0))) := ⟨by (with_reducible repeat (first | refine blk_drewN ?_ _ | refine blk_drew ?_ | refine blk_alloc ?_ _)); refine blk_put (cs := #[.int .i64 ((rd_T51 l0 x9_1).f0), .int .i64 ((rd_T51 l0 x9_1).f1), .int .i64 ((rd_T51 l0 x9_1).f2), .int .i64 ((rd_T51 l0 x9_1).f3), .int .i64 ((rd_T51 l0 x9_1).f4), .bool ((rd_T51 l0 x9_1).f5), .bool false]) ?_ 6 _ rfl; (with_reducible repeat (first | refine blk_drewN ?_ _ | refine blk_drew ?_ | refine blk_alloc ?_ _)); refine blk_put (cs := #[.int .i64 ((rd_T51 l0 x9_1).f0), .int .i64 ((rd_T51 l0 x9_1).f1), .int .i64 ((rd_T51 l0 x9_1).f2), .int .i64 ((rd_T51 l0 x9_1).f3), .int .i64 ((rd_T51 l0 x9_1).f4), .bool false, .bool false]) ?_ 5 _ rfl; (with_reducible repeat (first | refine blk_drewN ?_ _ | refine blk_drew ?_ | refine blk_alloc ?_ _)); refine blk_put (cs := #[.int .i64 ((rd_T51 l0 x9_1).f0), .int .i64 ((rd_T51 l0 x9_1).f1), .int .i64 ((rd_T51 l0 x9_1).f2), .int .i64 ((rd_T51 l0 x9_1).f3), .int .i64 0, .bool false, .bool false]) ?_ 4 _ rfl; (with_reducible repeat (first | refine blk_drewN ?_ _ | refine blk_drew ?_ | refine blk_alloc ?_ _)); refine blk_put (cs := #[.int .i64 ((rd_T51 l0 x9_1).f0), .int .i64 ((rd_T51 l0 x9_1).f1), .int .i64 ((rd_T51 l0 x9_1).f2), .int .i64 0, .int .i64 0, .bool false, .bool false]) ?_ 3 _ rfl; (with_reducible repeat (first | refine blk_drewN ?_ _ | refine blk_drew ?_ | refine blk_alloc ?_ _)); refine blk_put (cs := #[.int .i64 ((rd_T51 l0 x9_1).f0), .int .i64 ((rd_T51 l0 x9_1).f1), .int .i64 0, .int .i64 0, .int .i64 0, .bool false, .bool false]) ?_ 2 _ rfl; (with_reducible repeat (first | refine blk_drewN ?_ _ | refine blk_drew ?_ | refine blk_alloc ?_ _)); refine blk_put (cs := #[.int .i64 ((rd_T51 l0 x9_1).f0), .int .i64 0, .int .i64 0, .int .i64 0, .int .i64 0, .bool false, .bool false]) ?_ 1 _ rfl; (with_reducible repeat (first | refine blk_drewN ?_ _ | refine blk_drew ?_ | refine blk_alloc ?_ _)); refine blk_put (cs := #[.int .i64 0, .int .i64 0, .int .i64 0, .int .i64 0, .int .i64 0, .bool false, .bool false]) ?_ 0 _ rfl; (with_reducible repeat (first | refine blk_drewN ?_ _ | refine blk_drew ?_ | refine blk_alloc ?_ _)); exact BK200.out⟩
         have n1_ : Aside0 (Below w.heap.size w (((((((w9.setCell ⟨gb200, 0, none⟩ (.int .i64 ((rd_T51 l0 x9_1).f0))).setCell ⟨gb200, 1, none⟩ (.int .i64 ((rd_T51 l0 x9_1).f1))).setCell ⟨gb200, 2, none⟩ (.int .i64 ((rd_T51 l0 x9_1).f2))).setCell ⟨gb200, 3, none⟩ (.int .i64 ((rd_T51 l0 x9_1).f3))).setCell ⟨gb200, 4, none⟩ (.int .i64 ((rd_T51 l0 x9_1).f4))).setCell ⟨gb200, 5, none⟩ (.bool ((rd_T51 l0 x9_1).f5))).setCell ⟨gb200, 6, none⟩ (.bool ((rd_T51 l0 x9_1).f6)))) := ⟨by repeat (first | (with_reducible first | exact HB.out | apply below_alloc | apply pw_below_drewN | apply below_drew1 | refine below_set ?_ GE200.out) | exact HB.out)⟩
         (try clear BK200)
         (try clear HB)
         generalize (((((((w9.setCell ⟨gb200, 0, none⟩ (.int .i64 ((rd_T51 l0 x9_1).f0))).setCell ⟨gb200, 1, none⟩ (.int .i64 ((rd_T51 l0 x9_1).f1))).setCell ⟨gb200, 2, none⟩ (.int .i64 ((rd_T51 l0 x9_1).f2))).setCell ⟨gb200, 3, none⟩ (.int .i64 ((rd_T51 l0 x9_1).f3))).setCell ⟨gb200, 4, none⟩ (.int .i64 ((rd_T51 l0 x9_1).f4))).setCell ⟨gb200, 5, none⟩ (.bool ((rd_T51 l0 x9_1).f5))).setCell ⟨gb200, 6, none⟩ (.bool ((rd_T51 l0 x9_1).f6))) = w14 at n0_ n1_ ⊢
         have BK200 := n0_
         have HB := n1_
         clear n0_ n1_
         have n0_ := Aside0.mk (blk_drew BK200.out)
         have n1_ := Aside0.mk (below_drew1 HB.out)
         clear BK200
         clear HB
         have BK200 := n0_
         have HB := n1_
         clear n0_ n1_
         refine start_ (n := 19) (S := fun w' => w'.cell? ⟨gb200, 0, none⟩ = some (.int .i64 ((rd_T51 l0 x9_1).f0)) ∧ w'.cell? ⟨gb200, 1, none⟩ = some (.int .i64 ((rd_T51 l0 x9_1).f1)) ∧ w'.cell? ⟨gb200, 2, none⟩ = some (.int .i64 ((rd_T51 l0 x9_1).f2)) ∧ w'.cell? ⟨gb200, 3, none⟩ = some (.int .i64 ((rd_T51 l0 x9_1).f3)) ∧ w'.cell? ⟨gb200, 4, none⟩ = some (.int .i64 ((rd_T51 l0 x9_1).f4)) ∧ w'.cell? ⟨gb200, 5, none⟩ = some (.bool ((rd_T51 l0 x9_1).f5)) ∧ w'.cell? ⟨gb200, 6, none⟩ = some (.bool ((rd_T51 l0 x9_1).f6))) (ds := []) (fl 19 0) (by kernel_rfl) rfl rfl ⟨(blk_cell BK200.out 0).trans rfl, (blk_cell BK200.out 1).trans rfl, (blk_cell BK200.out 2).trans rfl, (blk_cell BK200.out 3).trans rfl, (blk_cell BK200.out 4).trans rfl, (blk_cell BK200.out 5).trans rfl, (blk_cell BK200.out 6).trans rfl⟩ (fun hHeld => ?_); refine with_tabW spinnakerref12_loop.tab5 spinnakerref12_loop.bits5 (fun HT_ HW_ => ?_)
         generalize w14.drew = w15 at BK200 HB hHeld ⊢
         refine pure_ (i := 0) (N := some 22) (v := ?_) (a' := ?_) (fl 19 1) rfl rfl (any_of HT_.out (by kernel_rfl)) (fun _ _ _ h => h) (Or.inl ⟨by rfl, ?_⟩) ?_ ?_
         rotate_left
         ·intro w'
          go_simp
          with_reducible rfl
         rotate_left
         ·simp only [Act.put, List.setIfInBounds_toArray, List.set_cons_zero, List.set_cons_succ, i64_w, i32_w]
          rfl
         refine take_ (i := 1) (N := some 23) (v := ?_) (a' := ?_) (fl 19 2) rfl rfl (take_ofW HT_.out HW_.out (by kernel_rfl)) (fun _ _ _ h => h) (Or.inl ⟨by rfl, ?_⟩) hHeld ?_ ?_
         rotate_left
         ·rintro w' ⟨s0, s1, s2, s3, s4, s5, s6⟩
          go_simp
          with_reducible rfl
         rotate_left
         ·simp only [Act.put, List.setIfInBounds_toArray, List.set_cons_zero, List.set_cons_succ, i64_w, i32_w]
          rfl
         refine one_ (i := 2) (N := some 24) (fl 19 3) rfl rfl (one_of HT_.out (by kernel_rfl)) (by decide) (fun K hK => ?_)
         refine goes_ Tryd.func77 (by kernel_rfl) rfl #[.int .i64 ((rd_T51 l0 x9_1).f0)] (by rfl) rfl rfl (by (try simp only [List.map_toArray, List.map_cons, List.map_nil]); first | done | rfl | (simp only [List.length_drop, List.length_take]; rfl)) ?_
         with_reducible refine (spinnakerref03_HasRd.calls k1 ((rd_T51 l0 x9_1).f0) true _ A11.out).mono ?_
         rintro e w' ⟨rfl, ⟨nd, rfl⟩⟩
         refine ⟨_, rfl, ?_⟩
         refine hK.out _ _ ⟨(blk_cell BK200.out 0).trans rfl, (blk_cell BK200.out 1).trans rfl, (blk_cell BK200.out 2).trans rfl, (blk_cell BK200.out 3).trans rfl, (blk_cell BK200.out 4).trans rfl, (blk_cell BK200.out 5).trans rfl, (blk_cell BK200.out 6).trans rfl⟩ (fun hHeld => ?_)
         clear hK K
         refine norm_ (a' := ?_) ?_ ?_
         rotate_left
         ·show Act.put _ (some 24) _ = _
          simp only [Act.put, List.setIfInBounds_toArray, List.set_cons_zero, List.set_cons_succ, i64_w, i32_w]
          rfl
         refine pure_ (i := 3) (N := some 25) (v := ?_) (a' := ?_) (fl 19 4) rfl rfl (any_of HT_.out (by kernel_rfl)) (fun _ _ _ h => h) (Or.inl ⟨by rfl, ?_⟩) ?_ ?_
         rotate_left
         ·intro w'
          go_simp
          with_reducible rfl
         rotate_left
         ·simp only [Act.put, List.setIfInBounds_toArray, List.set_cons_zero, List.set_cons_succ, i64_w, i32_w]
          rfl
         refine pure_ (i := 4) (N := some 26) (v := ?_) (a' := ?_) (fl 19 5) rfl rfl (any_of HT_.out (by kernel_rfl)) (fun _ _ _ h => h) (Or.inl ⟨by rfl, ?_⟩) ?_ ?_
         rotate_left
         ·intro w'
          go_simp
          with_reducible rfl
         rotate_left
         ·simp only [Act.put, List.setIfInBounds_toArray, List.set_cons_zero, List.set_cons_succ, i64_w, i32_w]
          rfl
         refine take_ (i := 5) (N := some 27) (v := ?_) (a' := ?_) (fl 19 6) rfl rfl (take_ofW HT_.out HW_.out (by kernel_rfl)) (fun _ _ _ h => h) (Or.inl ⟨by rfl, ?_⟩) hHeld ?_ ?_
         rotate_left
         ·rintro w' ⟨s0, s1, s2, s3, s4, s5, s6⟩
          go_simp
          with_reducible rfl
         rotate_left
         ·simp only [Act.put, List.setIfInBounds_toArray, List.set_cons_zero, List.set_cons_succ, i64_w, i32_w]
          rfl
         refine pure_ (i := 6) (N := some 28) (v := ?_) (a' := ?_) (fl 19 7) rfl rfl (any_of HT_.out (by kernel_rfl)) (fun _ _ _ h => h) (Or.inl ⟨by rfl, ?_⟩) ?_ ?_
         rotate_left
         ·intro w'
          go_simp
          with_reducible rfl
         rotate_left
         ·simp only [Act.put, List.setIfInBounds_toArray, List.set_cons_zero, List.set_cons_succ, i64_w, i32_w]
          rfl
         refine pure_ (i := 7) (N := some 29) (v := ?_) (a' := ?_) (fl 19 8) rfl rfl (any_of HT_.out (by kernel_rfl)) (fun _ _ _ h => h) (Or.inl ⟨by rfl, ?_⟩) ?_ ?_
         rotate_left
         ·intro w'
          go_simp
          with_reducible rfl
         rotate_left
         ·simp only [Act.put, List.setIfInBounds_toArray, List.set_cons_zero, List.set_cons_succ, i64_w, i32_w]
          rfl
         refine pure_ (i := 8) (N := some 30) (v := ?_) (a' := ?_) (fl 19 9) rfl rfl (any_of HT_.out (by kernel_rfl)) (fun _ _ _ h => h) (Or.inl ⟨by rfl, ?_⟩) ?_ ?_
         rotate_left
         ·intro w'
          go_simp
          with_reducible rfl
         rotate_left
         ·simp only [Act.put, List.setIfInBounds_toArray, List.set_cons_zero, List.set_cons_succ, i64_w, i32_w]
          rfl
         refine pure_ (i := 9) (N := some 31) (v := undef) (a' := ?_) (fl 19 10) rfl rfl (any_of HT_.out (by kernel_rfl)) (fun _ _ _ h => h) (Or.inr ⟨by rfl, rfl⟩) ?_ ?_
         rotate_left
         ·simp only [Act.put, List.setIfInBounds_toArray, List.set_cons_zero, List.set_cons_succ, i64_w, i32_w]
          rfl
         refine pure_ (i := 10) (N := some 32) (v := undef) (a' := ?_) (fl 19 11) rfl rfl (any_of HT_.out (by kernel_rfl)) (fun _ _ _ h => h) (Or.inr ⟨by rfl, rfl⟩) ?_ ?_
         rotate_left
         ·simp only [Act.put, List.setIfInBounds_toArray, List.set_cons_zero, List.set_cons_succ, i64_w, i32_w]
          rfl
         refine pure_ (i := 11) (N := some 33) (v := undef) (a' := ?_) (fl 19 12) rfl rfl (any_of HT_.out (by kernel_rfl)) (fun _ _ _ h => h) (Or.inr ⟨by rfl, rfl⟩) ?_ ?_
         rotate_left
         ·simp only [Act.put, List.setIfInBounds_toArray, List.set_cons_zero, List.set_cons_succ, i64_w, i32_w]
          rfl
         refine pure_ (i := 12) (N := some 34) (v := undef) (a' := ?_) (fl 19 13) rfl rfl (any_of HT_.out (by kernel_rfl)) (fun _ _ _ h => h) (Or.inr ⟨by rfl, rfl⟩) ?_ ?_
         rotate_left
         ·simp only [Act.put, List.setIfInBounds_toArray, List.set_cons_zero, List.set_cons_succ, i64_w, i32_w]
          rfl
         refine pure_ (i := 13) (N := some 35) (v := undef) (a' := ?_) (fl 19 14) rfl rfl (any_of HT_.out (by kernel_rfl)) (fun _ _ _ h => h) (Or.inr ⟨by rfl, rfl⟩) ?_ ?_
         rotate_left
         ·simp only [Act.put, List.setIfInBounds_toArray, List.set_cons_zero, List.set_cons_succ, i64_w, i32_w]
          rfl
         refine pure_ (i := 14) (N := some 36) (v := undef) (a' := ?_) (fl 19 15) rfl rfl (any_of HT_.out (by kernel_rfl)) (fun _ _ _ h => h) (Or.inr ⟨by rfl, rfl⟩) ?_ ?_
         rotate_left
         ·simp only [Act.put, List.setIfInBounds_toArray, List.set_cons_zero, List.set_cons_succ, i64_w, i32_w]
          rfl
         refine pure_ (i := 15) (N := some 37) (v := undef) (a' := ?_) (fl 19 16) rfl rfl (any_of HT_.out (by kernel_rfl)) (fun _ _ _ h => h) (Or.inr ⟨by rfl, rfl⟩) ?_ ?_
         rotate_left
         ·simp only [Act.put, List.setIfInBounds_toArray, List.set_cons_zero, List.set_cons_succ, i64_w, i32_w]
          rfl
         refine pure_ (i := 16) (N := some 38) (v := undef) (a' := ?_) (fl 19 17) rfl rfl (any_of HT_.out (by kernel_rfl)) (fun _ _ _ h => h) (Or.inr ⟨by rfl, rfl⟩) ?_ ?_
         rotate_left
         ·simp only [Act.put, List.setIfInBounds_toArray, List.set_cons_zero, List.set_cons_succ, i64_w, i32_w]
          rfl
         refine pure_ (i := 17) (N := some 39) (v := ?_) (a' := ?_) (fl 19 18) rfl rfl (any_of HT_.out (by kernel_rfl)) (fun _ _ _ h => h) (Or.inl ⟨by rfl, ?_⟩) ?_ ?_
         rotate_left
         ·intro w'
          go_simp
          with_reducible rfl
         rotate_left
         ·simp only [Act.put, List.setIfInBounds_toArray, List.set_cons_zero, List.set_cons_succ, i64_w, i32_w]
          rfl
         refine pure_ (i := 18) (N := some 11) (v := ?_) (a' := ?_) (fl 19 19) rfl rfl (any_of HT_.out (by kernel_rfl)) (fun _ _ _ h => h) (Or.inl ⟨by rfl, ?_⟩) ?_ ?_
         rotate_left
         ·intro w'
          go_simp
          with_reducible rfl
         rotate_left
         ·simp only [Act.put, List.setIfInBounds_toArray, List.set_cons_zero, List.set_cons_succ, i64_w, i32_w]
          rfl
         refine done_ (done_of HT_.out (by kernel_rfl)) ?_
         try go_wp2
         go_meet
         case rel => exact ⟨_, (false), (by first | rfl | (simp; done) | (simp [*]; done)), H', ⟨by have := HK1.out; first | omega | exact Nat.le_refl _⟩, ⟨by (with_reducible repeat (first | refine blk_drewN ?_ _ | refine blk_drew ?_ | refine blk_alloc ?_ _)); exact BK200.out⟩, ⟨by repeat (first | (with_reducible first | exact HB.out | apply below_alloc | apply pw_below_drewN | apply below_drew1 | refine below_set ?_ GE200.out) | exact HB.out)⟩⟩
        ·rw [if_neg c13] at H
         have c13b0 : (((rd_T51 l0 x9_1).f1) == 0) = false := beq_eq_false_iff_ne.mpr c13
         have c13b1 : (((rd_T51 l0 x9_1).f1) != 0) = true := bne_iff_ne.mpr c13
         (first | rw [c13b0] | (simp only [i64_w, i32_w]; rw [c13b0]) | skip)
         by_cases c16 : 0 ≤ a1
         ·rw [if_pos c16] at H
          have c16b0 : decide (0 ≤ a1) = true := decide_eq_true c16
          clear c16
          by_cases c17 : a1 < (l0.length : Int)
          ·rw [if_pos c17] at H
           have c17b0 : decide (a1 < (l0.length : Int)) = true := decide_eq_true c17
           clear c17
           have H' := Aside0.mk H
           clear H
           try go_wp2
           have n0_ : Aside0 ((((((((w9.setCell ⟨gb200, 0, none⟩ (.int .i64 ((rd_T51 l0 x9_1).f0))).setCell ⟨gb200, 1, none⟩ (.int .i64 ((rd_T51 l0 x9_1).f1))).setCell ⟨gb200, 2, none⟩ (.int .i64 ((rd_T51 l0 x9_1).f2))).setCell ⟨gb200, 3, none⟩ (.int .i64 ((rd_T51 l0 x9_1).f3))).setCell ⟨gb200, 4, none⟩ (.int .i64 ((rd_T51 l0 x9_1).f4))).setCell ⟨gb200, 5, none⟩ (.bool ((rd_T51 l0 x9_1).f5))).setCell ⟨gb200, 6, none⟩ (.bool ((rd_T51 l0 x9_1).f6))).heap[gb200]? = some (.cells #[.int .i64 ((rd_T51 l0 x9_1).f0), .int .i64 ((rd_T51 l0 x9_1).f1), .int .i64 ((rd_T51 l0 x9_1).f2), .int .i64 ((rd_T51 l0 x9_1).f3), .int .i64 ((rd_T51 l0 x9_1).f4), .bool ((rd_T51 l0 x9_1).f5), .bool ((rd_T51 l0 x9_1).f6)] 51 (0, 0))) := ⟨by (with_reducible repeat (first | refine blk_drewN ?_ _ | refine blk_drew ?_ | refine blk_alloc ?_ _)); refine blk_put (cs := #[.int .i64 ((rd_T51 l0 x9_1).f0), .int .i64 ((rd_T51 l0 x9_1).f1), .int .i64 ((rd_T51 l0 x9_1).f2), .int .i64 ((rd_T51 l0 x9_1).f3), .int .i64 ((rd_T51 l0 x9_1).f4), .bool ((rd_T51 l0 x9_1).f5), .bool false]) ?_ 6 _ rfl; (with_reducible repeat (first | refine blk_drewN ?_ _ | refine blk_drew ?_ | refine blk_alloc ?_ _)); refine blk_put (cs := #[.int .i64 ((rd_T51 l0 x9_1).f0), .int .i64 ((rd_T51 l0 x9_1).f1), .int .i64 ((rd_T51 l0 x9_1).f2), .int .i64 ((rd_T51 l0 x9_1).f3), .int .i64 ((rd_T51 l0 x9_1).f4), .bool false, .bool false]) ?_ 5 _ rfl; (with_reducible repeat (first | refine blk_drewN ?_ _ | refine blk_drew ?_ | refine blk_alloc ?_ _)); refine blk_put (cs := #[.int .i64 ((rd_T51 l0 x9_1).f0), .int .i64 ((rd_T51 l0 x9_1).f1), .int .i64 ((rd_T51 l0 x9_1).f2), .int .i64 ((rd_T51 l0 x9_1).f3), .int .i64 0, .bool false, .bool false]) ?_ 4 _ rfl; (with_reducible repeat (first | refine blk_drewN ?_ _ | refine blk_drew ?_ | refine blk_alloc ?_ _)); refine blk_put (cs := #[.int .i64 ((rd_T51 l0 x9_1).f0), .int .i64 ((rd_T51 l0 x9_1).f1), .int .i64 ((rd_T51 l0 x9_1).f2), .int .i64 0, .int .i64 0, .bool false, .bool false]) ?_ 3 _ rfl; (with_reducible repeat (first | refine blk_drewN ?_ _ | refine blk_drew ?_ | refine blk_alloc ?_ _)); refine blk_put (cs := #[.int .i64 ((rd_T51 l0 x9_1).f0), .int .i64 ((rd_T51 l0 x9_1).f1), .int .i64 0, .int .i64 0, .int .i64 0, .bool false, .bool false]) ?_ 2 _ rfl; (with_reducible repeat (first | refine blk_drewN ?_ _ | refine blk_drew ?_ | refine blk_alloc ?_ _)); refine blk_put (cs := #[.int .i64 ((rd_T51 l0 x9_1).f0), .int .i64 0, .int .i64 0, .int .i64 0, .int .i64 0, .bool false, .bool false]) ?_ 1 _ rfl; (with_reducible repeat (first | refine blk_drewN ?_ _ | refine blk_drew ?_ | refine blk_alloc ?_ _)); refine blk_put (cs := #[.int .i64 0, .int .i64 0, .int .i64 0, .int .i64 0, .int .i64 0, .bool false, .bool false]) ?_ 0 _ rfl; (with_reducible repeat (first | refine blk_drewN ?_ _ | refine blk_drew ?_ | refine blk_alloc ?_ _)); exact BK200.out⟩
           have n1_ : Aside0 (Below w.heap.size w (((((((w9.setCell ⟨gb200, 0, none⟩ (.int .i64 ((rd_T51 l0 x9_1).f0))).setCell ⟨gb200, 1, none⟩ (.int .i64 ((rd_T51 l0 x9_1).f1))).setCell ⟨gb200, 2, none⟩ (.int .i64 ((rd_T51 l0 x9_1).f2))).setCell ⟨gb200, 3, none⟩ (.int .i64 ((rd_T51 l0 x9_1).f3))).setCell ⟨gb200, 4, none⟩ (.int .i64 ((rd_T51 l0 x9_1).f4))).setCell ⟨gb200, 5, none⟩ (.bool ((rd_T51 l0 x9_1).f5))).setCell ⟨gb200, 6, none⟩ (.bool ((rd_T51 l0 x9_1).f6)))) := ⟨by repeat (first | (with_reducible first | exact HB.out | apply below_alloc | apply pw_below_drewN | apply below_drew1 | refine below_set ?_ GE200.out) | exact HB.out)⟩
           (try clear BK200)
           (try clear HB)
           generalize (((((((w9.setCell ⟨gb200, 0, none⟩ (.int .i64 ((rd_T51 l0 x9_1).f0))).setCell ⟨gb200, 1, none⟩ (.int .i64 ((rd_T51 l0 x9_1).f1))).setCell ⟨gb200, 2, none⟩ (.int .i64 ((rd_T51 l0 x9_1).f2))).setCell ⟨gb200, 3, none⟩ (.int .i64 ((rd_T51 l0 x9_1).f3))).setCell ⟨gb200, 4, none⟩ (.int .i64 ((rd_T51 l0 x9_1).f4))).setCell ⟨gb200, 5, none⟩ (.bool ((rd_T51 l0 x9_1).f5))).setCell ⟨gb200, 6, none⟩ (.bool ((rd_T51 l0 x9_1).f6))) = w18 at n0_ n1_ ⊢
           have BK200 := n0_
           have HB := n1_
           clear n0_ n1_
           have n0_ := Aside0.mk (blk_drew BK200.out)
           have n1_ := Aside0.mk (below_drew1 HB.out)
           clear BK200
           clear HB
           have BK200 := n0_
           have HB := n1_
           clear n0_ n1_
           have p202 : 0 ≤ (a1 : Int) := of_decide_eq_true (by first | (with_reducible assumption) | assumption)
           have q202 : a1 < (l0.length : Int) := of_decide_eq_true (by first | (with_reducible assumption) | assumption)
           obtain ⟨ad202, e202, hx202_0, hx202_1, hx202_2, hx202_3, hx202_4, hx202_5, hx202_6⟩ := at_T51 HR0.out a1 p202 q202
           have hw202_6 := hx202_6
           have hw202_5 := hx202_5
           have hw202_4 := hx202_4
           have hw202_3 := hx202_3
           have hw202_2 := hx202_2
           have hw202_1 := hx202_1
           have hw202_0 := hx202_0
           obtain rfl : ad199 = ad202 := (by injection e202)
           replace hx202_0 := (HB.out.cell (World.block_lt_of_cell? w _ hx202_0)).trans hx202_0
           replace hx202_1 := (HB.out.cell (World.block_lt_of_cell? w _ hx202_1)).trans hx202_1
           replace hx202_2 := (HB.out.cell (World.block_lt_of_cell? w _ hx202_2)).trans hx202_2
           replace hx202_3 := (HB.out.cell (World.block_lt_of_cell? w _ hx202_3)).trans hx202_3
           replace hx202_4 := (HB.out.cell (World.block_lt_of_cell? w _ hx202_4)).trans hx202_4
           replace hx202_5 := (HB.out.cell (World.block_lt_of_cell? w _ hx202_5)).trans hx202_5
           replace hx202_6 := (HB.out.cell (World.block_lt_of_cell? w _ hx202_6)).trans hx202_6
           replace p202 := eq_true p202
           replace q202 := eq_true q202
           refine start_ (n := 19) (S := fun w' => w'.cell? ⟨gb200, 0, none⟩ = some (.int .i64 ((rd_T51 l0 x9_1).f0)) ∧ w'.cell? ⟨gb200, 1, none⟩ = some (.int .i64 ((rd_T51 l0 x9_1).f1)) ∧ w'.cell? ⟨gb200, 2, none⟩ = some (.int .i64 ((rd_T51 l0 x9_1).f2)) ∧ w'.cell? ⟨gb200, 3, none⟩ = some (.int .i64 ((rd_T51 l0 x9_1).f3)) ∧ w'.cell? ⟨gb200, 4, none⟩ = some (.int .i64 ((rd_T51 l0 x9_1).f4)) ∧ w'.cell? ⟨gb200, 5, none⟩ = some (.bool ((rd_T51 l0 x9_1).f5)) ∧ w'.cell? ⟨gb200, 6, none⟩ = some (.bool ((rd_T51 l0 x9_1).f6)) ∧ w'.cell? (ad199.add ((a1).toNat * 7)) = some (.int .i64 ((rd_T51 l0 a1).f0)) ∧ w'.cell? ⟨(ad199.add ((a1).toNat * 7)).block, (ad199.add ((a1).toNat * 7)).off + 1, none⟩ = some (.int .i64 ((rd_T51 l0 a1).f1)) ∧ w'.cell? ⟨(ad199.add ((a1).toNat * 7)).block, (ad199.add ((a1).toNat * 7)).off + 2, none⟩ = some (.int .i64 ((rd_T51 l0 a1).f2)) ∧ w'.cell? ⟨(ad199.add ((a1).toNat * 7)).block, (ad199.add ((a1).toNat * 7)).off + 3, none⟩ = some (.int .i64 ((rd_T51 l0 a1).f3)) ∧ w'.cell? ⟨(ad199.add ((a1).toNat * 7)).block, (ad199.add ((a1).toNat * 7)).off + 4, none⟩ = some (.int .i64 ((rd_T51 l0 a1).f4)) ∧ w'.cell? ⟨(ad199.add ((a1).toNat * 7)).block, (ad199.add ((a1).toNat * 7)).off + 5, none⟩ = some (.bool ((rd_T51 l0 a1).f5)) ∧ w'.cell? ⟨(ad199.add ((a1).toNat * 7)).block, (ad199.add ((a1).toNat * 7)).off + 6, none⟩ = some (.bool ((rd_T51 l0 a1).f6))) (ds := []) (fl 19 0) (by kernel_rfl) rfl rfl ⟨(blk_cell BK200.out 0).trans rfl, (blk_cell BK200.out 1).trans rfl, (blk_cell BK200.out 2).trans rfl, (blk_cell BK200.out 3).trans rfl, (blk_cell BK200.out 4).trans rfl, (blk_cell BK200.out 5).trans rfl, (blk_cell BK200.out 6).trans rfl, ((HB.out.cell (World.block_lt_of_cell? w _ hw202_0)).trans hw202_0), ((HB.out.cell (World.block_lt_of_cell? w _ hw202_1)).trans hw202_1), ((HB.out.cell (World.block_lt_of_cell? w _ hw202_2)).trans hw202_2), ((HB.out.cell (World.block_lt_of_cell? w _ hw202_3)).trans hw202_3), ((HB.out.cell (World.block_lt_of_cell? w _ hw202_4)).trans hw202_4), ((HB.out.cell (World.block_lt_of_cell? w _ hw202_5)).trans hw202_5), ((HB.out.cell (World.block_lt_of_cell? w _ hw202_6)).trans hw202_6)⟩ (fun hHeld => ?_); refine with_tabW spinnakerref12_loop.tab5 spinnakerref12_loop.bits5 (fun HT_ HW_ => ?_)
           generalize w18.drew = w19 at BK200 HB hx202_0 hx202_1 hx202_2 hx202_3 hx202_4 hx202_5 hx202_6 hHeld ⊢
           refine pure_ (i := 0) (N := some 22) (v := ?_) (a' := ?_) (fl 19 1) rfl rfl (any_of HT_.out (by kernel_rfl)) (fun _ _ _ h => h) (Or.inl ⟨by rfl, ?_⟩) ?_ ?_
           rotate_left
           ·intro w'
            go_simp
            with_reducible rfl
           rotate_left
           ·simp only [Act.put, List.setIfInBounds_toArray, List.set_cons_zero, List.set_cons_succ, i64_w, i32_w]
            rfl
           refine take_ (i := 1) (N := some 23) (v := ?_) (a' := ?_) (fl 19 2) rfl rfl (take_ofW HT_.out HW_.out (by kernel_rfl)) (fun _ _ _ h => h) (Or.inl ⟨by rfl, ?_⟩) hHeld ?_ ?_
           rotate_left
           ·rintro w' ⟨s0, s1, s2, s3, s4, s5, s6, s7, s8, s9, s10, s11, s12, s13⟩
            go_simp
            with_reducible rfl
           rotate_left
           ·simp only [Act.put, List.setIfInBounds_toArray, List.set_cons_zero, List.set_cons_succ, i64_w, i32_w]
            rfl
           refine one_ (i := 2) (N := some 24) (fl 19 3) rfl rfl (one_of HT_.out (by kernel_rfl)) (by decide) (fun K hK => ?_)
           refine goes_ Tryd.func77 (by kernel_rfl) rfl #[.int .i64 ((rd_T51 l0 x9_1).f0)] (by rfl) rfl rfl (by (try simp only [List.map_toArray, List.map_cons, List.map_nil]); first | done | rfl | (simp only [List.length_drop, List.length_take]; rfl)) ?_
           with_reducible refine (spinnakerref03_HasRd.calls k1 ((rd_T51 l0 x9_1).f0) true _ A11.out).mono ?_
           rintro e w' ⟨rfl, ⟨nd, rfl⟩⟩
           refine ⟨_, rfl, ?_⟩
           refine hK.out _ _ ⟨(blk_cell BK200.out 0).trans rfl, (blk_cell BK200.out 1).trans rfl, (blk_cell BK200.out 2).trans rfl, (blk_cell BK200.out 3).trans rfl, (blk_cell BK200.out 4).trans rfl, (blk_cell BK200.out 5).trans rfl, (blk_cell BK200.out 6).trans rfl, ((HB.out.cell (World.block_lt_of_cell? w _ hw202_0)).trans hw202_0), ((HB.out.cell (World.block_lt_of_cell? w _ hw202_1)).trans hw202_1), ((HB.out.cell (World.block_lt_of_cell? w _ hw202_2)).trans hw202_2), ((HB.out.cell (World.block_lt_of_cell? w _ hw202_3)).trans hw202_3), ((HB.out.cell (World.block_lt_of_cell? w _ hw202_4)).trans hw202_4), ((HB.out.cell (World.block_lt_of_cell? w _ hw202_5)).trans hw202_5), ((HB.out.cell (World.block_lt_of_cell? w _ hw202_6)).trans hw202_6)⟩ (fun hHeld => ?_)
           clear hK K
           refine norm_ (a' := ?_) ?_ ?_
           rotate_left
           ·show Act.put _ (some 24) _ = _
            simp only [Act.put, List.setIfInBounds_toArray, List.set_cons_zero, List.set_cons_succ, i64_w, i32_w]
            rfl
           refine pure_ (i := 3) (N := some 25) (v := ?_) (a' := ?_) (fl 19 4) rfl rfl (any_of HT_.out (by kernel_rfl)) (fun _ _ _ h => h) (Or.inl ⟨by rfl, ?_⟩) ?_ ?_
           rotate_left
           ·intro w'
            go_simp
            with_reducible rfl
           rotate_left
           ·simp only [Act.put, List.setIfInBounds_toArray, List.set_cons_zero, List.set_cons_succ, i64_w, i32_w]
            rfl
           refine pure_ (i := 4) (N := some 26) (v := ?_) (a' := ?_) (fl 19 5) rfl rfl (any_of HT_.out (by kernel_rfl)) (fun _ _ _ h => h) (Or.inl ⟨by rfl, ?_⟩) ?_ ?_
           rotate_left
           ·intro w'
            go_simp
            with_reducible rfl
           rotate_left
           ·simp only [Act.put, List.setIfInBounds_toArray, List.set_cons_zero, List.set_cons_succ, i64_w, i32_w]
            rfl
           refine take_ (i := 5) (N := some 27) (v := ?_) (a' := ?_) (fl 19 6) rfl rfl (take_ofW HT_.out HW_.out (by kernel_rfl)) (fun _ _ _ h => h) (Or.inl ⟨by rfl, ?_⟩) hHeld ?_ ?_
           rotate_left
           ·rintro w' ⟨s0, s1, s2, s3, s4, s5, s6, s7, s8, s9, s10, s11, s12, s13⟩
            go_simp
            with_reducible rfl
           rotate_left
           ·simp only [Act.put, List.setIfInBounds_toArray, List.set_cons_zero, List.set_cons_succ, i64_w, i32_w]
            rfl
           refine pure_ (i := 6) (N := some 28) (v := ?_) (a' := ?_) (fl 19 7) rfl rfl (any_of HT_.out (by kernel_rfl)) (fun _ _ _ h => h) (Or.inl ⟨by rfl, ?_⟩) ?_ ?_
           rotate_left
           ·intro w'
            go_simp
            with_reducible rfl
           rotate_left
           ·simp only [Act.put, List.setIfInBounds_toArray, List.set_cons_zero, List.set_cons_succ, i64_w, i32_w]
            rfl
           refine pure_ (i := 7) (N := some 29) (v := ?_) (a' := ?_) (fl 19 8) rfl rfl (any_of HT_.out (by kernel_rfl)) (fun _ _ _ h => h) (Or.inl ⟨by rfl, ?_⟩) ?_ ?_
           rotate_left
           ·intro w'
            go_simp
            with_reducible rfl
           rotate_left
           ·simp only [Act.put, List.setIfInBounds_toArray, List.set_cons_zero, List.set_cons_succ, i64_w, i32_w]
            rfl
           refine pure_ (i := 8) (N := some 30) (v := ?_) (a' := ?_) (fl 19 9) rfl rfl (any_of HT_.out (by kernel_rfl)) (fun _ _ _ h => h) (Or.inl ⟨by rfl, ?_⟩) ?_ ?_
           rotate_left
           ·intro w'
            go_simp
            with_reducible rfl
           rotate_left
           ·simp only [Act.put, List.setIfInBounds_toArray, List.set_cons_zero, List.set_cons_succ, i64_w, i32_w]
            rfl
           refine pure_ (i := 9) (N := some 31) (v := ?_) (a' := ?_) (fl 19 10) rfl rfl (any_of HT_.out (by kernel_rfl)) (fun _ _ _ h => h) (Or.inl ⟨by rfl, ?_⟩) ?_ ?_
           rotate_left
           ·intro w'
            go_simp
            with_reducible rfl
           rotate_left
           ·simp only [Act.put, List.setIfInBounds_toArray, List.set_cons_zero, List.set_cons_succ, i64_w, i32_w]
            rfl
           refine pure_ (i := 11) (N := some 33) (v := ?_) (a' := ?_) #[true, true, true, true, true, true, true, true, true, true, false, true, false, false, false, false, false, false, false] rfl rfl (any_of HT_.out (by kernel_rfl)) (fun _ _ _ h => h) (Or.inl ⟨by rfl, ?_⟩) ?_ ?_
           rotate_left
           ·intro w'
            go_simp
            with_reducible rfl
           rotate_left
           ·simp only [Act.put, List.setIfInBounds_toArray, List.set_cons_zero, List.set_cons_succ, i64_w, i32_w]
            rfl
           refine pure_ (i := 12) (N := some 34) (v := ?_) (a' := ?_) #[true, true, true, true, true, true, true, true, true, true, false, true, true, false, false, false, false, false, false] rfl rfl (any_of HT_.out (by kernel_rfl)) (fun _ _ _ h => h) (Or.inl ⟨by rfl, ?_⟩) ?_ ?_
           rotate_left
           ·intro w'
            go_simp
            with_reducible rfl
           rotate_left
           ·simp only [Act.put, List.setIfInBounds_toArray, List.set_cons_zero, List.set_cons_succ, i64_w, i32_w]
            rfl
           refine pure_ (i := 13) (N := some 35) (v := ?_) (a' := ?_) #[true, true, true, true, true, true, true, true, true, true, false, true, true, true, false, false, false, false, false] rfl rfl (any_of HT_.out (by kernel_rfl)) (fun _ _ _ h => h) (Or.inl ⟨by rfl, ?_⟩) ?_ ?_
           rotate_left
           ·intro w'
            go_simp
            with_reducible rfl
           rotate_left
           ·simp only [Act.put, List.setIfInBounds_toArray, List.set_cons_zero, List.set_cons_succ, i64_w, i32_w]
            rfl
           refine pure_ (i := 14) (N := some 36) (v := ?_) (a' := ?_) #[true, true, true, true, true, true, true, true, true, true, false, true, true, true, true, false, false, false, false] rfl rfl (any_of HT_.out (by kernel_rfl)) (fun _ _ _ h => h) (Or.inl ⟨by rfl, ?_⟩) ?_ ?_
           rotate_left
           ·intro w'
            go_simp
            with_reducible rfl
           rotate_left
           ·simp only [Act.put, List.setIfInBounds_toArray, List.set_cons_zero, List.set_cons_succ, i64_w, i32_w]
            rfl
           refine take_ (i := 10) (N := some 32) (v := ?_) (a' := ?_) (fl 19 15) rfl rfl (take_ofW HT_.out HW_.out (by kernel_rfl)) (fun _ _ _ h => h) (Or.inl ⟨by rfl, ?_⟩) hHeld ?_ ?_
           rotate_left
           ·rintro w' ⟨s0, s1, s2, s3, s4, s5, s6, s7, s8, s9, s10, s11, s12, s13⟩
            go_simp
            with_reducible rfl
           rotate_left
           ·simp only [Act.put, List.setIfInBounds_toArray, List.set_cons_zero, List.set_cons_succ, i64_w, i32_w]
            rfl
           refine take_ (i := 15) (N := some 37) (v := ?_) (a' := ?_) (fl 19 16) rfl rfl (take_ofW HT_.out HW_.out (by kernel_rfl)) (fun _ _ _ h => h) (Or.inl ⟨by rfl, ?_⟩) hHeld ?_ ?_
           rotate_left
           ·rintro w' ⟨s0, s1, s2, s3, s4, s5, s6, s7, s8, s9, s10, s11, s12, s13⟩
            go_simp
            with_reducible rfl
           rotate_left
           ·simp only [Act.put, List.setIfInBounds_toArray, List.set_cons_zero, List.set_cons_succ, i64_w, i32_w]
            rfl
           refine pure_ (i := 16) (N := some 38) (v := ?_) (a' := ?_) (fl 19 17) rfl rfl (any_of HT_.out (by kernel_rfl)) (fun _ _ _ h => h) (Or.inl ⟨by rfl, ?_⟩) ?_ ?_
           rotate_left
           ·intro w'
            go_simp
            with_reducible rfl
           rotate_left
           ·simp only [Act.put, List.setIfInBounds_toArray, List.set_cons_zero, List.set_cons_succ, i64_w, i32_w]
            rfl
           refine pure_ (i := 17) (N := some 39) (v := ?_) (a' := ?_) (fl 19 18) rfl rfl (any_of HT_.out (by kernel_rfl)) (fun _ _ _ h => h) (Or.inl ⟨by rfl, ?_⟩) ?_ ?_
           rotate_left
           ·intro w'
            go_simp
            with_reducible rfl
           rotate_left
           ·simp only [Act.put, List.setIfInBounds_toArray, List.set_cons_zero, List.set_cons_succ, i64_w, i32_w]
            rfl
           refine pure_ (i := 18) (N := some 11) (v := ?_) (a' := ?_) (fl 19 19) rfl rfl (any_of HT_.out (by kernel_rfl)) (fun _ _ _ h => h) (Or.inl ⟨by rfl, ?_⟩) ?_ ?_
           rotate_left
           ·intro w'
            go_simp
            with_reducible rfl
           rotate_left
           ·simp only [Act.put, List.setIfInBounds_toArray, List.set_cons_zero, List.set_cons_succ, i64_w, i32_w]
            rfl
           refine done_ (done_of HT_.out (by kernel_rfl)) ?_
           try go_wp2
           go_meet
           case rel => exact ⟨_, ((((rd_T51 l0 x9_1).f1) == ((rd_T51 l0 a1).f2))), (by first | rfl | (simp; done) | (simp [*]; done)), H', ⟨by have := HK1.out; first | omega | exact Nat.le_refl _⟩, ⟨by (with_reducible repeat (first | refine blk_drewN ?_ _ | refine blk_drew ?_ | refine blk_alloc ?_ _)); exact BK200.out⟩, ⟨by repeat (first | (with_reducible first | exact HB.out | apply below_alloc | apply pw_below_drewN | apply below_drew1 | refine below_set ?_ GE200.out) | exact HB.out)⟩⟩
          ·rw [if_neg c17] at H
           exact absurd H (by simp)
         ·rw [if_neg c16] at H
          exact absurd H (by simp)
       ·replace c12 := Bool.eq_false_iff.mpr c12
        subst c12
        have H1 : (spinnakerref12_loop.j1 k1 l0 a1 a2 a3 x9_1 false ((rd_T51 l0 x9_1).f0) ((rd_T51 l0 x9_1).f1) ((rd_T51 l0 x9_1).f2) ((rd_T51 l0 x9_1).f3) ((rd_T51 l0 x9_1).f4) ((rd_T51 l0 x9_1).f5) ((rd_T51 l0 x9_1).f6)) = some r := by rw [if_neg (show ¬ (false = true) by decide)] at H; exact H
        clear H
        have H := H1
        clear H1
        have H' := Aside0.mk H
        clear H
        try go_wp2
        have n0_ : Aside0 ((((((((w9.setCell ⟨gb200, 0, none⟩ (.int .i64 ((rd_T51 l0 x9_1).f0))).setCell ⟨gb200, 1, none⟩ (.int .i64 ((rd_T51 l0 x9_1).f1))).setCell ⟨gb200, 2, none⟩ (.int .i64 ((rd_T51 l0 x9_1).f2))).setCell ⟨gb200, 3, none⟩ (.int .i64 ((rd_T51 l0 x9_1).f3))).setCell ⟨gb200, 4, none⟩ (.int .i64 ((rd_T51 l0 x9_1).f4))).setCell ⟨gb200, 5, none⟩ (.bool ((rd_T51 l0 x9_1).f5))).setCell ⟨gb200, 6, none⟩ (.bool ((rd_T51 l0 x9_1).f6))).heap[gb200]? = some (.cells #[.int .i64 ((rd_T51 l0 x9_1).f0), .int .i64 ((rd_T51 l0 x9_1).f1), .int .i64 ((rd_T51 l0 x9_1).f2), .int .i64 ((rd_T51 l0 x9_1).f3), .int .i64 ((rd_T51 l0 x9_1).f4), .bool ((rd_T51 l0 x9_1).f5), .bool ((rd_T51 l0 x9_1).f6)] 51 (0, 0))) := ⟨by (with_reducible repeat (first | refine blk_drewN ?_ _ | refine blk_drew ?_ | refine blk_alloc ?_ _)); refine blk_put (cs := #[.int .i64 ((rd_T51 l0 x9_1).f0), .int .i64 ((rd_T51 l0 x9_1).f1), .int .i64 ((rd_T51 l0 x9_1).f2), .int .i64 ((rd_T51 l0 x9_1).f3), .int .i64 ((rd_T51 l0 x9_1).f4), .bool ((rd_T51 l0 x9_1).f5), .bool false]) ?_ 6 _ rfl; (with_reducible repeat (first | refine blk_drewN ?_ _ | refine blk_drew ?_ | refine blk_alloc ?_ _)); refine blk_put (cs := #[.int .i64 ((rd_T51 l0 x9_1).f0), .int .i64 ((rd_T51 l0 x9_1).f1), .int .i64 ((rd_T51 l0 x9_1).f2), .int .i64 ((rd_T51 l0 x9_1).f3), .int .i64 ((rd_T51 l0 x9_1).f4), .bool false, .bool false]) ?_ 5 _ rfl; (with_reducible repeat (first | refine blk_drewN ?_ _ | refine blk_drew ?_ | refine blk_alloc ?_ _)); refine blk_put (cs := #[.int .i64 ((rd_T51 l0 x9_1).f0), .int .i64 ((rd_T51 l0 x9_1).f1), .int .i64 ((rd_T51 l0 x9_1).f2), .int .i64 ((rd_T51 l0 x9_1).f3), .int .i64 0, .bool false, .bool false]) ?_ 4 _ rfl; (with_reducible repeat (first | refine blk_drewN ?_ _ | refine blk_drew ?_ | refine blk_alloc ?_ _)); refine blk_put (cs := #[.int .i64 ((rd_T51 l0 x9_1).f0), .int .i64 ((rd_T51 l0 x9_1).f1), .int .i64 ((rd_T51 l0 x9_1).f2), .int .i64 0, .int .i64 0, .bool false, .bool false]) ?_ 3 _ rfl; (with_reducible repeat (first | refine blk_drewN ?_ _ | refine blk_drew ?_ | refine blk_alloc ?_ _)); refine blk_put (cs := #[.int .i64 ((rd_T51 l0 x9_1).f0), .int .i64 ((rd_T51 l0 x9_1).f1), .int .i64 0, .int .i64 0, .int .i64 0, .bool false, .bool false]) ?_ 2 _ rfl; (with_reducible repeat (first | refine blk_drewN ?_ _ | refine blk_drew ?_ | refine blk_alloc ?_ _)); refine blk_put (cs := #[.int .i64 ((rd_T51 l0 x9_1).f0), .int .i64 0, .int .i64 0, .int .i64 0, .int .i64 0, .bool false, .bool false]) ?_ 1 _ rfl; (with_reducible repeat (first | refine blk_drewN ?_ _ | refine blk_drew ?_ | refine blk_alloc ?_ _)); refine blk_put (cs := #[.int .i64 0, .int .i64 0, .int .i64 0, .int .i64 0, .int .i64 0, .bool false, .bool false]) ?_ 0 _ rfl; (with_reducible repeat (first | refine blk_drewN ?_ _ | refine blk_drew ?_ | refine blk_alloc ?_ _)); exact BK200.out⟩
        have n1_ : Aside0 (Below w.heap.size w (((((((w9.setCell ⟨gb200, 0, none⟩ (.int .i64 ((rd_T51 l0 x9_1).f0))).setCell ⟨gb200, 1, none⟩ (.int .i64 ((rd_T51 l0 x9_1).f1))).setCell ⟨gb200, 2, none⟩ (.int .i64 ((rd_T51 l0 x9_1).f2))).setCell ⟨gb200, 3, none⟩ (.int .i64 ((rd_T51 l0 x9_1).f3))).setCell ⟨gb200, 4, none⟩ (.int .i64 ((rd_T51 l0 x9_1).f4))).setCell ⟨gb200, 5, none⟩ (.bool ((rd_T51 l0 x9_1).f5))).setCell ⟨gb200, 6, none⟩ (.bool ((rd_T51 l0 x9_1).f6)))) := ⟨by repeat (first | (with_reducible first | exact HB.out | apply below_alloc | apply pw_below_drewN | apply below_drew1 | refine below_set ?_ GE200.out) | exact HB.out)⟩
        (try clear BK200)
        (try clear HB)
        generalize (((((((w9.setCell ⟨gb200, 0, none⟩ (.int .i64 ((rd_T51 l0 x9_1).f0))).setCell ⟨gb200, 1, none⟩ (.int .i64 ((rd_T51 l0 x9_1).f1))).setCell ⟨gb200, 2, none⟩ (.int .i64 ((rd_T51 l0 x9_1).f2))).setCell ⟨gb200, 3, none⟩ (.int .i64 ((rd_T51 l0 x9_1).f3))).setCell ⟨gb200, 4, none⟩ (.int .i64 ((rd_T51 l0 x9_1).f4))).setCell ⟨gb200, 5, none⟩ (.bool ((rd_T51 l0 x9_1).f5))).setCell ⟨gb200, 6, none⟩ (.bool ((rd_T51 l0 x9_1).f6))) = w20 at n0_ n1_ ⊢
        have BK200 := n0_
        have HB := n1_
        clear n0_ n1_
        have n0_ := Aside0.mk (blk_drew BK200.out)
        have n1_ := Aside0.mk (below_drew1 HB.out)
        clear BK200
        clear HB
        have BK200 := n0_
        have HB := n1_
        clear n0_ n1_
        refine start_ (n := 19) (S := fun w' => w'.cell? ⟨gb200, 0, none⟩ = some (.int .i64 ((rd_T51 l0 x9_1).f0)) ∧ w'.cell? ⟨gb200, 1, none⟩ = some (.int .i64 ((rd_T51 l0 x9_1).f1)) ∧ w'.cell? ⟨gb200, 2, none⟩ = some (.int .i64 ((rd_T51 l0 x9_1).f2)) ∧ w'.cell? ⟨gb200, 3, none⟩ = some (.int .i64 ((rd_T51 l0 x9_1).f3)) ∧ w'.cell? ⟨gb200, 4, none⟩ = some (.int .i64 ((rd_T51 l0 x9_1).f4)) ∧ w'.cell? ⟨gb200, 5, none⟩ = some (.bool ((rd_T51 l0 x9_1).f5)) ∧ w'.cell? ⟨gb200, 6, none⟩ = some (.bool ((rd_T51 l0 x9_1).f6))) (ds := []) (fl 19 0) (by kernel_rfl) rfl rfl ⟨(blk_cell BK200.out 0).trans rfl, (blk_cell BK200.out 1).trans rfl, (blk_cell BK200.out 2).trans rfl, (blk_cell BK200.out 3).trans rfl, (blk_cell BK200.out 4).trans rfl, (blk_cell BK200.out 5).trans rfl, (blk_cell BK200.out 6).trans rfl⟩ (fun hHeld => ?_); refine with_tabW spinnakerref12_loop.tab5 spinnakerref12_loop.bits5 (fun HT_ HW_ => ?_)
        generalize w20.drew = w21 at BK200 HB hHeld ⊢
        refine pure_ (i := 0) (N := some 22) (v := ?_) (a' := ?_) (fl 19 1) rfl rfl (any_of HT_.out (by kernel_rfl)) (fun _ _ _ h => h) (Or.inl ⟨by rfl, ?_⟩) ?_ ?_
        rotate_left
        ·intro w'
         go_simp
         with_reducible rfl
        rotate_left
        ·simp only [Act.put, List.setIfInBounds_toArray, List.set_cons_zero, List.set_cons_succ, i64_w, i32_w]
         rfl
        refine take_ (i := 1) (N := some 23) (v := ?_) (a' := ?_) (fl 19 2) rfl rfl (take_ofW HT_.out HW_.out (by kernel_rfl)) (fun _ _ _ h => h) (Or.inl ⟨by rfl, ?_⟩) hHeld ?_ ?_
        rotate_left
        ·rintro w' ⟨s0, s1, s2, s3, s4, s5, s6⟩
         go_simp
         with_reducible rfl
        rotate_left
        ·simp only [Act.put, List.setIfInBounds_toArray, List.set_cons_zero, List.set_cons_succ, i64_w, i32_w]
         rfl
        refine one_ (i := 2) (N := some 24) (fl 19 3) rfl rfl (one_of HT_.out (by kernel_rfl)) (by decide) (fun K hK => ?_)
        refine goes_ Tryd.func77 (by kernel_rfl) rfl #[.int .i64 ((rd_T51 l0 x9_1).f0)] (by rfl) rfl rfl (by (try simp only [List.map_toArray, List.map_cons, List.map_nil]); first | done | rfl | (simp only [List.length_drop, List.length_take]; rfl)) ?_
        with_reducible refine (spinnakerref03_HasRd.calls k1 ((rd_T51 l0 x9_1).f0) false _ A11.out).mono ?_
        rintro e w' ⟨rfl, ⟨nd, rfl⟩⟩
        refine ⟨_, rfl, ?_⟩
        refine hK.out _ _ ⟨(blk_cell BK200.out 0).trans rfl, (blk_cell BK200.out 1).trans rfl, (blk_cell BK200.out 2).trans rfl, (blk_cell BK200.out 3).trans rfl, (blk_cell BK200.out 4).trans rfl, (blk_cell BK200.out 5).trans rfl, (blk_cell BK200.out 6).trans rfl⟩ (fun hHeld => ?_)
        clear hK K
        refine norm_ (a' := ?_) ?_ ?_
        rotate_left
        ·show Act.put _ (some 24) _ = _
         simp only [Act.put, List.setIfInBounds_toArray, List.set_cons_zero, List.set_cons_succ, i64_w, i32_w]
         rfl
        refine pure_ (i := 3) (N := some 25) (v := ?_) (a' := ?_) (fl 19 4) rfl rfl (any_of HT_.out (by kernel_rfl)) (fun _ _ _ h => h) (Or.inl ⟨by rfl, ?_⟩) ?_ ?_
        rotate_left
        ·intro w'
         go_simp
         with_reducible rfl
        rotate_left
        ·simp only [Act.put, List.setIfInBounds_toArray, List.set_cons_zero, List.set_cons_succ, i64_w, i32_w]
         rfl
        refine pure_ (i := 4) (N := some 26) (v := undef) (a' := ?_) (fl 19 5) rfl rfl (any_of HT_.out (by kernel_rfl)) (fun _ _ _ h => h) (Or.inr ⟨by rfl, rfl⟩) ?_ ?_
        rotate_left
        ·simp only [Act.put, List.setIfInBounds_toArray, List.set_cons_zero, List.set_cons_succ, i64_w, i32_w]
         rfl
        refine pure_ (i := 5) (N := some 27) (v := undef) (a' := ?_) (fl 19 6) rfl rfl (any_of HT_.out (by kernel_rfl)) (fun _ _ _ h => h) (Or.inr ⟨by rfl, rfl⟩) ?_ ?_
        rotate_left
        ·simp only [Act.put, List.setIfInBounds_toArray, List.set_cons_zero, List.set_cons_succ, i64_w, i32_w]
         rfl
        refine pure_ (i := 6) (N := some 28) (v := undef) (a' := ?_) (fl 19 7) rfl rfl (any_of HT_.out (by kernel_rfl)) (fun _ _ _ h => h) (Or.inr ⟨by rfl, rfl⟩) ?_ ?_
        rotate_left
        ·simp only [Act.put, List.setIfInBounds_toArray, List.set_cons_zero, List.set_cons_succ, i64_w, i32_w]
         rfl
        refine pure_ (i := 7) (N := some 29) (v := ?_) (a' := ?_) (fl 19 8) rfl rfl (any_of HT_.out (by kernel_rfl)) (fun _ _ _ h => h) (Or.inl ⟨by rfl, ?_⟩) ?_ ?_
        rotate_left
        ·intro w'
         go_simp
         with_reducible rfl
        rotate_left
        ·simp only [Act.put, List.setIfInBounds_toArray, List.set_cons_zero, List.set_cons_succ, i64_w, i32_w]
         rfl
        refine pure_ (i := 8) (N := some 30) (v := ?_) (a' := ?_) (fl 19 9) rfl rfl (any_of HT_.out (by kernel_rfl)) (fun _ _ _ h => h) (Or.inl ⟨by rfl, ?_⟩) ?_ ?_
        rotate_left
        ·intro w'
         go_simp
         with_reducible rfl
        rotate_left
        ·simp only [Act.put, List.setIfInBounds_toArray, List.set_cons_zero, List.set_cons_succ, i64_w, i32_w]
         rfl
        refine pure_ (i := 9) (N := some 31) (v := undef) (a' := ?_) (fl 19 10) rfl rfl (any_of HT_.out (by kernel_rfl)) (fun _ _ _ h => h) (Or.inr ⟨by rfl, rfl⟩) ?_ ?_
        rotate_left
        ·simp only [Act.put, List.setIfInBounds_toArray, List.set_cons_zero, List.set_cons_succ, i64_w, i32_w]
         rfl
        refine pure_ (i := 10) (N := some 32) (v := undef) (a' := ?_) (fl 19 11) rfl rfl (any_of HT_.out (by kernel_rfl)) (fun _ _ _ h => h) (Or.inr ⟨by rfl, rfl⟩) ?_ ?_
        rotate_left
        ·simp only [Act.put, List.setIfInBounds_toArray, List.set_cons_zero, List.set_cons_succ, i64_w, i32_w]
         rfl
        refine pure_ (i := 11) (N := some 33) (v := undef) (a' := ?_) (fl 19 12) rfl rfl (any_of HT_.out (by kernel_rfl)) (fun _ _ _ h => h) (Or.inr ⟨by rfl, rfl⟩) ?_ ?_
        rotate_left
        ·simp only [Act.put, List.setIfInBounds_toArray, List.set_cons_zero, List.set_cons_succ, i64_w, i32_w]
         rfl
        refine pure_ (i := 12) (N := some 34) (v := undef) (a' := ?_) (fl 19 13) rfl rfl (any_of HT_.out (by kernel_rfl)) (fun _ _ _ h => h) (Or.inr ⟨by rfl, rfl⟩) ?_ ?_
        rotate_left
        ·simp only [Act.put, List.setIfInBounds_toArray, List.set_cons_zero, List.set_cons_succ, i64_w, i32_w]
         rfl
        refine pure_ (i := 13) (N := some 35) (v := undef) (a' := ?_) (fl 19 14) rfl rfl (any_of HT_.out (by kernel_rfl)) (fun _ _ _ h => h) (Or.inr ⟨by rfl, rfl⟩) ?_ ?_
        rotate_left
        ·simp only [Act.put, List.setIfInBounds_toArray, List.set_cons_zero, List.set_cons_succ, i64_w, i32_w]
         rfl
        refine pure_ (i := 14) (N := some 36) (v := undef) (a' := ?_) (fl 19 15) rfl rfl (any_of HT_.out (by kernel_rfl)) (fun _ _ _ h => h) (Or.inr ⟨by rfl, rfl⟩) ?_ ?_
        rotate_left
        ·simp only [Act.put, List.setIfInBounds_toArray, List.set_cons_zero, List.set_cons_succ, i64_w, i32_w]
         rfl
        refine pure_ (i := 15) (N := some 37) (v := undef) (a' := ?_) (fl 19 16) rfl rfl (any_of HT_.out (by kernel_rfl)) (fun _ _ _ h => h) (Or.inr ⟨by rfl, rfl⟩) ?_ ?_
        rotate_left
        ·simp only [Act.put, List.setIfInBounds_toArray, List.set_cons_zero, List.set_cons_succ, i64_w, i32_w]
         rfl
        refine pure_ (i := 16) (N := some 38) (v := undef) (a' := ?_) (fl 19 17) rfl rfl (any_of HT_.out (by kernel_rfl)) (fun _ _ _ h => h) (Or.inr ⟨by rfl, rfl⟩) ?_ ?_
        rotate_left
        ·simp only [Act.put, List.setIfInBounds_toArray, List.set_cons_zero, List.set_cons_succ, i64_w, i32_w]
         rfl
        refine pure_ (i := 17) (N := some 39) (v := ?_) (a' := ?_) (fl 19 18) rfl rfl (any_of HT_.out (by kernel_rfl)) (fun _ _ _ h => h) (Or.inl ⟨by rfl, ?_⟩) ?_ ?_
        rotate_left
        ·intro w'
         go_simp
         with_reducible rfl
        rotate_left
        ·simp only [Act.put, List.setIfInBounds_toArray, List.set_cons_zero, List.set_cons_succ, i64_w, i32_w]
         rfl
        refine pure_ (i := 18) (N := some 11) (v := ?_) (a' := ?_) (fl 19 19) rfl rfl (any_of HT_.out (by kernel_rfl)) (fun _ _ _ h => h) (Or.inl ⟨by rfl, ?_⟩) ?_ ?_
        rotate_left
        ·intro w'
         go_simp
         with_reducible rfl
        rotate_left
        ·simp only [Act.put, List.setIfInBounds_toArray, List.set_cons_zero, List.set_cons_succ, i64_w, i32_w]
         rfl
        refine done_ (done_of HT_.out (by kernel_rfl)) ?_
        try go_wp2
        go_meet
        case rel => exact ⟨_, (false), (by first | rfl | (simp; done) | (simp [*]; done)), H', ⟨by have := HK1.out; first | omega | exact Nat.le_refl _⟩, ⟨by (with_reducible repeat (first | refine blk_drewN ?_ _ | refine blk_drew ?_ | refine blk_alloc ?_ _)); exact BK200.out⟩, ⟨by repeat (first | (with_reducible first | exact HB.out | apply below_alloc | apply pw_below_drewN | apply below_drew1 | refine below_set ?_ GE200.out) | exact HB.out)⟩⟩
      case rest =>
       clear HC8
       try clear c1
       try clear p1
       try clear q1
       try clear hx1
       try clear p2
       try clear q2
       try clear hx2
       try clear c5
       try clear c5b0
       try clear c6
       try clear c6b0
       try clear c7
       try clear c7b0
       try clear c12
       try clear c13
       try clear c13b0
       try clear c13b1
       try clear c16
       try clear c16b0
       try clear c17
       try clear c17b0
       try clear p19
       try clear q19
       try clear hx19
       try clear p20
       try clear q20
       try clear hx20
       try clear hcz10_0
       try clear hcz10_1
       try clear hcz10_2
       try clear hcz10_3
       try clear hcz10_4
       try clear hcz10_5
       try clear hcz10_6
       try clear hfz10_0
       try clear hfz10_1
       try clear hfz10_2
       try clear hfz10_3
       try clear hfz10_4
       try clear hfz10_5
       try clear hfz10_6
       try clear hx199_0
       try clear hx199_1
       try clear hx199_2
       try clear hx199_3
       try clear hx199_4
       try clear hx199_5
       try clear hx199_6
       try clear hx202_0
       try clear hx202_1
       try clear hx202_2
       try clear hx202_3
       try clear hx202_4
       try clear hx202_5
       try clear hx202_6
       try clear p199
       try clear p2
       try clear p202
       try clear q199
       try clear q202
       obtain ⟨kq, x11_7, rfl, HA, HJ7, BK200, HB⟩ := hcut
       cases kq with
       | zero => exact absurd HA.out (by simp [spinnakerref12_loop.j1])
       | succ kj7 =>
        have H := HA.out
        clear HA
        simp only [spinnakerref12_loop.j1] at H
        replace H := Option.bind_eq_some_iff.mp H
        obtain ⟨t203, A220, H⟩ := H
        replace H : (if t203 = true then (if x9_1 = a1 then (if x11_7 = true then (some false) else (spinnakerref12_loop.l0 kj7 l0 a1 a2 a3 (wrap64 (x9_1 + 1)))) else (if x9_1 < a2 then (if x11_7 = true then (some false) else ((spinnakerref12_reckons.f ((rd_T51 l0 x9_1).f0) ((rd_T51 l0 x9_1).f1) ((rd_T51 l0 x9_1).f2) ((rd_T51 l0 x9_1).f3) ((rd_T51 l0 x9_1).f4) ((rd_T51 l0 x9_1).f5) ((rd_T51 l0 x9_1).f6)).bind fun t204 => (if t204 = true then (spinnakerref12_loop.l0 kj7 l0 a1 a2 a3 (wrap64 (x9_1 + 1))) else ((spinnakerref12_turns.f ((rd_T51 l0 x9_1).f0) ((rd_T51 l0 x9_1).f1) ((rd_T51 l0 x9_1).f2) ((rd_T51 l0 x9_1).f3) ((rd_T51 l0 x9_1).f4) ((rd_T51 l0 x9_1).f5) ((rd_T51 l0 x9_1).f6)).bind fun t205 => (if t205 = true then (if ((rd_T51 l0 x9_1).f4) > 0 then (spinnakerref12_loop.l0 kj7 l0 a1 a2 a3 (wrap64 (x9_1 + 1))) else (some false)) else (some false)))))) else (if x9_1 = a2 then ((spinnakerref12_conditional.f ((rd_T51 l0 x9_1).f0) ((rd_T51 l0 x9_1).f1) ((rd_T51 l0 x9_1).f2) ((rd_T51 l0 x9_1).f3) ((rd_T51 l0 x9_1).f4) ((rd_T51 l0 x9_1).f5) ((rd_T51 l0 x9_1).f6)).bind fun t206 => (if t206 = true then (if 0 ≤ a1 then (if a1 < (l0.length : Int) then (if ((rd_T51 l0 x9_1).f2) = ((rd_T51 l0 a1).f2) then (if ((((rd_T51 l0 x9_1).f0) == 67) != (((rd_T51 l0 a1).f0) == 66)) = true then (some false) else (spinnakerref12_loop.l0 kj7 l0 a1 a2 a3 (wrap64 (x9_1 + 1)))) else (some false)) else (none)) else (none)) else (some false))) else (if x9_1 < a3 then ((spinnakerref12_reckons.f ((rd_T51 l0 x9_1).f0) ((rd_T51 l0 x9_1).f1) ((rd_T51 l0 x9_1).f2) ((rd_T51 l0 x9_1).f3) ((rd_T51 l0 x9_1).f4) ((rd_T51 l0 x9_1).f5) ((rd_T51 l0 x9_1).f6)).bind fun t209 => (if t209 = true then (spinnakerref12_loop.l0 kj7 l0 a1 a2 a3 (wrap64 (x9_1 + 1))) else ((spinnakerref12_turns.f ((rd_T51 l0 x9_1).f0) ((rd_T51 l0 x9_1).f1) ((rd_T51 l0 x9_1).f2) ((rd_T51 l0 x9_1).f3) ((rd_T51 l0 x9_1).f4) ((rd_T51 l0 x9_1).f5) ((rd_T51 l0 x9_1).f6)).bind fun t210 => (if t210 = true then (if ((rd_T51 l0 x9_1).f4) > 0 then (spinnakerref12_loop.l0 kj7 l0 a1 a2 a3 (wrap64 (x9_1 + 1))) else (some false)) else (some false))))) else ((spinnakerref12_turns.f ((rd_T51 l0 x9_1).f0) ((rd_T51 l0 x9_1).f1) ((rd_T51 l0 x9_1).f2) ((rd_T51 l0 x9_1).f3) ((rd_T51 l0 x9_1).f4) ((rd_T51 l0 x9_1).f5) ((rd_T51 l0 x9_1).f6)).bind fun t211 => (if t211 = true then (if ((rd_T51 l0 x9_1).f4) = (wrap64 (4 * (wrap64 (a1 - a3)))) then (spinnakerref12_loop.l0 kj7 l0 a1 a2 a3 (wrap64 (x9_1 + 1))) else (some false)) else (some false))))))) else (some false)) = some r := H
        have A22 := Aside0.mk A220
        clear A220
        by_cases c23 : t203 = true
        ·subst c23
         have H1 : (if x9_1 = a1 then (if x11_7 = true then (some false) else (spinnakerref12_loop.l0 kj7 l0 a1 a2 a3 (wrap64 (x9_1 + 1)))) else (if x9_1 < a2 then (if x11_7 = true then (some false) else ((spinnakerref12_reckons.f ((rd_T51 l0 x9_1).f0) ((rd_T51 l0 x9_1).f1) ((rd_T51 l0 x9_1).f2) ((rd_T51 l0 x9_1).f3) ((rd_T51 l0 x9_1).f4) ((rd_T51 l0 x9_1).f5) ((rd_T51 l0 x9_1).f6)).bind fun t204 => (if t204 = true then (spinnakerref12_loop.l0 kj7 l0 a1 a2 a3 (wrap64 (x9_1 + 1))) else ((spinnakerref12_turns.f ((rd_T51 l0 x9_1).f0) ((rd_T51 l0 x9_1).f1) ((rd_T51 l0 x9_1).f2) ((rd_T51 l0 x9_1).f3) ((rd_T51 l0 x9_1).f4) ((rd_T51 l0 x9_1).f5) ((rd_T51 l0 x9_1).f6)).bind fun t205 => (if t205 = true then (if ((rd_T51 l0 x9_1).f4) > 0 then (spinnakerref12_loop.l0 kj7 l0 a1 a2 a3 (wrap64 (x9_1 + 1))) else (some false)) else (some false)))))) else (if x9_1 = a2 then ((spinnakerref12_conditional.f ((rd_T51 l0 x9_1).f0) ((rd_T51 l0 x9_1).f1) ((rd_T51 l0 x9_1).f2) ((rd_T51 l0 x9_1).f3) ((rd_T51 l0 x9_1).f4) ((rd_T51 l0 x9_1).f5) ((rd_T51 l0 x9_1).f6)).bind fun t206 => (if t206 = true then (if 0 ≤ a1 then (if a1 < (l0.length : Int) then (if ((rd_T51 l0 x9_1).f2) = ((rd_T51 l0 a1).f2) then (if ((((rd_T51 l0 x9_1).f0) == 67) != (((rd_T51 l0 a1).f0) == 66)) = true then (some false) else (spinnakerref12_loop.l0 kj7 l0 a1 a2 a3 (wrap64 (x9_1 + 1)))) else (some false)) else (none)) else (none)) else (some false))) else (if x9_1 < a3 then ((spinnakerref12_reckons.f ((rd_T51 l0 x9_1).f0) ((rd_T51 l0 x9_1).f1) ((rd_T51 l0 x9_1).f2) ((rd_T51 l0 x9_1).f3) ((rd_T51 l0 x9_1).f4) ((rd_T51 l0 x9_1).f5) ((rd_T51 l0 x9_1).f6)).bind fun t209 => (if t209 = true then (spinnakerref12_loop.l0 kj7 l0 a1 a2 a3 (wrap64 (x9_1 + 1))) else ((spinnakerref12_turns.f ((rd_T51 l0 x9_1).f0) ((rd_T51 l0 x9_1).f1) ((rd_T51 l0 x9_1).f2) ((rd_T51 l0 x9_1).f3) ((rd_T51 l0 x9_1).f4) ((rd_T51 l0 x9_1).f5) ((rd_T51 l0 x9_1).f6)).bind fun t210 => (if t210 = true then (if ((rd_T51 l0 x9_1).f4) > 0 then (spinnakerref12_loop.l0 kj7 l0 a1 a2 a3 (wrap64 (x9_1 + 1))) else (some false)) else (some false))))) else ((spinnakerref12_turns.f ((rd_T51 l0 x9_1).f0) ((rd_T51 l0 x9_1).f1) ((rd_T51 l0 x9_1).f2) ((rd_T51 l0 x9_1).f3) ((rd_T51 l0 x9_1).f4) ((rd_T51 l0 x9_1).f5) ((rd_T51 l0 x9_1).f6)).bind fun t211 => (if t211 = true then (if ((rd_T51 l0 x9_1).f4) = (wrap64 (4 * (wrap64 (a1 - a3)))) then (spinnakerref12_loop.l0 kj7 l0 a1 a2 a3 (wrap64 (x9_1 + 1))) else (some false)) else (some false))))))) = some r := by rw [if_pos rfl] at H; exact H
         clear H
         have H := H1
         clear H1
         by_cases c24 : x9_1 = a1
         ·rw [if_pos c24] at H
          have c24b0 : (x9_1 == a1) = true := beq_iff_eq.mpr c24
          have c24b1 : (x9_1 != a1) = false := bne_eq_false_iff_eq.mpr c24
          clear c24
          by_cases c25 : x11_7 = true
          ·subst c25
           have H1 : (some false) = some r := by rw [if_pos rfl] at H; exact H
           clear H
           have H := H1
           clear H1
           obtain rfl := Option.some.inj H
           have hcz26_0 : wc.cell? ⟨gb200, 0, none⟩ = some (.int .i64 ((rd_T51 l0 x9_1).f0)) := (blk_cell BK200.out 0).trans rfl
           have hcz26_1 : wc.cell? ⟨gb200, 1, none⟩ = some (.int .i64 ((rd_T51 l0 x9_1).f1)) := (blk_cell BK200.out 1).trans rfl
           have hcz26_2 : wc.cell? ⟨gb200, 2, none⟩ = some (.int .i64 ((rd_T51 l0 x9_1).f2)) := (blk_cell BK200.out 2).trans rfl
           have hcz26_3 : wc.cell? ⟨gb200, 3, none⟩ = some (.int .i64 ((rd_T51 l0 x9_1).f3)) := (blk_cell BK200.out 3).trans rfl
           have hcz26_4 : wc.cell? ⟨gb200, 4, none⟩ = some (.int .i64 ((rd_T51 l0 x9_1).f4)) := (blk_cell BK200.out 4).trans rfl
           have hcz26_5 : wc.cell? ⟨gb200, 5, none⟩ = some (.bool ((rd_T51 l0 x9_1).f5)) := (blk_cell BK200.out 5).trans rfl
           have hcz26_6 : wc.cell? ⟨gb200, 6, none⟩ = some (.bool ((rd_T51 l0 x9_1).f6)) := (blk_cell BK200.out 6).trans rfl
           have hfz26_0 := blk_frozen BK200.out 0
           have hfz26_1 := blk_frozen BK200.out 1
           have hfz26_2 := blk_frozen BK200.out 2
           have hfz26_3 := blk_frozen BK200.out 3
           have hfz26_4 := blk_frozen BK200.out 4
           have hfz26_5 := blk_frozen BK200.out 5
           have hfz26_6 := blk_frozen BK200.out 6
           go_wp2_with (first | ((with_reducible refine gate_callee (f := 39) rfl ?_); refine goesL_ (some 54) rfl rfl Tryd.func39 (by kernel_rfl) rfl #[.agg #[.int .i64 ((rd_T51 l0 x9_1).f0), .int .i64 ((rd_T51 l0 x9_1).f1), .int .i64 ((rd_T51 l0 x9_1).f2), .int .i64 ((rd_T51 l0 x9_1).f3), .int .i64 ((rd_T51 l0 x9_1).f4), .bool ((rd_T51 l0 x9_1).f5), .bool ((rd_T51 l0 x9_1).f6)]] rfl (by (try simp only [List.map_toArray, List.map_cons, List.map_nil]); first | done | rfl | (simp only [List.length_drop, List.length_take]; rfl)) ?_; (with_reducible refine (spinnakerref03_May.calls kj7 ((rd_T51 l0 x9_1).f0) ((rd_T51 l0 x9_1).f1) ((rd_T51 l0 x9_1).f2) ((rd_T51 l0 x9_1).f3) ((rd_T51 l0 x9_1).f4) ((rd_T51 l0 x9_1).f5) ((rd_T51 l0 x9_1).f6) true _ A22.out).mono ?_); rintro e w27 ⟨rfl, hb⟩; refine ⟨_, rfl, ?_⟩; have n0_ := Aside0.mk (blk_below (g := gb200) (o := .cells #[.int .i64 ((rd_T51 l0 x9_1).f0), .int .i64 ((rd_T51 l0 x9_1).f1), .int .i64 ((rd_T51 l0 x9_1).f2), .int .i64 ((rd_T51 l0 x9_1).f3), .int .i64 ((rd_T51 l0 x9_1).f4), .bool ((rd_T51 l0 x9_1).f5), .bool ((rd_T51 l0 x9_1).f6)] 51 (0, 0)) (by (with_reducible repeat (first | refine blk_drewN ?_ _ | refine blk_drew ?_ | refine blk_alloc ?_ _)); exact BK200.out) hb); have n1_ := Aside0.mk (below_step (by repeat (first | (with_reducible first | exact HB.out | apply below_alloc | apply pw_below_drewN | apply below_drew1 | refine below_set ?_ GE200.out) | exact HB.out)) hb); clear BK200; clear HB; have BK200 := n0_; have HB := n1_; clear n0_ n1_; (try clear hb); (try clear hb2); (try clear hk); (try clear hi)))
           go_ret
           exact ⟨by first | rfl | (simp [errW_none, errW_some] <;> rfl) | (simp [*, errW_none, errW_some] <;> rfl), by repeat (first | (with_reducible first | exact HB.out | apply below_alloc | apply pw_below_drewN | apply below_drew1 | refine below_set ?_ GE200.out) | exact HB.out)⟩
          ·replace c25 := Bool.eq_false_iff.mpr c25
           subst c25
           have H1 : (spinnakerref12_loop.l0 kj7 l0 a1 a2 a3 (wrap64 (x9_1 + 1))) = some r := by rw [if_neg (show ¬ (false = true) by decide)] at H; exact H
           clear H
           have H := H1
           clear H1
           have H' := Aside0.mk H
           clear H
           have hcz28_0 : wc.cell? ⟨gb200, 0, none⟩ = some (.int .i64 ((rd_T51 l0 x9_1).f0)) := (blk_cell BK200.out 0).trans rfl
           have hcz28_1 : wc.cell? ⟨gb200, 1, none⟩ = some (.int .i64 ((rd_T51 l0 x9_1).f1)) := (blk_cell BK200.out 1).trans rfl
           have hcz28_2 : wc.cell? ⟨gb200, 2, none⟩ = some (.int .i64 ((rd_T51 l0 x9_1).f2)) := (blk_cell BK200.out 2).trans rfl
           have hcz28_3 : wc.cell? ⟨gb200, 3, none⟩ = some (.int .i64 ((rd_T51 l0 x9_1).f3)) := (blk_cell BK200.out 3).trans rfl
           have hcz28_4 : wc.cell? ⟨gb200, 4, none⟩ = some (.int .i64 ((rd_T51 l0 x9_1).f4)) := (blk_cell BK200.out 4).trans rfl
           have hcz28_5 : wc.cell? ⟨gb200, 5, none⟩ = some (.bool ((rd_T51 l0 x9_1).f5)) := (blk_cell BK200.out 5).trans rfl
           have hcz28_6 : wc.cell? ⟨gb200, 6, none⟩ = some (.bool ((rd_T51 l0 x9_1).f6)) := (blk_cell BK200.out 6).trans rfl
           have hfz28_0 := blk_frozen BK200.out 0
           have hfz28_1 := blk_frozen BK200.out 1
           have hfz28_2 := blk_frozen BK200.out 2
           have hfz28_3 := blk_frozen BK200.out 3
           have hfz28_4 := blk_frozen BK200.out 4
           have hfz28_5 := blk_frozen BK200.out 5
           have hfz28_6 := blk_frozen BK200.out 6
           go_wp2_with (first | ((with_reducible refine gate_callee (f := 39) rfl ?_); refine goesL_ (some 54) rfl rfl Tryd.func39 (by kernel_rfl) rfl #[.agg #[.int .i64 ((rd_T51 l0 x9_1).f0), .int .i64 ((rd_T51 l0 x9_1).f1), .int .i64 ((rd_T51 l0 x9_1).f2), .int .i64 ((rd_T51 l0 x9_1).f3), .int .i64 ((rd_T51 l0 x9_1).f4), .bool ((rd_T51 l0 x9_1).f5), .bool ((rd_T51 l0 x9_1).f6)]] rfl (by (try simp only [List.map_toArray, List.map_cons, List.map_nil]); first | done | rfl | (simp only [List.length_drop, List.length_take]; rfl)) ?_; (with_reducible refine (spinnakerref03_May.calls kj7 ((rd_T51 l0 x9_1).f0) ((rd_T51 l0 x9_1).f1) ((rd_T51 l0 x9_1).f2) ((rd_T51 l0 x9_1).f3) ((rd_T51 l0 x9_1).f4) ((rd_T51 l0 x9_1).f5) ((rd_T51 l0 x9_1).f6) true _ A22.out).mono ?_); rintro e w29 ⟨rfl, hb⟩; refine ⟨_, rfl, ?_⟩; have n0_ := Aside0.mk (blk_below (g := gb200) (o := .cells #[.int .i64 ((rd_T51 l0 x9_1).f0), .int .i64 ((rd_T51 l0 x9_1).f1), .int .i64 ((rd_T51 l0 x9_1).f2), .int .i64 ((rd_T51 l0 x9_1).f3), .int .i64 ((rd_T51 l0 x9_1).f4), .bool ((rd_T51 l0 x9_1).f5), .bool ((rd_T51 l0 x9_1).f6)] 51 (0, 0)) (by (with_reducible repeat (first | refine blk_drewN ?_ _ | refine blk_drew ?_ | refine blk_alloc ?_ _)); exact BK200.out) hb); have n1_ := Aside0.mk (below_step (by repeat (first | (with_reducible first | exact HB.out | apply below_alloc | apply pw_below_drewN | apply below_drew1 | refine below_set ?_ GE200.out) | exact HB.out)) hb); clear BK200; clear HB; have BK200 := n0_; have HB := n1_; clear n0_ n1_; (try clear hb); (try clear hb2); (try clear hk); (try clear hi)))
           go_roundg kj7
           case measure => have := HK1.out; have := HJ7.out; omega
           case rel => exact ⟨(wrap64 (x9_1 + 1)), (by first | rfl | (simp; done) | (simp [*]; done)), H', ⟨by have := HK1.out; have := HJ7.out; omega⟩, ⟨by repeat (first | (with_reducible first | exact HB.out | apply below_alloc | apply pw_below_drewN | apply below_drew1 | refine below_set ?_ GE200.out) | exact HB.out)⟩⟩
         ·rw [if_neg c24] at H
          have c24b0 : (x9_1 == a1) = false := beq_eq_false_iff_ne.mpr c24
          have c24b1 : (x9_1 != a1) = true := bne_iff_ne.mpr c24
          by_cases c30 : x9_1 < a2
          ·rw [if_pos c30] at H
           have c30b0 : decide (x9_1 < a2) = true := decide_eq_true c30
           clear c30
           by_cases c31 : x11_7 = true
           ·subst c31
            have H1 : (some false) = some r := by rw [if_pos rfl] at H; exact H
            clear H
            have H := H1
            clear H1
            obtain rfl := Option.some.inj H
            have hcz32_0 : wc.cell? ⟨gb200, 0, none⟩ = some (.int .i64 ((rd_T51 l0 x9_1).f0)) := (blk_cell BK200.out 0).trans rfl
            have hcz32_1 : wc.cell? ⟨gb200, 1, none⟩ = some (.int .i64 ((rd_T51 l0 x9_1).f1)) := (blk_cell BK200.out 1).trans rfl
            have hcz32_2 : wc.cell? ⟨gb200, 2, none⟩ = some (.int .i64 ((rd_T51 l0 x9_1).f2)) := (blk_cell BK200.out 2).trans rfl
            have hcz32_3 : wc.cell? ⟨gb200, 3, none⟩ = some (.int .i64 ((rd_T51 l0 x9_1).f3)) := (blk_cell BK200.out 3).trans rfl
            have hcz32_4 : wc.cell? ⟨gb200, 4, none⟩ = some (.int .i64 ((rd_T51 l0 x9_1).f4)) := (blk_cell BK200.out 4).trans rfl
            have hcz32_5 : wc.cell? ⟨gb200, 5, none⟩ = some (.bool ((rd_T51 l0 x9_1).f5)) := (blk_cell BK200.out 5).trans rfl
            have hcz32_6 : wc.cell? ⟨gb200, 6, none⟩ = some (.bool ((rd_T51 l0 x9_1).f6)) := (blk_cell BK200.out 6).trans rfl
            have hfz32_0 := blk_frozen BK200.out 0
            have hfz32_1 := blk_frozen BK200.out 1
            have hfz32_2 := blk_frozen BK200.out 2
            have hfz32_3 := blk_frozen BK200.out 3
            have hfz32_4 := blk_frozen BK200.out 4
            have hfz32_5 := blk_frozen BK200.out 5
            have hfz32_6 := blk_frozen BK200.out 6
            go_wp2_with (first | ((with_reducible refine gate_callee (f := 39) rfl ?_); refine goesL_ (some 54) rfl rfl Tryd.func39 (by kernel_rfl) rfl #[.agg #[.int .i64 ((rd_T51 l0 x9_1).f0), .int .i64 ((rd_T51 l0 x9_1).f1), .int .i64 ((rd_T51 l0 x9_1).f2), .int .i64 ((rd_T51 l0 x9_1).f3), .int .i64 ((rd_T51 l0 x9_1).f4), .bool ((rd_T51 l0 x9_1).f5), .bool ((rd_T51 l0 x9_1).f6)]] rfl (by (try simp only [List.map_toArray, List.map_cons, List.map_nil]); first | done | rfl | (simp only [List.length_drop, List.length_take]; rfl)) ?_; (with_reducible refine (spinnakerref03_May.calls kj7 ((rd_T51 l0 x9_1).f0) ((rd_T51 l0 x9_1).f1) ((rd_T51 l0 x9_1).f2) ((rd_T51 l0 x9_1).f3) ((rd_T51 l0 x9_1).f4) ((rd_T51 l0 x9_1).f5) ((rd_T51 l0 x9_1).f6) true _ A22.out).mono ?_); rintro e w33 ⟨rfl, hb⟩; refine ⟨_, rfl, ?_⟩; have n0_ := Aside0.mk (blk_below (g := gb200) (o := .cells #[.int .i64 ((rd_T51 l0 x9_1).f0), .int .i64 ((rd_T51 l0 x9_1).f1), .int .i64 ((rd_T51 l0 x9_1).f2), .int .i64 ((rd_T51 l0 x9_1).f3), .int .i64 ((rd_T51 l0 x9_1).f4), .bool ((rd_T51 l0 x9_1).f5), .bool ((rd_T51 l0 x9_1).f6)] 51 (0, 0)) (by (with_reducible repeat (first | refine blk_drewN ?_ _ | refine blk_drew ?_ | refine blk_alloc ?_ _)); exact BK200.out) hb); have n1_ := Aside0.mk (below_step (by repeat (first | (with_reducible first | exact HB.out | apply below_alloc | apply pw_below_drewN | apply below_drew1 | refine below_set ?_ GE200.out) | exact HB.out)) hb); clear BK200; clear HB; have BK200 := n0_; have HB := n1_; clear n0_ n1_; (try clear hb); (try clear hb2); (try clear hk); (try clear hi)))
            go_ret
            exact ⟨by first | rfl | (simp [errW_none, errW_some] <;> rfl) | (simp [*, errW_none, errW_some] <;> rfl), by repeat (first | (with_reducible first | exact HB.out | apply below_alloc | apply pw_below_drewN | apply below_drew1 | refine below_set ?_ GE200.out) | exact HB.out)⟩
           ·replace c31 := Bool.eq_false_iff.mpr c31
            subst c31
            have H1 : ((spinnakerref12_reckons.f ((rd_T51 l0 x9_1).f0) ((rd_T51 l0 x9_1).f1) ((rd_T51 l0 x9_1).f2) ((rd_T51 l0 x9_1).f3) ((rd_T51 l0 x9_1).f4) ((rd_T51 l0 x9_1).f5) ((rd_T51 l0 x9_1).f6)).bind fun t204 => (if t204 = true then (spinnakerref12_loop.l0 kj7 l0 a1 a2 a3 (wrap64 (x9_1 + 1))) else ((spinnakerref12_turns.f ((rd_T51 l0 x9_1).f0) ((rd_T51 l0 x9_1).f1) ((rd_T51 l0 x9_1).f2) ((rd_T51 l0 x9_1).f3) ((rd_T51 l0 x9_1).f4) ((rd_T51 l0 x9_1).f5) ((rd_T51 l0 x9_1).f6)).bind fun t205 => (if t205 = true then (if ((rd_T51 l0 x9_1).f4) > 0 then (spinnakerref12_loop.l0 kj7 l0 a1 a2 a3 (wrap64 (x9_1 + 1))) else (some false)) else (some false))))) = some r := by rw [if_neg (show ¬ (false = true) by decide)] at H; exact H
            clear H
            have H := H1
            clear H1
            replace H := Option.bind_eq_some_iff.mp H
            obtain ⟨t204, A340, H⟩ := H
            replace H : (if t204 = true then (spinnakerref12_loop.l0 kj7 l0 a1 a2 a3 (wrap64 (x9_1 + 1))) else ((spinnakerref12_turns.f ((rd_T51 l0 x9_1).f0) ((rd_T51 l0 x9_1).f1) ((rd_T51 l0 x9_1).f2) ((rd_T51 l0 x9_1).f3) ((rd_T51 l0 x9_1).f4) ((rd_T51 l0 x9_1).f5) ((rd_T51 l0 x9_1).f6)).bind fun t205 => (if t205 = true then (if ((rd_T51 l0 x9_1).f4) > 0 then (spinnakerref12_loop.l0 kj7 l0 a1 a2 a3 (wrap64 (x9_1 + 1))) else (some false)) else (some false)))) = some r := H
            have A34 := Aside0.mk A340
            clear A340
            by_cases c35 : t204 = true
            ·subst c35
             have H1 : (spinnakerref12_loop.l0 kj7 l0 a1 a2 a3 (wrap64 (x9_1 + 1))) = some r := by rw [if_pos rfl] at H; exact H
             clear H
             have H := H1
             clear H1
             have H' := Aside0.mk H
             clear H
             have hcz36_0 : wc.cell? ⟨gb200, 0, none⟩ = some (.int .i64 ((rd_T51 l0 x9_1).f0)) := (blk_cell BK200.out 0).trans rfl
             have hcz36_1 : wc.cell? ⟨gb200, 1, none⟩ = some (.int .i64 ((rd_T51 l0 x9_1).f1)) := (blk_cell BK200.out 1).trans rfl
             have hcz36_2 : wc.cell? ⟨gb200, 2, none⟩ = some (.int .i64 ((rd_T51 l0 x9_1).f2)) := (blk_cell BK200.out 2).trans rfl
             have hcz36_3 : wc.cell? ⟨gb200, 3, none⟩ = some (.int .i64 ((rd_T51 l0 x9_1).f3)) := (blk_cell BK200.out 3).trans rfl
             have hcz36_4 : wc.cell? ⟨gb200, 4, none⟩ = some (.int .i64 ((rd_T51 l0 x9_1).f4)) := (blk_cell BK200.out 4).trans rfl
             have hcz36_5 : wc.cell? ⟨gb200, 5, none⟩ = some (.bool ((rd_T51 l0 x9_1).f5)) := (blk_cell BK200.out 5).trans rfl
             have hcz36_6 : wc.cell? ⟨gb200, 6, none⟩ = some (.bool ((rd_T51 l0 x9_1).f6)) := (blk_cell BK200.out 6).trans rfl
             have hfz36_0 := blk_frozen BK200.out 0
             have hfz36_1 := blk_frozen BK200.out 1
             have hfz36_2 := blk_frozen BK200.out 2
             have hfz36_3 := blk_frozen BK200.out 3
             have hfz36_4 := blk_frozen BK200.out 4
             have hfz36_5 := blk_frozen BK200.out 5
             have hfz36_6 := blk_frozen BK200.out 6
             go_wp2_with (first | ((with_reducible refine gate_callee (f := 39) rfl ?_); refine goesL_ (some 54) rfl rfl Tryd.func39 (by kernel_rfl) rfl #[.agg #[.int .i64 ((rd_T51 l0 x9_1).f0), .int .i64 ((rd_T51 l0 x9_1).f1), .int .i64 ((rd_T51 l0 x9_1).f2), .int .i64 ((rd_T51 l0 x9_1).f3), .int .i64 ((rd_T51 l0 x9_1).f4), .bool ((rd_T51 l0 x9_1).f5), .bool ((rd_T51 l0 x9_1).f6)]] rfl (by (try simp only [List.map_toArray, List.map_cons, List.map_nil]); first | done | rfl | (simp only [List.length_drop, List.length_take]; rfl)) ?_; (with_reducible refine (spinnakerref03_May.calls kj7 ((rd_T51 l0 x9_1).f0) ((rd_T51 l0 x9_1).f1) ((rd_T51 l0 x9_1).f2) ((rd_T51 l0 x9_1).f3) ((rd_T51 l0 x9_1).f4) ((rd_T51 l0 x9_1).f5) ((rd_T51 l0 x9_1).f6) true _ A22.out).mono ?_); rintro e w37 ⟨rfl, hb⟩; refine ⟨_, rfl, ?_⟩; have n0_ := Aside0.mk (blk_below (g := gb200) (o := .cells #[.int .i64 ((rd_T51 l0 x9_1).f0), .int .i64 ((rd_T51 l0 x9_1).f1), .int .i64 ((rd_T51 l0 x9_1).f2), .int .i64 ((rd_T51 l0 x9_1).f3), .int .i64 ((rd_T51 l0 x9_1).f4), .bool ((rd_T51 l0 x9_1).f5), .bool ((rd_T51 l0 x9_1).f6)] 51 (0, 0)) (by (with_reducible repeat (first | refine blk_drewN ?_ _ | refine blk_drew ?_ | refine blk_alloc ?_ _)); exact BK200.out) hb); have n1_ := Aside0.mk (below_step (by repeat (first | (with_reducible first | exact HB.out | apply below_alloc | apply pw_below_drewN | apply below_drew1 | refine below_set ?_ GE200.out) | exact HB.out)) hb); clear BK200; clear HB; have BK200 := n0_; have HB := n1_; clear n0_ n1_; (try clear hb); (try clear hb2); (try clear hk); (try clear hi); have hcz38_0 : w37.cell? ⟨gb200, 0, none⟩ = some (.int .i64 ((rd_T51 l0 x9_1).f0)) := (blk_cell BK200.out 0).trans rfl; have hcz38_1 : w37.cell? ⟨gb200, 1, none⟩ = some (.int .i64 ((rd_T51 l0 x9_1).f1)) := (blk_cell BK200.out 1).trans rfl; have hcz38_2 : w37.cell? ⟨gb200, 2, none⟩ = some (.int .i64 ((rd_T51 l0 x9_1).f2)) := (blk_cell BK200.out 2).trans rfl; have hcz38_3 : w37.cell? ⟨gb200, 3, none⟩ = some (.int .i64 ((rd_T51 l0 x9_1).f3)) := (blk_cell BK200.out 3).trans rfl; have hcz38_4 : w37.cell? ⟨gb200, 4, none⟩ = some (.int .i64 ((rd_T51 l0 x9_1).f4)) := (blk_cell BK200.out 4).trans rfl; have hcz38_5 : w37.cell? ⟨gb200, 5, none⟩ = some (.bool ((rd_T51 l0 x9_1).f5)) := (blk_cell BK200.out 5).trans rfl; have hcz38_6 : w37.cell? ⟨gb200, 6, none⟩ = some (.bool ((rd_T51 l0 x9_1).f6)) := (blk_cell BK200.out 6).trans rfl; have hfz38_0 := blk_frozen BK200.out 0; have hfz38_1 := blk_frozen BK200.out 1; have hfz38_2 := blk_frozen BK200.out 2; have hfz38_3 := blk_frozen BK200.out 3; have hfz38_4 := blk_frozen BK200.out 4; have hfz38_5 := blk_frozen BK200.out 5; have hfz38_6 := blk_frozen BK200.out 6) | (go_at_call 97; (with_reducible refine (spinnakerref12_reckons.calls ((rd_T51 l0 x9_1).f0) ((rd_T51 l0 x9_1).f1) ((rd_T51 l0 x9_1).f2) ((rd_T51 l0 x9_1).f3) ((rd_T51 l0 x9_1).f4) ((rd_T51 l0 x9_1).f5) ((rd_T51 l0 x9_1).f6) true _ A34.out).mono ?_); rintro e w39 ⟨rfl, hb⟩; have n0_ := Aside0.mk (blk_below (g := gb200) (o := .cells #[.int .i64 ((rd_T51 l0 x9_1).f0), .int .i64 ((rd_T51 l0 x9_1).f1), .int .i64 ((rd_T51 l0 x9_1).f2), .int .i64 ((rd_T51 l0 x9_1).f3), .int .i64 ((rd_T51 l0 x9_1).f4), .bool ((rd_T51 l0 x9_1).f5), .bool ((rd_T51 l0 x9_1).f6)] 51 (0, 0)) (by (with_reducible repeat (first | refine blk_drewN ?_ _ | refine blk_drew ?_ | refine blk_alloc ?_ _)); exact BK200.out) hb); have n1_ := Aside0.mk (below_step (by repeat (first | (with_reducible first | exact HB.out | apply below_alloc | apply pw_below_drewN | apply below_drew1 | refine below_set ?_ GE200.out) | exact HB.out)) hb); clear BK200; clear HB; have BK200 := n0_; have HB := n1_; clear n0_ n1_; (try clear hb); (try clear hb2); (try clear hk); (try clear hi)))
             go_roundg kj7
             case measure => have := HK1.out; have := HJ7.out; omega
             case rel => exact ⟨(wrap64 (x9_1 + 1)), (by first | rfl | (simp; done) | (simp [*]; done)), H', ⟨by have := HK1.out; have := HJ7.out; omega⟩, ⟨by repeat (first | (with_reducible first | exact HB.out | apply below_alloc | apply pw_below_drewN | apply below_drew1 | refine below_set ?_ GE200.out) | exact HB.out)⟩⟩
            ·replace c35 := Bool.eq_false_iff.mpr c35
             subst c35
             have H1 : ((spinnakerref12_turns.f ((rd_T51 l0 x9_1).f0) ((rd_T51 l0 x9_1).f1) ((rd_T51 l0 x9_1).f2) ((rd_T51 l0 x9_1).f3) ((rd_T51 l0 x9_1).f4) ((rd_T51 l0 x9_1).f5) ((rd_T51 l0 x9_1).f6)).bind fun t205 => (if t205 = true then (if ((rd_T51 l0 x9_1).f4) > 0 then (spinnakerref12_loop.l0 kj7 l0 a1 a2 a3 (wrap64 (x9_1 + 1))) else (some false)) else (some false))) = some r := by rw [if_neg (show ¬ (false = true) by decide)] at H; exact H
             clear H
             have H := H1
             clear H1
             replace H := Option.bind_eq_some_iff.mp H
             obtain ⟨t205, A400, H⟩ := H
             replace H : (if t205 = true then (if ((rd_T51 l0 x9_1).f4) > 0 then (spinnakerref12_loop.l0 kj7 l0 a1 a2 a3 (wrap64 (x9_1 + 1))) else (some false)) else (some false)) = some r := H
             have A40 := Aside0.mk A400
             clear A400
             by_cases c41 : t205 = true
             ·subst c41
              have H1 : (if ((rd_T51 l0 x9_1).f4) > 0 then (spinnakerref12_loop.l0 kj7 l0 a1 a2 a3 (wrap64 (x9_1 + 1))) else (some false)) = some r := by rw [if_pos rfl] at H; exact H
              clear H
              have H := H1
              clear H1
              by_cases c42 : ((rd_T51 l0 x9_1).f4) > 0
              ·rw [if_pos c42] at H
               have c42b0 : decide (0 < ((rd_T51 l0 x9_1).f4)) = true := decide_eq_true c42
               clear c42
               have H' := Aside0.mk H
               clear H
               have hcz43_0 : wc.cell? ⟨gb200, 0, none⟩ = some (.int .i64 ((rd_T51 l0 x9_1).f0)) := (blk_cell BK200.out 0).trans rfl
               have hcz43_1 : wc.cell? ⟨gb200, 1, none⟩ = some (.int .i64 ((rd_T51 l0 x9_1).f1)) := (blk_cell BK200.out 1).trans rfl
               have hcz43_2 : wc.cell? ⟨gb200, 2, none⟩ = some (.int .i64 ((rd_T51 l0 x9_1).f2)) := (blk_cell BK200.out 2).trans rfl
               have hcz43_3 : wc.cell? ⟨gb200, 3, none⟩ = some (.int .i64 ((rd_T51 l0 x9_1).f3)) := (blk_cell BK200.out 3).trans rfl
               have hcz43_4 : wc.cell? ⟨gb200, 4, none⟩ = some (.int .i64 ((rd_T51 l0 x9_1).f4)) := (blk_cell BK200.out 4).trans rfl
               have hcz43_5 : wc.cell? ⟨gb200, 5, none⟩ = some (.bool ((rd_T51 l0 x9_1).f5)) := (blk_cell BK200.out 5).trans rfl
               have hcz43_6 : wc.cell? ⟨gb200, 6, none⟩ = some (.bool ((rd_T51 l0 x9_1).f6)) := (blk_cell BK200.out 6).trans rfl
               have hfz43_0 := blk_frozen BK200.out 0
               have hfz43_1 := blk_frozen BK200.out 1
               have hfz43_2 := blk_frozen BK200.out 2
               have hfz43_3 := blk_frozen BK200.out 3
               have hfz43_4 := blk_frozen BK200.out 4
               have hfz43_5 := blk_frozen BK200.out 5
               have hfz43_6 := blk_frozen BK200.out 6
               go_wp2_with (first | ((with_reducible refine gate_callee (f := 39) rfl ?_); refine goesL_ (some 54) rfl rfl Tryd.func39 (by kernel_rfl) rfl #[.agg #[.int .i64 ((rd_T51 l0 x9_1).f0), .int .i64 ((rd_T51 l0 x9_1).f1), .int .i64 ((rd_T51 l0 x9_1).f2), .int .i64 ((rd_T51 l0 x9_1).f3), .int .i64 ((rd_T51 l0 x9_1).f4), .bool ((rd_T51 l0 x9_1).f5), .bool ((rd_T51 l0 x9_1).f6)]] rfl (by (try simp only [List.map_toArray, List.map_cons, List.map_nil]); first | done | rfl | (simp only [List.length_drop, List.length_take]; rfl)) ?_; (with_reducible refine (spinnakerref03_May.calls kj7 ((rd_T51 l0 x9_1).f0) ((rd_T51 l0 x9_1).f1) ((rd_T51 l0 x9_1).f2) ((rd_T51 l0 x9_1).f3) ((rd_T51 l0 x9_1).f4) ((rd_T51 l0 x9_1).f5) ((rd_T51 l0 x9_1).f6) true _ A22.out).mono ?_); rintro e w44 ⟨rfl, hb⟩; refine ⟨_, rfl, ?_⟩; have n0_ := Aside0.mk (blk_below (g := gb200) (o := .cells #[.int .i64 ((rd_T51 l0 x9_1).f0), .int .i64 ((rd_T51 l0 x9_1).f1), .int .i64 ((rd_T51 l0 x9_1).f2), .int .i64 ((rd_T51 l0 x9_1).f3), .int .i64 ((rd_T51 l0 x9_1).f4), .bool ((rd_T51 l0 x9_1).f5), .bool ((rd_T51 l0 x9_1).f6)] 51 (0, 0)) (by (with_reducible repeat (first | refine blk_drewN ?_ _ | refine blk_drew ?_ | refine blk_alloc ?_ _)); exact BK200.out) hb); have n1_ := Aside0.mk (below_step (by repeat (first | (with_reducible first | exact HB.out | apply below_alloc | apply pw_below_drewN | apply below_drew1 | refine below_set ?_ GE200.out) | exact HB.out)) hb); clear BK200; clear HB; have BK200 := n0_; have HB := n1_; clear n0_ n1_; (try clear hb); (try clear hb2); (try clear hk); (try clear hi); have hcz45_0 : w44.cell? ⟨gb200, 0, none⟩ = some (.int .i64 ((rd_T51 l0 x9_1).f0)) := (blk_cell BK200.out 0).trans rfl; have hcz45_1 : w44.cell? ⟨gb200, 1, none⟩ = some (.int .i64 ((rd_T51 l0 x9_1).f1)) := (blk_cell BK200.out 1).trans rfl; have hcz45_2 : w44.cell? ⟨gb200, 2, none⟩ = some (.int .i64 ((rd_T51 l0 x9_1).f2)) := (blk_cell BK200.out 2).trans rfl; have hcz45_3 : w44.cell? ⟨gb200, 3, none⟩ = some (.int .i64 ((rd_T51 l0 x9_1).f3)) := (blk_cell BK200.out 3).trans rfl; have hcz45_4 : w44.cell? ⟨gb200, 4, none⟩ = some (.int .i64 ((rd_T51 l0 x9_1).f4)) := (blk_cell BK200.out 4).trans rfl; have hcz45_5 : w44.cell? ⟨gb200, 5, none⟩ = some (.bool ((rd_T51 l0 x9_1).f5)) := (blk_cell BK200.out 5).trans rfl; have hcz45_6 : w44.cell? ⟨gb200, 6, none⟩ = some (.bool ((rd_T51 l0 x9_1).f6)) := (blk_cell BK200.out 6).trans rfl; have hfz45_0 := blk_frozen BK200.out 0; have hfz45_1 := blk_frozen BK200.out 1; have hfz45_2 := blk_frozen BK200.out 2; have hfz45_3 := blk_frozen BK200.out 3; have hfz45_4 := blk_frozen BK200.out 4; have hfz45_5 := blk_frozen BK200.out 5; have hfz45_6 := blk_frozen BK200.out 6) | (go_at_call 97; (with_reducible refine (spinnakerref12_reckons.calls ((rd_T51 l0 x9_1).f0) ((rd_T51 l0 x9_1).f1) ((rd_T51 l0 x9_1).f2) ((rd_T51 l0 x9_1).f3) ((rd_T51 l0 x9_1).f4) ((rd_T51 l0 x9_1).f5) ((rd_T51 l0 x9_1).f6) false _ A34.out).mono ?_); rintro e w46 ⟨rfl, hb⟩; have n0_ := Aside0.mk (blk_below (g := gb200) (o := .cells #[.int .i64 ((rd_T51 l0 x9_1).f0), .int .i64 ((rd_T51 l0 x9_1).f1), .int .i64 ((rd_T51 l0 x9_1).f2), .int .i64 ((rd_T51 l0 x9_1).f3), .int .i64 ((rd_T51 l0 x9_1).f4), .bool ((rd_T51 l0 x9_1).f5), .bool ((rd_T51 l0 x9_1).f6)] 51 (0, 0)) (by (with_reducible repeat (first | refine blk_drewN ?_ _ | refine blk_drew ?_ | refine blk_alloc ?_ _)); exact BK200.out) hb); have n1_ := Aside0.mk (below_step (by repeat (first | (with_reducible first | exact HB.out | apply below_alloc | apply pw_below_drewN | apply below_drew1 | refine below_set ?_ GE200.out) | exact HB.out)) hb); clear BK200; clear HB; have BK200 := n0_; have HB := n1_; clear n0_ n1_; (try clear hb); (try clear hb2); (try clear hk); (try clear hi); have hcz47_0 : w46.cell? ⟨gb200, 0, none⟩ = some (.int .i64 ((rd_T51 l0 x9_1).f0)) := (blk_cell BK200.out 0).trans rfl; have hcz47_1 : w46.cell? ⟨gb200, 1, none⟩ = some (.int .i64 ((rd_T51 l0 x9_1).f1)) := (blk_cell BK200.out 1).trans rfl; have hcz47_2 : w46.cell? ⟨gb200, 2, none⟩ = some (.int .i64 ((rd_T51 l0 x9_1).f2)) := (blk_cell BK200.out 2).trans rfl; have hcz47_3 : w46.cell? ⟨gb200, 3, none⟩ = some (.int .i64 ((rd_T51 l0 x9_1).f3)) := (blk_cell BK200.out 3).trans rfl; have hcz47_4 : w46.cell? ⟨gb200, 4, none⟩ = some (.int .i64 ((rd_T51 l0 x9_1).f4)) := (blk_cell BK200.out 4).trans rfl; have hcz47_5 : w46.cell? ⟨gb200, 5, none⟩ = some (.bool ((rd_T51 l0 x9_1).f5)) := (blk_cell BK200.out 5).trans rfl; have hcz47_6 : w46.cell? ⟨gb200, 6, none⟩ = some (.bool ((rd_T51 l0 x9_1).f6)) := (blk_cell BK200.out 6).trans rfl; have hfz47_0 := blk_frozen BK200.out 0; have hfz47_1 := blk_frozen BK200.out 1; have hfz47_2 := blk_frozen BK200.out 2; have hfz47_3 := blk_frozen BK200.out 3; have hfz47_4 := blk_frozen BK200.out 4; have hfz47_5 := blk_frozen BK200.out 5; have hfz47_6 := blk_frozen BK200.out 6) | (go_at_call 98; (with_reducible refine (spinnakerref12_turns.calls ((rd_T51 l0 x9_1).f0) ((rd_T51 l0 x9_1).f1) ((rd_T51 l0 x9_1).f2) ((rd_T51 l0 x9_1).f3) ((rd_T51 l0 x9_1).f4) ((rd_T51 l0 x9_1).f5) ((rd_T51 l0 x9_1).f6) true _ A40.out).mono ?_); rintro e w48 ⟨rfl, hb⟩; have n0_ := Aside0.mk (blk_below (g := gb200) (o := .cells #[.int .i64 ((rd_T51 l0 x9_1).f0), .int .i64 ((rd_T51 l0 x9_1).f1), .int .i64 ((rd_T51 l0 x9_1).f2), .int .i64 ((rd_T51 l0 x9_1).f3), .int .i64 ((rd_T51 l0 x9_1).f4), .bool ((rd_T51 l0 x9_1).f5), .bool ((rd_T51 l0 x9_1).f6)] 51 (0, 0)) (by (with_reducible repeat (first | refine blk_drewN ?_ _ | refine blk_drew ?_ | refine blk_alloc ?_ _)); exact BK200.out) hb); have n1_ := Aside0.mk (below_step (by repeat (first | (with_reducible first | exact HB.out | apply below_alloc | apply pw_below_drewN | apply below_drew1 | refine below_set ?_ GE200.out) | exact HB.out)) hb); clear BK200; clear HB; have BK200 := n0_; have HB := n1_; clear n0_ n1_; (try clear hb); (try clear hb2); (try clear hk); (try clear hi); have hcz49_0 : w48.cell? ⟨gb200, 0, none⟩ = some (.int .i64 ((rd_T51 l0 x9_1).f0)) := (blk_cell BK200.out 0).trans rfl; have hcz49_1 : w48.cell? ⟨gb200, 1, none⟩ = some (.int .i64 ((rd_T51 l0 x9_1).f1)) := (blk_cell BK200.out 1).trans rfl; have hcz49_2 : w48.cell? ⟨gb200, 2, none⟩ = some (.int .i64 ((rd_T51 l0 x9_1).f2)) := (blk_cell BK200.out 2).trans rfl; have hcz49_3 : w48.cell? ⟨gb200, 3, none⟩ = some (.int .i64 ((rd_T51 l0 x9_1).f3)) := (blk_cell BK200.out 3).trans rfl; have hcz49_4 : w48.cell? ⟨gb200, 4, none⟩ = some (.int .i64 ((rd_T51 l0 x9_1).f4)) := (blk_cell BK200.out 4).trans rfl; have hcz49_5 : w48.cell? ⟨gb200, 5, none⟩ = some (.bool ((rd_T51 l0 x9_1).f5)) := (blk_cell BK200.out 5).trans rfl; have hcz49_6 : w48.cell? ⟨gb200, 6, none⟩ = some (.bool ((rd_T51 l0 x9_1).f6)) := (blk_cell BK200.out 6).trans rfl; have hfz49_0 := blk_frozen BK200.out 0; have hfz49_1 := blk_frozen BK200.out 1; have hfz49_2 := blk_frozen BK200.out 2; have hfz49_3 := blk_frozen BK200.out 3; have hfz49_4 := blk_frozen BK200.out 4; have hfz49_5 := blk_frozen BK200.out 5; have hfz49_6 := blk_frozen BK200.out 6))
               go_roundg kj7
               case measure => have := HK1.out; have := HJ7.out; omega
               case rel => exact ⟨(wrap64 (x9_1 + 1)), (by first | rfl | (simp; done) | (simp [*]; done)), H', ⟨by have := HK1.out; have := HJ7.out; omega⟩, ⟨by repeat (first | (with_reducible first | exact HB.out | apply below_alloc | apply pw_below_drewN | apply below_drew1 | refine below_set ?_ GE200.out) | exact HB.out)⟩⟩
              ·rw [if_neg c42] at H
               have c42b0 : decide (0 < ((rd_T51 l0 x9_1).f4)) = false := decide_eq_false c42
               clear c42
               obtain rfl := Option.some.inj H
               have hcz50_0 : wc.cell? ⟨gb200, 0, none⟩ = some (.int .i64 ((rd_T51 l0 x9_1).f0)) := (blk_cell BK200.out 0).trans rfl
               have hcz50_1 : wc.cell? ⟨gb200, 1, none⟩ = some (.int .i64 ((rd_T51 l0 x9_1).f1)) := (blk_cell BK200.out 1).trans rfl
               have hcz50_2 : wc.cell? ⟨gb200, 2, none⟩ = some (.int .i64 ((rd_T51 l0 x9_1).f2)) := (blk_cell BK200.out 2).trans rfl
               have hcz50_3 : wc.cell? ⟨gb200, 3, none⟩ = some (.int .i64 ((rd_T51 l0 x9_1).f3)) := (blk_cell BK200.out 3).trans rfl
               have hcz50_4 : wc.cell? ⟨gb200, 4, none⟩ = some (.int .i64 ((rd_T51 l0 x9_1).f4)) := (blk_cell BK200.out 4).trans rfl
               have hcz50_5 : wc.cell? ⟨gb200, 5, none⟩ = some (.bool ((rd_T51 l0 x9_1).f5)) := (blk_cell BK200.out 5).trans rfl
               have hcz50_6 : wc.cell? ⟨gb200, 6, none⟩ = some (.bool ((rd_T51 l0 x9_1).f6)) := (blk_cell BK200.out 6).trans rfl
               have hfz50_0 := blk_frozen BK200.out 0
               have hfz50_1 := blk_frozen BK200.out 1
               have hfz50_2 := blk_frozen BK200.out 2
               have hfz50_3 := blk_frozen BK200.out 3
               have hfz50_4 := blk_frozen BK200.out 4
               have hfz50_5 := blk_frozen BK200.out 5
               have hfz50_6 := blk_frozen BK200.out 6
               go_wp2_with (first | ((with_reducible refine gate_callee (f := 39) rfl ?_); refine goesL_ (some 54) rfl rfl Tryd.func39 (by kernel_rfl) rfl #[.agg #[.int .i64 ((rd_T51 l0 x9_1).f0), .int .i64 ((rd_T51 l0 x9_1).f1), .int .i64 ((rd_T51 l0 x9_1).f2), .int .i64 ((rd_T51 l0 x9_1).f3), .int .i64 ((rd_T51 l0 x9_1).f4), .bool ((rd_T51 l0 x9_1).f5), .bool ((rd_T51 l0 x9_1).f6)]] rfl (by (try simp only [List.map_toArray, List.map_cons, List.map_nil]); first | done | rfl | (simp only [List.length_drop, List.length_take]; rfl)) ?_; (with_reducible refine (spinnakerref03_May.calls kj7 ((rd_T51 l0 x9_1).f0) ((rd_T51 l0 x9_1).f1) ((rd_T51 l0 x9_1).f2) ((rd_T51 l0 x9_1).f3) ((rd_T51 l0 x9_1).f4) ((rd_T51 l0 x9_1).f5) ((rd_T51 l0 x9_1).f6) true _ A22.out).mono ?_); rintro e w51 ⟨rfl, hb⟩; refine ⟨_, rfl, ?_⟩; have n0_ := Aside0.mk (blk_below (g := gb200) (o := .cells #[.int .i64 ((rd_T51 l0 x9_1).f0), .int .i64 ((rd_T51 l0 x9_1).f1), .int .i64 ((rd_T51 l0 x9_1).f2), .int .i64 ((rd_T51 l0 x9_1).f3), .int .i64 ((rd_T51 l0 x9_1).f4), .bool ((rd_T51 l0 x9_1).f5), .bool ((rd_T51 l0 x9_1).f6)] 51 (0, 0)) (by (with_reducible repeat (first | refine blk_drewN ?_ _ | refine blk_drew ?_ | refine blk_alloc ?_ _)); exact BK200.out) hb); have n1_ := Aside0.mk (below_step (by repeat (first | (with_reducible first | exact HB.out | apply below_alloc | apply pw_below_drewN | apply below_drew1 | refine below_set ?_ GE200.out) | exact HB.out)) hb); clear BK200; clear HB; have BK200 := n0_; have HB := n1_; clear n0_ n1_; (try clear hb); (try clear hb2); (try clear hk); (try clear hi); have hcz52_0 : w51.cell? ⟨gb200, 0, none⟩ = some (.int .i64 ((rd_T51 l0 x9_1).f0)) := (blk_cell BK200.out 0).trans rfl; have hcz52_1 : w51.cell? ⟨gb200, 1, none⟩ = some (.int .i64 ((rd_T51 l0 x9_1).f1)) := (blk_cell BK200.out 1).trans rfl; have hcz52_2 : w51.cell? ⟨gb200, 2, none⟩ = some (.int .i64 ((rd_T51 l0 x9_1).f2)) := (blk_cell BK200.out 2).trans rfl; have hcz52_3 : w51.cell? ⟨gb200, 3, none⟩ = some (.int .i64 ((rd_T51 l0 x9_1).f3)) := (blk_cell BK200.out 3).trans rfl; have hcz52_4 : w51.cell? ⟨gb200, 4, none⟩ = some (.int .i64 ((rd_T51 l0 x9_1).f4)) := (blk_cell BK200.out 4).trans rfl; have hcz52_5 : w51.cell? ⟨gb200, 5, none⟩ = some (.bool ((rd_T51 l0 x9_1).f5)) := (blk_cell BK200.out 5).trans rfl; have hcz52_6 : w51.cell? ⟨gb200, 6, none⟩ = some (.bool ((rd_T51 l0 x9_1).f6)) := (blk_cell BK200.out 6).trans rfl; have hfz52_0 := blk_frozen BK200.out 0; have hfz52_1 := blk_frozen BK200.out 1; have hfz52_2 := blk_frozen BK200.out 2; have hfz52_3 := blk_frozen BK200.out 3; have hfz52_4 := blk_frozen BK200.out 4; have hfz52_5 := blk_frozen BK200.out 5; have hfz52_6 := blk_frozen BK200.out 6) | (go_at_call 97; (with_reducible refine (spinnakerref12_reckons.calls ((rd_T51 l0 x9_1).f0) ((rd_T51 l0 x9_1).f1) ((rd_T51 l0 x9_1).f2) ((rd_T51 l0 x9_1).f3) ((rd_T51 l0 x9_1).f4) ((rd_T51 l0 x9_1).f5) ((rd_T51 l0 x9_1).f6) false _ A34.out).mono ?_); rintro e w53 ⟨rfl, hb⟩; have n0_ := Aside0.mk (blk_below (g := gb200) (o := .cells #[.int .i64 ((rd_T51 l0 x9_1).f0), .int .i64 ((rd_T51 l0 x9_1).f1), .int .i64 ((rd_T51 l0 x9_1).f2), .int .i64 ((rd_T51 l0 x9_1).f3), .int .i64 ((rd_T51 l0 x9_1).f4), .bool ((rd_T51 l0 x9_1).f5), .bool ((rd_T51 l0 x9_1).f6)] 51 (0, 0)) (by (with_reducible repeat (first | refine blk_drewN ?_ _ | refine blk_drew ?_ | refine blk_alloc ?_ _)); exact BK200.out) hb); have n1_ := Aside0.mk (below_step (by repeat (first | (with_reducible first | exact HB.out | apply below_alloc | apply pw_below_drewN | apply below_drew1 | refine below_set ?_ GE200.out) | exact HB.out)) hb); clear BK200; clear HB; have BK200 := n0_; have HB := n1_; clear n0_ n1_; (try clear hb); (try clear hb2); (try clear hk); (try clear hi); have hcz54_0 : w53.cell? ⟨gb200, 0, none⟩ = some (.int .i64 ((rd_T51 l0 x9_1).f0)) := (blk_cell BK200.out 0).trans rfl; have hcz54_1 : w53.cell? ⟨gb200, 1, none⟩ = some (.int .i64 ((rd_T51 l0 x9_1).f1)) := (blk_cell BK200.out 1).trans rfl; have hcz54_2 : w53.cell? ⟨gb200, 2, none⟩ = some (.int .i64 ((rd_T51 l0 x9_1).f2)) := (blk_cell BK200.out 2).trans rfl; have hcz54_3 : w53.cell? ⟨gb200, 3, none⟩ = some (.int .i64 ((rd_T51 l0 x9_1).f3)) := (blk_cell BK200.out 3).trans rfl; have hcz54_4 : w53.cell? ⟨gb200, 4, none⟩ = some (.int .i64 ((rd_T51 l0 x9_1).f4)) := (blk_cell BK200.out 4).trans rfl; have hcz54_5 : w53.cell? ⟨gb200, 5, none⟩ = some (.bool ((rd_T51 l0 x9_1).f5)) := (blk_cell BK200.out 5).trans rfl; have hcz54_6 : w53.cell? ⟨gb200, 6, none⟩ = some (.bool ((rd_T51 l0 x9_1).f6)) := (blk_cell BK200.out 6).trans rfl; have hfz54_0 := blk_frozen BK200.out 0; have hfz54_1 := blk_frozen BK200.out 1; have hfz54_2 := blk_frozen BK200.out 2; have hfz54_3 := blk_frozen BK200.out 3; have hfz54_4 := blk_frozen BK200.out 4; have hfz54_5 := blk_frozen BK200.out 5; have hfz54_6 := blk_frozen BK200.out 6) | (go_at_call 98; (with_reducible refine (spinnakerref12_turns.calls ((rd_T51 l0 x9_1).f0) ((rd_T51 l0 x9_1).f1) ((rd_T51 l0 x9_1).f2) ((rd_T51 l0 x9_1).f3) ((rd_T51 l0 x9_1).f4) ((rd_T51 l0 x9_1).f5) ((rd_T51 l0 x9_1).f6) true _ A40.out).mono ?_); rintro e w55 ⟨rfl, hb⟩; have n0_ := Aside0.mk (blk_below (g := gb200) (o := .cells #[.int .i64 ((rd_T51 l0 x9_1).f0), .int .i64 ((rd_T51 l0 x9_1).f1), .int .i64 ((rd_T51 l0 x9_1).f2), .int .i64 ((rd_T51 l0 x9_1).f3), .int .i64 ((rd_T51 l0 x9_1).f4), .bool ((rd_T51 l0 x9_1).f5), .bool ((rd_T51 l0 x9_1).f6)] 51 (0, 0)) (by (with_reducible repeat (first | refine blk_drewN ?_ _ | refine blk_drew ?_ | refine blk_alloc ?_ _)); exact BK200.out) hb); have n1_ := Aside0.mk (below_step (by repeat (first | (with_reducible first | exact HB.out | apply below_alloc | apply pw_below_drewN | apply below_drew1 | refine below_set ?_ GE200.out) | exact HB.out)) hb); clear BK200; clear HB; have BK200 := n0_; have HB := n1_; clear n0_ n1_; (try clear hb); (try clear hb2); (try clear hk); (try clear hi); have hcz56_0 : w55.cell? ⟨gb200, 0, none⟩ = some (.int .i64 ((rd_T51 l0 x9_1).f0)) := (blk_cell BK200.out 0).trans rfl; have hcz56_1 : w55.cell? ⟨gb200, 1, none⟩ = some (.int .i64 ((rd_T51 l0 x9_1).f1)) := (blk_cell BK200.out 1).trans rfl; have hcz56_2 : w55.cell? ⟨gb200, 2, none⟩ = some (.int .i64 ((rd_T51 l0 x9_1).f2)) := (blk_cell BK200.out 2).trans rfl; have hcz56_3 : w55.cell? ⟨gb200, 3, none⟩ = some (.int .i64 ((rd_T51 l0 x9_1).f3)) := (blk_cell BK200.out 3).trans rfl; have hcz56_4 : w55.cell? ⟨gb200, 4, none⟩ = some (.int .i64 ((rd_T51 l0 x9_1).f4)) := (blk_cell BK200.out 4).trans rfl; have hcz56_5 : w55.cell? ⟨gb200, 5, none⟩ = some (.bool ((rd_T51 l0 x9_1).f5)) := (blk_cell BK200.out 5).trans rfl; have hcz56_6 : w55.cell? ⟨gb200, 6, none⟩ = some (.bool ((rd_T51 l0 x9_1).f6)) := (blk_cell BK200.out 6).trans rfl; have hfz56_0 := blk_frozen BK200.out 0; have hfz56_1 := blk_frozen BK200.out 1; have hfz56_2 := blk_frozen BK200.out 2; have hfz56_3 := blk_frozen BK200.out 3; have hfz56_4 := blk_frozen BK200.out 4; have hfz56_5 := blk_frozen BK200.out 5; have hfz56_6 := blk_frozen BK200.out 6))
               go_ret
               exact ⟨by first | rfl | (simp [errW_none, errW_some] <;> rfl) | (simp [*, errW_none, errW_some] <;> rfl), by repeat (first | (with_reducible first | exact HB.out | apply below_alloc | apply pw_below_drewN | apply below_drew1 | refine below_set ?_ GE200.out) | exact HB.out)⟩
             ·replace c41 := Bool.eq_false_iff.mpr c41
              subst c41
              have H1 : (some false) = some r := by rw [if_neg (show ¬ (false = true) by decide)] at H; exact H
              clear H
              have H := H1
              clear H1
              obtain rfl := Option.some.inj H
              have hcz57_0 : wc.cell? ⟨gb200, 0, none⟩ = some (.int .i64 ((rd_T51 l0 x9_1).f0)) := (blk_cell BK200.out 0).trans rfl
              have hcz57_1 : wc.cell? ⟨gb200, 1, none⟩ = some (.int .i64 ((rd_T51 l0 x9_1).f1)) := (blk_cell BK200.out 1).trans rfl
              have hcz57_2 : wc.cell? ⟨gb200, 2, none⟩ = some (.int .i64 ((rd_T51 l0 x9_1).f2)) := (blk_cell BK200.out 2).trans rfl
              have hcz57_3 : wc.cell? ⟨gb200, 3, none⟩ = some (.int .i64 ((rd_T51 l0 x9_1).f3)) := (blk_cell BK200.out 3).trans rfl
              have hcz57_4 : wc.cell? ⟨gb200, 4, none⟩ = some (.int .i64 ((rd_T51 l0 x9_1).f4)) := (blk_cell BK200.out 4).trans rfl
              have hcz57_5 : wc.cell? ⟨gb200, 5, none⟩ = some (.bool ((rd_T51 l0 x9_1).f5)) := (blk_cell BK200.out 5).trans rfl
              have hcz57_6 : wc.cell? ⟨gb200, 6, none⟩ = some (.bool ((rd_T51 l0 x9_1).f6)) := (blk_cell BK200.out 6).trans rfl
              have hfz57_0 := blk_frozen BK200.out 0
              have hfz57_1 := blk_frozen BK200.out 1
              have hfz57_2 := blk_frozen BK200.out 2
              have hfz57_3 := blk_frozen BK200.out 3
              have hfz57_4 := blk_frozen BK200.out 4
              have hfz57_5 := blk_frozen BK200.out 5
              have hfz57_6 := blk_frozen BK200.out 6
              go_wp2_with (first | ((with_reducible refine gate_callee (f := 39) rfl ?_); refine goesL_ (some 54) rfl rfl Tryd.func39 (by kernel_rfl) rfl #[.agg #[.int .i64 ((rd_T51 l0 x9_1).f0), .int .i64 ((rd_T51 l0 x9_1).f1), .int .i64 ((rd_T51 l0 x9_1).f2), .int .i64 ((rd_T51 l0 x9_1).f3), .int .i64 ((rd_T51 l0 x9_1).f4), .bool ((rd_T51 l0 x9_1).f5), .bool ((rd_T51 l0 x9_1).f6)]] rfl (by (try simp only [List.map_toArray, List.map_cons, List.map_nil]); first | done | rfl | (simp only [List.length_drop, List.length_take]; rfl)) ?_; (with_reducible refine (spinnakerref03_May.calls kj7 ((rd_T51 l0 x9_1).f0) ((rd_T51 l0 x9_1).f1) ((rd_T51 l0 x9_1).f2) ((rd_T51 l0 x9_1).f3) ((rd_T51 l0 x9_1).f4) ((rd_T51 l0 x9_1).f5) ((rd_T51 l0 x9_1).f6) true _ A22.out).mono ?_); rintro e w58 ⟨rfl, hb⟩; refine ⟨_, rfl, ?_⟩; have n0_ := Aside0.mk (blk_below (g := gb200) (o := .cells #[.int .i64 ((rd_T51 l0 x9_1).f0), .int .i64 ((rd_T51 l0 x9_1).f1), .int .i64 ((rd_T51 l0 x9_1).f2), .int .i64 ((rd_T51 l0 x9_1).f3), .int .i64 ((rd_T51 l0 x9_1).f4), .bool ((rd_T51 l0 x9_1).f5), .bool ((rd_T51 l0 x9_1).f6)] 51 (0, 0)) (by (with_reducible repeat (first | refine blk_drewN ?_ _ | refine blk_drew ?_ | refine blk_alloc ?_ _)); exact BK200.out) hb); have n1_ := Aside0.mk (below_step (by repeat (first | (with_reducible first | exact HB.out | apply below_alloc | apply pw_below_drewN | apply below_drew1 | refine below_set ?_ GE200.out) | exact HB.out)) hb); clear BK200; clear HB; have BK200 := n0_; have HB := n1_; clear n0_ n1_; (try clear hb); (try clear hb2); (try clear hk); (try clear hi); have hcz59_0 : w58.cell? ⟨gb200, 0, none⟩ = some (.int .i64 ((rd_T51 l0 x9_1).f0)) := (blk_cell BK200.out 0).trans rfl; have hcz59_1 : w58.cell? ⟨gb200, 1, none⟩ = some (.int .i64 ((rd_T51 l0 x9_1).f1)) := (blk_cell BK200.out 1).trans rfl; have hcz59_2 : w58.cell? ⟨gb200, 2, none⟩ = some (.int .i64 ((rd_T51 l0 x9_1).f2)) := (blk_cell BK200.out 2).trans rfl; have hcz59_3 : w58.cell? ⟨gb200, 3, none⟩ = some (.int .i64 ((rd_T51 l0 x9_1).f3)) := (blk_cell BK200.out 3).trans rfl; have hcz59_4 : w58.cell? ⟨gb200, 4, none⟩ = some (.int .i64 ((rd_T51 l0 x9_1).f4)) := (blk_cell BK200.out 4).trans rfl; have hcz59_5 : w58.cell? ⟨gb200, 5, none⟩ = some (.bool ((rd_T51 l0 x9_1).f5)) := (blk_cell BK200.out 5).trans rfl; have hcz59_6 : w58.cell? ⟨gb200, 6, none⟩ = some (.bool ((rd_T51 l0 x9_1).f6)) := (blk_cell BK200.out 6).trans rfl; have hfz59_0 := blk_frozen BK200.out 0; have hfz59_1 := blk_frozen BK200.out 1; have hfz59_2 := blk_frozen BK200.out 2; have hfz59_3 := blk_frozen BK200.out 3; have hfz59_4 := blk_frozen BK200.out 4; have hfz59_5 := blk_frozen BK200.out 5; have hfz59_6 := blk_frozen BK200.out 6) | (go_at_call 97; (with_reducible refine (spinnakerref12_reckons.calls ((rd_T51 l0 x9_1).f0) ((rd_T51 l0 x9_1).f1) ((rd_T51 l0 x9_1).f2) ((rd_T51 l0 x9_1).f3) ((rd_T51 l0 x9_1).f4) ((rd_T51 l0 x9_1).f5) ((rd_T51 l0 x9_1).f6) false _ A34.out).mono ?_); rintro e w60 ⟨rfl, hb⟩; have n0_ := Aside0.mk (blk_below (g := gb200) (o := .cells #[.int .i64 ((rd_T51 l0 x9_1).f0), .int .i64 ((rd_T51 l0 x9_1).f1), .int .i64 ((rd_T51 l0 x9_1).f2), .int .i64 ((rd_T51 l0 x9_1).f3), .int .i64 ((rd_T51 l0 x9_1).f4), .bool ((rd_T51 l0 x9_1).f5), .bool ((rd_T51 l0 x9_1).f6)] 51 (0, 0)) (by (with_reducible repeat (first | refine blk_drewN ?_ _ | refine blk_drew ?_ | refine blk_alloc ?_ _)); exact BK200.out) hb); have n1_ := Aside0.mk (below_step (by repeat (first | (with_reducible first | exact HB.out | apply below_alloc | apply pw_below_drewN | apply below_drew1 | refine below_set ?_ GE200.out) | exact HB.out)) hb); clear BK200; clear HB; have BK200 := n0_; have HB := n1_; clear n0_ n1_; (try clear hb); (try clear hb2); (try clear hk); (try clear hi); have hcz61_0 : w60.cell? ⟨gb200, 0, none⟩ = some (.int .i64 ((rd_T51 l0 x9_1).f0)) := (blk_cell BK200.out 0).trans rfl; have hcz61_1 : w60.cell? ⟨gb200, 1, none⟩ = some (.int .i64 ((rd_T51 l0 x9_1).f1)) := (blk_cell BK200.out 1).trans rfl; have hcz61_2 : w60.cell? ⟨gb200, 2, none⟩ = some (.int .i64 ((rd_T51 l0 x9_1).f2)) := (blk_cell BK200.out 2).trans rfl; have hcz61_3 : w60.cell? ⟨gb200, 3, none⟩ = some (.int .i64 ((rd_T51 l0 x9_1).f3)) := (blk_cell BK200.out 3).trans rfl; have hcz61_4 : w60.cell? ⟨gb200, 4, none⟩ = some (.int .i64 ((rd_T51 l0 x9_1).f4)) := (blk_cell BK200.out 4).trans rfl; have hcz61_5 : w60.cell? ⟨gb200, 5, none⟩ = some (.bool ((rd_T51 l0 x9_1).f5)) := (blk_cell BK200.out 5).trans rfl; have hcz61_6 : w60.cell? ⟨gb200, 6, none⟩ = some (.bool ((rd_T51 l0 x9_1).f6)) := (blk_cell BK200.out 6).trans rfl; have hfz61_0 := blk_frozen BK200.out 0; have hfz61_1 := blk_frozen BK200.out 1; have hfz61_2 := blk_frozen BK200.out 2; have hfz61_3 := blk_frozen BK200.out 3; have hfz61_4 := blk_frozen BK200.out 4; have hfz61_5 := blk_frozen BK200.out 5; have hfz61_6 := blk_frozen BK200.out 6) | (go_at_call 98; (with_reducible refine (spinnakerref12_turns.calls ((rd_T51 l0 x9_1).f0) ((rd_T51 l0 x9_1).f1) ((rd_T51 l0 x9_1).f2) ((rd_T51 l0 x9_1).f3) ((rd_T51 l0 x9_1).f4) ((rd_T51 l0 x9_1).f5) ((rd_T51 l0 x9_1).f6) false _ A40.out).mono ?_); rintro e w62 ⟨rfl, hb⟩; have n0_ := Aside0.mk (blk_below (g := gb200) (o := .cells #[.int .i64 ((rd_T51 l0 x9_1).f0), .int .i64 ((rd_T51 l0 x9_1).f1), .int .i64 ((rd_T51 l0 x9_1).f2), .int .i64 ((rd_T51 l0 x9_1).f3), .int .i64 ((rd_T51 l0 x9_1).f4), .bool ((rd_T51 l0 x9_1).f5), .bool ((rd_T51 l0 x9_1).f6)] 51 (0, 0)) (by (with_reducible repeat (first | refine blk_drewN ?_ _ | refine blk_drew ?_ | refine blk_alloc ?_ _)); exact BK200.out) hb); have n1_ := Aside0.mk (below_step (by repeat (first | (with_reducible first | exact HB.out | apply below_alloc | apply pw_below_drewN | apply below_drew1 | refine below_set ?_ GE200.out) | exact HB.out)) hb); clear BK200; clear HB; have BK200 := n0_; have HB := n1_; clear n0_ n1_; (try clear hb); (try clear hb2); (try clear hk); (try clear hi)))
              go_ret
              exact ⟨by first | rfl | (simp [errW_none, errW_some] <;> rfl) | (simp [*, errW_none, errW_some] <;> rfl), by repeat (first | (with_reducible first | exact HB.out | apply below_alloc | apply pw_below_drewN | apply below_drew1 | refine below_set ?_ GE200.out) | exact HB.out)⟩
          ·rw [if_neg c30] at H
           have c30b0 : decide (x9_1 < a2) = false := decide_eq_false c30
           clear c30
           by_cases c63 : x9_1 = a2
           ·rw [if_pos c63] at H
            have c63b0 : (x9_1 == a2) = true := beq_iff_eq.mpr c63
            have c63b1 : (x9_1 != a2) = false := bne_eq_false_iff_eq.mpr c63
            clear c63
            replace H := Option.bind_eq_some_iff.mp H
            obtain ⟨t206, A640, H⟩ := H
            replace H : (if t206 = true then (if 0 ≤ a1 then (if a1 < (l0.length : Int) then (if ((rd_T51 l0 x9_1).f2) = ((rd_T51 l0 a1).f2) then (if ((((rd_T51 l0 x9_1).f0) == 67) != (((rd_T51 l0 a1).f0) == 66)) = true then (some false) else (spinnakerref12_loop.l0 kj7 l0 a1 a2 a3 (wrap64 (x9_1 + 1)))) else (some false)) else (none)) else (none)) else (some false)) = some r := H
            have A64 := Aside0.mk A640
            clear A640
            by_cases c65 : t206 = true
            ·subst c65
             have H1 : (if 0 ≤ a1 then (if a1 < (l0.length : Int) then (if ((rd_T51 l0 x9_1).f2) = ((rd_T51 l0 a1).f2) then (if ((((rd_T51 l0 x9_1).f0) == 67) != (((rd_T51 l0 a1).f0) == 66)) = true then (some false) else (spinnakerref12_loop.l0 kj7 l0 a1 a2 a3 (wrap64 (x9_1 + 1)))) else (some false)) else (none)) else (none)) = some r := by rw [if_pos rfl] at H; exact H
             clear H
             have H := H1
             clear H1
             by_cases c66 : 0 ≤ a1
             ·rw [if_pos c66] at H
              have c66b0 : decide (0 ≤ a1) = true := decide_eq_true c66
              clear c66
              by_cases c67 : a1 < (l0.length : Int)
              ·rw [if_pos c67] at H
               have c67b0 : decide (a1 < (l0.length : Int)) = true := decide_eq_true c67
               clear c67
               by_cases c68 : ((rd_T51 l0 x9_1).f2) = ((rd_T51 l0 a1).f2)
               ·rw [if_pos c68] at H
                have c68b0 : (((rd_T51 l0 x9_1).f2) == ((rd_T51 l0 a1).f2)) = true := beq_iff_eq.mpr c68
                have c68b1 : (((rd_T51 l0 x9_1).f2) != ((rd_T51 l0 a1).f2)) = false := bne_eq_false_iff_eq.mpr c68
                clear c68
                by_cases c69 : ((((rd_T51 l0 x9_1).f0) == 67) != (((rd_T51 l0 a1).f0) == 66)) = true
                ·rw [if_pos c69] at H
                 have c69b0 : ((((rd_T51 l0 x9_1).f0) == 67) != (((rd_T51 l0 a1).f0) == 66)) = true := c69
                 (try (have c69b1 : decide ((((rd_T51 l0 x9_1).f0) == 67) = (((rd_T51 l0 a1).f0) == 66)) = false := by simpa using c69))
                 (try (have c69b2 : ((((rd_T51 l0 x9_1).f0) == 67) == (((rd_T51 l0 a1).f0) == 66)) = false := by simpa using c69))
                 (try (have c69b3 : ¬ ((((rd_T51 l0 x9_1).f0) == 67) = (((rd_T51 l0 a1).f0) == 66)) := by simpa using c69))
                 clear c69
                 obtain rfl := Option.some.inj H
                 have hcz70_0 : wc.cell? ⟨gb200, 0, none⟩ = some (.int .i64 ((rd_T51 l0 x9_1).f0)) := (blk_cell BK200.out 0).trans rfl
                 have hcz70_1 : wc.cell? ⟨gb200, 1, none⟩ = some (.int .i64 ((rd_T51 l0 x9_1).f1)) := (blk_cell BK200.out 1).trans rfl
                 have hcz70_2 : wc.cell? ⟨gb200, 2, none⟩ = some (.int .i64 ((rd_T51 l0 x9_1).f2)) := (blk_cell BK200.out 2).trans rfl
                 have hcz70_3 : wc.cell? ⟨gb200, 3, none⟩ = some (.int .i64 ((rd_T51 l0 x9_1).f3)) := (blk_cell BK200.out 3).trans rfl
                 have hcz70_4 : wc.cell? ⟨gb200, 4, none⟩ = some (.int .i64 ((rd_T51 l0 x9_1).f4)) := (blk_cell BK200.out 4).trans rfl
                 have hcz70_5 : wc.cell? ⟨gb200, 5, none⟩ = some (.bool ((rd_T51 l0 x9_1).f5)) := (blk_cell BK200.out 5).trans rfl
                 have hcz70_6 : wc.cell? ⟨gb200, 6, none⟩ = some (.bool ((rd_T51 l0 x9_1).f6)) := (blk_cell BK200.out 6).trans rfl
                 have hfz70_0 := blk_frozen BK200.out 0
                 have hfz70_1 := blk_frozen BK200.out 1
                 have hfz70_2 := blk_frozen BK200.out 2
                 have hfz70_3 := blk_frozen BK200.out 3
                 have hfz70_4 := blk_frozen BK200.out 4
                 have hfz70_5 := blk_frozen BK200.out 5
                 have hfz70_6 := blk_frozen BK200.out 6
                 try go_wp2_with (first | ((with_reducible refine gate_callee (f := 39) rfl ?_); refine goesL_ (some 54) rfl rfl Tryd.func39 (by kernel_rfl) rfl #[.agg #[.int .i64 ((rd_T51 l0 x9_1).f0), .int .i64 ((rd_T51 l0 x9_1).f1), .int .i64 ((rd_T51 l0 x9_1).f2), .int .i64 ((rd_T51 l0 x9_1).f3), .int .i64 ((rd_T51 l0 x9_1).f4), .bool ((rd_T51 l0 x9_1).f5), .bool ((rd_T51 l0 x9_1).f6)]] rfl (by (try simp only [List.map_toArray, List.map_cons, List.map_nil]); first | done | rfl | (simp only [List.length_drop, List.length_take]; rfl)) ?_; (with_reducible refine (spinnakerref03_May.calls kj7 ((rd_T51 l0 x9_1).f0) ((rd_T51 l0 x9_1).f1) ((rd_T51 l0 x9_1).f2) ((rd_T51 l0 x9_1).f3) ((rd_T51 l0 x9_1).f4) ((rd_T51 l0 x9_1).f5) ((rd_T51 l0 x9_1).f6) true _ A22.out).mono ?_); rintro e w71 ⟨rfl, hb⟩; refine ⟨_, rfl, ?_⟩; have n0_ := Aside0.mk (blk_below (g := gb200) (o := .cells #[.int .i64 ((rd_T51 l0 x9_1).f0), .int .i64 ((rd_T51 l0 x9_1).f1), .int .i64 ((rd_T51 l0 x9_1).f2), .int .i64 ((rd_T51 l0 x9_1).f3), .int .i64 ((rd_T51 l0 x9_1).f4), .bool ((rd_T51 l0 x9_1).f5), .bool ((rd_T51 l0 x9_1).f6)] 51 (0, 0)) (by (with_reducible repeat (first | refine blk_drewN ?_ _ | refine blk_drew ?_ | refine blk_alloc ?_ _)); exact BK200.out) hb); have n1_ := Aside0.mk (below_step (by repeat (first | (with_reducible first | exact HB.out | apply below_alloc | apply pw_below_drewN | apply below_drew1 | refine below_set ?_ GE200.out) | exact HB.out)) hb); clear BK200; clear HB; have BK200 := n0_; have HB := n1_; clear n0_ n1_; (try clear hb); (try clear hb2); (try clear hk); (try clear hi)))
                 have n0_ := Aside0.mk (blk_drew BK200.out)
                 have n1_ := Aside0.mk (below_drew1 HB.out)
                 clear BK200
                 clear HB
                 have BK200 := n0_
                 have HB := n1_
                 clear n0_ n1_
                 have p207 : 0 ≤ (a1 : Int) := of_decide_eq_true (by first | (with_reducible assumption) | assumption)
                 have q207 : a1 < (l0.length : Int) := of_decide_eq_true (by first | (with_reducible assumption) | assumption)
                 obtain ⟨ad207, e207, hx207_0, hx207_1, hx207_2, hx207_3, hx207_4, hx207_5, hx207_6⟩ := at_T51 HR0.out a1 p207 q207
                 have hw207_6 := hx207_6
                 have hw207_5 := hx207_5
                 have hw207_4 := hx207_4
                 have hw207_3 := hx207_3
                 have hw207_2 := hx207_2
                 have hw207_1 := hx207_1
                 have hw207_0 := hx207_0
                 obtain rfl : ad199 = ad207 := (by injection e207)
                 replace hx207_0 := (HB.out.cell (World.block_lt_of_cell? w _ hx207_0)).trans hx207_0
                 replace hx207_1 := (HB.out.cell (World.block_lt_of_cell? w _ hx207_1)).trans hx207_1
                 replace hx207_2 := (HB.out.cell (World.block_lt_of_cell? w _ hx207_2)).trans hx207_2
                 replace hx207_3 := (HB.out.cell (World.block_lt_of_cell? w _ hx207_3)).trans hx207_3
                 replace hx207_4 := (HB.out.cell (World.block_lt_of_cell? w _ hx207_4)).trans hx207_4
                 replace hx207_5 := (HB.out.cell (World.block_lt_of_cell? w _ hx207_5)).trans hx207_5
                 replace hx207_6 := (HB.out.cell (World.block_lt_of_cell? w _ hx207_6)).trans hx207_6
                 replace p207 := eq_true p207
                 replace q207 := eq_true q207
                 have p208 : 0 ≤ (a1 : Int) := of_decide_eq_true (by first | (with_reducible assumption) | assumption)
                 have q208 : a1 < (l0.length : Int) := of_decide_eq_true (by first | (with_reducible assumption) | assumption)
                 obtain ⟨ad208, e208, hx208_0, hx208_1, hx208_2, hx208_3, hx208_4, hx208_5, hx208_6⟩ := at_T51 HR0.out a1 p208 q208
                 have hw208_6 := hx208_6
                 have hw208_5 := hx208_5
                 have hw208_4 := hx208_4
                 have hw208_3 := hx208_3
                 have hw208_2 := hx208_2
                 have hw208_1 := hx208_1
                 have hw208_0 := hx208_0
                 obtain rfl : ad199 = ad208 := (by injection e208)
                 replace hx208_0 := (HB.out.cell (World.block_lt_of_cell? w _ hx208_0)).trans hx208_0
                 replace hx208_1 := (HB.out.cell (World.block_lt_of_cell? w _ hx208_1)).trans hx208_1
                 replace hx208_2 := (HB.out.cell (World.block_lt_of_cell? w _ hx208_2)).trans hx208_2
                 replace hx208_3 := (HB.out.cell (World.block_lt_of_cell? w _ hx208_3)).trans hx208_3
                 replace hx208_4 := (HB.out.cell (World.block_lt_of_cell? w _ hx208_4)).trans hx208_4
                 replace hx208_5 := (HB.out.cell (World.block_lt_of_cell? w _ hx208_5)).trans hx208_5
                 replace hx208_6 := (HB.out.cell (World.block_lt_of_cell? w _ hx208_6)).trans hx208_6
                 replace p208 := eq_true p208
                 replace q208 := eq_true q208
                 refine start_ (n := 25) (S := fun w' => w'.cell? ⟨gb200, 0, none⟩ = some (.int .i64 ((rd_T51 l0 x9_1).f0)) ∧ w'.cell? ⟨gb200, 1, none⟩ = some (.int .i64 ((rd_T51 l0 x9_1).f1)) ∧ w'.cell? ⟨gb200, 2, none⟩ = some (.int .i64 ((rd_T51 l0 x9_1).f2)) ∧ w'.cell? ⟨gb200, 3, none⟩ = some (.int .i64 ((rd_T51 l0 x9_1).f3)) ∧ w'.cell? ⟨gb200, 4, none⟩ = some (.int .i64 ((rd_T51 l0 x9_1).f4)) ∧ w'.cell? ⟨gb200, 5, none⟩ = some (.bool ((rd_T51 l0 x9_1).f5)) ∧ w'.cell? ⟨gb200, 6, none⟩ = some (.bool ((rd_T51 l0 x9_1).f6)) ∧ w'.cell? (ad199.add ((a1).toNat * 7)) = some (.int .i64 ((rd_T51 l0 a1).f0)) ∧ w'.cell? ⟨(ad199.add ((a1).toNat * 7)).block, (ad199.add ((a1).toNat * 7)).off + 1, none⟩ = some (.int .i64 ((rd_T51 l0 a1).f1)) ∧ w'.cell? ⟨(ad199.add ((a1).toNat * 7)).block, (ad199.add ((a1).toNat * 7)).off + 2, none⟩ = some (.int .i64 ((rd_T51 l0 a1).f2)) ∧ w'.cell? ⟨(ad199.add ((a1).toNat * 7)).block, (ad199.add ((a1).toNat * 7)).off + 3, none⟩ = some (.int .i64 ((rd_T51 l0 a1).f3)) ∧ w'.cell? ⟨(ad199.add ((a1).toNat * 7)).block, (ad199.add ((a1).toNat * 7)).off + 4, none⟩ = some (.int .i64 ((rd_T51 l0 a1).f4)) ∧ w'.cell? ⟨(ad199.add ((a1).toNat * 7)).block, (ad199.add ((a1).toNat * 7)).off + 5, none⟩ = some (.bool ((rd_T51 l0 a1).f5)) ∧ w'.cell? ⟨(ad199.add ((a1).toNat * 7)).block, (ad199.add ((a1).toNat * 7)).off + 6, none⟩ = some (.bool ((rd_T51 l0 a1).f6)) ∧ w'.cell? (ad199.add ((a1).toNat * 7)) = some (.int .i64 ((rd_T51 l0 a1).f0)) ∧ w'.cell? ⟨(ad199.add ((a1).toNat * 7)).block, (ad199.add ((a1).toNat * 7)).off + 1, none⟩ = some (.int .i64 ((rd_T51 l0 a1).f1)) ∧ w'.cell? ⟨(ad199.add ((a1).toNat * 7)).block, (ad199.add ((a1).toNat * 7)).off + 2, none⟩ = some (.int .i64 ((rd_T51 l0 a1).f2)) ∧ w'.cell? ⟨(ad199.add ((a1).toNat * 7)).block, (ad199.add ((a1).toNat * 7)).off + 3, none⟩ = some (.int .i64 ((rd_T51 l0 a1).f3)) ∧ w'.cell? ⟨(ad199.add ((a1).toNat * 7)).block, (ad199.add ((a1).toNat * 7)).off + 4, none⟩ = some (.int .i64 ((rd_T51 l0 a1).f4)) ∧ w'.cell? ⟨(ad199.add ((a1).toNat * 7)).block, (ad199.add ((a1).toNat * 7)).off + 5, none⟩ = some (.bool ((rd_T51 l0 a1).f5)) ∧ w'.cell? ⟨(ad199.add ((a1).toNat * 7)).block, (ad199.add ((a1).toNat * 7)).off + 6, none⟩ = some (.bool ((rd_T51 l0 a1).f6))) (ds := []) (fl 25 0) (by kernel_rfl) rfl rfl ⟨(blk_cell BK200.out 0).trans rfl, (blk_cell BK200.out 1).trans rfl, (blk_cell BK200.out 2).trans rfl, (blk_cell BK200.out 3).trans rfl, (blk_cell BK200.out 4).trans rfl, (blk_cell BK200.out 5).trans rfl, (blk_cell BK200.out 6).trans rfl, ((HB.out.cell (World.block_lt_of_cell? w _ hw207_0)).trans hw207_0), ((HB.out.cell (World.block_lt_of_cell? w _ hw207_1)).trans hw207_1), ((HB.out.cell (World.block_lt_of_cell? w _ hw207_2)).trans hw207_2), ((HB.out.cell (World.block_lt_of_cell? w _ hw207_3)).trans hw207_3), ((HB.out.cell (World.block_lt_of_cell? w _ hw207_4)).trans hw207_4), ((HB.out.cell (World.block_lt_of_cell? w _ hw207_5)).trans hw207_5), ((HB.out.cell (World.block_lt_of_cell? w _ hw207_6)).trans hw207_6), ((HB.out.cell (World.block_lt_of_cell? w _ hw208_0)).trans hw208_0), ((HB.out.cell (World.block_lt_of_cell? w _ hw208_1)).trans hw208_1), ((HB.out.cell (World.block_lt_of_cell? w _ hw208_2)).trans hw208_2), ((HB.out.cell (World.block_lt_of_cell? w _ hw208_3)).trans hw208_3), ((HB.out.cell (World.block_lt_of_cell? w _ hw208_4)).trans hw208_4), ((HB.out.cell (World.block_lt_of_cell? w _ hw208_5)).trans hw208_5), ((HB.out.cell (World.block_lt_of_cell? w _ hw208_6)).trans hw208_6)⟩ (fun hHeld => ?_); refine with_tabW spinnakerref12_loop.tab17 spinnakerref12_loop.bits17 (fun HT_ HW_ => ?_)
                 generalize w71.drew = w72 at BK200 HB hx207_0 hx207_1 hx207_2 hx207_3 hx207_4 hx207_5 hx207_6 hx208_0 hx208_1 hx208_2 hx208_3 hx208_4 hx208_5 hx208_6 hHeld ⊢
                 refine take_ (i := 0) (N := some 85) (v := ?_) (a' := ?_) (fl 25 1) rfl rfl (take_ofW HT_.out HW_.out (by kernel_rfl)) (fun _ _ _ h => h) (Or.inl ⟨by rfl, ?_⟩) hHeld ?_ ?_
                 rotate_left
                 ·rintro w' ⟨s0, s1, s2, s3, s4, s5, s6, s7, s8, s9, s10, s11, s12, s13, s14, s15, s16, s17, s18, s19, s20⟩
                  go_simp
                  with_reducible rfl
                 rotate_left
                 ·simp only [Act.put, List.setIfInBounds_toArray, List.set_cons_zero, List.set_cons_succ, i64_w, i32_w]
                  rfl
                 refine one_ (i := 1) (N := some 86) (fl 25 2) rfl rfl (one_of HT_.out (by kernel_rfl)) (by decide) (fun K hK => ?_)
                 refine goes_ Tryd.func99 (by kernel_rfl) rfl #[.agg #[.int .i64 ((rd_T51 l0 x9_1).f0), .int .i64 ((rd_T51 l0 x9_1).f1), .int .i64 ((rd_T51 l0 x9_1).f2), .int .i64 ((rd_T51 l0 x9_1).f3), .int .i64 ((rd_T51 l0 x9_1).f4), .bool ((rd_T51 l0 x9_1).f5), .bool ((rd_T51 l0 x9_1).f6)]] (by rfl) rfl rfl (by (try simp only [List.map_toArray, List.map_cons, List.map_nil]); first | done | rfl | (simp only [List.length_drop, List.length_take]; rfl)) ?_
                 with_reducible refine (spinnakerref12_conditional.calls ((rd_T51 l0 x9_1).f0) ((rd_T51 l0 x9_1).f1) ((rd_T51 l0 x9_1).f2) ((rd_T51 l0 x9_1).f3) ((rd_T51 l0 x9_1).f4) ((rd_T51 l0 x9_1).f5) ((rd_T51 l0 x9_1).f6) true _ A64.out).mono ?_
                 rintro e w73 ⟨rfl, hb⟩
                 refine ⟨_, rfl, ?_⟩
                 have n0_ := Aside0.mk (blk_below (g := gb200) (o := .cells #[.int .i64 ((rd_T51 l0 x9_1).f0), .int .i64 ((rd_T51 l0 x9_1).f1), .int .i64 ((rd_T51 l0 x9_1).f2), .int .i64 ((rd_T51 l0 x9_1).f3), .int .i64 ((rd_T51 l0 x9_1).f4), .bool ((rd_T51 l0 x9_1).f5), .bool ((rd_T51 l0 x9_1).f6)] 51 (0, 0)) (by (with_reducible repeat (first | refine blk_drewN ?_ _ | refine blk_drew ?_ | refine blk_alloc ?_ _)); exact BK200.out) hb)
                 have n1_ := Aside0.mk (below_step (by repeat (first | (with_reducible first | exact HB.out | apply below_alloc | apply pw_below_drewN | apply below_drew1 | refine below_set ?_ GE200.out) | exact HB.out)) hb)
                 clear BK200
                 clear HB
                 have BK200 := n0_
                 have HB := n1_
                 clear n0_ n1_
                 (try clear hb)
                 (try clear hb2)
                 (try clear hk)
                 (try clear hi)
                 refine hK.out _ _ ⟨(blk_cell BK200.out 0).trans rfl, (blk_cell BK200.out 1).trans rfl, (blk_cell BK200.out 2).trans rfl, (blk_cell BK200.out 3).trans rfl, (blk_cell BK200.out 4).trans rfl, (blk_cell BK200.out 5).trans rfl, (blk_cell BK200.out 6).trans rfl, ((HB.out.cell (World.block_lt_of_cell? w _ hw207_0)).trans hw207_0), ((HB.out.cell (World.block_lt_of_cell? w _ hw207_1)).trans hw207_1), ((HB.out.cell (World.block_lt_of_cell? w _ hw207_2)).trans hw207_2), ((HB.out.cell (World.block_lt_of_cell? w _ hw207_3)).trans hw207_3), ((HB.out.cell (World.block_lt_of_cell? w _ hw207_4)).trans hw207_4), ((HB.out.cell (World.block_lt_of_cell? w _ hw207_5)).trans hw207_5), ((HB.out.cell (World.block_lt_of_cell? w _ hw207_6)).trans hw207_6), ((HB.out.cell (World.block_lt_of_cell? w _ hw208_0)).trans hw208_0), ((HB.out.cell (World.block_lt_of_cell? w _ hw208_1)).trans hw208_1), ((HB.out.cell (World.block_lt_of_cell? w _ hw208_2)).trans hw208_2), ((HB.out.cell (World.block_lt_of_cell? w _ hw208_3)).trans hw208_3), ((HB.out.cell (World.block_lt_of_cell? w _ hw208_4)).trans hw208_4), ((HB.out.cell (World.block_lt_of_cell? w _ hw208_5)).trans hw208_5), ((HB.out.cell (World.block_lt_of_cell? w _ hw208_6)).trans hw208_6)⟩ (fun hHeld => ?_)
                 clear hK K
                 refine norm_ (a' := ?_) ?_ ?_
                 rotate_left
                 ·show Act.put _ (some 86) _ = _
                  simp only [Act.put, List.setIfInBounds_toArray, List.set_cons_zero, List.set_cons_succ, i64_w, i32_w]
                  rfl
                 refine pure_ (i := 2) (N := some 87) (v := ?_) (a' := ?_) (fl 25 3) rfl rfl (any_of HT_.out (by kernel_rfl)) (fun _ _ _ h => h) (Or.inl ⟨by rfl, ?_⟩) ?_ ?_
                 rotate_left
                 ·intro w'
                  go_simp
                  with_reducible rfl
                 rotate_left
                 ·simp only [Act.put, List.setIfInBounds_toArray, List.set_cons_zero, List.set_cons_succ, i64_w, i32_w]
                  rfl
                 refine pure_ (i := 3) (N := some 88) (v := ?_) (a' := ?_) (fl 25 4) rfl rfl (any_of HT_.out (by kernel_rfl)) (fun _ _ _ h => h) (Or.inl ⟨by rfl, ?_⟩) ?_ ?_
                 rotate_left
                 ·intro w'
                  go_simp
                  with_reducible rfl
                 rotate_left
                 ·simp only [Act.put, List.setIfInBounds_toArray, List.set_cons_zero, List.set_cons_succ, i64_w, i32_w]
                  rfl
                 refine pure_ (i := 4) (N := some 89) (v := ?_) (a' := ?_) (fl 25 5) rfl rfl (any_of HT_.out (by kernel_rfl)) (fun _ _ _ h => h) (Or.inl ⟨by rfl, ?_⟩) ?_ ?_
                 rotate_left
                 ·intro w'
                  go_simp
                  with_reducible rfl
                 rotate_left
                 ·simp only [Act.put, List.setIfInBounds_toArray, List.set_cons_zero, List.set_cons_succ, i64_w, i32_w]
                  rfl
                 refine pure_ (i := 6) (N := some 91) (v := ?_) (a' := ?_) #[true, true, true, true, true, false, true, false, false, false, false, false, false, false, false, false, false, false, false, false, false, false, false, false, false] rfl rfl (any_of HT_.out (by kernel_rfl)) (fun _ _ _ h => h) (Or.inl ⟨by rfl, ?_⟩) ?_ ?_
                 rotate_left
                 ·intro w'
                  go_simp
                  with_reducible rfl
                 rotate_left
                 ·simp only [Act.put, List.setIfInBounds_toArray, List.set_cons_zero, List.set_cons_succ, i64_w, i32_w]
                  rfl
                 refine pure_ (i := 7) (N := some 92) (v := ?_) (a' := ?_) #[true, true, true, true, true, false, true, true, false, false, false, false, false, false, false, false, false, false, false, false, false, false, false, false, false] rfl rfl (any_of HT_.out (by kernel_rfl)) (fun _ _ _ h => h) (Or.inl ⟨by rfl, ?_⟩) ?_ ?_
                 rotate_left
                 ·intro w'
                  go_simp
                  with_reducible rfl
                 rotate_left
                 ·simp only [Act.put, List.setIfInBounds_toArray, List.set_cons_zero, List.set_cons_succ, i64_w, i32_w]
                  rfl
                 refine pure_ (i := 8) (N := some 93) (v := ?_) (a' := ?_) #[true, true, true, true, true, false, true, true, true, false, false, false, false, false, false, false, false, false, false, false, false, false, false, false, false] rfl rfl (any_of HT_.out (by kernel_rfl)) (fun _ _ _ h => h) (Or.inl ⟨by rfl, ?_⟩) ?_ ?_
                 rotate_left
                 ·intro w'
                  go_simp
                  with_reducible rfl
                 rotate_left
                 ·simp only [Act.put, List.setIfInBounds_toArray, List.set_cons_zero, List.set_cons_succ, i64_w, i32_w]
                  rfl
                 refine pure_ (i := 9) (N := some 94) (v := ?_) (a' := ?_) #[true, true, true, true, true, false, true, true, true, true, false, false, false, false, false, false, false, false, false, false, false, false, false, false, false] rfl rfl (any_of HT_.out (by kernel_rfl)) (fun _ _ _ h => h) (Or.inl ⟨by rfl, ?_⟩) ?_ ?_
                 rotate_left
                 ·intro w'
                  go_simp
                  with_reducible rfl
                 rotate_left
                 ·simp only [Act.put, List.setIfInBounds_toArray, List.set_cons_zero, List.set_cons_succ, i64_w, i32_w]
                  rfl
                 refine take_ (i := 5) (N := some 90) (v := ?_) (a' := ?_) (fl 25 10) rfl rfl (take_ofW HT_.out HW_.out (by kernel_rfl)) (fun _ _ _ h => h) (Or.inl ⟨by rfl, ?_⟩) hHeld ?_ ?_
                 rotate_left
                 ·rintro w' ⟨s0, s1, s2, s3, s4, s5, s6, s7, s8, s9, s10, s11, s12, s13, s14, s15, s16, s17, s18, s19, s20⟩
                  go_simp
                  with_reducible rfl
                 rotate_left
                 ·simp only [Act.put, List.setIfInBounds_toArray, List.set_cons_zero, List.set_cons_succ, i64_w, i32_w]
                  rfl
                 refine take_ (i := 10) (N := some 95) (v := ?_) (a' := ?_) (fl 25 11) rfl rfl (take_ofW HT_.out HW_.out (by kernel_rfl)) (fun _ _ _ h => h) (Or.inl ⟨by rfl, ?_⟩) hHeld ?_ ?_
                 rotate_left
                 ·rintro w' ⟨s0, s1, s2, s3, s4, s5, s6, s7, s8, s9, s10, s11, s12, s13, s14, s15, s16, s17, s18, s19, s20⟩
                  go_simp
                  with_reducible rfl
                 rotate_left
                 ·simp only [Act.put, List.setIfInBounds_toArray, List.set_cons_zero, List.set_cons_succ, i64_w, i32_w]
                  rfl
                 refine pure_ (i := 11) (N := some 96) (v := ?_) (a' := ?_) (fl 25 12) rfl rfl (any_of HT_.out (by kernel_rfl)) (fun _ _ _ h => h) (Or.inl ⟨by rfl, ?_⟩) ?_ ?_
                 rotate_left
                 ·intro w'
                  go_simp
                  with_reducible rfl
                 rotate_left
                 ·simp only [Act.put, List.setIfInBounds_toArray, List.set_cons_zero, List.set_cons_succ, i64_w, i32_w]
                  rfl
                 refine pure_ (i := 12) (N := some 97) (v := ?_) (a' := ?_) (fl 25 13) rfl rfl (any_of HT_.out (by kernel_rfl)) (fun _ _ _ h => h) (Or.inl ⟨by rfl, ?_⟩) ?_ ?_
                 rotate_left
                 ·intro w'
                  go_simp
                  with_reducible rfl
                 rotate_left
                 ·simp only [Act.put, List.setIfInBounds_toArray, List.set_cons_zero, List.set_cons_succ, i64_w, i32_w]
                  rfl
                 refine pure_ (i := 13) (N := some 98) (v := ?_) (a' := ?_) (fl 25 14) rfl rfl (any_of HT_.out (by kernel_rfl)) (fun _ _ _ h => h) (Or.inl ⟨by rfl, ?_⟩) ?_ ?_
                 rotate_left
                 ·intro w'
                  go_simp
                  with_reducible rfl
                 rotate_left
                 ·simp only [Act.put, List.setIfInBounds_toArray, List.set_cons_zero, List.set_cons_succ, i64_w, i32_w]
                  rfl
                 refine pure_ (i := 14) (N := some 99) (v := ?_) (a' := ?_) (fl 25 15) rfl rfl (any_of HT_.out (by kernel_rfl)) (fun _ _ _ h => h) (Or.inl ⟨by rfl, ?_⟩) ?_ ?_
                 rotate_left
                 ·intro w'
                  go_simp
                  with_reducible rfl
                 rotate_left
                 ·simp only [Act.put, List.setIfInBounds_toArray, List.set_cons_zero, List.set_cons_succ, i64_w, i32_w]
                  rfl
                 refine pure_ (i := 17) (N := some 102) (v := ?_) (a' := ?_) #[true, true, true, true, true, true, true, true, true, true, true, true, true, true, true, false, false, true, false, false, false, false, false, false, false] rfl rfl (any_of HT_.out (by kernel_rfl)) (fun _ _ _ h => h) (Or.inl ⟨by rfl, ?_⟩) ?_ ?_
                 rotate_left
                 ·intro w'
                  go_simp
                  with_reducible rfl
                 rotate_left
                 ·simp only [Act.put, List.setIfInBounds_toArray, List.set_cons_zero, List.set_cons_succ, i64_w, i32_w]
                  rfl
                 refine pure_ (i := 18) (N := some 103) (v := ?_) (a' := ?_) #[true, true, true, true, true, true, true, true, true, true, true, true, true, true, true, false, false, true, true, false, false, false, false, false, false] rfl rfl (any_of HT_.out (by kernel_rfl)) (fun _ _ _ h => h) (Or.inl ⟨by rfl, ?_⟩) ?_ ?_
                 rotate_left
                 ·intro w'
                  go_simp
                  with_reducible rfl
                 rotate_left
                 ·simp only [Act.put, List.setIfInBounds_toArray, List.set_cons_zero, List.set_cons_succ, i64_w, i32_w]
                  rfl
                 refine pure_ (i := 19) (N := some 104) (v := ?_) (a' := ?_) #[true, true, true, true, true, true, true, true, true, true, true, true, true, true, true, false, false, true, true, true, false, false, false, false, false] rfl rfl (any_of HT_.out (by kernel_rfl)) (fun _ _ _ h => h) (Or.inl ⟨by rfl, ?_⟩) ?_ ?_
                 rotate_left
                 ·intro w'
                  go_simp
                  with_reducible rfl
                 rotate_left
                 ·simp only [Act.put, List.setIfInBounds_toArray, List.set_cons_zero, List.set_cons_succ, i64_w, i32_w]
                  rfl
                 refine pure_ (i := 20) (N := some 105) (v := ?_) (a' := ?_) #[true, true, true, true, true, true, true, true, true, true, true, true, true, true, true, false, false, true, true, true, true, false, false, false, false] rfl rfl (any_of HT_.out (by kernel_rfl)) (fun _ _ _ h => h) (Or.inl ⟨by rfl, ?_⟩) ?_ ?_
                 rotate_left
                 ·intro w'
                  go_simp
                  with_reducible rfl
                 rotate_left
                 ·simp only [Act.put, List.setIfInBounds_toArray, List.set_cons_zero, List.set_cons_succ, i64_w, i32_w]
                  rfl
                 refine take_ (i := 15) (N := some 100) (v := ?_) (a' := ?_) #[true, true, true, true, true, true, true, true, true, true, true, true, true, true, true, true, false, true, true, true, true, false, false, false, false] rfl rfl (take_ofW HT_.out HW_.out (by kernel_rfl)) (fun _ _ _ h => h) (Or.inl ⟨by rfl, ?_⟩) hHeld ?_ ?_
                 rotate_left
                 ·rintro w' ⟨s0, s1, s2, s3, s4, s5, s6, s7, s8, s9, s10, s11, s12, s13, s14, s15, s16, s17, s18, s19, s20⟩
                  go_simp
                  with_reducible rfl
                 rotate_left
                 ·simp only [Act.put, List.setIfInBounds_toArray, List.set_cons_zero, List.set_cons_succ, i64_w, i32_w]
                  rfl
                 refine pure_ (i := 16) (N := some 101) (v := ?_) (a' := ?_) (fl 25 21) rfl rfl (any_of HT_.out (by kernel_rfl)) (fun _ _ _ h => h) (Or.inl ⟨by rfl, ?_⟩) ?_ ?_
                 rotate_left
                 ·intro w'
                  go_simp
                  with_reducible rfl
                 rotate_left
                 ·simp only [Act.put, List.setIfInBounds_toArray, List.set_cons_zero, List.set_cons_succ, i64_w, i32_w]
                  rfl
                 refine take_ (i := 21) (N := some 106) (v := ?_) (a' := ?_) (fl 25 22) rfl rfl (take_ofW HT_.out HW_.out (by kernel_rfl)) (fun _ _ _ h => h) (Or.inl ⟨by rfl, ?_⟩) hHeld ?_ ?_
                 rotate_left
                 ·rintro w' ⟨s0, s1, s2, s3, s4, s5, s6, s7, s8, s9, s10, s11, s12, s13, s14, s15, s16, s17, s18, s19, s20⟩
                  go_simp
                  with_reducible rfl
                 rotate_left
                 ·simp only [Act.put, List.setIfInBounds_toArray, List.set_cons_zero, List.set_cons_succ, i64_w, i32_w]
                  rfl
                 refine pure_ (i := 22) (N := some 107) (v := ?_) (a' := ?_) (fl 25 23) rfl rfl (any_of HT_.out (by kernel_rfl)) (fun _ _ _ h => h) (Or.inl ⟨by rfl, ?_⟩) ?_ ?_
                 rotate_left
                 ·intro w'
                  go_simp
                  with_reducible rfl
                 rotate_left
                 ·simp only [Act.put, List.setIfInBounds_toArray, List.set_cons_zero, List.set_cons_succ, i64_w, i32_w]
                  rfl
                 refine pure_ (i := 23) (N := some 108) (v := ?_) (a' := ?_) (fl 25 24) rfl rfl (any_of HT_.out (by kernel_rfl)) (fun _ _ _ h => h) (Or.inl ⟨by rfl, ?_⟩) ?_ ?_
                 rotate_left
                 ·intro w'
                  go_simp
                  with_reducible rfl
                 rotate_left
                 ·simp only [Act.put, List.setIfInBounds_toArray, List.set_cons_zero, List.set_cons_succ, i64_w, i32_w]
                  rfl
                 refine pure_ (i := 24) (N := some 109) (v := ?_) (a' := ?_) (fl 25 25) rfl rfl (any_of HT_.out (by kernel_rfl)) (fun _ _ _ h => h) (Or.inl ⟨by rfl, ?_⟩) ?_ ?_
                 rotate_left
                 ·intro w'
                  go_simp
                  with_reducible rfl
                 rotate_left
                 ·simp only [Act.put, List.setIfInBounds_toArray, List.set_cons_zero, List.set_cons_succ, i64_w, i32_w]
                  rfl
                 refine done_ (done_of HT_.out (by kernel_rfl)) ?_
                 try go_wp2
                 go_ret
                 exact ⟨by first | rfl | (simp [errW_none, errW_some] <;> rfl) | (simp [*, errW_none, errW_some] <;> rfl), by repeat (first | (with_reducible first | exact HB.out | apply below_alloc | apply pw_below_drewN | apply below_drew1 | refine below_set ?_ GE200.out) | exact HB.out)⟩
                ·rw [if_neg c69] at H
                 have c69b0 : ((((rd_T51 l0 x9_1).f0) == 67) != (((rd_T51 l0 a1).f0) == 66)) = false := by simpa using c69
                 (try (have c69b1 : decide ((((rd_T51 l0 x9_1).f0) == 67) = (((rd_T51 l0 a1).f0) == 66)) = true := by simpa using c69))
                 (try (have c69b2 : ((((rd_T51 l0 x9_1).f0) == 67) == (((rd_T51 l0 a1).f0) == 66)) = true := by simpa using c69))
                 clear c69
                 have H' := Aside0.mk H
                 clear H
                 have hcz74_0 : wc.cell? ⟨gb200, 0, none⟩ = some (.int .i64 ((rd_T51 l0 x9_1).f0)) := (blk_cell BK200.out 0).trans rfl
                 have hcz74_1 : wc.cell? ⟨gb200, 1, none⟩ = some (.int .i64 ((rd_T51 l0 x9_1).f1)) := (blk_cell BK200.out 1).trans rfl
                 have hcz74_2 : wc.cell? ⟨gb200, 2, none⟩ = some (.int .i64 ((rd_T51 l0 x9_1).f2)) := (blk_cell BK200.out 2).trans rfl
                 have hcz74_3 : wc.cell? ⟨gb200, 3, none⟩ = some (.int .i64 ((rd_T51 l0 x9_1).f3)) := (blk_cell BK200.out 3).trans rfl
                 have hcz74_4 : wc.cell? ⟨gb200, 4, none⟩ = some (.int .i64 ((rd_T51 l0 x9_1).f4)) := (blk_cell BK200.out 4).trans rfl
                 have hcz74_5 : wc.cell? ⟨gb200, 5, none⟩ = some (.bool ((rd_T51 l0 x9_1).f5)) := (blk_cell BK200.out 5).trans rfl
                 have hcz74_6 : wc.cell? ⟨gb200, 6, none⟩ = some (.bool ((rd_T51 l0 x9_1).f6)) := (blk_cell BK200.out 6).trans rfl
                 have hfz74_0 := blk_frozen BK200.out 0
                 have hfz74_1 := blk_frozen BK200.out 1
                 have hfz74_2 := blk_frozen BK200.out 2
                 have hfz74_3 := blk_frozen BK200.out 3
                 have hfz74_4 := blk_frozen BK200.out 4
                 have hfz74_5 := blk_frozen BK200.out 5
                 have hfz74_6 := blk_frozen BK200.out 6
                 try go_wp2_with (first | ((with_reducible refine gate_callee (f := 39) rfl ?_); refine goesL_ (some 54) rfl rfl Tryd.func39 (by kernel_rfl) rfl #[.agg #[.int .i64 ((rd_T51 l0 x9_1).f0), .int .i64 ((rd_T51 l0 x9_1).f1), .int .i64 ((rd_T51 l0 x9_1).f2), .int .i64 ((rd_T51 l0 x9_1).f3), .int .i64 ((rd_T51 l0 x9_1).f4), .bool ((rd_T51 l0 x9_1).f5), .bool ((rd_T51 l0 x9_1).f6)]] rfl (by (try simp only [List.map_toArray, List.map_cons, List.map_nil]); first | done | rfl | (simp only [List.length_drop, List.length_take]; rfl)) ?_; (with_reducible refine (spinnakerref03_May.calls kj7 ((rd_T51 l0 x9_1).f0) ((rd_T51 l0 x9_1).f1) ((rd_T51 l0 x9_1).f2) ((rd_T51 l0 x9_1).f3) ((rd_T51 l0 x9_1).f4) ((rd_T51 l0 x9_1).f5) ((rd_T51 l0 x9_1).f6) true _ A22.out).mono ?_); rintro e w75 ⟨rfl, hb⟩; refine ⟨_, rfl, ?_⟩; have n0_ := Aside0.mk (blk_below (g := gb200) (o := .cells #[.int .i64 ((rd_T51 l0 x9_1).f0), .int .i64 ((rd_T51 l0 x9_1).f1), .int .i64 ((rd_T51 l0 x9_1).f2), .int .i64 ((rd_T51 l0 x9_1).f3), .int .i64 ((rd_T51 l0 x9_1).f4), .bool ((rd_T51 l0 x9_1).f5), .bool ((rd_T51 l0 x9_1).f6)] 51 (0, 0)) (by (with_reducible repeat (first | refine blk_drewN ?_ _ | refine blk_drew ?_ | refine blk_alloc ?_ _)); exact BK200.out) hb); have n1_ := Aside0.mk (below_step (by repeat (first | (with_reducible first | exact HB.out | apply below_alloc | apply pw_below_drewN | apply below_drew1 | refine below_set ?_ GE200.out) | exact HB.out)) hb); clear BK200; clear HB; have BK200 := n0_; have HB := n1_; clear n0_ n1_; (try clear hb); (try clear hb2); (try clear hk); (try clear hi)))
                 have n0_ := Aside0.mk (blk_drew BK200.out)
                 have n1_ := Aside0.mk (below_drew1 HB.out)
                 clear BK200
                 clear HB
                 have BK200 := n0_
                 have HB := n1_
                 clear n0_ n1_
                 have p207 : 0 ≤ (a1 : Int) := of_decide_eq_true (by first | (with_reducible assumption) | assumption)
                 have q207 : a1 < (l0.length : Int) := of_decide_eq_true (by first | (with_reducible assumption) | assumption)
                 obtain ⟨ad207, e207, hx207_0, hx207_1, hx207_2, hx207_3, hx207_4, hx207_5, hx207_6⟩ := at_T51 HR0.out a1 p207 q207
                 have hw207_6 := hx207_6
                 have hw207_5 := hx207_5
                 have hw207_4 := hx207_4
                 have hw207_3 := hx207_3
                 have hw207_2 := hx207_2
                 have hw207_1 := hx207_1
                 have hw207_0 := hx207_0
                 obtain rfl : ad199 = ad207 := (by injection e207)
                 replace hx207_0 := (HB.out.cell (World.block_lt_of_cell? w _ hx207_0)).trans hx207_0
                 replace hx207_1 := (HB.out.cell (World.block_lt_of_cell? w _ hx207_1)).trans hx207_1
                 replace hx207_2 := (HB.out.cell (World.block_lt_of_cell? w _ hx207_2)).trans hx207_2
                 replace hx207_3 := (HB.out.cell (World.block_lt_of_cell? w _ hx207_3)).trans hx207_3
                 replace hx207_4 := (HB.out.cell (World.block_lt_of_cell? w _ hx207_4)).trans hx207_4
                 replace hx207_5 := (HB.out.cell (World.block_lt_of_cell? w _ hx207_5)).trans hx207_5
                 replace hx207_6 := (HB.out.cell (World.block_lt_of_cell? w _ hx207_6)).trans hx207_6
                 replace p207 := eq_true p207
                 replace q207 := eq_true q207
                 have p208 : 0 ≤ (a1 : Int) := of_decide_eq_true (by first | (with_reducible assumption) | assumption)
                 have q208 : a1 < (l0.length : Int) := of_decide_eq_true (by first | (with_reducible assumption) | assumption)
                 obtain ⟨ad208, e208, hx208_0, hx208_1, hx208_2, hx208_3, hx208_4, hx208_5, hx208_6⟩ := at_T51 HR0.out a1 p208 q208
                 have hw208_6 := hx208_6
                 have hw208_5 := hx208_5
                 have hw208_4 := hx208_4
                 have hw208_3 := hx208_3
                 have hw208_2 := hx208_2
                 have hw208_1 := hx208_1
                 have hw208_0 := hx208_0
                 obtain rfl : ad199 = ad208 := (by injection e208)
                 replace hx208_0 := (HB.out.cell (World.block_lt_of_cell? w _ hx208_0)).trans hx208_0
                 replace hx208_1 := (HB.out.cell (World.block_lt_of_cell? w _ hx208_1)).trans hx208_1
                 replace hx208_2 := (HB.out.cell (World.block_lt_of_cell? w _ hx208_2)).trans hx208_2
                 replace hx208_3 := (HB.out.cell (World.block_lt_of_cell? w _ hx208_3)).trans hx208_3
                 replace hx208_4 := (HB.out.cell (World.block_lt_of_cell? w _ hx208_4)).trans hx208_4
                 replace hx208_5 := (HB.out.cell (World.block_lt_of_cell? w _ hx208_5)).trans hx208_5
                 replace hx208_6 := (HB.out.cell (World.block_lt_of_cell? w _ hx208_6)).trans hx208_6
                 replace p208 := eq_true p208
                 replace q208 := eq_true q208
                 refine start_ (n := 25) (S := fun w' => w'.cell? ⟨gb200, 0, none⟩ = some (.int .i64 ((rd_T51 l0 x9_1).f0)) ∧ w'.cell? ⟨gb200, 1, none⟩ = some (.int .i64 ((rd_T51 l0 x9_1).f1)) ∧ w'.cell? ⟨gb200, 2, none⟩ = some (.int .i64 ((rd_T51 l0 x9_1).f2)) ∧ w'.cell? ⟨gb200, 3, none⟩ = some (.int .i64 ((rd_T51 l0 x9_1).f3)) ∧ w'.cell? ⟨gb200, 4, none⟩ = some (.int .i64 ((rd_T51 l0 x9_1).f4)) ∧ w'.cell? ⟨gb200, 5, none⟩ = some (.bool ((rd_T51 l0 x9_1).f5)) ∧ w'.cell? ⟨gb200, 6, none⟩ = some (.bool ((rd_T51 l0 x9_1).f6)) ∧ w'.cell? (ad199.add ((a1).toNat * 7)) = some (.int .i64 ((rd_T51 l0 a1).f0)) ∧ w'.cell? ⟨(ad199.add ((a1).toNat * 7)).block, (ad199.add ((a1).toNat * 7)).off + 1, none⟩ = some (.int .i64 ((rd_T51 l0 a1).f1)) ∧ w'.cell? ⟨(ad199.add ((a1).toNat * 7)).block, (ad199.add ((a1).toNat * 7)).off + 2, none⟩ = some (.int .i64 ((rd_T51 l0 a1).f2)) ∧ w'.cell? ⟨(ad199.add ((a1).toNat * 7)).block, (ad199.add ((a1).toNat * 7)).off + 3, none⟩ = some (.int .i64 ((rd_T51 l0 a1).f3)) ∧ w'.cell? ⟨(ad199.add ((a1).toNat * 7)).block, (ad199.add ((a1).toNat * 7)).off + 4, none⟩ = some (.int .i64 ((rd_T51 l0 a1).f4)) ∧ w'.cell? ⟨(ad199.add ((a1).toNat * 7)).block, (ad199.add ((a1).toNat * 7)).off + 5, none⟩ = some (.bool ((rd_T51 l0 a1).f5)) ∧ w'.cell? ⟨(ad199.add ((a1).toNat * 7)).block, (ad199.add ((a1).toNat * 7)).off + 6, none⟩ = some (.bool ((rd_T51 l0 a1).f6)) ∧ w'.cell? (ad199.add ((a1).toNat * 7)) = some (.int .i64 ((rd_T51 l0 a1).f0)) ∧ w'.cell? ⟨(ad199.add ((a1).toNat * 7)).block, (ad199.add ((a1).toNat * 7)).off + 1, none⟩ = some (.int .i64 ((rd_T51 l0 a1).f1)) ∧ w'.cell? ⟨(ad199.add ((a1).toNat * 7)).block, (ad199.add ((a1).toNat * 7)).off + 2, none⟩ = some (.int .i64 ((rd_T51 l0 a1).f2)) ∧ w'.cell? ⟨(ad199.add ((a1).toNat * 7)).block, (ad199.add ((a1).toNat * 7)).off + 3, none⟩ = some (.int .i64 ((rd_T51 l0 a1).f3)) ∧ w'.cell? ⟨(ad199.add ((a1).toNat * 7)).block, (ad199.add ((a1).toNat * 7)).off + 4, none⟩ = some (.int .i64 ((rd_T51 l0 a1).f4)) ∧ w'.cell? ⟨(ad199.add ((a1).toNat * 7)).block, (ad199.add ((a1).toNat * 7)).off + 5, none⟩ = some (.bool ((rd_T51 l0 a1).f5)) ∧ w'.cell? ⟨(ad199.add ((a1).toNat * 7)).block, (ad199.add ((a1).toNat * 7)).off + 6, none⟩ = some (.bool ((rd_T51 l0 a1).f6))) (ds := []) (fl 25 0) (by kernel_rfl) rfl rfl ⟨(blk_cell BK200.out 0).trans rfl, (blk_cell BK200.out 1).trans rfl, (blk_cell BK200.out 2).trans rfl, (blk_cell BK200.out 3).trans rfl, (blk_cell BK200.out 4).trans rfl, (blk_cell BK200.out 5).trans rfl, (blk_cell BK200.out 6).trans rfl, ((HB.out.cell (World.block_lt_of_cell? w _ hw207_0)).trans hw207_0), ((HB.out.cell (World.block_lt_of_cell? w _ hw207_1)).trans hw207_1), ((HB.out.cell (World.block_lt_of_cell? w _ hw207_2)).trans hw207_2), ((HB.out.cell (World.block_lt_of_cell? w _ hw207_3)).trans hw207_3), ((HB.out.cell (World.block_lt_of_cell? w _ hw207_4)).trans hw207_4), ((HB.out.cell (World.block_lt_of_cell? w _ hw207_5)).trans hw207_5), ((HB.out.cell (World.block_lt_of_cell? w _ hw207_6)).trans hw207_6), ((HB.out.cell (World.block_lt_of_cell? w _ hw208_0)).trans hw208_0), ((HB.out.cell (World.block_lt_of_cell? w _ hw208_1)).trans hw208_1), ((HB.out.cell (World.block_lt_of_cell? w _ hw208_2)).trans hw208_2), ((HB.out.cell (World.block_lt_of_cell? w _ hw208_3)).trans hw208_3), ((HB.out.cell (World.block_lt_of_cell? w _ hw208_4)).trans hw208_4), ((HB.out.cell (World.block_lt_of_cell? w _ hw208_5)).trans hw208_5), ((HB.out.cell (World.block_lt_of_cell? w _ hw208_6)).trans hw208_6)⟩ (fun hHeld => ?_); refine with_tabW spinnakerref12_loop.tab17 spinnakerref12_loop.bits17 (fun HT_ HW_ => ?_)
                 generalize w75.drew = w76 at BK200 HB hx207_0 hx207_1 hx207_2 hx207_3 hx207_4 hx207_5 hx207_6 hx208_0 hx208_1 hx208_2 hx208_3 hx208_4 hx208_5 hx208_6 hHeld ⊢
                 refine take_ (i := 0) (N := some 85) (v := ?_) (a' := ?_) (fl 25 1) rfl rfl (take_ofW HT_.out HW_.out (by kernel_rfl)) (fun _ _ _ h => h) (Or.inl ⟨by rfl, ?_⟩) hHeld ?_ ?_
                 rotate_left
                 ·rintro w' ⟨s0, s1, s2, s3, s4, s5, s6, s7, s8, s9, s10, s11, s12, s13, s14, s15, s16, s17, s18, s19, s20⟩
                  go_simp
                  with_reducible rfl
                 rotate_left
                 ·simp only [Act.put, List.setIfInBounds_toArray, List.set_cons_zero, List.set_cons_succ, i64_w, i32_w]
                  rfl
                 refine one_ (i := 1) (N := some 86) (fl 25 2) rfl rfl (one_of HT_.out (by kernel_rfl)) (by decide) (fun K hK => ?_)
                 refine goes_ Tryd.func99 (by kernel_rfl) rfl #[.agg #[.int .i64 ((rd_T51 l0 x9_1).f0), .int .i64 ((rd_T51 l0 x9_1).f1), .int .i64 ((rd_T51 l0 x9_1).f2), .int .i64 ((rd_T51 l0 x9_1).f3), .int .i64 ((rd_T51 l0 x9_1).f4), .bool ((rd_T51 l0 x9_1).f5), .bool ((rd_T51 l0 x9_1).f6)]] (by rfl) rfl rfl (by (try simp only [List.map_toArray, List.map_cons, List.map_nil]); first | done | rfl | (simp only [List.length_drop, List.length_take]; rfl)) ?_
                 with_reducible refine (spinnakerref12_conditional.calls ((rd_T51 l0 x9_1).f0) ((rd_T51 l0 x9_1).f1) ((rd_T51 l0 x9_1).f2) ((rd_T51 l0 x9_1).f3) ((rd_T51 l0 x9_1).f4) ((rd_T51 l0 x9_1).f5) ((rd_T51 l0 x9_1).f6) true _ A64.out).mono ?_
                 rintro e w77 ⟨rfl, hb⟩
                 refine ⟨_, rfl, ?_⟩
                 have n0_ := Aside0.mk (blk_below (g := gb200) (o := .cells #[.int .i64 ((rd_T51 l0 x9_1).f0), .int .i64 ((rd_T51 l0 x9_1).f1), .int .i64 ((rd_T51 l0 x9_1).f2), .int .i64 ((rd_T51 l0 x9_1).f3), .int .i64 ((rd_T51 l0 x9_1).f4), .bool ((rd_T51 l0 x9_1).f5), .bool ((rd_T51 l0 x9_1).f6)] 51 (0, 0)) (by (with_reducible repeat (first | refine blk_drewN ?_ _ | refine blk_drew ?_ | refine blk_alloc ?_ _)); exact BK200.out) hb)
                 have n1_ := Aside0.mk (below_step (by repeat (first | (with_reducible first | exact HB.out | apply below_alloc | apply pw_below_drewN | apply below_drew1 | refine below_set ?_ GE200.out) | exact HB.out)) hb)
                 clear BK200
                 clear HB
                 have BK200 := n0_
                 have HB := n1_
                 clear n0_ n1_
                 (try clear hb)
                 (try clear hb2)
                 (try clear hk)
                 (try clear hi)
                 refine hK.out _ _ ⟨(blk_cell BK200.out 0).trans rfl, (blk_cell BK200.out 1).trans rfl, (blk_cell BK200.out 2).trans rfl, (blk_cell BK200.out 3).trans rfl, (blk_cell BK200.out 4).trans rfl, (blk_cell BK200.out 5).trans rfl, (blk_cell BK200.out 6).trans rfl, ((HB.out.cell (World.block_lt_of_cell? w _ hw207_0)).trans hw207_0), ((HB.out.cell (World.block_lt_of_cell? w _ hw207_1)).trans hw207_1), ((HB.out.cell (World.block_lt_of_cell? w _ hw207_2)).trans hw207_2), ((HB.out.cell (World.block_lt_of_cell? w _ hw207_3)).trans hw207_3), ((HB.out.cell (World.block_lt_of_cell? w _ hw207_4)).trans hw207_4), ((HB.out.cell (World.block_lt_of_cell? w _ hw207_5)).trans hw207_5), ((HB.out.cell (World.block_lt_of_cell? w _ hw207_6)).trans hw207_6), ((HB.out.cell (World.block_lt_of_cell? w _ hw208_0)).trans hw208_0), ((HB.out.cell (World.block_lt_of_cell? w _ hw208_1)).trans hw208_1), ((HB.out.cell (World.block_lt_of_cell? w _ hw208_2)).trans hw208_2), ((HB.out.cell (World.block_lt_of_cell? w _ hw208_3)).trans hw208_3), ((HB.out.cell (World.block_lt_of_cell? w _ hw208_4)).trans hw208_4), ((HB.out.cell (World.block_lt_of_cell? w _ hw208_5)).trans hw208_5), ((HB.out.cell (World.block_lt_of_cell? w _ hw208_6)).trans hw208_6)⟩ (fun hHeld => ?_)
                 clear hK K
                 refine norm_ (a' := ?_) ?_ ?_
                 rotate_left
                 ·show Act.put _ (some 86) _ = _
                  simp only [Act.put, List.setIfInBounds_toArray, List.set_cons_zero, List.set_cons_succ, i64_w, i32_w]
                  rfl
                 refine pure_ (i := 2) (N := some 87) (v := ?_) (a' := ?_) (fl 25 3) rfl rfl (any_of HT_.out (by kernel_rfl)) (fun _ _ _ h => h) (Or.inl ⟨by rfl, ?_⟩) ?_ ?_
                 rotate_left
                 ·intro w'
                  go_simp
                  with_reducible rfl
                 rotate_left
                 ·simp only [Act.put, List.setIfInBounds_toArray, List.set_cons_zero, List.set_cons_succ, i64_w, i32_w]
                  rfl
                 refine pure_ (i := 3) (N := some 88) (v := ?_) (a' := ?_) (fl 25 4) rfl rfl (any_of HT_.out (by kernel_rfl)) (fun _ _ _ h => h) (Or.inl ⟨by rfl, ?_⟩) ?_ ?_
                 rotate_left
                 ·intro w'
                  go_simp
                  with_reducible rfl
                 rotate_left
                 ·simp only [Act.put, List.setIfInBounds_toArray, List.set_cons_zero, List.set_cons_succ, i64_w, i32_w]
                  rfl
                 refine pure_ (i := 4) (N := some 89) (v := ?_) (a' := ?_) (fl 25 5) rfl rfl (any_of HT_.out (by kernel_rfl)) (fun _ _ _ h => h) (Or.inl ⟨by rfl, ?_⟩) ?_ ?_
                 rotate_left
                 ·intro w'
                  go_simp
                  with_reducible rfl
                 rotate_left
                 ·simp only [Act.put, List.setIfInBounds_toArray, List.set_cons_zero, List.set_cons_succ, i64_w, i32_w]
                  rfl
                 refine pure_ (i := 6) (N := some 91) (v := ?_) (a' := ?_) #[true, true, true, true, true, false, true, false, false, false, false, false, false, false, false, false, false, false, false, false, false, false, false, false, false] rfl rfl (any_of HT_.out (by kernel_rfl)) (fun _ _ _ h => h) (Or.inl ⟨by rfl, ?_⟩) ?_ ?_
                 rotate_left
                 ·intro w'
                  go_simp
                  with_reducible rfl
                 rotate_left
                 ·simp only [Act.put, List.setIfInBounds_toArray, List.set_cons_zero, List.set_cons_succ, i64_w, i32_w]
                  rfl
                 refine pure_ (i := 7) (N := some 92) (v := ?_) (a' := ?_) #[true, true, true, true, true, false, true, true, false, false, false, false, false, false, false, false, false, false, false, false, false, false, false, false, false] rfl rfl (any_of HT_.out (by kernel_rfl)) (fun _ _ _ h => h) (Or.inl ⟨by rfl, ?_⟩) ?_ ?_
                 rotate_left
                 ·intro w'
                  go_simp
                  with_reducible rfl
                 rotate_left
                 ·simp only [Act.put, List.setIfInBounds_toArray, List.set_cons_zero, List.set_cons_succ, i64_w, i32_w]
                  rfl
                 refine pure_ (i := 8) (N := some 93) (v := ?_) (a' := ?_) #[true, true, true, true, true, false, true, true, true, false, false, false, false, false, false, false, false, false, false, false, false, false, false, false, false] rfl rfl (any_of HT_.out (by kernel_rfl)) (fun _ _ _ h => h) (Or.inl ⟨by rfl, ?_⟩) ?_ ?_
                 rotate_left
                 ·intro w'
                  go_simp
                  with_reducible rfl
                 rotate_left
                 ·simp only [Act.put, List.setIfInBounds_toArray, List.set_cons_zero, List.set_cons_succ, i64_w, i32_w]
                  rfl
                 refine pure_ (i := 9) (N := some 94) (v := ?_) (a' := ?_) #[true, true, true, true, true, false, true, true, true, true, false, false, false, false, false, false, false, false, false, false, false, false, false, false, false] rfl rfl (any_of HT_.out (by kernel_rfl)) (fun _ _ _ h => h) (Or.inl ⟨by rfl, ?_⟩) ?_ ?_
                 rotate_left
                 ·intro w'
                  go_simp
                  with_reducible rfl
                 rotate_left
                 ·simp only [Act.put, List.setIfInBounds_toArray, List.set_cons_zero, List.set_cons_succ, i64_w, i32_w]
                  rfl
                 refine take_ (i := 5) (N := some 90) (v := ?_) (a' := ?_) (fl 25 10) rfl rfl (take_ofW HT_.out HW_.out (by kernel_rfl)) (fun _ _ _ h => h) (Or.inl ⟨by rfl, ?_⟩) hHeld ?_ ?_
                 rotate_left
                 ·rintro w' ⟨s0, s1, s2, s3, s4, s5, s6, s7, s8, s9, s10, s11, s12, s13, s14, s15, s16, s17, s18, s19, s20⟩
                  go_simp
                  with_reducible rfl
                 rotate_left
                 ·simp only [Act.put, List.setIfInBounds_toArray, List.set_cons_zero, List.set_cons_succ, i64_w, i32_w]
                  rfl
                 refine take_ (i := 10) (N := some 95) (v := ?_) (a' := ?_) (fl 25 11) rfl rfl (take_ofW HT_.out HW_.out (by kernel_rfl)) (fun _ _ _ h => h) (Or.inl ⟨by rfl, ?_⟩) hHeld ?_ ?_
                 rotate_left
                 ·rintro w' ⟨s0, s1, s2, s3, s4, s5, s6, s7, s8, s9, s10, s11, s12, s13, s14, s15, s16, s17, s18, s19, s20⟩
                  go_simp
                  with_reducible rfl
                 rotate_left
                 ·simp only [Act.put, List.setIfInBounds_toArray, List.set_cons_zero, List.set_cons_succ, i64_w, i32_w]
                  rfl
                 refine pure_ (i := 11) (N := some 96) (v := ?_) (a' := ?_) (fl 25 12) rfl rfl (any_of HT_.out (by kernel_rfl)) (fun _ _ _ h => h) (Or.inl ⟨by rfl, ?_⟩) ?_ ?_
                 rotate_left
                 ·intro w'
                  go_simp
                  with_reducible rfl
                 rotate_left
                 ·simp only [Act.put, List.setIfInBounds_toArray, List.set_cons_zero, List.set_cons_succ, i64_w, i32_w]
                  rfl
                 refine pure_ (i := 12) (N := some 97) (v := ?_) (a' := ?_) (fl 25 13) rfl rfl (any_of HT_.out (by kernel_rfl)) (fun _ _ _ h => h) (Or.inl ⟨by rfl, ?_⟩) ?_ ?_
                 rotate_left
                 ·intro w'
                  go_simp
                  with_reducible rfl
                 rotate_left
                 ·simp only [Act.put, List.setIfInBounds_toArray, List.set_cons_zero, List.set_cons_succ, i64_w, i32_w]
                  rfl
                 refine pure_ (i := 13) (N := some 98) (v := ?_) (a' := ?_) (fl 25 14) rfl rfl (any_of HT_.out (by kernel_rfl)) (fun _ _ _ h => h) (Or.inl ⟨by rfl, ?_⟩) ?_ ?_
                 rotate_left
                 ·intro w'
                  go_simp
                  with_reducible rfl
                 rotate_left
                 ·simp only [Act.put, List.setIfInBounds_toArray, List.set_cons_zero, List.set_cons_succ, i64_w, i32_w]
                  rfl
                 refine pure_ (i := 14) (N := some 99) (v := ?_) (a' := ?_) (fl 25 15) rfl rfl (any_of HT_.out (by kernel_rfl)) (fun _ _ _ h => h) (Or.inl ⟨by rfl, ?_⟩) ?_ ?_
                 rotate_left
                 ·intro w'
                  go_simp
                  with_reducible rfl
                 rotate_left
                 ·simp only [Act.put, List.setIfInBounds_toArray, List.set_cons_zero, List.set_cons_succ, i64_w, i32_w]
                  rfl
                 refine pure_ (i := 17) (N := some 102) (v := ?_) (a' := ?_) #[true, true, true, true, true, true, true, true, true, true, true, true, true, true, true, false, false, true, false, false, false, false, false, false, false] rfl rfl (any_of HT_.out (by kernel_rfl)) (fun _ _ _ h => h) (Or.inl ⟨by rfl, ?_⟩) ?_ ?_
                 rotate_left
                 ·intro w'
                  go_simp
                  with_reducible rfl
                 rotate_left
                 ·simp only [Act.put, List.setIfInBounds_toArray, List.set_cons_zero, List.set_cons_succ, i64_w, i32_w]
                  rfl
                 refine pure_ (i := 18) (N := some 103) (v := ?_) (a' := ?_) #[true, true, true, true, true, true, true, true, true, true, true, true, true, true, true, false, false, true, true, false, false, false, false, false, false] rfl rfl (any_of HT_.out (by kernel_rfl)) (fun _ _ _ h => h) (Or.inl ⟨by rfl, ?_⟩) ?_ ?_
                 rotate_left
                 ·intro w'
                  go_simp
                  with_reducible rfl
                 rotate_left
                 ·simp only [Act.put, List.setIfInBounds_toArray, List.set_cons_zero, List.set_cons_succ, i64_w, i32_w]
                  rfl
                 refine pure_ (i := 19) (N := some 104) (v := ?_) (a' := ?_) #[true, true, true, true, true, true, true, true, true, true, true, true, true, true, true, false, false, true, true, true, false, false, false, false, false] rfl rfl (any_of HT_.out (by kernel_rfl)) (fun _ _ _ h => h) (Or.inl ⟨by rfl, ?_⟩) ?_ ?_
                 rotate_left
                 ·intro w'
                  go_simp
                  with_reducible rfl
                 rotate_left
                 ·simp only [Act.put, List.setIfInBounds_toArray, List.set_cons_zero, List.set_cons_succ, i64_w, i32_w]
                  rfl
                 refine pure_ (i := 20) (N := some 105) (v := ?_) (a' := ?_) #[true, true, true, true, true, true, true, true, true, true, true, true, true, true, true, false, false, true, true, true, true, false, false, false, false] rfl rfl (any_of HT_.out (by kernel_rfl)) (fun _ _ _ h => h) (Or.inl ⟨by rfl, ?_⟩) ?_ ?_
                 rotate_left
                 ·intro w'
                  go_simp
                  with_reducible rfl
                 rotate_left
                 ·simp only [Act.put, List.setIfInBounds_toArray, List.set_cons_zero, List.set_cons_succ, i64_w, i32_w]
                  rfl
                 refine take_ (i := 15) (N := some 100) (v := ?_) (a' := ?_) #[true, true, true, true, true, true, true, true, true, true, true, true, true, true, true, true, false, true, true, true, true, false, false, false, false] rfl rfl (take_ofW HT_.out HW_.out (by kernel_rfl)) (fun _ _ _ h => h) (Or.inl ⟨by rfl, ?_⟩) hHeld ?_ ?_
                 rotate_left
                 ·rintro w' ⟨s0, s1, s2, s3, s4, s5, s6, s7, s8, s9, s10, s11, s12, s13, s14, s15, s16, s17, s18, s19, s20⟩
                  go_simp
                  with_reducible rfl
                 rotate_left
                 ·simp only [Act.put, List.setIfInBounds_toArray, List.set_cons_zero, List.set_cons_succ, i64_w, i32_w]
                  rfl
                 refine pure_ (i := 16) (N := some 101) (v := ?_) (a' := ?_) (fl 25 21) rfl rfl (any_of HT_.out (by kernel_rfl)) (fun _ _ _ h => h) (Or.inl ⟨by rfl, ?_⟩) ?_ ?_
                 rotate_left
                 ·intro w'
                  go_simp
                  with_reducible rfl
                 rotate_left
                 ·simp only [Act.put, List.setIfInBounds_toArray, List.set_cons_zero, List.set_cons_succ, i64_w, i32_w]
                  rfl
                 refine take_ (i := 21) (N := some 106) (v := ?_) (a' := ?_) (fl 25 22) rfl rfl (take_ofW HT_.out HW_.out (by kernel_rfl)) (fun _ _ _ h => h) (Or.inl ⟨by rfl, ?_⟩) hHeld ?_ ?_
                 rotate_left
                 ·rintro w' ⟨s0, s1, s2, s3, s4, s5, s6, s7, s8, s9, s10, s11, s12, s13, s14, s15, s16, s17, s18, s19, s20⟩
                  go_simp
                  with_reducible rfl
                 rotate_left
                 ·simp only [Act.put, List.setIfInBounds_toArray, List.set_cons_zero, List.set_cons_succ, i64_w, i32_w]
                  rfl
                 refine pure_ (i := 22) (N := some 107) (v := ?_) (a' := ?_) (fl 25 23) rfl rfl (any_of HT_.out (by kernel_rfl)) (fun _ _ _ h => h) (Or.inl ⟨by rfl, ?_⟩) ?_ ?_
                 rotate_left
                 ·intro w'
                  go_simp
                  with_reducible rfl
                 rotate_left
                 ·simp only [Act.put, List.setIfInBounds_toArray, List.set_cons_zero, List.set_cons_succ, i64_w, i32_w]
                  rfl
                 refine pure_ (i := 23) (N := some 108) (v := ?_) (a' := ?_) (fl 25 24) rfl rfl (any_of HT_.out (by kernel_rfl)) (fun _ _ _ h => h) (Or.inl ⟨by rfl, ?_⟩) ?_ ?_
                 rotate_left
                 ·intro w'
                  go_simp
                  with_reducible rfl
                 rotate_left
                 ·simp only [Act.put, List.setIfInBounds_toArray, List.set_cons_zero, List.set_cons_succ, i64_w, i32_w]
                  rfl
                 refine pure_ (i := 24) (N := some 109) (v := ?_) (a' := ?_) (fl 25 25) rfl rfl (any_of HT_.out (by kernel_rfl)) (fun _ _ _ h => h) (Or.inl ⟨by rfl, ?_⟩) ?_ ?_
                 rotate_left
                 ·intro w'
                  go_simp
                  with_reducible rfl
                 rotate_left
                 ·simp only [Act.put, List.setIfInBounds_toArray, List.set_cons_zero, List.set_cons_succ, i64_w, i32_w]
                  rfl
                 refine done_ (done_of HT_.out (by kernel_rfl)) ?_
                 try go_wp2
                 go_roundg kj7
                 case measure => have := HK1.out; have := HJ7.out; omega
                 case rel => exact ⟨(wrap64 (x9_1 + 1)), (by first | rfl | (simp; done) | (simp [*]; done)), H', ⟨by have := HK1.out; have := HJ7.out; omega⟩, ⟨by repeat (first | (with_reducible first | exact HB.out | apply below_alloc | apply pw_below_drewN | apply below_drew1 | refine below_set ?_ GE200.out) | exact HB.out)⟩⟩
               ·rw [if_neg c68] at H
                have c68b0 : (((rd_T51 l0 x9_1).f2) == ((rd_T51 l0 a1).f2)) = false := beq_eq_false_iff_ne.mpr c68
                have c68b1 : (((rd_T51 l0 x9_1).f2) != ((rd_T51 l0 a1).f2)) = true := bne_iff_ne.mpr c68
                obtain rfl := Option.some.inj H
                have hcz78_0 : wc.cell? ⟨gb200, 0, none⟩ = some (.int .i64 ((rd_T51 l0 x9_1).f0)) := (blk_cell BK200.out 0).trans rfl
                have hcz78_1 : wc.cell? ⟨gb200, 1, none⟩ = some (.int .i64 ((rd_T51 l0 x9_1).f1)) := (blk_cell BK200.out 1).trans rfl
                have hcz78_2 : wc.cell? ⟨gb200, 2, none⟩ = some (.int .i64 ((rd_T51 l0 x9_1).f2)) := (blk_cell BK200.out 2).trans rfl
                have hcz78_3 : wc.cell? ⟨gb200, 3, none⟩ = some (.int .i64 ((rd_T51 l0 x9_1).f3)) := (blk_cell BK200.out 3).trans rfl
                have hcz78_4 : wc.cell? ⟨gb200, 4, none⟩ = some (.int .i64 ((rd_T51 l0 x9_1).f4)) := (blk_cell BK200.out 4).trans rfl
                have hcz78_5 : wc.cell? ⟨gb200, 5, none⟩ = some (.bool ((rd_T51 l0 x9_1).f5)) := (blk_cell BK200.out 5).trans rfl
                have hcz78_6 : wc.cell? ⟨gb200, 6, none⟩ = some (.bool ((rd_T51 l0 x9_1).f6)) := (blk_cell BK200.out 6).trans rfl
                have hfz78_0 := blk_frozen BK200.out 0
                have hfz78_1 := blk_frozen BK200.out 1
                have hfz78_2 := blk_frozen BK200.out 2
                have hfz78_3 := blk_frozen BK200.out 3
                have hfz78_4 := blk_frozen BK200.out 4
                have hfz78_5 := blk_frozen BK200.out 5
                have hfz78_6 := blk_frozen BK200.out 6
                try go_wp2_with (first | ((with_reducible refine gate_callee (f := 39) rfl ?_); refine goesL_ (some 54) rfl rfl Tryd.func39 (by kernel_rfl) rfl #[.agg #[.int .i64 ((rd_T51 l0 x9_1).f0), .int .i64 ((rd_T51 l0 x9_1).f1), .int .i64 ((rd_T51 l0 x9_1).f2), .int .i64 ((rd_T51 l0 x9_1).f3), .int .i64 ((rd_T51 l0 x9_1).f4), .bool ((rd_T51 l0 x9_1).f5), .bool ((rd_T51 l0 x9_1).f6)]] rfl (by (try simp only [List.map_toArray, List.map_cons, List.map_nil]); first | done | rfl | (simp only [List.length_drop, List.length_take]; rfl)) ?_; (with_reducible refine (spinnakerref03_May.calls kj7 ((rd_T51 l0 x9_1).f0) ((rd_T51 l0 x9_1).f1) ((rd_T51 l0 x9_1).f2) ((rd_T51 l0 x9_1).f3) ((rd_T51 l0 x9_1).f4) ((rd_T51 l0 x9_1).f5) ((rd_T51 l0 x9_1).f6) true _ A22.out).mono ?_); rintro e w79 ⟨rfl, hb⟩; refine ⟨_, rfl, ?_⟩; have n0_ := Aside0.mk (blk_below (g := gb200) (o := .cells #[.int .i64 ((rd_T51 l0 x9_1).f0), .int .i64 ((rd_T51 l0 x9_1).f1), .int .i64 ((rd_T51 l0 x9_1).f2), .int .i64 ((rd_T51 l0 x9_1).f3), .int .i64 ((rd_T51 l0 x9_1).f4), .bool ((rd_T51 l0 x9_1).f5), .bool ((rd_T51 l0 x9_1).f6)] 51 (0, 0)) (by (with_reducible repeat (first | refine blk_drewN ?_ _ | refine blk_drew ?_ | refine blk_alloc ?_ _)); exact BK200.out) hb); have n1_ := Aside0.mk (below_step (by repeat (first | (with_reducible first | exact HB.out | apply below_alloc | apply pw_below_drewN | apply below_drew1 | refine below_set ?_ GE200.out) | exact HB.out)) hb); clear BK200; clear HB; have BK200 := n0_; have HB := n1_; clear n0_ n1_; (try clear hb); (try clear hb2); (try clear hk); (try clear hi)))
                have n0_ := Aside0.mk (blk_drew BK200.out)
                have n1_ := Aside0.mk (below_drew1 HB.out)
                clear BK200
                clear HB
                have BK200 := n0_
                have HB := n1_
                clear n0_ n1_
                have p207 : 0 ≤ (a1 : Int) := of_decide_eq_true (by first | (with_reducible assumption) | assumption)
                have q207 : a1 < (l0.length : Int) := of_decide_eq_true (by first | (with_reducible assumption) | assumption)
                obtain ⟨ad207, e207, hx207_0, hx207_1, hx207_2, hx207_3, hx207_4, hx207_5, hx207_6⟩ := at_T51 HR0.out a1 p207 q207
                have hw207_6 := hx207_6
                have hw207_5 := hx207_5
                have hw207_4 := hx207_4
                have hw207_3 := hx207_3
                have hw207_2 := hx207_2
                have hw207_1 := hx207_1
                have hw207_0 := hx207_0
                obtain rfl : ad199 = ad207 := (by injection e207)
                replace hx207_0 := (HB.out.cell (World.block_lt_of_cell? w _ hx207_0)).trans hx207_0
                replace hx207_1 := (HB.out.cell (World.block_lt_of_cell? w _ hx207_1)).trans hx207_1
                replace hx207_2 := (HB.out.cell (World.block_lt_of_cell? w _ hx207_2)).trans hx207_2
                replace hx207_3 := (HB.out.cell (World.block_lt_of_cell? w _ hx207_3)).trans hx207_3
                replace hx207_4 := (HB.out.cell (World.block_lt_of_cell? w _ hx207_4)).trans hx207_4
                replace hx207_5 := (HB.out.cell (World.block_lt_of_cell? w _ hx207_5)).trans hx207_5
                replace hx207_6 := (HB.out.cell (World.block_lt_of_cell? w _ hx207_6)).trans hx207_6
                replace p207 := eq_true p207
                replace q207 := eq_true q207
                refine start_ (n := 25) (S := fun w' => w'.cell? ⟨gb200, 0, none⟩ = some (.int .i64 ((rd_T51 l0 x9_1).f0)) ∧ w'.cell? ⟨gb200, 1, none⟩ = some (.int .i64 ((rd_T51 l0 x9_1).f1)) ∧ w'.cell? ⟨gb200, 2, none⟩ = some (.int .i64 ((rd_T51 l0 x9_1).f2)) ∧ w'.cell? ⟨gb200, 3, none⟩ = some (.int .i64 ((rd_T51 l0 x9_1).f3)) ∧ w'.cell? ⟨gb200, 4, none⟩ = some (.int .i64 ((rd_T51 l0 x9_1).f4)) ∧ w'.cell? ⟨gb200, 5, none⟩ = some (.bool ((rd_T51 l0 x9_1).f5)) ∧ w'.cell? ⟨gb200, 6, none⟩ = some (.bool ((rd_T51 l0 x9_1).f6)) ∧ w'.cell? (ad199.add ((a1).toNat * 7)) = some (.int .i64 ((rd_T51 l0 a1).f0)) ∧ w'.cell? ⟨(ad199.add ((a1).toNat * 7)).block, (ad199.add ((a1).toNat * 7)).off + 1, none⟩ = some (.int .i64 ((rd_T51 l0 a1).f1)) ∧ w'.cell? ⟨(ad199.add ((a1).toNat * 7)).block, (ad199.add ((a1).toNat * 7)).off + 2, none⟩ = some (.int .i64 ((rd_T51 l0 a1).f2)) ∧ w'.cell? ⟨(ad199.add ((a1).toNat * 7)).block, (ad199.add ((a1).toNat * 7)).off + 3, none⟩ = some (.int .i64 ((rd_T51 l0 a1).f3)) ∧ w'.cell? ⟨(ad199.add ((a1).toNat * 7)).block, (ad199.add ((a1).toNat * 7)).off + 4, none⟩ = some (.int .i64 ((rd_T51 l0 a1).f4)) ∧ w'.cell? ⟨(ad199.add ((a1).toNat * 7)).block, (ad199.add ((a1).toNat * 7)).off + 5, none⟩ = some (.bool ((rd_T51 l0 a1).f5)) ∧ w'.cell? ⟨(ad199.add ((a1).toNat * 7)).block, (ad199.add ((a1).toNat * 7)).off + 6, none⟩ = some (.bool ((rd_T51 l0 a1).f6))) (ds := []) (fl 25 0) (by kernel_rfl) rfl rfl ⟨(blk_cell BK200.out 0).trans rfl, (blk_cell BK200.out 1).trans rfl, (blk_cell BK200.out 2).trans rfl, (blk_cell BK200.out 3).trans rfl, (blk_cell BK200.out 4).trans rfl, (blk_cell BK200.out 5).trans rfl, (blk_cell BK200.out 6).trans rfl, ((HB.out.cell (World.block_lt_of_cell? w _ hw207_0)).trans hw207_0), ((HB.out.cell (World.block_lt_of_cell? w _ hw207_1)).trans hw207_1), ((HB.out.cell (World.block_lt_of_cell? w _ hw207_2)).trans hw207_2), ((HB.out.cell (World.block_lt_of_cell? w _ hw207_3)).trans hw207_3), ((HB.out.cell (World.block_lt_of_cell? w _ hw207_4)).trans hw207_4), ((HB.out.cell (World.block_lt_of_cell? w _ hw207_5)).trans hw207_5), ((HB.out.cell (World.block_lt_of_cell? w _ hw207_6)).trans hw207_6)⟩ (fun hHeld => ?_); refine with_tabW spinnakerref12_loop.tab17 spinnakerref12_loop.bits17 (fun HT_ HW_ => ?_)
                generalize w79.drew = w80 at BK200 HB hx207_0 hx207_1 hx207_2 hx207_3 hx207_4 hx207_5 hx207_6 hHeld ⊢
                refine take_ (i := 0) (N := some 85) (v := ?_) (a' := ?_) (fl 25 1) rfl rfl (take_ofW HT_.out HW_.out (by kernel_rfl)) (fun _ _ _ h => h) (Or.inl ⟨by rfl, ?_⟩) hHeld ?_ ?_
                rotate_left
                ·rintro w' ⟨s0, s1, s2, s3, s4, s5, s6, s7, s8, s9, s10, s11, s12, s13⟩
                 go_simp
                 with_reducible rfl
                rotate_left
                ·simp only [Act.put, List.setIfInBounds_toArray, List.set_cons_zero, List.set_cons_succ, i64_w, i32_w]
                 rfl
                refine one_ (i := 1) (N := some 86) (fl 25 2) rfl rfl (one_of HT_.out (by kernel_rfl)) (by decide) (fun K hK => ?_)
                refine goes_ Tryd.func99 (by kernel_rfl) rfl #[.agg #[.int .i64 ((rd_T51 l0 x9_1).f0), .int .i64 ((rd_T51 l0 x9_1).f1), .int .i64 ((rd_T51 l0 x9_1).f2), .int .i64 ((rd_T51 l0 x9_1).f3), .int .i64 ((rd_T51 l0 x9_1).f4), .bool ((rd_T51 l0 x9_1).f5), .bool ((rd_T51 l0 x9_1).f6)]] (by rfl) rfl rfl (by (try simp only [List.map_toArray, List.map_cons, List.map_nil]); first | done | rfl | (simp only [List.length_drop, List.length_take]; rfl)) ?_
                with_reducible refine (spinnakerref12_conditional.calls ((rd_T51 l0 x9_1).f0) ((rd_T51 l0 x9_1).f1) ((rd_T51 l0 x9_1).f2) ((rd_T51 l0 x9_1).f3) ((rd_T51 l0 x9_1).f4) ((rd_T51 l0 x9_1).f5) ((rd_T51 l0 x9_1).f6) true _ A64.out).mono ?_
                rintro e w81 ⟨rfl, hb⟩
                refine ⟨_, rfl, ?_⟩
                have n0_ := Aside0.mk (blk_below (g := gb200) (o := .cells #[.int .i64 ((rd_T51 l0 x9_1).f0), .int .i64 ((rd_T51 l0 x9_1).f1), .int .i64 ((rd_T51 l0 x9_1).f2), .int .i64 ((rd_T51 l0 x9_1).f3), .int .i64 ((rd_T51 l0 x9_1).f4), .bool ((rd_T51 l0 x9_1).f5), .bool ((rd_T51 l0 x9_1).f6)] 51 (0, 0)) (by (with_reducible repeat (first | refine blk_drewN ?_ _ | refine blk_drew ?_ | refine blk_alloc ?_ _)); exact BK200.out) hb)
                have n1_ := Aside0.mk (below_step (by repeat (first | (with_reducible first | exact HB.out | apply below_alloc | apply pw_below_drewN | apply below_drew1 | refine below_set ?_ GE200.out) | exact HB.out)) hb)
                clear BK200
                clear HB
                have BK200 := n0_
                have HB := n1_
                clear n0_ n1_
                (try clear hb)
                (try clear hb2)
                (try clear hk)
                (try clear hi)
                refine hK.out _ _ ⟨(blk_cell BK200.out 0).trans rfl, (blk_cell BK200.out 1).trans rfl, (blk_cell BK200.out 2).trans rfl, (blk_cell BK200.out 3).trans rfl, (blk_cell BK200.out 4).trans rfl, (blk_cell BK200.out 5).trans rfl, (blk_cell BK200.out 6).trans rfl, ((HB.out.cell (World.block_lt_of_cell? w _ hw207_0)).trans hw207_0), ((HB.out.cell (World.block_lt_of_cell? w _ hw207_1)).trans hw207_1), ((HB.out.cell (World.block_lt_of_cell? w _ hw207_2)).trans hw207_2), ((HB.out.cell (World.block_lt_of_cell? w _ hw207_3)).trans hw207_3), ((HB.out.cell (World.block_lt_of_cell? w _ hw207_4)).trans hw207_4), ((HB.out.cell (World.block_lt_of_cell? w _ hw207_5)).trans hw207_5), ((HB.out.cell (World.block_lt_of_cell? w _ hw207_6)).trans hw207_6)⟩ (fun hHeld => ?_)
                clear hK K
                refine norm_ (a' := ?_) ?_ ?_
                rotate_left
                ·show Act.put _ (some 86) _ = _
                 simp only [Act.put, List.setIfInBounds_toArray, List.set_cons_zero, List.set_cons_succ, i64_w, i32_w]
                 rfl
                refine pure_ (i := 2) (N := some 87) (v := ?_) (a' := ?_) (fl 25 3) rfl rfl (any_of HT_.out (by kernel_rfl)) (fun _ _ _ h => h) (Or.inl ⟨by rfl, ?_⟩) ?_ ?_
                rotate_left
                ·intro w'
                 go_simp
                 with_reducible rfl
                rotate_left
                ·simp only [Act.put, List.setIfInBounds_toArray, List.set_cons_zero, List.set_cons_succ, i64_w, i32_w]
                 rfl
                refine pure_ (i := 3) (N := some 88) (v := ?_) (a' := ?_) (fl 25 4) rfl rfl (any_of HT_.out (by kernel_rfl)) (fun _ _ _ h => h) (Or.inl ⟨by rfl, ?_⟩) ?_ ?_
                rotate_left
                ·intro w'
                 go_simp
                 with_reducible rfl
                rotate_left
                ·simp only [Act.put, List.setIfInBounds_toArray, List.set_cons_zero, List.set_cons_succ, i64_w, i32_w]
                 rfl
                refine pure_ (i := 4) (N := some 89) (v := ?_) (a' := ?_) (fl 25 5) rfl rfl (any_of HT_.out (by kernel_rfl)) (fun _ _ _ h => h) (Or.inl ⟨by rfl, ?_⟩) ?_ ?_
                rotate_left
                ·intro w'
                 go_simp
                 with_reducible rfl
                rotate_left
                ·simp only [Act.put, List.setIfInBounds_toArray, List.set_cons_zero, List.set_cons_succ, i64_w, i32_w]
                 rfl
                refine pure_ (i := 6) (N := some 91) (v := ?_) (a' := ?_) #[true, true, true, true, true, false, true, false, false, false, false, false, false, false, false, false, false, false, false, false, false, false, false, false, false] rfl rfl (any_of HT_.out (by kernel_rfl)) (fun _ _ _ h => h) (Or.inl ⟨by rfl, ?_⟩) ?_ ?_
                rotate_left
                ·intro w'
                 go_simp
                 with_reducible rfl
                rotate_left
                ·simp only [Act.put, List.setIfInBounds_toArray, List.set_cons_zero, List.set_cons_succ, i64_w, i32_w]
                 rfl
                refine pure_ (i := 7) (N := some 92) (v := ?_) (a' := ?_) #[true, true, true, true, true, false, true, true, false, false, false, false, false, false, false, false, false, false, false, false, false, false, false, false, false] rfl rfl (any_of HT_.out (by kernel_rfl)) (fun _ _ _ h => h) (Or.inl ⟨by rfl, ?_⟩) ?_ ?_
                rotate_left
                ·intro w'
                 go_simp
                 with_reducible rfl
                rotate_left
                ·simp only [Act.put, List.setIfInBounds_toArray, List.set_cons_zero, List.set_cons_succ, i64_w, i32_w]
                 rfl
                refine pure_ (i := 8) (N := some 93) (v := ?_) (a' := ?_) #[true, true, true, true, true, false, true, true, true, false, false, false, false, false, false, false, false, false, false, false, false, false, false, false, false] rfl rfl (any_of HT_.out (by kernel_rfl)) (fun _ _ _ h => h) (Or.inl ⟨by rfl, ?_⟩) ?_ ?_
                rotate_left
                ·intro w'
                 go_simp
                 with_reducible rfl
                rotate_left
                ·simp only [Act.put, List.setIfInBounds_toArray, List.set_cons_zero, List.set_cons_succ, i64_w, i32_w]
                 rfl
                refine pure_ (i := 9) (N := some 94) (v := ?_) (a' := ?_) #[true, true, true, true, true, false, true, true, true, true, false, false, false, false, false, false, false, false, false, false, false, false, false, false, false] rfl rfl (any_of HT_.out (by kernel_rfl)) (fun _ _ _ h => h) (Or.inl ⟨by rfl, ?_⟩) ?_ ?_
                rotate_left
                ·intro w'
                 go_simp
                 with_reducible rfl
                rotate_left
                ·simp only [Act.put, List.setIfInBounds_toArray, List.set_cons_zero, List.set_cons_succ, i64_w, i32_w]
                 rfl
                refine take_ (i := 5) (N := some 90) (v := ?_) (a' := ?_) (fl 25 10) rfl rfl (take_ofW HT_.out HW_.out (by kernel_rfl)) (fun _ _ _ h => h) (Or.inl ⟨by rfl, ?_⟩) hHeld ?_ ?_
                rotate_left
                ·rintro w' ⟨s0, s1, s2, s3, s4, s5, s6, s7, s8, s9, s10, s11, s12, s13⟩
                 go_simp
                 with_reducible rfl
                rotate_left
                ·simp only [Act.put, List.setIfInBounds_toArray, List.set_cons_zero, List.set_cons_succ, i64_w, i32_w]
                 rfl
                refine take_ (i := 10) (N := some 95) (v := ?_) (a' := ?_) (fl 25 11) rfl rfl (take_ofW HT_.out HW_.out (by kernel_rfl)) (fun _ _ _ h => h) (Or.inl ⟨by rfl, ?_⟩) hHeld ?_ ?_
                rotate_left
                ·rintro w' ⟨s0, s1, s2, s3, s4, s5, s6, s7, s8, s9, s10, s11, s12, s13⟩
                 go_simp
                 with_reducible rfl
                rotate_left
                ·simp only [Act.put, List.setIfInBounds_toArray, List.set_cons_zero, List.set_cons_succ, i64_w, i32_w]
                 rfl
                refine pure_ (i := 11) (N := some 96) (v := ?_) (a' := ?_) (fl 25 12) rfl rfl (any_of HT_.out (by kernel_rfl)) (fun _ _ _ h => h) (Or.inl ⟨by rfl, ?_⟩) ?_ ?_
                rotate_left
                ·intro w'
                 go_simp
                 with_reducible rfl
                rotate_left
                ·simp only [Act.put, List.setIfInBounds_toArray, List.set_cons_zero, List.set_cons_succ, i64_w, i32_w]
                 rfl
                refine pure_ (i := 12) (N := some 97) (v := ?_) (a' := ?_) (fl 25 13) rfl rfl (any_of HT_.out (by kernel_rfl)) (fun _ _ _ h => h) (Or.inl ⟨by rfl, ?_⟩) ?_ ?_
                rotate_left
                ·intro w'
                 go_simp
                 with_reducible rfl
                rotate_left
                ·simp only [Act.put, List.setIfInBounds_toArray, List.set_cons_zero, List.set_cons_succ, i64_w, i32_w]
                 rfl
                refine pure_ (i := 13) (N := some 98) (v := ?_) (a' := ?_) (fl 25 14) rfl rfl (any_of HT_.out (by kernel_rfl)) (fun _ _ _ h => h) (Or.inl ⟨by rfl, ?_⟩) ?_ ?_
                rotate_left
                ·intro w'
                 go_simp
                 with_reducible rfl
                rotate_left
                ·simp only [Act.put, List.setIfInBounds_toArray, List.set_cons_zero, List.set_cons_succ, i64_w, i32_w]
                 rfl
                refine pure_ (i := 14) (N := some 99) (v := undef) (a' := ?_) (fl 25 15) rfl rfl (any_of HT_.out (by kernel_rfl)) (fun _ _ _ h => h) (Or.inr ⟨by rfl, rfl⟩) ?_ ?_
                rotate_left
                ·simp only [Act.put, List.setIfInBounds_toArray, List.set_cons_zero, List.set_cons_succ, i64_w, i32_w]
                 rfl
                refine pure_ (i := 15) (N := some 100) (v := undef) (a' := ?_) (fl 25 16) rfl rfl (any_of HT_.out (by kernel_rfl)) (fun _ _ _ h => h) (Or.inr ⟨by rfl, rfl⟩) ?_ ?_
                rotate_left
                ·simp only [Act.put, List.setIfInBounds_toArray, List.set_cons_zero, List.set_cons_succ, i64_w, i32_w]
                 rfl
                refine pure_ (i := 16) (N := some 101) (v := undef) (a' := ?_) (fl 25 17) rfl rfl (any_of HT_.out (by kernel_rfl)) (fun _ _ _ h => h) (Or.inr ⟨by rfl, rfl⟩) ?_ ?_
                rotate_left
                ·simp only [Act.put, List.setIfInBounds_toArray, List.set_cons_zero, List.set_cons_succ, i64_w, i32_w]
                 rfl
                refine pure_ (i := 17) (N := some 102) (v := undef) (a' := ?_) (fl 25 18) rfl rfl (any_of HT_.out (by kernel_rfl)) (fun _ _ _ h => h) (Or.inr ⟨by rfl, rfl⟩) ?_ ?_
                rotate_left
                ·simp only [Act.put, List.setIfInBounds_toArray, List.set_cons_zero, List.set_cons_succ, i64_w, i32_w]
                 rfl
                refine pure_ (i := 18) (N := some 103) (v := undef) (a' := ?_) (fl 25 19) rfl rfl (any_of HT_.out (by kernel_rfl)) (fun _ _ _ h => h) (Or.inr ⟨by rfl, rfl⟩) ?_ ?_
                rotate_left
                ·simp only [Act.put, List.setIfInBounds_toArray, List.set_cons_zero, List.set_cons_succ, i64_w, i32_w]
                 rfl
                refine pure_ (i := 19) (N := some 104) (v := undef) (a' := ?_) (fl 25 20) rfl rfl (any_of HT_.out (by kernel_rfl)) (fun _ _ _ h => h) (Or.inr ⟨by rfl, rfl⟩) ?_ ?_
                rotate_left
                ·simp only [Act.put, List.setIfInBounds_toArray, List.set_cons_zero, List.set_cons_succ, i64_w, i32_w]
                 rfl
                refine pure_ (i := 20) (N := some 105) (v := undef) (a' := ?_) (fl 25 21) rfl rfl (any_of HT_.out (by kernel_rfl)) (fun _ _ _ h => h) (Or.inr ⟨by rfl, rfl⟩) ?_ ?_
                rotate_left
                ·simp only [Act.put, List.setIfInBounds_toArray, List.set_cons_zero, List.set_cons_succ, i64_w, i32_w]
                 rfl
                refine pure_ (i := 21) (N := some 106) (v := undef) (a' := ?_) (fl 25 22) rfl rfl (any_of HT_.out (by kernel_rfl)) (fun _ _ _ h => h) (Or.inr ⟨by rfl, rfl⟩) ?_ ?_
                rotate_left
                ·simp only [Act.put, List.setIfInBounds_toArray, List.set_cons_zero, List.set_cons_succ, i64_w, i32_w]
                 rfl
                refine pure_ (i := 22) (N := some 107) (v := undef) (a' := ?_) (fl 25 23) rfl rfl (any_of HT_.out (by kernel_rfl)) (fun _ _ _ h => h) (Or.inr ⟨by rfl, rfl⟩) ?_ ?_
                rotate_left
                ·simp only [Act.put, List.setIfInBounds_toArray, List.set_cons_zero, List.set_cons_succ, i64_w, i32_w]
                 rfl
                refine pure_ (i := 23) (N := some 108) (v := undef) (a' := ?_) (fl 25 24) rfl rfl (any_of HT_.out (by kernel_rfl)) (fun _ _ _ h => h) (Or.inr ⟨by rfl, rfl⟩) ?_ ?_
                rotate_left
                ·simp only [Act.put, List.setIfInBounds_toArray, List.set_cons_zero, List.set_cons_succ, i64_w, i32_w]
                 rfl
                refine pure_ (i := 24) (N := some 109) (v := ?_) (a' := ?_) (fl 25 25) rfl rfl (any_of HT_.out (by kernel_rfl)) (fun _ _ _ h => h) (Or.inl ⟨by rfl, ?_⟩) ?_ ?_
                rotate_left
                ·intro w'
                 go_simp
                 with_reducible rfl
                rotate_left
                ·simp only [Act.put, List.setIfInBounds_toArray, List.set_cons_zero, List.set_cons_succ, i64_w, i32_w]
                 rfl
                refine done_ (done_of HT_.out (by kernel_rfl)) ?_
                try go_wp2
                go_ret
                exact ⟨by first | rfl | (simp [errW_none, errW_some] <;> rfl) | (simp [*, errW_none, errW_some] <;> rfl), by repeat (first | (with_reducible first | exact HB.out | apply below_alloc | apply pw_below_drewN | apply below_drew1 | refine below_set ?_ GE200.out) | exact HB.out)⟩
              ·rw [if_neg c67] at H
               exact absurd H (by simp)
             ·rw [if_neg c66] at H
              exact absurd H (by simp)
            ·replace c65 := Bool.eq_false_iff.mpr c65
             subst c65
             have H1 : (some false) = some r := by rw [if_neg (show ¬ (false = true) by decide)] at H; exact H
             clear H
             have H := H1
             clear H1
             obtain rfl := Option.some.inj H
             have hcz82_0 : wc.cell? ⟨gb200, 0, none⟩ = some (.int .i64 ((rd_T51 l0 x9_1).f0)) := (blk_cell BK200.out 0).trans rfl
             have hcz82_1 : wc.cell? ⟨gb200, 1, none⟩ = some (.int .i64 ((rd_T51 l0 x9_1).f1)) := (blk_cell BK200.out 1).trans rfl
             have hcz82_2 : wc.cell? ⟨gb200, 2, none⟩ = some (.int .i64 ((rd_T51 l0 x9_1).f2)) := (blk_cell BK200.out 2).trans rfl
             have hcz82_3 : wc.cell? ⟨gb200, 3, none⟩ = some (.int .i64 ((rd_T51 l0 x9_1).f3)) := (blk_cell BK200.out 3).trans rfl
             have hcz82_4 : wc.cell? ⟨gb200, 4, none⟩ = some (.int .i64 ((rd_T51 l0 x9_1).f4)) := (blk_cell BK200.out 4).trans rfl
             have hcz82_5 : wc.cell? ⟨gb200, 5, none⟩ = some (.bool ((rd_T51 l0 x9_1).f5)) := (blk_cell BK200.out 5).trans rfl
             have hcz82_6 : wc.cell? ⟨gb200, 6, none⟩ = some (.bool ((rd_T51 l0 x9_1).f6)) := (blk_cell BK200.out 6).trans rfl
             have hfz82_0 := blk_frozen BK200.out 0
             have hfz82_1 := blk_frozen BK200.out 1
             have hfz82_2 := blk_frozen BK200.out 2
             have hfz82_3 := blk_frozen BK200.out 3
             have hfz82_4 := blk_frozen BK200.out 4
             have hfz82_5 := blk_frozen BK200.out 5
             have hfz82_6 := blk_frozen BK200.out 6
             try go_wp2_with (first | ((with_reducible refine gate_callee (f := 39) rfl ?_); refine goesL_ (some 54) rfl rfl Tryd.func39 (by kernel_rfl) rfl #[.agg #[.int .i64 ((rd_T51 l0 x9_1).f0), .int .i64 ((rd_T51 l0 x9_1).f1), .int .i64 ((rd_T51 l0 x9_1).f2), .int .i64 ((rd_T51 l0 x9_1).f3), .int .i64 ((rd_T51 l0 x9_1).f4), .bool ((rd_T51 l0 x9_1).f5), .bool ((rd_T51 l0 x9_1).f6)]] rfl (by (try simp only [List.map_toArray, List.map_cons, List.map_nil]); first | done | rfl | (simp only [List.length_drop, List.length_take]; rfl)) ?_; (with_reducible refine (spinnakerref03_May.calls kj7 ((rd_T51 l0 x9_1).f0) ((rd_T51 l0 x9_1).f1) ((rd_T51 l0 x9_1).f2) ((rd_T51 l0 x9_1).f3) ((rd_T51 l0 x9_1).f4) ((rd_T51 l0 x9_1).f5) ((rd_T51 l0 x9_1).f6) true _ A22.out).mono ?_); rintro e w83 ⟨rfl, hb⟩; refine ⟨_, rfl, ?_⟩; have n0_ := Aside0.mk (blk_below (g := gb200) (o := .cells #[.int .i64 ((rd_T51 l0 x9_1).f0), .int .i64 ((rd_T51 l0 x9_1).f1), .int .i64 ((rd_T51 l0 x9_1).f2), .int .i64 ((rd_T51 l0 x9_1).f3), .int .i64 ((rd_T51 l0 x9_1).f4), .bool ((rd_T51 l0 x9_1).f5), .bool ((rd_T51 l0 x9_1).f6)] 51 (0, 0)) (by (with_reducible repeat (first | refine blk_drewN ?_ _ | refine blk_drew ?_ | refine blk_alloc ?_ _)); exact BK200.out) hb); have n1_ := Aside0.mk (below_step (by repeat (first | (with_reducible first | exact HB.out | apply below_alloc | apply pw_below_drewN | apply below_drew1 | refine below_set ?_ GE200.out) | exact HB.out)) hb); clear BK200; clear HB; have BK200 := n0_; have HB := n1_; clear n0_ n1_; (try clear hb); (try clear hb2); (try clear hk); (try clear hi)))
             have n0_ := Aside0.mk (blk_drew BK200.out)
             have n1_ := Aside0.mk (below_drew1 HB.out)
             clear BK200
             clear HB
             have BK200 := n0_
             have HB := n1_
             clear n0_ n1_
             refine start_ (n := 25) (S := fun w' => w'.cell? ⟨gb200, 0, none⟩ = some (.int .i64 ((rd_T51 l0 x9_1).f0)) ∧ w'.cell? ⟨gb200, 1, none⟩ = some (.int .i64 ((rd_T51 l0 x9_1).f1)) ∧ w'.cell? ⟨gb200, 2, none⟩ = some (.int .i64 ((rd_T51 l0 x9_1).f2)) ∧ w'.cell? ⟨gb200, 3, none⟩ = some (.int .i64 ((rd_T51 l0 x9_1).f3)) ∧ w'.cell? ⟨gb200, 4, none⟩ = some (.int .i64 ((rd_T51 l0 x9_1).f4)) ∧ w'.cell? ⟨gb200, 5, none⟩ = some (.bool ((rd_T51 l0 x9_1).f5)) ∧ w'.cell? ⟨gb200, 6, none⟩ = some (.bool ((rd_T51 l0 x9_1).f6))) (ds := []) (fl 25 0) (by kernel_rfl) rfl rfl ⟨(blk_cell BK200.out 0).trans rfl, (blk_cell BK200.out 1).trans rfl, (blk_cell BK200.out 2).trans rfl, (blk_cell BK200.out 3).trans rfl, (blk_cell BK200.out 4).trans rfl, (blk_cell BK200.out 5).trans rfl, (blk_cell BK200.out 6).trans rfl⟩ (fun hHeld => ?_); refine with_tabW spinnakerref12_loop.tab17 spinnakerref12_loop.bits17 (fun HT_ HW_ => ?_)
             generalize w83.drew = w84 at BK200 HB hHeld ⊢
             refine take_ (i := 0) (N := some 85) (v := ?_) (a' := ?_) (fl 25 1) rfl rfl (take_ofW HT_.out HW_.out (by kernel_rfl)) (fun _ _ _ h => h) (Or.inl ⟨by rfl, ?_⟩) hHeld ?_ ?_
             rotate_left
             ·rintro w' ⟨s0, s1, s2, s3, s4, s5, s6⟩
              go_simp
              with_reducible rfl
             rotate_left
             ·simp only [Act.put, List.setIfInBounds_toArray, List.set_cons_zero, List.set_cons_succ, i64_w, i32_w]
              rfl
             refine one_ (i := 1) (N := some 86) (fl 25 2) rfl rfl (one_of HT_.out (by kernel_rfl)) (by decide) (fun K hK => ?_)
             refine goes_ Tryd.func99 (by kernel_rfl) rfl #[.agg #[.int .i64 ((rd_T51 l0 x9_1).f0), .int .i64 ((rd_T51 l0 x9_1).f1), .int .i64 ((rd_T51 l0 x9_1).f2), .int .i64 ((rd_T51 l0 x9_1).f3), .int .i64 ((rd_T51 l0 x9_1).f4), .bool ((rd_T51 l0 x9_1).f5), .bool ((rd_T51 l0 x9_1).f6)]] (by rfl) rfl rfl (by (try simp only [List.map_toArray, List.map_cons, List.map_nil]); first | done | rfl | (simp only [List.length_drop, List.length_take]; rfl)) ?_
             with_reducible refine (spinnakerref12_conditional.calls ((rd_T51 l0 x9_1).f0) ((rd_T51 l0 x9_1).f1) ((rd_T51 l0 x9_1).f2) ((rd_T51 l0 x9_1).f3) ((rd_T51 l0 x9_1).f4) ((rd_T51 l0 x9_1).f5) ((rd_T51 l0 x9_1).f6) false _ A64.out).mono ?_
             rintro e w85 ⟨rfl, hb⟩
             refine ⟨_, rfl, ?_⟩
             have n0_ := Aside0.mk (blk_below (g := gb200) (o := .cells #[.int .i64 ((rd_T51 l0 x9_1).f0), .int .i64 ((rd_T51 l0 x9_1).f1), .int .i64 ((rd_T51 l0 x9_1).f2), .int .i64 ((rd_T51 l0 x9_1).f3), .int .i64 ((rd_T51 l0 x9_1).f4), .bool ((rd_T51 l0 x9_1).f5), .bool ((rd_T51 l0 x9_1).f6)] 51 (0, 0)) (by (with_reducible repeat (first | refine blk_drewN ?_ _ | refine blk_drew ?_ | refine blk_alloc ?_ _)); exact BK200.out) hb)
             have n1_ := Aside0.mk (below_step (by repeat (first | (with_reducible first | exact HB.out | apply below_alloc | apply pw_below_drewN | apply below_drew1 | refine below_set ?_ GE200.out) | exact HB.out)) hb)
             clear BK200
             clear HB
             have BK200 := n0_
             have HB := n1_
             clear n0_ n1_
             (try clear hb)
             (try clear hb2)
             (try clear hk)
             (try clear hi)
             refine hK.out _ _ ⟨(blk_cell BK200.out 0).trans rfl, (blk_cell BK200.out 1).trans rfl, (blk_cell BK200.out 2).trans rfl, (blk_cell BK200.out 3).trans rfl, (blk_cell BK200.out 4).trans rfl, (blk_cell BK200.out 5).trans rfl, (blk_cell BK200.out 6).trans rfl⟩ (fun hHeld => ?_)
             clear hK K
             refine norm_ (a' := ?_) ?_ ?_
             rotate_left
             ·show Act.put _ (some 86) _ = _
              simp only [Act.put, List.setIfInBounds_toArray, List.set_cons_zero, List.set_cons_succ, i64_w, i32_w]
              rfl
             refine pure_ (i := 2) (N := some 87) (v := ?_) (a' := ?_) (fl 25 3) rfl rfl (any_of HT_.out (by kernel_rfl)) (fun _ _ _ h => h) (Or.inl ⟨by rfl, ?_⟩) ?_ ?_
             rotate_left
             ·intro w'
              go_simp
              with_reducible rfl
             rotate_left
             ·simp only [Act.put, List.setIfInBounds_toArray, List.set_cons_zero, List.set_cons_succ, i64_w, i32_w]
              rfl
             refine pure_ (i := 3) (N := some 88) (v := ?_) (a' := ?_) (fl 25 4) rfl rfl (any_of HT_.out (by kernel_rfl)) (fun _ _ _ h => h) (Or.inl ⟨by rfl, ?_⟩) ?_ ?_
             rotate_left
             ·intro w'
              go_simp
              with_reducible rfl
             rotate_left
             ·simp only [Act.put, List.setIfInBounds_toArray, List.set_cons_zero, List.set_cons_succ, i64_w, i32_w]
              rfl
             refine pure_ (i := 4) (N := some 89) (v := undef) (a' := ?_) (fl 25 5) rfl rfl (any_of HT_.out (by kernel_rfl)) (fun _ _ _ h => h) (Or.inr ⟨by rfl, rfl⟩) ?_ ?_
             rotate_left
             ·simp only [Act.put, List.setIfInBounds_toArray, List.set_cons_zero, List.set_cons_succ, i64_w, i32_w]
              rfl
             refine pure_ (i := 5) (N := some 90) (v := undef) (a' := ?_) (fl 25 6) rfl rfl (any_of HT_.out (by kernel_rfl)) (fun _ _ _ h => h) (Or.inr ⟨by rfl, rfl⟩) ?_ ?_
             rotate_left
             ·simp only [Act.put, List.setIfInBounds_toArray, List.set_cons_zero, List.set_cons_succ, i64_w, i32_w]
              rfl
             refine pure_ (i := 6) (N := some 91) (v := undef) (a' := ?_) (fl 25 7) rfl rfl (any_of HT_.out (by kernel_rfl)) (fun _ _ _ h => h) (Or.inr ⟨by rfl, rfl⟩) ?_ ?_
             rotate_left
             ·simp only [Act.put, List.setIfInBounds_toArray, List.set_cons_zero, List.set_cons_succ, i64_w, i32_w]
              rfl
             refine pure_ (i := 7) (N := some 92) (v := undef) (a' := ?_) (fl 25 8) rfl rfl (any_of HT_.out (by kernel_rfl)) (fun _ _ _ h => h) (Or.inr ⟨by rfl, rfl⟩) ?_ ?_
             rotate_left
             ·simp only [Act.put, List.setIfInBounds_toArray, List.set_cons_zero, List.set_cons_succ, i64_w, i32_w]
              rfl
             refine pure_ (i := 8) (N := some 93) (v := undef) (a' := ?_) (fl 25 9) rfl rfl (any_of HT_.out (by kernel_rfl)) (fun _ _ _ h => h) (Or.inr ⟨by rfl, rfl⟩) ?_ ?_
             rotate_left
             ·simp only [Act.put, List.setIfInBounds_toArray, List.set_cons_zero, List.set_cons_succ, i64_w, i32_w]
              rfl
             refine pure_ (i := 9) (N := some 94) (v := undef) (a' := ?_) (fl 25 10) rfl rfl (any_of HT_.out (by kernel_rfl)) (fun _ _ _ h => h) (Or.inr ⟨by rfl, rfl⟩) ?_ ?_
             rotate_left
             ·simp only [Act.put, List.setIfInBounds_toArray, List.set_cons_zero, List.set_cons_succ, i64_w, i32_w]
              rfl
             refine pure_ (i := 10) (N := some 95) (v := undef) (a' := ?_) (fl 25 11) rfl rfl (any_of HT_.out (by kernel_rfl)) (fun _ _ _ h => h) (Or.inr ⟨by rfl, rfl⟩) ?_ ?_
             rotate_left
             ·simp only [Act.put, List.setIfInBounds_toArray, List.set_cons_zero, List.set_cons_succ, i64_w, i32_w]
              rfl
             refine pure_ (i := 11) (N := some 96) (v := undef) (a' := ?_) (fl 25 12) rfl rfl (any_of HT_.out (by kernel_rfl)) (fun _ _ _ h => h) (Or.inr ⟨by rfl, rfl⟩) ?_ ?_
             rotate_left
             ·simp only [Act.put, List.setIfInBounds_toArray, List.set_cons_zero, List.set_cons_succ, i64_w, i32_w]
              rfl
             refine pure_ (i := 12) (N := some 97) (v := ?_) (a' := ?_) (fl 25 13) rfl rfl (any_of HT_.out (by kernel_rfl)) (fun _ _ _ h => h) (Or.inl ⟨by rfl, ?_⟩) ?_ ?_
             rotate_left
             ·intro w'
              go_simp
              with_reducible rfl
             rotate_left
             ·simp only [Act.put, List.setIfInBounds_toArray, List.set_cons_zero, List.set_cons_succ, i64_w, i32_w]
              rfl
             refine pure_ (i := 13) (N := some 98) (v := ?_) (a' := ?_) (fl 25 14) rfl rfl (any_of HT_.out (by kernel_rfl)) (fun _ _ _ h => h) (Or.inl ⟨by rfl, ?_⟩) ?_ ?_
             rotate_left
             ·intro w'
              go_simp
              with_reducible rfl
             rotate_left
             ·simp only [Act.put, List.setIfInBounds_toArray, List.set_cons_zero, List.set_cons_succ, i64_w, i32_w]
              rfl
             refine pure_ (i := 14) (N := some 99) (v := undef) (a' := ?_) (fl 25 15) rfl rfl (any_of HT_.out (by kernel_rfl)) (fun _ _ _ h => h) (Or.inr ⟨by rfl, rfl⟩) ?_ ?_
             rotate_left
             ·simp only [Act.put, List.setIfInBounds_toArray, List.set_cons_zero, List.set_cons_succ, i64_w, i32_w]
              rfl
             refine pure_ (i := 15) (N := some 100) (v := undef) (a' := ?_) (fl 25 16) rfl rfl (any_of HT_.out (by kernel_rfl)) (fun _ _ _ h => h) (Or.inr ⟨by rfl, rfl⟩) ?_ ?_
             rotate_left
             ·simp only [Act.put, List.setIfInBounds_toArray, List.set_cons_zero, List.set_cons_succ, i64_w, i32_w]
              rfl
             refine pure_ (i := 16) (N := some 101) (v := undef) (a' := ?_) (fl 25 17) rfl rfl (any_of HT_.out (by kernel_rfl)) (fun _ _ _ h => h) (Or.inr ⟨by rfl, rfl⟩) ?_ ?_
             rotate_left
             ·simp only [Act.put, List.setIfInBounds_toArray, List.set_cons_zero, List.set_cons_succ, i64_w, i32_w]
              rfl
             refine pure_ (i := 17) (N := some 102) (v := undef) (a' := ?_) (fl 25 18) rfl rfl (any_of HT_.out (by kernel_rfl)) (fun _ _ _ h => h) (Or.inr ⟨by rfl, rfl⟩) ?_ ?_
             rotate_left
             ·simp only [Act.put, List.setIfInBounds_toArray, List.set_cons_zero, List.set_cons_succ, i64_w, i32_w]
              rfl
             refine pure_ (i := 18) (N := some 103) (v := undef) (a' := ?_) (fl 25 19) rfl rfl (any_of HT_.out (by kernel_rfl)) (fun _ _ _ h => h) (Or.inr ⟨by rfl, rfl⟩) ?_ ?_
             rotate_left
             ·simp only [Act.put, List.setIfInBounds_toArray, List.set_cons_zero, List.set_cons_succ, i64_w, i32_w]
              rfl
             refine pure_ (i := 19) (N := some 104) (v := undef) (a' := ?_) (fl 25 20) rfl rfl (any_of HT_.out (by kernel_rfl)) (fun _ _ _ h => h) (Or.inr ⟨by rfl, rfl⟩) ?_ ?_
             rotate_left
             ·simp only [Act.put, List.setIfInBounds_toArray, List.set_cons_zero, List.set_cons_succ, i64_w, i32_w]
              rfl
             refine pure_ (i := 20) (N := some 105) (v := undef) (a' := ?_) (fl 25 21) rfl rfl (any_of HT_.out (by kernel_rfl)) (fun _ _ _ h => h) (Or.inr ⟨by rfl, rfl⟩) ?_ ?_
             rotate_left
             ·simp only [Act.put, List.setIfInBounds_toArray, List.set_cons_zero, List.set_cons_succ, i64_w, i32_w]
              rfl
             refine pure_ (i := 21) (N := some 106) (v := undef) (a' := ?_) (fl 25 22) rfl rfl (any_of HT_.out (by kernel_rfl)) (fun _ _ _ h => h) (Or.inr ⟨by rfl, rfl⟩) ?_ ?_
             rotate_left
             ·simp only [Act.put, List.setIfInBounds_toArray, List.set_cons_zero, List.set_cons_succ, i64_w, i32_w]
              rfl
             refine pure_ (i := 22) (N := some 107) (v := undef) (a' := ?_) (fl 25 23) rfl rfl (any_of HT_.out (by kernel_rfl)) (fun _ _ _ h => h) (Or.inr ⟨by rfl, rfl⟩) ?_ ?_
             rotate_left
             ·simp only [Act.put, List.setIfInBounds_toArray, List.set_cons_zero, List.set_cons_succ, i64_w, i32_w]
              rfl
             refine pure_ (i := 23) (N := some 108) (v := undef) (a' := ?_) (fl 25 24) rfl rfl (any_of HT_.out (by kernel_rfl)) (fun _ _ _ h => h) (Or.inr ⟨by rfl, rfl⟩) ?_ ?_
             rotate_left
             ·simp only [Act.put, List.setIfInBounds_toArray, List.set_cons_zero, List.set_cons_succ, i64_w, i32_w]
              rfl
             refine pure_ (i := 24) (N := some 109) (v := ?_) (a' := ?_) (fl 25 25) rfl rfl (any_of HT_.out (by kernel_rfl)) (fun _ _ _ h => h) (Or.inl ⟨by rfl, ?_⟩) ?_ ?_
             rotate_left
             ·intro w'
              go_simp
              with_reducible rfl
             rotate_left
             ·simp only [Act.put, List.setIfInBounds_toArray, List.set_cons_zero, List.set_cons_succ, i64_w, i32_w]
              rfl
             refine done_ (done_of HT_.out (by kernel_rfl)) ?_
             try go_wp2
             go_ret
             exact ⟨by first | rfl | (simp [errW_none, errW_some] <;> rfl) | (simp [*, errW_none, errW_some] <;> rfl), by repeat (first | (with_reducible first | exact HB.out | apply below_alloc | apply pw_below_drewN | apply below_drew1 | refine below_set ?_ GE200.out) | exact HB.out)⟩
           ·rw [if_neg c63] at H
            have c63b0 : (x9_1 == a2) = false := beq_eq_false_iff_ne.mpr c63
            have c63b1 : (x9_1 != a2) = true := bne_iff_ne.mpr c63
            by_cases c86 : x9_1 < a3
            ·rw [if_pos c86] at H
             have c86b0 : decide (x9_1 < a3) = true := decide_eq_true c86
             clear c86
             replace H := Option.bind_eq_some_iff.mp H
             obtain ⟨t209, A870, H⟩ := H
             replace H : (if t209 = true then (spinnakerref12_loop.l0 kj7 l0 a1 a2 a3 (wrap64 (x9_1 + 1))) else ((spinnakerref12_turns.f ((rd_T51 l0 x9_1).f0) ((rd_T51 l0 x9_1).f1) ((rd_T51 l0 x9_1).f2) ((rd_T51 l0 x9_1).f3) ((rd_T51 l0 x9_1).f4) ((rd_T51 l0 x9_1).f5) ((rd_T51 l0 x9_1).f6)).bind fun t210 => (if t210 = true then (if ((rd_T51 l0 x9_1).f4) > 0 then (spinnakerref12_loop.l0 kj7 l0 a1 a2 a3 (wrap64 (x9_1 + 1))) else (some false)) else (some false)))) = some r := H
             have A87 := Aside0.mk A870
             clear A870
             by_cases c88 : t209 = true
             ·subst c88
              have H1 : (spinnakerref12_loop.l0 kj7 l0 a1 a2 a3 (wrap64 (x9_1 + 1))) = some r := by rw [if_pos rfl] at H; exact H
              clear H
              have H := H1
              clear H1
              have H' := Aside0.mk H
              clear H
              have hcz89_0 : wc.cell? ⟨gb200, 0, none⟩ = some (.int .i64 ((rd_T51 l0 x9_1).f0)) := (blk_cell BK200.out 0).trans rfl
              have hcz89_1 : wc.cell? ⟨gb200, 1, none⟩ = some (.int .i64 ((rd_T51 l0 x9_1).f1)) := (blk_cell BK200.out 1).trans rfl
              have hcz89_2 : wc.cell? ⟨gb200, 2, none⟩ = some (.int .i64 ((rd_T51 l0 x9_1).f2)) := (blk_cell BK200.out 2).trans rfl
              have hcz89_3 : wc.cell? ⟨gb200, 3, none⟩ = some (.int .i64 ((rd_T51 l0 x9_1).f3)) := (blk_cell BK200.out 3).trans rfl
              have hcz89_4 : wc.cell? ⟨gb200, 4, none⟩ = some (.int .i64 ((rd_T51 l0 x9_1).f4)) := (blk_cell BK200.out 4).trans rfl
              have hcz89_5 : wc.cell? ⟨gb200, 5, none⟩ = some (.bool ((rd_T51 l0 x9_1).f5)) := (blk_cell BK200.out 5).trans rfl
              have hcz89_6 : wc.cell? ⟨gb200, 6, none⟩ = some (.bool ((rd_T51 l0 x9_1).f6)) := (blk_cell BK200.out 6).trans rfl
              have hfz89_0 := blk_frozen BK200.out 0
              have hfz89_1 := blk_frozen BK200.out 1
              have hfz89_2 := blk_frozen BK200.out 2
              have hfz89_3 := blk_frozen BK200.out 3
              have hfz89_4 := blk_frozen BK200.out 4
              have hfz89_5 := blk_frozen BK200.out 5
              have hfz89_6 := blk_frozen BK200.out 6
              go_wp2_with (first | ((with_reducible refine gate_callee (f := 39) rfl ?_); refine goesL_ (some 54) rfl rfl Tryd.func39 (by kernel_rfl) rfl #[.agg #[.int .i64 ((rd_T51 l0 x9_1).f0), .int .i64 ((rd_T51 l0 x9_1).f1), .int .i64 ((rd_T51 l0 x9_1).f2), .int .i64 ((rd_T51 l0 x9_1).f3), .int .i64 ((rd_T51 l0 x9_1).f4), .bool ((rd_T51 l0 x9_1).f5), .bool ((rd_T51 l0 x9_1).f6)]] rfl (by (try simp only [List.map_toArray, List.map_cons, List.map_nil]); first | done | rfl | (simp only [List.length_drop, List.length_take]; rfl)) ?_; (with_reducible refine (spinnakerref03_May.calls kj7 ((rd_T51 l0 x9_1).f0) ((rd_T51 l0 x9_1).f1) ((rd_T51 l0 x9_1).f2) ((rd_T51 l0 x9_1).f3) ((rd_T51 l0 x9_1).f4) ((rd_T51 l0 x9_1).f5) ((rd_T51 l0 x9_1).f6) true _ A22.out).mono ?_); rintro e w90 ⟨rfl, hb⟩; refine ⟨_, rfl, ?_⟩; have n0_ := Aside0.mk (blk_below (g := gb200) (o := .cells #[.int .i64 ((rd_T51 l0 x9_1).f0), .int .i64 ((rd_T51 l0 x9_1).f1), .int .i64 ((rd_T51 l0 x9_1).f2), .int .i64 ((rd_T51 l0 x9_1).f3), .int .i64 ((rd_T51 l0 x9_1).f4), .bool ((rd_T51 l0 x9_1).f5), .bool ((rd_T51 l0 x9_1).f6)] 51 (0, 0)) (by (with_reducible repeat (first | refine blk_drewN ?_ _ | refine blk_drew ?_ | refine blk_alloc ?_ _)); exact BK200.out) hb); have n1_ := Aside0.mk (below_step (by repeat (first | (with_reducible first | exact HB.out | apply below_alloc | apply pw_below_drewN | apply below_drew1 | refine below_set ?_ GE200.out) | exact HB.out)) hb); clear BK200; clear HB; have BK200 := n0_; have HB := n1_; clear n0_ n1_; (try clear hb); (try clear hb2); (try clear hk); (try clear hi); have hcz91_0 : w90.cell? ⟨gb200, 0, none⟩ = some (.int .i64 ((rd_T51 l0 x9_1).f0)) := (blk_cell BK200.out 0).trans rfl; have hcz91_1 : w90.cell? ⟨gb200, 1, none⟩ = some (.int .i64 ((rd_T51 l0 x9_1).f1)) := (blk_cell BK200.out 1).trans rfl; have hcz91_2 : w90.cell? ⟨gb200, 2, none⟩ = some (.int .i64 ((rd_T51 l0 x9_1).f2)) := (blk_cell BK200.out 2).trans rfl; have hcz91_3 : w90.cell? ⟨gb200, 3, none⟩ = some (.int .i64 ((rd_T51 l0 x9_1).f3)) := (blk_cell BK200.out 3).trans rfl; have hcz91_4 : w90.cell? ⟨gb200, 4, none⟩ = some (.int .i64 ((rd_T51 l0 x9_1).f4)) := (blk_cell BK200.out 4).trans rfl; have hcz91_5 : w90.cell? ⟨gb200, 5, none⟩ = some (.bool ((rd_T51 l0 x9_1).f5)) := (blk_cell BK200.out 5).trans rfl; have hcz91_6 : w90.cell? ⟨gb200, 6, none⟩ = some (.bool ((rd_T51 l0 x9_1).f6)) := (blk_cell BK200.out 6).trans rfl; have hfz91_0 := blk_frozen BK200.out 0; have hfz91_1 := blk_frozen BK200.out 1; have hfz91_2 := blk_frozen BK200.out 2; have hfz91_3 := blk_frozen BK200.out 3; have hfz91_4 := blk_frozen BK200.out 4; have hfz91_5 := blk_frozen BK200.out 5; have hfz91_6 := blk_frozen BK200.out 6) | ((with_reducible refine gate_callee (f := 97) rfl ?_); refine goesL_ (some 115) rfl rfl Tryd.func97 (by kernel_rfl) rfl #[.agg #[.int .i64 ((rd_T51 l0 x9_1).f0), .int .i64 ((rd_T51 l0 x9_1).f1), .int .i64 ((rd_T51 l0 x9_1).f2), .int .i64 ((rd_T51 l0 x9_1).f3), .int .i64 ((rd_T51 l0 x9_1).f4), .bool ((rd_T51 l0 x9_1).f5), .bool ((rd_T51 l0 x9_1).f6)]] rfl (by (try simp only [List.map_toArray, List.map_cons, List.map_nil]); first | done | rfl | (simp only [List.length_drop, List.length_take]; rfl)) ?_; (with_reducible refine (spinnakerref12_reckons.calls ((rd_T51 l0 x9_1).f0) ((rd_T51 l0 x9_1).f1) ((rd_T51 l0 x9_1).f2) ((rd_T51 l0 x9_1).f3) ((rd_T51 l0 x9_1).f4) ((rd_T51 l0 x9_1).f5) ((rd_T51 l0 x9_1).f6) true _ A87.out).mono ?_); rintro e w92 ⟨rfl, hb⟩; refine ⟨_, rfl, ?_⟩; have n0_ := Aside0.mk (blk_below (g := gb200) (o := .cells #[.int .i64 ((rd_T51 l0 x9_1).f0), .int .i64 ((rd_T51 l0 x9_1).f1), .int .i64 ((rd_T51 l0 x9_1).f2), .int .i64 ((rd_T51 l0 x9_1).f3), .int .i64 ((rd_T51 l0 x9_1).f4), .bool ((rd_T51 l0 x9_1).f5), .bool ((rd_T51 l0 x9_1).f6)] 51 (0, 0)) (by (with_reducible repeat (first | refine blk_drewN ?_ _ | refine blk_drew ?_ | refine blk_alloc ?_ _)); exact BK200.out) hb); have n1_ := Aside0.mk (below_step (by repeat (first | (with_reducible first | exact HB.out | apply below_alloc | apply pw_below_drewN | apply below_drew1 | refine below_set ?_ GE200.out) | exact HB.out)) hb); clear BK200; clear HB; have BK200 := n0_; have HB := n1_; clear n0_ n1_; (try clear hb); (try clear hb2); (try clear hk); (try clear hi)))
              go_roundg kj7
              case measure => have := HK1.out; have := HJ7.out; omega
              case rel => exact ⟨(wrap64 (x9_1 + 1)), (by first | rfl | (simp; done) | (simp [*]; done)), H', ⟨by have := HK1.out; have := HJ7.out; omega⟩, ⟨by repeat (first | (with_reducible first | exact HB.out | apply below_alloc | apply pw_below_drewN | apply below_drew1 | refine below_set ?_ GE200.out) | exact HB.out)⟩⟩
             ·replace c88 := Bool.eq_false_iff.mpr c88
              subst c88
              have H1 : ((spinnakerref12_turns.f ((rd_T51 l0 x9_1).f0) ((rd_T51 l0 x9_1).f1) ((rd_T51 l0 x9_1).f2) ((rd_T51 l0 x9_1).f3) ((rd_T51 l0 x9_1).f4) ((rd_T51 l0 x9_1).f5) ((rd_T51 l0 x9_1).f6)).bind fun t210 => (if t210 = true then (if ((rd_T51 l0 x9_1).f4) > 0 then (spinnakerref12_loop.l0 kj7 l0 a1 a2 a3 (wrap64 (x9_1 + 1))) else (some false)) else (some false))) = some r := by rw [if_neg (show ¬ (false = true) by decide)] at H; exact H
              clear H
              have H := H1
              clear H1
              replace H := Option.bind_eq_some_iff.mp H
              obtain ⟨t210, A930, H⟩ := H
              replace H : (if t210 = true then (if ((rd_T51 l0 x9_1).f4) > 0 then (spinnakerref12_loop.l0 kj7 l0 a1 a2 a3 (wrap64 (x9_1 + 1))) else (some false)) else (some false)) = some r := H
              have A93 := Aside0.mk A930
              clear A930
              by_cases c94 : t210 = true
              ·subst c94
               have H1 : (if ((rd_T51 l0 x9_1).f4) > 0 then (spinnakerref12_loop.l0 kj7 l0 a1 a2 a3 (wrap64 (x9_1 + 1))) else (some false)) = some r := by rw [if_pos rfl] at H; exact H
               clear H
               have H := H1
               clear H1
               by_cases c95 : ((rd_T51 l0 x9_1).f4) > 0
               ·rw [if_pos c95] at H
                have c95b0 : decide (0 < ((rd_T51 l0 x9_1).f4)) = true := decide_eq_true c95
                clear c95
                have H' := Aside0.mk H
                clear H
                have hcz96_0 : wc.cell? ⟨gb200, 0, none⟩ = some (.int .i64 ((rd_T51 l0 x9_1).f0)) := (blk_cell BK200.out 0).trans rfl
                have hcz96_1 : wc.cell? ⟨gb200, 1, none⟩ = some (.int .i64 ((rd_T51 l0 x9_1).f1)) := (blk_cell BK200.out 1).trans rfl
                have hcz96_2 : wc.cell? ⟨gb200, 2, none⟩ = some (.int .i64 ((rd_T51 l0 x9_1).f2)) := (blk_cell BK200.out 2).trans rfl
                have hcz96_3 : wc.cell? ⟨gb200, 3, none⟩ = some (.int .i64 ((rd_T51 l0 x9_1).f3)) := (blk_cell BK200.out 3).trans rfl
                have hcz96_4 : wc.cell? ⟨gb200, 4, none⟩ = some (.int .i64 ((rd_T51 l0 x9_1).f4)) := (blk_cell BK200.out 4).trans rfl
                have hcz96_5 : wc.cell? ⟨gb200, 5, none⟩ = some (.bool ((rd_T51 l0 x9_1).f5)) := (blk_cell BK200.out 5).trans rfl
                have hcz96_6 : wc.cell? ⟨gb200, 6, none⟩ = some (.bool ((rd_T51 l0 x9_1).f6)) := (blk_cell BK200.out 6).trans rfl
                have hfz96_0 := blk_frozen BK200.out 0
                have hfz96_1 := blk_frozen BK200.out 1
                have hfz96_2 := blk_frozen BK200.out 2
                have hfz96_3 := blk_frozen BK200.out 3
                have hfz96_4 := blk_frozen BK200.out 4
                have hfz96_5 := blk_frozen BK200.out 5
                have hfz96_6 := blk_frozen BK200.out 6
                go_wp2_with (first | ((with_reducible refine gate_callee (f := 39) rfl ?_); refine goesL_ (some 54) rfl rfl Tryd.func39 (by kernel_rfl) rfl #[.agg #[.int .i64 ((rd_T51 l0 x9_1).f0), .int .i64 ((rd_T51 l0 x9_1).f1), .int .i64 ((rd_T51 l0 x9_1).f2), .int .i64 ((rd_T51 l0 x9_1).f3), .int .i64 ((rd_T51 l0 x9_1).f4), .bool ((rd_T51 l0 x9_1).f5), .bool ((rd_T51 l0 x9_1).f6)]] rfl (by (try simp only [List.map_toArray, List.map_cons, List.map_nil]); first | done | rfl | (simp only [List.length_drop, List.length_take]; rfl)) ?_; (with_reducible refine (spinnakerref03_May.calls kj7 ((rd_T51 l0 x9_1).f0) ((rd_T51 l0 x9_1).f1) ((rd_T51 l0 x9_1).f2) ((rd_T51 l0 x9_1).f3) ((rd_T51 l0 x9_1).f4) ((rd_T51 l0 x9_1).f5) ((rd_T51 l0 x9_1).f6) true _ A22.out).mono ?_); rintro e w97 ⟨rfl, hb⟩; refine ⟨_, rfl, ?_⟩; have n0_ := Aside0.mk (blk_below (g := gb200) (o := .cells #[.int .i64 ((rd_T51 l0 x9_1).f0), .int .i64 ((rd_T51 l0 x9_1).f1), .int .i64 ((rd_T51 l0 x9_1).f2), .int .i64 ((rd_T51 l0 x9_1).f3), .int .i64 ((rd_T51 l0 x9_1).f4), .bool ((rd_T51 l0 x9_1).f5), .bool ((rd_T51 l0 x9_1).f6)] 51 (0, 0)) (by (with_reducible repeat (first | refine blk_drewN ?_ _ | refine blk_drew ?_ | refine blk_alloc ?_ _)); exact BK200.out) hb); have n1_ := Aside0.mk (below_step (by repeat (first | (with_reducible first | exact HB.out | apply below_alloc | apply pw_below_drewN | apply below_drew1 | refine below_set ?_ GE200.out) | exact HB.out)) hb); clear BK200; clear HB; have BK200 := n0_; have HB := n1_; clear n0_ n1_; (try clear hb); (try clear hb2); (try clear hk); (try clear hi); have hcz98_0 : w97.cell? ⟨gb200, 0, none⟩ = some (.int .i64 ((rd_T51 l0 x9_1).f0)) := (blk_cell BK200.out 0).trans rfl; have hcz98_1 : w97.cell? ⟨gb200, 1, none⟩ = some (.int .i64 ((rd_T51 l0 x9_1).f1)) := (blk_cell BK200.out 1).trans rfl; have hcz98_2 : w97.cell? ⟨gb200, 2, none⟩ = some (.int .i64 ((rd_T51 l0 x9_1).f2)) := (blk_cell BK200.out 2).trans rfl; have hcz98_3 : w97.cell? ⟨gb200, 3, none⟩ = some (.int .i64 ((rd_T51 l0 x9_1).f3)) := (blk_cell BK200.out 3).trans rfl; have hcz98_4 : w97.cell? ⟨gb200, 4, none⟩ = some (.int .i64 ((rd_T51 l0 x9_1).f4)) := (blk_cell BK200.out 4).trans rfl; have hcz98_5 : w97.cell? ⟨gb200, 5, none⟩ = some (.bool ((rd_T51 l0 x9_1).f5)) := (blk_cell BK200.out 5).trans rfl; have hcz98_6 : w97.cell? ⟨gb200, 6, none⟩ = some (.bool ((rd_T51 l0 x9_1).f6)) := (blk_cell BK200.out 6).trans rfl; have hfz98_0 := blk_frozen BK200.out 0; have hfz98_1 := blk_frozen BK200.out 1; have hfz98_2 := blk_frozen BK200.out 2; have hfz98_3 := blk_frozen BK200.out 3; have hfz98_4 := blk_frozen BK200.out 4; have hfz98_5 := blk_frozen BK200.out 5; have hfz98_6 := blk_frozen BK200.out 6) | ((with_reducible refine gate_callee (f := 97) rfl ?_); refine goesL_ (some 115) rfl rfl Tryd.func97 (by kernel_rfl) rfl #[.agg #[.int .i64 ((rd_T51 l0 x9_1).f0), .int .i64 ((rd_T51 l0 x9_1).f1), .int .i64 ((rd_T51 l0 x9_1).f2), .int .i64 ((rd_T51 l0 x9_1).f3), .int .i64 ((rd_T51 l0 x9_1).f4), .bool ((rd_T51 l0 x9_1).f5), .bool ((rd_T51 l0 x9_1).f6)]] rfl (by (try simp only [List.map_toArray, List.map_cons, List.map_nil]); first | done | rfl | (simp only [List.length_drop, List.length_take]; rfl)) ?_; (with_reducible refine (spinnakerref12_reckons.calls ((rd_T51 l0 x9_1).f0) ((rd_T51 l0 x9_1).f1) ((rd_T51 l0 x9_1).f2) ((rd_T51 l0 x9_1).f3) ((rd_T51 l0 x9_1).f4) ((rd_T51 l0 x9_1).f5) ((rd_T51 l0 x9_1).f6) false _ A87.out).mono ?_); rintro e w99 ⟨rfl, hb⟩; refine ⟨_, rfl, ?_⟩; have n0_ := Aside0.mk (blk_below (g := gb200) (o := .cells #[.int .i64 ((rd_T51 l0 x9_1).f0), .int .i64 ((rd_T51 l0 x9_1).f1), .int .i64 ((rd_T51 l0 x9_1).f2), .int .i64 ((rd_T51 l0 x9_1).f3), .int .i64 ((rd_T51 l0 x9_1).f4), .bool ((rd_T51 l0 x9_1).f5), .bool ((rd_T51 l0 x9_1).f6)] 51 (0, 0)) (by (with_reducible repeat (first | refine blk_drewN ?_ _ | refine blk_drew ?_ | refine blk_alloc ?_ _)); exact BK200.out) hb); have n1_ := Aside0.mk (below_step (by repeat (first | (with_reducible first | exact HB.out | apply below_alloc | apply pw_below_drewN | apply below_drew1 | refine below_set ?_ GE200.out) | exact HB.out)) hb); clear BK200; clear HB; have BK200 := n0_; have HB := n1_; clear n0_ n1_; (try clear hb); (try clear hb2); (try clear hk); (try clear hi); have hcz100_0 : w99.cell? ⟨gb200, 0, none⟩ = some (.int .i64 ((rd_T51 l0 x9_1).f0)) := (blk_cell BK200.out 0).trans rfl; have hcz100_1 : w99.cell? ⟨gb200, 1, none⟩ = some (.int .i64 ((rd_T51 l0 x9_1).f1)) := (blk_cell BK200.out 1).trans rfl; have hcz100_2 : w99.cell? ⟨gb200, 2, none⟩ = some (.int .i64 ((rd_T51 l0 x9_1).f2)) := (blk_cell BK200.out 2).trans rfl; have hcz100_3 : w99.cell? ⟨gb200, 3, none⟩ = some (.int .i64 ((rd_T51 l0 x9_1).f3)) := (blk_cell BK200.out 3).trans rfl; have hcz100_4 : w99.cell? ⟨gb200, 4, none⟩ = some (.int .i64 ((rd_T51 l0 x9_1).f4)) := (blk_cell BK200.out 4).trans rfl; have hcz100_5 : w99.cell? ⟨gb200, 5, none⟩ = some (.bool ((rd_T51 l0 x9_1).f5)) := (blk_cell BK200.out 5).trans rfl; have hcz100_6 : w99.cell? ⟨gb200, 6, none⟩ = some (.bool ((rd_T51 l0 x9_1).f6)) := (blk_cell BK200.out 6).trans rfl; have hfz100_0 := blk_frozen BK200.out 0; have hfz100_1 := blk_frozen BK200.out 1; have hfz100_2 := blk_frozen BK200.out 2; have hfz100_3 := blk_frozen BK200.out 3; have hfz100_4 := blk_frozen BK200.out 4; have hfz100_5 := blk_frozen BK200.out 5; have hfz100_6 := blk_frozen BK200.out 6) | (go_at_call 98; (with_reducible refine (spinnakerref12_turns.calls ((rd_T51 l0 x9_1).f0) ((rd_T51 l0 x9_1).f1) ((rd_T51 l0 x9_1).f2) ((rd_T51 l0 x9_1).f3) ((rd_T51 l0 x9_1).f4) ((rd_T51 l0 x9_1).f5) ((rd_T51 l0 x9_1).f6) true _ A93.out).mono ?_); rintro e w101 ⟨rfl, hb⟩; have n0_ := Aside0.mk (blk_below (g := gb200) (o := .cells #[.int .i64 ((rd_T51 l0 x9_1).f0), .int .i64 ((rd_T51 l0 x9_1).f1), .int .i64 ((rd_T51 l0 x9_1).f2), .int .i64 ((rd_T51 l0 x9_1).f3), .int .i64 ((rd_T51 l0 x9_1).f4), .bool ((rd_T51 l0 x9_1).f5), .bool ((rd_T51 l0 x9_1).f6)] 51 (0, 0)) (by (with_reducible repeat (first | refine blk_drewN ?_ _ | refine blk_drew ?_ | refine blk_alloc ?_ _)); exact BK200.out) hb); have n1_ := Aside0.mk (below_step (by repeat (first | (with_reducible first | exact HB.out | apply below_alloc | apply pw_below_drewN | apply below_drew1 | refine below_set ?_ GE200.out) | exact HB.out)) hb); clear BK200; clear HB; have BK200 := n0_; have HB := n1_; clear n0_ n1_; (try clear hb); (try clear hb2); (try clear hk); (try clear hi); have hcz102_0 : w101.cell? ⟨gb200, 0, none⟩ = some (.int .i64 ((rd_T51 l0 x9_1).f0)) := (blk_cell BK200.out 0).trans rfl; have hcz102_1 : w101.cell? ⟨gb200, 1, none⟩ = some (.int .i64 ((rd_T51 l0 x9_1).f1)) := (blk_cell BK200.out 1).trans rfl; have hcz102_2 : w101.cell? ⟨gb200, 2, none⟩ = some (.int .i64 ((rd_T51 l0 x9_1).f2)) := (blk_cell BK200.out 2).trans rfl; have hcz102_3 : w101.cell? ⟨gb200, 3, none⟩ = some (.int .i64 ((rd_T51 l0 x9_1).f3)) := (blk_cell BK200.out 3).trans rfl; have hcz102_4 : w101.cell? ⟨gb200, 4, none⟩ = some (.int .i64 ((rd_T51 l0 x9_1).f4)) := (blk_cell BK200.out 4).trans rfl; have hcz102_5 : w101.cell? ⟨gb200, 5, none⟩ = some (.bool ((rd_T51 l0 x9_1).f5)) := (blk_cell BK200.out 5).trans rfl; have hcz102_6 : w101.cell? ⟨gb200, 6, none⟩ = some (.bool ((rd_T51 l0 x9_1).f6)) := (blk_cell BK200.out 6).trans rfl; have hfz102_0 := blk_frozen BK200.out 0; have hfz102_1 := blk_frozen BK200.out 1; have hfz102_2 := blk_frozen BK200.out 2; have hfz102_3 := blk_frozen BK200.out 3; have hfz102_4 := blk_frozen BK200.out 4; have hfz102_5 := blk_frozen BK200.out 5; have hfz102_6 := blk_frozen BK200.out 6))
                go_roundg kj7
                case measure => have := HK1.out; have := HJ7.out; omega
                case rel => exact ⟨(wrap64 (x9_1 + 1)), (by first | rfl | (simp; done) | (simp [*]; done)), H', ⟨by have := HK1.out; have := HJ7.out; omega⟩, ⟨by repeat (first | (with_reducible first | exact HB.out | apply below_alloc | apply pw_below_drewN | apply below_drew1 | refine below_set ?_ GE200.out) | exact HB.out)⟩⟩
               ·rw [if_neg c95] at H
                have c95b0 : decide (0 < ((rd_T51 l0 x9_1).f4)) = false := decide_eq_false c95
                clear c95
                obtain rfl := Option.some.inj H
                have hcz103_0 : wc.cell? ⟨gb200, 0, none⟩ = some (.int .i64 ((rd_T51 l0 x9_1).f0)) := (blk_cell BK200.out 0).trans rfl
                have hcz103_1 : wc.cell? ⟨gb200, 1, none⟩ = some (.int .i64 ((rd_T51 l0 x9_1).f1)) := (blk_cell BK200.out 1).trans rfl
                have hcz103_2 : wc.cell? ⟨gb200, 2, none⟩ = some (.int .i64 ((rd_T51 l0 x9_1).f2)) := (blk_cell BK200.out 2).trans rfl
                have hcz103_3 : wc.cell? ⟨gb200, 3, none⟩ = some (.int .i64 ((rd_T51 l0 x9_1).f3)) := (blk_cell BK200.out 3).trans rfl
                have hcz103_4 : wc.cell? ⟨gb200, 4, none⟩ = some (.int .i64 ((rd_T51 l0 x9_1).f4)) := (blk_cell BK200.out 4).trans rfl
                have hcz103_5 : wc.cell? ⟨gb200, 5, none⟩ = some (.bool ((rd_T51 l0 x9_1).f5)) := (blk_cell BK200.out 5).trans rfl
                have hcz103_6 : wc.cell? ⟨gb200, 6, none⟩ = some (.bool ((rd_T51 l0 x9_1).f6)) := (blk_cell BK200.out 6).trans rfl
                have hfz103_0 := blk_frozen BK200.out 0
                have hfz103_1 := blk_frozen BK200.out 1
                have hfz103_2 := blk_frozen BK200.out 2
                have hfz103_3 := blk_frozen BK200.out 3
                have hfz103_4 := blk_frozen BK200.out 4
                have hfz103_5 := blk_frozen BK200.out 5
                have hfz103_6 := blk_frozen BK200.out 6
                go_wp2_with (first | ((with_reducible refine gate_callee (f := 39) rfl ?_); refine goesL_ (some 54) rfl rfl Tryd.func39 (by kernel_rfl) rfl #[.agg #[.int .i64 ((rd_T51 l0 x9_1).f0), .int .i64 ((rd_T51 l0 x9_1).f1), .int .i64 ((rd_T51 l0 x9_1).f2), .int .i64 ((rd_T51 l0 x9_1).f3), .int .i64 ((rd_T51 l0 x9_1).f4), .bool ((rd_T51 l0 x9_1).f5), .bool ((rd_T51 l0 x9_1).f6)]] rfl (by (try simp only [List.map_toArray, List.map_cons, List.map_nil]); first | done | rfl | (simp only [List.length_drop, List.length_take]; rfl)) ?_; (with_reducible refine (spinnakerref03_May.calls kj7 ((rd_T51 l0 x9_1).f0) ((rd_T51 l0 x9_1).f1) ((rd_T51 l0 x9_1).f2) ((rd_T51 l0 x9_1).f3) ((rd_T51 l0 x9_1).f4) ((rd_T51 l0 x9_1).f5) ((rd_T51 l0 x9_1).f6) true _ A22.out).mono ?_); rintro e w104 ⟨rfl, hb⟩; refine ⟨_, rfl, ?_⟩; have n0_ := Aside0.mk (blk_below (g := gb200) (o := .cells #[.int .i64 ((rd_T51 l0 x9_1).f0), .int .i64 ((rd_T51 l0 x9_1).f1), .int .i64 ((rd_T51 l0 x9_1).f2), .int .i64 ((rd_T51 l0 x9_1).f3), .int .i64 ((rd_T51 l0 x9_1).f4), .bool ((rd_T51 l0 x9_1).f5), .bool ((rd_T51 l0 x9_1).f6)] 51 (0, 0)) (by (with_reducible repeat (first | refine blk_drewN ?_ _ | refine blk_drew ?_ | refine blk_alloc ?_ _)); exact BK200.out) hb); have n1_ := Aside0.mk (below_step (by repeat (first | (with_reducible first | exact HB.out | apply below_alloc | apply pw_below_drewN | apply below_drew1 | refine below_set ?_ GE200.out) | exact HB.out)) hb); clear BK200; clear HB; have BK200 := n0_; have HB := n1_; clear n0_ n1_; (try clear hb); (try clear hb2); (try clear hk); (try clear hi); have hcz105_0 : w104.cell? ⟨gb200, 0, none⟩ = some (.int .i64 ((rd_T51 l0 x9_1).f0)) := (blk_cell BK200.out 0).trans rfl; have hcz105_1 : w104.cell? ⟨gb200, 1, none⟩ = some (.int .i64 ((rd_T51 l0 x9_1).f1)) := (blk_cell BK200.out 1).trans rfl; have hcz105_2 : w104.cell? ⟨gb200, 2, none⟩ = some (.int .i64 ((rd_T51 l0 x9_1).f2)) := (blk_cell BK200.out 2).trans rfl; have hcz105_3 : w104.cell? ⟨gb200, 3, none⟩ = some (.int .i64 ((rd_T51 l0 x9_1).f3)) := (blk_cell BK200.out 3).trans rfl; have hcz105_4 : w104.cell? ⟨gb200, 4, none⟩ = some (.int .i64 ((rd_T51 l0 x9_1).f4)) := (blk_cell BK200.out 4).trans rfl; have hcz105_5 : w104.cell? ⟨gb200, 5, none⟩ = some (.bool ((rd_T51 l0 x9_1).f5)) := (blk_cell BK200.out 5).trans rfl; have hcz105_6 : w104.cell? ⟨gb200, 6, none⟩ = some (.bool ((rd_T51 l0 x9_1).f6)) := (blk_cell BK200.out 6).trans rfl; have hfz105_0 := blk_frozen BK200.out 0; have hfz105_1 := blk_frozen BK200.out 1; have hfz105_2 := blk_frozen BK200.out 2; have hfz105_3 := blk_frozen BK200.out 3; have hfz105_4 := blk_frozen BK200.out 4; have hfz105_5 := blk_frozen BK200.out 5; have hfz105_6 := blk_frozen BK200.out 6) | ((with_reducible refine gate_callee (f := 97) rfl ?_); refine goesL_ (some 115) rfl rfl Tryd.func97 (by kernel_rfl) rfl #[.agg #[.int .i64 ((rd_T51 l0 x9_1).f0), .int .i64 ((rd_T51 l0 x9_1).f1), .int .i64 ((rd_T51 l0 x9_1).f2), .int .i64 ((rd_T51 l0 x9_1).f3), .int .i64 ((rd_T51 l0 x9_1).f4), .bool ((rd_T51 l0 x9_1).f5), .bool ((rd_T51 l0 x9_1).f6)]] rfl (by (try simp only [List.map_toArray, List.map_cons, List.map_nil]); first | done | rfl | (simp only [List.length_drop, List.length_take]; rfl)) ?_; (with_reducible refine (spinnakerref12_reckons.calls ((rd_T51 l0 x9_1).f0) ((rd_T51 l0 x9_1).f1) ((rd_T51 l0 x9_1).f2) ((rd_T51 l0 x9_1).f3) ((rd_T51 l0 x9_1).f4) ((rd_T51 l0 x9_1).f5) ((rd_T51 l0 x9_1).f6) false _ A87.out).mono ?_); rintro e w106 ⟨rfl, hb⟩; refine ⟨_, rfl, ?_⟩; have n0_ := Aside0.mk (blk_below (g := gb200) (o := .cells #[.int .i64 ((rd_T51 l0 x9_1).f0), .int .i64 ((rd_T51 l0 x9_1).f1), .int .i64 ((rd_T51 l0 x9_1).f2), .int .i64 ((rd_T51 l0 x9_1).f3), .int .i64 ((rd_T51 l0 x9_1).f4), .bool ((rd_T51 l0 x9_1).f5), .bool ((rd_T51 l0 x9_1).f6)] 51 (0, 0)) (by (with_reducible repeat (first | refine blk_drewN ?_ _ | refine blk_drew ?_ | refine blk_alloc ?_ _)); exact BK200.out) hb); have n1_ := Aside0.mk (below_step (by repeat (first | (with_reducible first | exact HB.out | apply below_alloc | apply pw_below_drewN | apply below_drew1 | refine below_set ?_ GE200.out) | exact HB.out)) hb); clear BK200; clear HB; have BK200 := n0_; have HB := n1_; clear n0_ n1_; (try clear hb); (try clear hb2); (try clear hk); (try clear hi); have hcz107_0 : w106.cell? ⟨gb200, 0, none⟩ = some (.int .i64 ((rd_T51 l0 x9_1).f0)) := (blk_cell BK200.out 0).trans rfl; have hcz107_1 : w106.cell? ⟨gb200, 1, none⟩ = some (.int .i64 ((rd_T51 l0 x9_1).f1)) := (blk_cell BK200.out 1).trans rfl; have hcz107_2 : w106.cell? ⟨gb200, 2, none⟩ = some (.int .i64 ((rd_T51 l0 x9_1).f2)) := (blk_cell BK200.out 2).trans rfl; have hcz107_3 : w106.cell? ⟨gb200, 3, none⟩ = some (.int .i64 ((rd_T51 l0 x9_1).f3)) := (blk_cell BK200.out 3).trans rfl; have hcz107_4 : w106.cell? ⟨gb200, 4, none⟩ = some (.int .i64 ((rd_T51 l0 x9_1).f4)) := (blk_cell BK200.out 4).trans rfl; have hcz107_5 : w106.cell? ⟨gb200, 5, none⟩ = some (.bool ((rd_T51 l0 x9_1).f5)) := (blk_cell BK200.out 5).trans rfl; have hcz107_6 : w106.cell? ⟨gb200, 6, none⟩ = some (.bool ((rd_T51 l0 x9_1).f6)) := (blk_cell BK200.out 6).trans rfl; have hfz107_0 := blk_frozen BK200.out 0; have hfz107_1 := blk_frozen BK200.out 1; have hfz107_2 := blk_frozen BK200.out 2; have hfz107_3 := blk_frozen BK200.out 3; have hfz107_4 := blk_frozen BK200.out 4; have hfz107_5 := blk_frozen BK200.out 5; have hfz107_6 := blk_frozen BK200.out 6) | (go_at_call 98; (with_reducible refine (spinnakerref12_turns.calls ((rd_T51 l0 x9_1).f0) ((rd_T51 l0 x9_1).f1) ((rd_T51 l0 x9_1).f2) ((rd_T51 l0 x9_1).f3) ((rd_T51 l0 x9_1).f4) ((rd_T51 l0 x9_1).f5) ((rd_T51 l0 x9_1).f6) true _ A93.out).mono ?_); rintro e w108 ⟨rfl, hb⟩; have n0_ := Aside0.mk (blk_below (g := gb200) (o := .cells #[.int .i64 ((rd_T51 l0 x9_1).f0), .int .i64 ((rd_T51 l0 x9_1).f1), .int .i64 ((rd_T51 l0 x9_1).f2), .int .i64 ((rd_T51 l0 x9_1).f3), .int .i64 ((rd_T51 l0 x9_1).f4), .bool ((rd_T51 l0 x9_1).f5), .bool ((rd_T51 l0 x9_1).f6)] 51 (0, 0)) (by (with_reducible repeat (first | refine blk_drewN ?_ _ | refine blk_drew ?_ | refine blk_alloc ?_ _)); exact BK200.out) hb); have n1_ := Aside0.mk (below_step (by repeat (first | (with_reducible first | exact HB.out | apply below_alloc | apply pw_below_drewN | apply below_drew1 | refine below_set ?_ GE200.out) | exact HB.out)) hb); clear BK200; clear HB; have BK200 := n0_; have HB := n1_; clear n0_ n1_; (try clear hb); (try clear hb2); (try clear hk); (try clear hi); have hcz109_0 : w108.cell? ⟨gb200, 0, none⟩ = some (.int .i64 ((rd_T51 l0 x9_1).f0)) := (blk_cell BK200.out 0).trans rfl; have hcz109_1 : w108.cell? ⟨gb200, 1, none⟩ = some (.int .i64 ((rd_T51 l0 x9_1).f1)) := (blk_cell BK200.out 1).trans rfl; have hcz109_2 : w108.cell? ⟨gb200, 2, none⟩ = some (.int .i64 ((rd_T51 l0 x9_1).f2)) := (blk_cell BK200.out 2).trans rfl; have hcz109_3 : w108.cell? ⟨gb200, 3, none⟩ = some (.int .i64 ((rd_T51 l0 x9_1).f3)) := (blk_cell BK200.out 3).trans rfl; have hcz109_4 : w108.cell? ⟨gb200, 4, none⟩ = some (.int .i64 ((rd_T51 l0 x9_1).f4)) := (blk_cell BK200.out 4).trans rfl; have hcz109_5 : w108.cell? ⟨gb200, 5, none⟩ = some (.bool ((rd_T51 l0 x9_1).f5)) := (blk_cell BK200.out 5).trans rfl; have hcz109_6 : w108.cell? ⟨gb200, 6, none⟩ = some (.bool ((rd_T51 l0 x9_1).f6)) := (blk_cell BK200.out 6).trans rfl; have hfz109_0 := blk_frozen BK200.out 0; have hfz109_1 := blk_frozen BK200.out 1; have hfz109_2 := blk_frozen BK200.out 2; have hfz109_3 := blk_frozen BK200.out 3; have hfz109_4 := blk_frozen BK200.out 4; have hfz109_5 := blk_frozen BK200.out 5; have hfz109_6 := blk_frozen BK200.out 6))
                go_ret
                exact ⟨by first | rfl | (simp [errW_none, errW_some] <;> rfl) | (simp [*, errW_none, errW_some] <;> rfl), by repeat (first | (with_reducible first | exact HB.out | apply below_alloc | apply pw_below_drewN | apply below_drew1 | refine below_set ?_ GE200.out) | exact HB.out)⟩
              ·replace c94 := Bool.eq_false_iff.mpr c94
               subst c94
               have H1 : (some false) = some r := by rw [if_neg (show ¬ (false = true) by decide)] at H; exact H
               clear H
               have H := H1
               clear H1
               obtain rfl := Option.some.inj H
               have hcz110_0 : wc.cell? ⟨gb200, 0, none⟩ = some (.int .i64 ((rd_T51 l0 x9_1).f0)) := (blk_cell BK200.out 0).trans rfl
               have hcz110_1 : wc.cell? ⟨gb200, 1, none⟩ = some (.int .i64 ((rd_T51 l0 x9_1).f1)) := (blk_cell BK200.out 1).trans rfl
               have hcz110_2 : wc.cell? ⟨gb200, 2, none⟩ = some (.int .i64 ((rd_T51 l0 x9_1).f2)) := (blk_cell BK200.out 2).trans rfl
               have hcz110_3 : wc.cell? ⟨gb200, 3, none⟩ = some (.int .i64 ((rd_T51 l0 x9_1).f3)) := (blk_cell BK200.out 3).trans rfl
               have hcz110_4 : wc.cell? ⟨gb200, 4, none⟩ = some (.int .i64 ((rd_T51 l0 x9_1).f4)) := (blk_cell BK200.out 4).trans rfl
               have hcz110_5 : wc.cell? ⟨gb200, 5, none⟩ = some (.bool ((rd_T51 l0 x9_1).f5)) := (blk_cell BK200.out 5).trans rfl
               have hcz110_6 : wc.cell? ⟨gb200, 6, none⟩ = some (.bool ((rd_T51 l0 x9_1).f6)) := (blk_cell BK200.out 6).trans rfl
               have hfz110_0 := blk_frozen BK200.out 0
               have hfz110_1 := blk_frozen BK200.out 1
               have hfz110_2 := blk_frozen BK200.out 2
               have hfz110_3 := blk_frozen BK200.out 3
               have hfz110_4 := blk_frozen BK200.out 4
               have hfz110_5 := blk_frozen BK200.out 5
               have hfz110_6 := blk_frozen BK200.out 6
               go_wp2_with (first | ((with_reducible refine gate_callee (f := 39) rfl ?_); refine goesL_ (some 54) rfl rfl Tryd.func39 (by kernel_rfl) rfl #[.agg #[.int .i64 ((rd_T51 l0 x9_1).f0), .int .i64 ((rd_T51 l0 x9_1).f1), .int .i64 ((rd_T51 l0 x9_1).f2), .int .i64 ((rd_T51 l0 x9_1).f3), .int .i64 ((rd_T51 l0 x9_1).f4), .bool ((rd_T51 l0 x9_1).f5), .bool ((rd_T51 l0 x9_1).f6)]] rfl (by (try simp only [List.map_toArray, List.map_cons, List.map_nil]); first | done | rfl | (simp only [List.length_drop, List.length_take]; rfl)) ?_; (with_reducible refine (spinnakerref03_May.calls kj7 ((rd_T51 l0 x9_1).f0) ((rd_T51 l0 x9_1).f1) ((rd_T51 l0 x9_1).f2) ((rd_T51 l0 x9_1).f3) ((rd_T51 l0 x9_1).f4) ((rd_T51 l0 x9_1).f5) ((rd_T51 l0 x9_1).f6) true _ A22.out).mono ?_); rintro e w111 ⟨rfl, hb⟩; refine ⟨_, rfl, ?_⟩; have n0_ := Aside0.mk (blk_below (g := gb200) (o := .cells #[.int .i64 ((rd_T51 l0 x9_1).f0), .int .i64 ((rd_T51 l0 x9_1).f1), .int .i64 ((rd_T51 l0 x9_1).f2), .int .i64 ((rd_T51 l0 x9_1).f3), .int .i64 ((rd_T51 l0 x9_1).f4), .bool ((rd_T51 l0 x9_1).f5), .bool ((rd_T51 l0 x9_1).f6)] 51 (0, 0)) (by (with_reducible repeat (first | refine blk_drewN ?_ _ | refine blk_drew ?_ | refine blk_alloc ?_ _)); exact BK200.out) hb); have n1_ := Aside0.mk (below_step (by repeat (first | (with_reducible first | exact HB.out | apply below_alloc | apply pw_below_drewN | apply below_drew1 | refine below_set ?_ GE200.out) | exact HB.out)) hb); clear BK200; clear HB; have BK200 := n0_; have HB := n1_; clear n0_ n1_; (try clear hb); (try clear hb2); (try clear hk); (try clear hi); have hcz112_0 : w111.cell? ⟨gb200, 0, none⟩ = some (.int .i64 ((rd_T51 l0 x9_1).f0)) := (blk_cell BK200.out 0).trans rfl; have hcz112_1 : w111.cell? ⟨gb200, 1, none⟩ = some (.int .i64 ((rd_T51 l0 x9_1).f1)) := (blk_cell BK200.out 1).trans rfl; have hcz112_2 : w111.cell? ⟨gb200, 2, none⟩ = some (.int .i64 ((rd_T51 l0 x9_1).f2)) := (blk_cell BK200.out 2).trans rfl; have hcz112_3 : w111.cell? ⟨gb200, 3, none⟩ = some (.int .i64 ((rd_T51 l0 x9_1).f3)) := (blk_cell BK200.out 3).trans rfl; have hcz112_4 : w111.cell? ⟨gb200, 4, none⟩ = some (.int .i64 ((rd_T51 l0 x9_1).f4)) := (blk_cell BK200.out 4).trans rfl; have hcz112_5 : w111.cell? ⟨gb200, 5, none⟩ = some (.bool ((rd_T51 l0 x9_1).f5)) := (blk_cell BK200.out 5).trans rfl; have hcz112_6 : w111.cell? ⟨gb200, 6, none⟩ = some (.bool ((rd_T51 l0 x9_1).f6)) := (blk_cell BK200.out 6).trans rfl; have hfz112_0 := blk_frozen BK200.out 0; have hfz112_1 := blk_frozen BK200.out 1; have hfz112_2 := blk_frozen BK200.out 2; have hfz112_3 := blk_frozen BK200.out 3; have hfz112_4 := blk_frozen BK200.out 4; have hfz112_5 := blk_frozen BK200.out 5; have hfz112_6 := blk_frozen BK200.out 6) | ((with_reducible refine gate_callee (f := 97) rfl ?_); refine goesL_ (some 115) rfl rfl Tryd.func97 (by kernel_rfl) rfl #[.agg #[.int .i64 ((rd_T51 l0 x9_1).f0), .int .i64 ((rd_T51 l0 x9_1).f1), .int .i64 ((rd_T51 l0 x9_1).f2), .int .i64 ((rd_T51 l0 x9_1).f3), .int .i64 ((rd_T51 l0 x9_1).f4), .bool ((rd_T51 l0 x9_1).f5), .bool ((rd_T51 l0 x9_1).f6)]] rfl (by (try simp only [List.map_toArray, List.map_cons, List.map_nil]); first | done | rfl | (simp only [List.length_drop, List.length_take]; rfl)) ?_; (with_reducible refine (spinnakerref12_reckons.calls ((rd_T51 l0 x9_1).f0) ((rd_T51 l0 x9_1).f1) ((rd_T51 l0 x9_1).f2) ((rd_T51 l0 x9_1).f3) ((rd_T51 l0 x9_1).f4) ((rd_T51 l0 x9_1).f5) ((rd_T51 l0 x9_1).f6) false _ A87.out).mono ?_); rintro e w113 ⟨rfl, hb⟩; refine ⟨_, rfl, ?_⟩; have n0_ := Aside0.mk (blk_below (g := gb200) (o := .cells #[.int .i64 ((rd_T51 l0 x9_1).f0), .int .i64 ((rd_T51 l0 x9_1).f1), .int .i64 ((rd_T51 l0 x9_1).f2), .int .i64 ((rd_T51 l0 x9_1).f3), .int .i64 ((rd_T51 l0 x9_1).f4), .bool ((rd_T51 l0 x9_1).f5), .bool ((rd_T51 l0 x9_1).f6)] 51 (0, 0)) (by (with_reducible repeat (first | refine blk_drewN ?_ _ | refine blk_drew ?_ | refine blk_alloc ?_ _)); exact BK200.out) hb); have n1_ := Aside0.mk (below_step (by repeat (first | (with_reducible first | exact HB.out | apply below_alloc | apply pw_below_drewN | apply below_drew1 | refine below_set ?_ GE200.out) | exact HB.out)) hb); clear BK200; clear HB; have BK200 := n0_; have HB := n1_; clear n0_ n1_; (try clear hb); (try clear hb2); (try clear hk); (try clear hi); have hcz114_0 : w113.cell? ⟨gb200, 0, none⟩ = some (.int .i64 ((rd_T51 l0 x9_1).f0)) := (blk_cell BK200.out 0).trans rfl; have hcz114_1 : w113.cell? ⟨gb200, 1, none⟩ = some (.int .i64 ((rd_T51 l0 x9_1).f1)) := (blk_cell BK200.out 1).trans rfl; have hcz114_2 : w113.cell? ⟨gb200, 2, none⟩ = some (.int .i64 ((rd_T51 l0 x9_1).f2)) := (blk_cell BK200.out 2).trans rfl; have hcz114_3 : w113.cell? ⟨gb200, 3, none⟩ = some (.int .i64 ((rd_T51 l0 x9_1).f3)) := (blk_cell BK200.out 3).trans rfl; have hcz114_4 : w113.cell? ⟨gb200, 4, none⟩ = some (.int .i64 ((rd_T51 l0 x9_1).f4)) := (blk_cell BK200.out 4).trans rfl; have hcz114_5 : w113.cell? ⟨gb200, 5, none⟩ = some (.bool ((rd_T51 l0 x9_1).f5)) := (blk_cell BK200.out 5).trans rfl; have hcz114_6 : w113.cell? ⟨gb200, 6, none⟩ = some (.bool ((rd_T51 l0 x9_1).f6)) := (blk_cell BK200.out 6).trans rfl; have hfz114_0 := blk_frozen BK200.out 0; have hfz114_1 := blk_frozen BK200.out 1; have hfz114_2 := blk_frozen BK200.out 2; have hfz114_3 := blk_frozen BK200.out 3; have hfz114_4 := blk_frozen BK200.out 4; have hfz114_5 := blk_frozen BK200.out 5; have hfz114_6 := blk_frozen BK200.out 6) | (go_at_call 98; (with_reducible refine (spinnakerref12_turns.calls ((rd_T51 l0 x9_1).f0) ((rd_T51 l0 x9_1).f1) ((rd_T51 l0 x9_1).f2) ((rd_T51 l0 x9_1).f3) ((rd_T51 l0 x9_1).f4) ((rd_T51 l0 x9_1).f5) ((rd_T51 l0 x9_1).f6) false _ A93.out).mono ?_); rintro e w115 ⟨rfl, hb⟩; have n0_ := Aside0.mk (blk_below (g := gb200) (o := .cells #[.int .i64 ((rd_T51 l0 x9_1).f0), .int .i64 ((rd_T51 l0 x9_1).f1), .int .i64 ((rd_T51 l0 x9_1).f2), .int .i64 ((rd_T51 l0 x9_1).f3), .int .i64 ((rd_T51 l0 x9_1).f4), .bool ((rd_T51 l0 x9_1).f5), .bool ((rd_T51 l0 x9_1).f6)] 51 (0, 0)) (by (with_reducible repeat (first | refine blk_drewN ?_ _ | refine blk_drew ?_ | refine blk_alloc ?_ _)); exact BK200.out) hb); have n1_ := Aside0.mk (below_step (by repeat (first | (with_reducible first | exact HB.out | apply below_alloc | apply pw_below_drewN | apply below_drew1 | refine below_set ?_ GE200.out) | exact HB.out)) hb); clear BK200; clear HB; have BK200 := n0_; have HB := n1_; clear n0_ n1_; (try clear hb); (try clear hb2); (try clear hk); (try clear hi)))
               go_ret
               exact ⟨by first | rfl | (simp [errW_none, errW_some] <;> rfl) | (simp [*, errW_none, errW_some] <;> rfl), by repeat (first | (with_reducible first | exact HB.out | apply below_alloc | apply pw_below_drewN | apply below_drew1 | refine below_set ?_ GE200.out) | exact HB.out)⟩
            ·rw [if_neg c86] at H
             have c86b0 : decide (x9_1 < a3) = false := decide_eq_false c86
             clear c86
             replace H := Option.bind_eq_some_iff.mp H
             obtain ⟨t211, A1160, H⟩ := H
             replace H : (if t211 = true then (if ((rd_T51 l0 x9_1).f4) = (wrap64 (4 * (wrap64 (a1 - a3)))) then (spinnakerref12_loop.l0 kj7 l0 a1 a2 a3 (wrap64 (x9_1 + 1))) else (some false)) else (some false)) = some r := H
             have A116 := Aside0.mk A1160
             clear A1160
             by_cases c117 : t211 = true
             ·subst c117
              have H1 : (if ((rd_T51 l0 x9_1).f4) = (wrap64 (4 * (wrap64 (a1 - a3)))) then (spinnakerref12_loop.l0 kj7 l0 a1 a2 a3 (wrap64 (x9_1 + 1))) else (some false)) = some r := by rw [if_pos rfl] at H; exact H
              clear H
              have H := H1
              clear H1
              by_cases c118 : ((rd_T51 l0 x9_1).f4) = (wrap64 (4 * (wrap64 (a1 - a3))))
              ·rw [if_pos c118] at H
               have c118b0 : (((rd_T51 l0 x9_1).f4) == (wrap64 (4 * (wrap64 (a1 - a3))))) = true := beq_iff_eq.mpr c118
               have c118b1 : (((rd_T51 l0 x9_1).f4) != (wrap64 (4 * (wrap64 (a1 - a3))))) = false := bne_eq_false_iff_eq.mpr c118
               clear c118
               have H' := Aside0.mk H
               clear H
               have hcz119_0 : wc.cell? ⟨gb200, 0, none⟩ = some (.int .i64 ((rd_T51 l0 x9_1).f0)) := (blk_cell BK200.out 0).trans rfl
               have hcz119_1 : wc.cell? ⟨gb200, 1, none⟩ = some (.int .i64 ((rd_T51 l0 x9_1).f1)) := (blk_cell BK200.out 1).trans rfl
               have hcz119_2 : wc.cell? ⟨gb200, 2, none⟩ = some (.int .i64 ((rd_T51 l0 x9_1).f2)) := (blk_cell BK200.out 2).trans rfl
               have hcz119_3 : wc.cell? ⟨gb200, 3, none⟩ = some (.int .i64 ((rd_T51 l0 x9_1).f3)) := (blk_cell BK200.out 3).trans rfl
               have hcz119_4 : wc.cell? ⟨gb200, 4, none⟩ = some (.int .i64 ((rd_T51 l0 x9_1).f4)) := (blk_cell BK200.out 4).trans rfl
               have hcz119_5 : wc.cell? ⟨gb200, 5, none⟩ = some (.bool ((rd_T51 l0 x9_1).f5)) := (blk_cell BK200.out 5).trans rfl
               have hcz119_6 : wc.cell? ⟨gb200, 6, none⟩ = some (.bool ((rd_T51 l0 x9_1).f6)) := (blk_cell BK200.out 6).trans rfl
               have hfz119_0 := blk_frozen BK200.out 0
               have hfz119_1 := blk_frozen BK200.out 1
               have hfz119_2 := blk_frozen BK200.out 2
               have hfz119_3 := blk_frozen BK200.out 3
               have hfz119_4 := blk_frozen BK200.out 4
               have hfz119_5 := blk_frozen BK200.out 5
               have hfz119_6 := blk_frozen BK200.out 6
               go_wp2_with (first | ((with_reducible refine gate_callee (f := 39) rfl ?_); refine goesL_ (some 54) rfl rfl Tryd.func39 (by kernel_rfl) rfl #[.agg #[.int .i64 ((rd_T51 l0 x9_1).f0), .int .i64 ((rd_T51 l0 x9_1).f1), .int .i64 ((rd_T51 l0 x9_1).f2), .int .i64 ((rd_T51 l0 x9_1).f3), .int .i64 ((rd_T51 l0 x9_1).f4), .bool ((rd_T51 l0 x9_1).f5), .bool ((rd_T51 l0 x9_1).f6)]] rfl (by (try simp only [List.map_toArray, List.map_cons, List.map_nil]); first | done | rfl | (simp only [List.length_drop, List.length_take]; rfl)) ?_; (with_reducible refine (spinnakerref03_May.calls kj7 ((rd_T51 l0 x9_1).f0) ((rd_T51 l0 x9_1).f1) ((rd_T51 l0 x9_1).f2) ((rd_T51 l0 x9_1).f3) ((rd_T51 l0 x9_1).f4) ((rd_T51 l0 x9_1).f5) ((rd_T51 l0 x9_1).f6) true _ A22.out).mono ?_); rintro e w120 ⟨rfl, hb⟩; refine ⟨_, rfl, ?_⟩; have n0_ := Aside0.mk (blk_below (g := gb200) (o := .cells #[.int .i64 ((rd_T51 l0 x9_1).f0), .int .i64 ((rd_T51 l0 x9_1).f1), .int .i64 ((rd_T51 l0 x9_1).f2), .int .i64 ((rd_T51 l0 x9_1).f3), .int .i64 ((rd_T51 l0 x9_1).f4), .bool ((rd_T51 l0 x9_1).f5), .bool ((rd_T51 l0 x9_1).f6)] 51 (0, 0)) (by (with_reducible repeat (first | refine blk_drewN ?_ _ | refine blk_drew ?_ | refine blk_alloc ?_ _)); exact BK200.out) hb); have n1_ := Aside0.mk (below_step (by repeat (first | (with_reducible first | exact HB.out | apply below_alloc | apply pw_below_drewN | apply below_drew1 | refine below_set ?_ GE200.out) | exact HB.out)) hb); clear BK200; clear HB; have BK200 := n0_; have HB := n1_; clear n0_ n1_; (try clear hb); (try clear hb2); (try clear hk); (try clear hi); have hcz121_0 : w120.cell? ⟨gb200, 0, none⟩ = some (.int .i64 ((rd_T51 l0 x9_1).f0)) := (blk_cell BK200.out 0).trans rfl; have hcz121_1 : w120.cell? ⟨gb200, 1, none⟩ = some (.int .i64 ((rd_T51 l0 x9_1).f1)) := (blk_cell BK200.out 1).trans rfl; have hcz121_2 : w120.cell? ⟨gb200, 2, none⟩ = some (.int .i64 ((rd_T51 l0 x9_1).f2)) := (blk_cell BK200.out 2).trans rfl; have hcz121_3 : w120.cell? ⟨gb200, 3, none⟩ = some (.int .i64 ((rd_T51 l0 x9_1).f3)) := (blk_cell BK200.out 3).trans rfl; have hcz121_4 : w120.cell? ⟨gb200, 4, none⟩ = some (.int .i64 ((rd_T51 l0 x9_1).f4)) := (blk_cell BK200.out 4).trans rfl; have hcz121_5 : w120.cell? ⟨gb200, 5, none⟩ = some (.bool ((rd_T51 l0 x9_1).f5)) := (blk_cell BK200.out 5).trans rfl; have hcz121_6 : w120.cell? ⟨gb200, 6, none⟩ = some (.bool ((rd_T51 l0 x9_1).f6)) := (blk_cell BK200.out 6).trans rfl; have hfz121_0 := blk_frozen BK200.out 0; have hfz121_1 := blk_frozen BK200.out 1; have hfz121_2 := blk_frozen BK200.out 2; have hfz121_3 := blk_frozen BK200.out 3; have hfz121_4 := blk_frozen BK200.out 4; have hfz121_5 := blk_frozen BK200.out 5; have hfz121_6 := blk_frozen BK200.out 6) | ((with_reducible refine gate_callee (f := 98) rfl ?_); refine goesL_ (some 41) rfl rfl Tryd.func98 (by kernel_rfl) rfl #[.agg #[.int .i64 ((rd_T51 l0 x9_1).f0), .int .i64 ((rd_T51 l0 x9_1).f1), .int .i64 ((rd_T51 l0 x9_1).f2), .int .i64 ((rd_T51 l0 x9_1).f3), .int .i64 ((rd_T51 l0 x9_1).f4), .bool ((rd_T51 l0 x9_1).f5), .bool ((rd_T51 l0 x9_1).f6)]] rfl (by (try simp only [List.map_toArray, List.map_cons, List.map_nil]); first | done | rfl | (simp only [List.length_drop, List.length_take]; rfl)) ?_; (with_reducible refine (spinnakerref12_turns.calls ((rd_T51 l0 x9_1).f0) ((rd_T51 l0 x9_1).f1) ((rd_T51 l0 x9_1).f2) ((rd_T51 l0 x9_1).f3) ((rd_T51 l0 x9_1).f4) ((rd_T51 l0 x9_1).f5) ((rd_T51 l0 x9_1).f6) true _ A116.out).mono ?_); rintro e w122 ⟨rfl, hb⟩; refine ⟨_, rfl, ?_⟩; have n0_ := Aside0.mk (blk_below (g := gb200) (o := .cells #[.int .i64 ((rd_T51 l0 x9_1).f0), .int .i64 ((rd_T51 l0 x9_1).f1), .int .i64 ((rd_T51 l0 x9_1).f2), .int .i64 ((rd_T51 l0 x9_1).f3), .int .i64 ((rd_T51 l0 x9_1).f4), .bool ((rd_T51 l0 x9_1).f5), .bool ((rd_T51 l0 x9_1).f6)] 51 (0, 0)) (by (with_reducible repeat (first | refine blk_drewN ?_ _ | refine blk_drew ?_ | refine blk_alloc ?_ _)); exact BK200.out) hb); have n1_ := Aside0.mk (below_step (by repeat (first | (with_reducible first | exact HB.out | apply below_alloc | apply pw_below_drewN | apply below_drew1 | refine below_set ?_ GE200.out) | exact HB.out)) hb); clear BK200; clear HB; have BK200 := n0_; have HB := n1_; clear n0_ n1_; (try clear hb); (try clear hb2); (try clear hk); (try clear hi); have hcz123_0 : w122.cell? ⟨gb200, 0, none⟩ = some (.int .i64 ((rd_T51 l0 x9_1).f0)) := (blk_cell BK200.out 0).trans rfl; have hcz123_1 : w122.cell? ⟨gb200, 1, none⟩ = some (.int .i64 ((rd_T51 l0 x9_1).f1)) := (blk_cell BK200.out 1).trans rfl; have hcz123_2 : w122.cell? ⟨gb200, 2, none⟩ = some (.int .i64 ((rd_T51 l0 x9_1).f2)) := (blk_cell BK200.out 2).trans rfl; have hcz123_3 : w122.cell? ⟨gb200, 3, none⟩ = some (.int .i64 ((rd_T51 l0 x9_1).f3)) := (blk_cell BK200.out 3).trans rfl; have hcz123_4 : w122.cell? ⟨gb200, 4, none⟩ = some (.int .i64 ((rd_T51 l0 x9_1).f4)) := (blk_cell BK200.out 4).trans rfl; have hcz123_5 : w122.cell? ⟨gb200, 5, none⟩ = some (.bool ((rd_T51 l0 x9_1).f5)) := (blk_cell BK200.out 5).trans rfl; have hcz123_6 : w122.cell? ⟨gb200, 6, none⟩ = some (.bool ((rd_T51 l0 x9_1).f6)) := (blk_cell BK200.out 6).trans rfl; have hfz123_0 := blk_frozen BK200.out 0; have hfz123_1 := blk_frozen BK200.out 1; have hfz123_2 := blk_frozen BK200.out 2; have hfz123_3 := blk_frozen BK200.out 3; have hfz123_4 := blk_frozen BK200.out 4; have hfz123_5 := blk_frozen BK200.out 5; have hfz123_6 := blk_frozen BK200.out 6))
               go_roundg kj7
               case measure => have := HK1.out; have := HJ7.out; omega
               case rel => exact ⟨(wrap64 (x9_1 + 1)), (by first | rfl | (simp; done) | (simp [*]; done)), H', ⟨by have := HK1.out; have := HJ7.out; omega⟩, ⟨by repeat (first | (with_reducible first | exact HB.out | apply below_alloc | apply pw_below_drewN | apply below_drew1 | refine below_set ?_ GE200.out) | exact HB.out)⟩⟩
              ·rw [if_neg c118] at H
               have c118b0 : (((rd_T51 l0 x9_1).f4) == (wrap64 (4 * (wrap64 (a1 - a3))))) = false := beq_eq_false_iff_ne.mpr c118
               have c118b1 : (((rd_T51 l0 x9_1).f4) != (wrap64 (4 * (wrap64 (a1 - a3))))) = true := bne_iff_ne.mpr c118
               obtain rfl := Option.some.inj H
               have hcz124_0 : wc.cell? ⟨gb200, 0, none⟩ = some (.int .i64 ((rd_T51 l0 x9_1).f0)) := (blk_cell BK200.out 0).trans rfl
               have hcz124_1 : wc.cell? ⟨gb200, 1, none⟩ = some (.int .i64 ((rd_T51 l0 x9_1).f1)) := (blk_cell BK200.out 1).trans rfl
               have hcz124_2 : wc.cell? ⟨gb200, 2, none⟩ = some (.int .i64 ((rd_T51 l0 x9_1).f2)) := (blk_cell BK200.out 2).trans rfl
               have hcz124_3 : wc.cell? ⟨gb200, 3, none⟩ = some (.int .i64 ((rd_T51 l0 x9_1).f3)) := (blk_cell BK200.out 3).trans rfl
               have hcz124_4 : wc.cell? ⟨gb200, 4, none⟩ = some (.int .i64 ((rd_T51 l0 x9_1).f4)) := (blk_cell BK200.out 4).trans rfl
               have hcz124_5 : wc.cell? ⟨gb200, 5, none⟩ = some (.bool ((rd_T51 l0 x9_1).f5)) := (blk_cell BK200.out 5).trans rfl
               have hcz124_6 : wc.cell? ⟨gb200, 6, none⟩ = some (.bool ((rd_T51 l0 x9_1).f6)) := (blk_cell BK200.out 6).trans rfl
               have hfz124_0 := blk_frozen BK200.out 0
               have hfz124_1 := blk_frozen BK200.out 1
               have hfz124_2 := blk_frozen BK200.out 2
               have hfz124_3 := blk_frozen BK200.out 3
               have hfz124_4 := blk_frozen BK200.out 4
               have hfz124_5 := blk_frozen BK200.out 5
               have hfz124_6 := blk_frozen BK200.out 6
               go_wp2_with (first | ((with_reducible refine gate_callee (f := 39) rfl ?_); refine goesL_ (some 54) rfl rfl Tryd.func39 (by kernel_rfl) rfl #[.agg #[.int .i64 ((rd_T51 l0 x9_1).f0), .int .i64 ((rd_T51 l0 x9_1).f1), .int .i64 ((rd_T51 l0 x9_1).f2), .int .i64 ((rd_T51 l0 x9_1).f3), .int .i64 ((rd_T51 l0 x9_1).f4), .bool ((rd_T51 l0 x9_1).f5), .bool ((rd_T51 l0 x9_1).f6)]] rfl (by (try simp only [List.map_toArray, List.map_cons, List.map_nil]); first | done | rfl | (simp only [List.length_drop, List.length_take]; rfl)) ?_; (with_reducible refine (spinnakerref03_May.calls kj7 ((rd_T51 l0 x9_1).f0) ((rd_T51 l0 x9_1).f1) ((rd_T51 l0 x9_1).f2) ((rd_T51 l0 x9_1).f3) ((rd_T51 l0 x9_1).f4) ((rd_T51 l0 x9_1).f5) ((rd_T51 l0 x9_1).f6) true _ A22.out).mono ?_); rintro e w125 ⟨rfl, hb⟩; refine ⟨_, rfl, ?_⟩; have n0_ := Aside0.mk (blk_below (g := gb200) (o := .cells #[.int .i64 ((rd_T51 l0 x9_1).f0), .int .i64 ((rd_T51 l0 x9_1).f1), .int .i64 ((rd_T51 l0 x9_1).f2), .int .i64 ((rd_T51 l0 x9_1).f3), .int .i64 ((rd_T51 l0 x9_1).f4), .bool ((rd_T51 l0 x9_1).f5), .bool ((rd_T51 l0 x9_1).f6)] 51 (0, 0)) (by (with_reducible repeat (first | refine blk_drewN ?_ _ | refine blk_drew ?_ | refine blk_alloc ?_ _)); exact BK200.out) hb); have n1_ := Aside0.mk (below_step (by repeat (first | (with_reducible first | exact HB.out | apply below_alloc | apply pw_below_drewN | apply below_drew1 | refine below_set ?_ GE200.out) | exact HB.out)) hb); clear BK200; clear HB; have BK200 := n0_; have HB := n1_; clear n0_ n1_; (try clear hb); (try clear hb2); (try clear hk); (try clear hi); have hcz126_0 : w125.cell? ⟨gb200, 0, none⟩ = some (.int .i64 ((rd_T51 l0 x9_1).f0)) := (blk_cell BK200.out 0).trans rfl; have hcz126_1 : w125.cell? ⟨gb200, 1, none⟩ = some (.int .i64 ((rd_T51 l0 x9_1).f1)) := (blk_cell BK200.out 1).trans rfl; have hcz126_2 : w125.cell? ⟨gb200, 2, none⟩ = some (.int .i64 ((rd_T51 l0 x9_1).f2)) := (blk_cell BK200.out 2).trans rfl; have hcz126_3 : w125.cell? ⟨gb200, 3, none⟩ = some (.int .i64 ((rd_T51 l0 x9_1).f3)) := (blk_cell BK200.out 3).trans rfl; have hcz126_4 : w125.cell? ⟨gb200, 4, none⟩ = some (.int .i64 ((rd_T51 l0 x9_1).f4)) := (blk_cell BK200.out 4).trans rfl; have hcz126_5 : w125.cell? ⟨gb200, 5, none⟩ = some (.bool ((rd_T51 l0 x9_1).f5)) := (blk_cell BK200.out 5).trans rfl; have hcz126_6 : w125.cell? ⟨gb200, 6, none⟩ = some (.bool ((rd_T51 l0 x9_1).f6)) := (blk_cell BK200.out 6).trans rfl; have hfz126_0 := blk_frozen BK200.out 0; have hfz126_1 := blk_frozen BK200.out 1; have hfz126_2 := blk_frozen BK200.out 2; have hfz126_3 := blk_frozen BK200.out 3; have hfz126_4 := blk_frozen BK200.out 4; have hfz126_5 := blk_frozen BK200.out 5; have hfz126_6 := blk_frozen BK200.out 6) | ((with_reducible refine gate_callee (f := 98) rfl ?_); refine goesL_ (some 41) rfl rfl Tryd.func98 (by kernel_rfl) rfl #[.agg #[.int .i64 ((rd_T51 l0 x9_1).f0), .int .i64 ((rd_T51 l0 x9_1).f1), .int .i64 ((rd_T51 l0 x9_1).f2), .int .i64 ((rd_T51 l0 x9_1).f3), .int .i64 ((rd_T51 l0 x9_1).f4), .bool ((rd_T51 l0 x9_1).f5), .bool ((rd_T51 l0 x9_1).f6)]] rfl (by (try simp only [List.map_toArray, List.map_cons, List.map_nil]); first | done | rfl | (simp only [List.length_drop, List.length_take]; rfl)) ?_; (with_reducible refine (spinnakerref12_turns.calls ((rd_T51 l0 x9_1).f0) ((rd_T51 l0 x9_1).f1) ((rd_T51 l0 x9_1).f2) ((rd_T51 l0 x9_1).f3) ((rd_T51 l0 x9_1).f4) ((rd_T51 l0 x9_1).f5) ((rd_T51 l0 x9_1).f6) true _ A116.out).mono ?_); rintro e w127 ⟨rfl, hb⟩; refine ⟨_, rfl, ?_⟩; have n0_ := Aside0.mk (blk_below (g := gb200) (o := .cells #[.int .i64 ((rd_T51 l0 x9_1).f0), .int .i64 ((rd_T51 l0 x9_1).f1), .int .i64 ((rd_T51 l0 x9_1).f2), .int .i64 ((rd_T51 l0 x9_1).f3), .int .i64 ((rd_T51 l0 x9_1).f4), .bool ((rd_T51 l0 x9_1).f5), .bool ((rd_T51 l0 x9_1).f6)] 51 (0, 0)) (by (with_reducible repeat (first | refine blk_drewN ?_ _ | refine blk_drew ?_ | refine blk_alloc ?_ _)); exact BK200.out) hb); have n1_ := Aside0.mk (below_step (by repeat (first | (with_reducible first | exact HB.out | apply below_alloc | apply pw_below_drewN | apply below_drew1 | refine below_set ?_ GE200.out) | exact HB.out)) hb); clear BK200; clear HB; have BK200 := n0_; have HB := n1_; clear n0_ n1_; (try clear hb); (try clear hb2); (try clear hk); (try clear hi); have hcz128_0 : w127.cell? ⟨gb200, 0, none⟩ = some (.int .i64 ((rd_T51 l0 x9_1).f0)) := (blk_cell BK200.out 0).trans rfl; have hcz128_1 : w127.cell? ⟨gb200, 1, none⟩ = some (.int .i64 ((rd_T51 l0 x9_1).f1)) := (blk_cell BK200.out 1).trans rfl; have hcz128_2 : w127.cell? ⟨gb200, 2, none⟩ = some (.int .i64 ((rd_T51 l0 x9_1).f2)) := (blk_cell BK200.out 2).trans rfl; have hcz128_3 : w127.cell? ⟨gb200, 3, none⟩ = some (.int .i64 ((rd_T51 l0 x9_1).f3)) := (blk_cell BK200.out 3).trans rfl; have hcz128_4 : w127.cell? ⟨gb200, 4, none⟩ = some (.int .i64 ((rd_T51 l0 x9_1).f4)) := (blk_cell BK200.out 4).trans rfl; have hcz128_5 : w127.cell? ⟨gb200, 5, none⟩ = some (.bool ((rd_T51 l0 x9_1).f5)) := (blk_cell BK200.out 5).trans rfl; have hcz128_6 : w127.cell? ⟨gb200, 6, none⟩ = some (.bool ((rd_T51 l0 x9_1).f6)) := (blk_cell BK200.out 6).trans rfl; have hfz128_0 := blk_frozen BK200.out 0; have hfz128_1 := blk_frozen BK200.out 1; have hfz128_2 := blk_frozen BK200.out 2; have hfz128_3 := blk_frozen BK200.out 3; have hfz128_4 := blk_frozen BK200.out 4; have hfz128_5 := blk_frozen BK200.out 5; have hfz128_6 := blk_frozen BK200.out 6))
               go_ret
               exact ⟨by first | rfl | (simp [errW_none, errW_some] <;> rfl) | (simp [*, errW_none, errW_some] <;> rfl), by repeat (first | (with_reducible first | exact HB.out | apply below_alloc | apply pw_below_drewN | apply below_drew1 | refine below_set ?_ GE200.out) | exact HB.out)⟩
             ·replace c117 := Bool.eq_false_iff.mpr c117
              subst c117
              have H1 : (some false) = some r := by rw [if_neg (show ¬ (false = true) by decide)] at H; exact H
              clear H
              have H := H1
              clear H1
              obtain rfl := Option.some.inj H
              have hcz129_0 : wc.cell? ⟨gb200, 0, none⟩ = some (.int .i64 ((rd_T51 l0 x9_1).f0)) := (blk_cell BK200.out 0).trans rfl
              have hcz129_1 : wc.cell? ⟨gb200, 1, none⟩ = some (.int .i64 ((rd_T51 l0 x9_1).f1)) := (blk_cell BK200.out 1).trans rfl
              have hcz129_2 : wc.cell? ⟨gb200, 2, none⟩ = some (.int .i64 ((rd_T51 l0 x9_1).f2)) := (blk_cell BK200.out 2).trans rfl
              have hcz129_3 : wc.cell? ⟨gb200, 3, none⟩ = some (.int .i64 ((rd_T51 l0 x9_1).f3)) := (blk_cell BK200.out 3).trans rfl
              have hcz129_4 : wc.cell? ⟨gb200, 4, none⟩ = some (.int .i64 ((rd_T51 l0 x9_1).f4)) := (blk_cell BK200.out 4).trans rfl
              have hcz129_5 : wc.cell? ⟨gb200, 5, none⟩ = some (.bool ((rd_T51 l0 x9_1).f5)) := (blk_cell BK200.out 5).trans rfl
              have hcz129_6 : wc.cell? ⟨gb200, 6, none⟩ = some (.bool ((rd_T51 l0 x9_1).f6)) := (blk_cell BK200.out 6).trans rfl
              have hfz129_0 := blk_frozen BK200.out 0
              have hfz129_1 := blk_frozen BK200.out 1
              have hfz129_2 := blk_frozen BK200.out 2
              have hfz129_3 := blk_frozen BK200.out 3
              have hfz129_4 := blk_frozen BK200.out 4
              have hfz129_5 := blk_frozen BK200.out 5
              have hfz129_6 := blk_frozen BK200.out 6
              go_wp2_with (first | ((with_reducible refine gate_callee (f := 39) rfl ?_); refine goesL_ (some 54) rfl rfl Tryd.func39 (by kernel_rfl) rfl #[.agg #[.int .i64 ((rd_T51 l0 x9_1).f0), .int .i64 ((rd_T51 l0 x9_1).f1), .int .i64 ((rd_T51 l0 x9_1).f2), .int .i64 ((rd_T51 l0 x9_1).f3), .int .i64 ((rd_T51 l0 x9_1).f4), .bool ((rd_T51 l0 x9_1).f5), .bool ((rd_T51 l0 x9_1).f6)]] rfl (by (try simp only [List.map_toArray, List.map_cons, List.map_nil]); first | done | rfl | (simp only [List.length_drop, List.length_take]; rfl)) ?_; (with_reducible refine (spinnakerref03_May.calls kj7 ((rd_T51 l0 x9_1).f0) ((rd_T51 l0 x9_1).f1) ((rd_T51 l0 x9_1).f2) ((rd_T51 l0 x9_1).f3) ((rd_T51 l0 x9_1).f4) ((rd_T51 l0 x9_1).f5) ((rd_T51 l0 x9_1).f6) true _ A22.out).mono ?_); rintro e w130 ⟨rfl, hb⟩; refine ⟨_, rfl, ?_⟩; have n0_ := Aside0.mk (blk_below (g := gb200) (o := .cells #[.int .i64 ((rd_T51 l0 x9_1).f0), .int .i64 ((rd_T51 l0 x9_1).f1), .int .i64 ((rd_T51 l0 x9_1).f2), .int .i64 ((rd_T51 l0 x9_1).f3), .int .i64 ((rd_T51 l0 x9_1).f4), .bool ((rd_T51 l0 x9_1).f5), .bool ((rd_T51 l0 x9_1).f6)] 51 (0, 0)) (by (with_reducible repeat (first | refine blk_drewN ?_ _ | refine blk_drew ?_ | refine blk_alloc ?_ _)); exact BK200.out) hb); have n1_ := Aside0.mk (below_step (by repeat (first | (with_reducible first | exact HB.out | apply below_alloc | apply pw_below_drewN | apply below_drew1 | refine below_set ?_ GE200.out) | exact HB.out)) hb); clear BK200; clear HB; have BK200 := n0_; have HB := n1_; clear n0_ n1_; (try clear hb); (try clear hb2); (try clear hk); (try clear hi); have hcz131_0 : w130.cell? ⟨gb200, 0, none⟩ = some (.int .i64 ((rd_T51 l0 x9_1).f0)) := (blk_cell BK200.out 0).trans rfl; have hcz131_1 : w130.cell? ⟨gb200, 1, none⟩ = some (.int .i64 ((rd_T51 l0 x9_1).f1)) := (blk_cell BK200.out 1).trans rfl; have hcz131_2 : w130.cell? ⟨gb200, 2, none⟩ = some (.int .i64 ((rd_T51 l0 x9_1).f2)) := (blk_cell BK200.out 2).trans rfl; have hcz131_3 : w130.cell? ⟨gb200, 3, none⟩ = some (.int .i64 ((rd_T51 l0 x9_1).f3)) := (blk_cell BK200.out 3).trans rfl; have hcz131_4 : w130.cell? ⟨gb200, 4, none⟩ = some (.int .i64 ((rd_T51 l0 x9_1).f4)) := (blk_cell BK200.out 4).trans rfl; have hcz131_5 : w130.cell? ⟨gb200, 5, none⟩ = some (.bool ((rd_T51 l0 x9_1).f5)) := (blk_cell BK200.out 5).trans rfl; have hcz131_6 : w130.cell? ⟨gb200, 6, none⟩ = some (.bool ((rd_T51 l0 x9_1).f6)) := (blk_cell BK200.out 6).trans rfl; have hfz131_0 := blk_frozen BK200.out 0; have hfz131_1 := blk_frozen BK200.out 1; have hfz131_2 := blk_frozen BK200.out 2; have hfz131_3 := blk_frozen BK200.out 3; have hfz131_4 := blk_frozen BK200.out 4; have hfz131_5 := blk_frozen BK200.out 5; have hfz131_6 := blk_frozen BK200.out 6) | ((with_reducible refine gate_callee (f := 98) rfl ?_); refine goesL_ (some 41) rfl rfl Tryd.func98 (by kernel_rfl) rfl #[.agg #[.int .i64 ((rd_T51 l0 x9_1).f0), .int .i64 ((rd_T51 l0 x9_1).f1), .int .i64 ((rd_T51 l0 x9_1).f2), .int .i64 ((rd_T51 l0 x9_1).f3), .int .i64 ((rd_T51 l0 x9_1).f4), .bool ((rd_T51 l0 x9_1).f5), .bool ((rd_T51 l0 x9_1).f6)]] rfl (by (try simp only [List.map_toArray, List.map_cons, List.map_nil]); first | done | rfl | (simp only [List.length_drop, List.length_take]; rfl)) ?_; (with_reducible refine (spinnakerref12_turns.calls ((rd_T51 l0 x9_1).f0) ((rd_T51 l0 x9_1).f1) ((rd_T51 l0 x9_1).f2) ((rd_T51 l0 x9_1).f3) ((rd_T51 l0 x9_1).f4) ((rd_T51 l0 x9_1).f5) ((rd_T51 l0 x9_1).f6) false _ A116.out).mono ?_); rintro e w132 ⟨rfl, hb⟩; refine ⟨_, rfl, ?_⟩; have n0_ := Aside0.mk (blk_below (g := gb200) (o := .cells #[.int .i64 ((rd_T51 l0 x9_1).f0), .int .i64 ((rd_T51 l0 x9_1).f1), .int .i64 ((rd_T51 l0 x9_1).f2), .int .i64 ((rd_T51 l0 x9_1).f3), .int .i64 ((rd_T51 l0 x9_1).f4), .bool ((rd_T51 l0 x9_1).f5), .bool ((rd_T51 l0 x9_1).f6)] 51 (0, 0)) (by (with_reducible repeat (first | refine blk_drewN ?_ _ | refine blk_drew ?_ | refine blk_alloc ?_ _)); exact BK200.out) hb); have n1_ := Aside0.mk (below_step (by repeat (first | (with_reducible first | exact HB.out | apply below_alloc | apply pw_below_drewN | apply below_drew1 | refine below_set ?_ GE200.out) | exact HB.out)) hb); clear BK200; clear HB; have BK200 := n0_; have HB := n1_; clear n0_ n1_; (try clear hb); (try clear hb2); (try clear hk); (try clear hi)))
              go_ret
              exact ⟨by first | rfl | (simp [errW_none, errW_some] <;> rfl) | (simp [*, errW_none, errW_some] <;> rfl), by repeat (first | (with_reducible first | exact HB.out | apply below_alloc | apply pw_below_drewN | apply below_drew1 | refine below_set ?_ GE200.out) | exact HB.out)⟩
        ·replace c23 := Bool.eq_false_iff.mpr c23
         subst c23
         have H1 : (some false) = some r := by rw [if_neg (show ¬ (false = true) by decide)] at H; exact H
         clear H
         have H := H1
         clear H1
         obtain rfl := Option.some.inj H
         have hcz133_0 : wc.cell? ⟨gb200, 0, none⟩ = some (.int .i64 ((rd_T51 l0 x9_1).f0)) := (blk_cell BK200.out 0).trans rfl
         have hcz133_1 : wc.cell? ⟨gb200, 1, none⟩ = some (.int .i64 ((rd_T51 l0 x9_1).f1)) := (blk_cell BK200.out 1).trans rfl
         have hcz133_2 : wc.cell? ⟨gb200, 2, none⟩ = some (.int .i64 ((rd_T51 l0 x9_1).f2)) := (blk_cell BK200.out 2).trans rfl
         have hcz133_3 : wc.cell? ⟨gb200, 3, none⟩ = some (.int .i64 ((rd_T51 l0 x9_1).f3)) := (blk_cell BK200.out 3).trans rfl
         have hcz133_4 : wc.cell? ⟨gb200, 4, none⟩ = some (.int .i64 ((rd_T51 l0 x9_1).f4)) := (blk_cell BK200.out 4).trans rfl
         have hcz133_5 : wc.cell? ⟨gb200, 5, none⟩ = some (.bool ((rd_T51 l0 x9_1).f5)) := (blk_cell BK200.out 5).trans rfl
         have hcz133_6 : wc.cell? ⟨gb200, 6, none⟩ = some (.bool ((rd_T51 l0 x9_1).f6)) := (blk_cell BK200.out 6).trans rfl
         have hfz133_0 := blk_frozen BK200.out 0
         have hfz133_1 := blk_frozen BK200.out 1
         have hfz133_2 := blk_frozen BK200.out 2
         have hfz133_3 := blk_frozen BK200.out 3
         have hfz133_4 := blk_frozen BK200.out 4
         have hfz133_5 := blk_frozen BK200.out 5
         have hfz133_6 := blk_frozen BK200.out 6
         go_wp2_with (first | ((with_reducible refine gate_callee (f := 39) rfl ?_); refine goesL_ (some 54) rfl rfl Tryd.func39 (by kernel_rfl) rfl #[.agg #[.int .i64 ((rd_T51 l0 x9_1).f0), .int .i64 ((rd_T51 l0 x9_1).f1), .int .i64 ((rd_T51 l0 x9_1).f2), .int .i64 ((rd_T51 l0 x9_1).f3), .int .i64 ((rd_T51 l0 x9_1).f4), .bool ((rd_T51 l0 x9_1).f5), .bool ((rd_T51 l0 x9_1).f6)]] rfl (by (try simp only [List.map_toArray, List.map_cons, List.map_nil]); first | done | rfl | (simp only [List.length_drop, List.length_take]; rfl)) ?_; (with_reducible refine (spinnakerref03_May.calls kj7 ((rd_T51 l0 x9_1).f0) ((rd_T51 l0 x9_1).f1) ((rd_T51 l0 x9_1).f2) ((rd_T51 l0 x9_1).f3) ((rd_T51 l0 x9_1).f4) ((rd_T51 l0 x9_1).f5) ((rd_T51 l0 x9_1).f6) false _ A22.out).mono ?_); rintro e w134 ⟨rfl, hb⟩; refine ⟨_, rfl, ?_⟩; have n0_ := Aside0.mk (blk_below (g := gb200) (o := .cells #[.int .i64 ((rd_T51 l0 x9_1).f0), .int .i64 ((rd_T51 l0 x9_1).f1), .int .i64 ((rd_T51 l0 x9_1).f2), .int .i64 ((rd_T51 l0 x9_1).f3), .int .i64 ((rd_T51 l0 x9_1).f4), .bool ((rd_T51 l0 x9_1).f5), .bool ((rd_T51 l0 x9_1).f6)] 51 (0, 0)) (by (with_reducible repeat (first | refine blk_drewN ?_ _ | refine blk_drew ?_ | refine blk_alloc ?_ _)); exact BK200.out) hb); have n1_ := Aside0.mk (below_step (by repeat (first | (with_reducible first | exact HB.out | apply below_alloc | apply pw_below_drewN | apply below_drew1 | refine below_set ?_ GE200.out) | exact HB.out)) hb); clear BK200; clear HB; have BK200 := n0_; have HB := n1_; clear n0_ n1_; (try clear hb); (try clear hb2); (try clear hk); (try clear hi)))
         go_ret
         exact ⟨by first | rfl | (simp [errW_none, errW_some] <;> rfl) | (simp [*, errW_none, errW_some] <;> rfl), by repeat (first | (with_reducible first | exact HB.out | apply below_alloc | apply pw_below_drewN | apply below_drew1 | refine below_set ?_ GE200.out) | exact HB.out)⟩
     ·rw [if_neg c7] at H
      exact absurd H (by simp)
    ·rw [if_neg c6] at H
     exact absurd H (by simp)
   ·rw [if_neg c5] at H
    have c5b0 : decide (x9_1 ≤ a3) = false := decide_eq_false c5
    clear c5
    obtain rfl := Option.some.inj H
    go_wp2
    go_ret
    exact ⟨by first | rfl | (simp [errW_none, errW_some] <;> rfl) | (simp [*, errW_none, errW_some] <;> rfl), by repeat (first | (with_reducible first | exact HB.out | apply below_alloc | apply pw_below_drewN | apply below_drew1) | exact HB.out)⟩

end Go.Proofs.YtbmjbidekmkboaaDoor.GLrscAll
