-- Written by wip/stub.py of this repo.
import Derived.Test.YtffehgfjjagibaaDoorGImagePlacesx0
import Derived.Test.YtffehgfjjagibaaDoorGImagePlacesx4
import Derived.Test.YtffehgfjjagibaaDoorGImagePlacesx8
namespace Go.Proofs.YtffehgfjjagibaaDoor.GImagePlaces
open Go.RowKit Go.Proofs.YtffehgfjjagibaaDoorW.PrintWords Go.Proofs.YtffehgfjjagibaaDoorW.PrintLast Go.Proofs.YtffehgfjjagibaaDoorW.PrintMore
attribute [local go_sem] max2_int min2_int max_two min_two max_three min_three max_four min_four   -- for this text's walks alone
set_option linter.unusedVariables false
set_option linter.unusedSimpArgs false

/-! ### dec_parts: function 26 -/
mutual
def dec_parts.j3 : Nat → Int → Int → Int → Int → Int → Int → Int → Bool → Bool → Option (Int × Int × Int × Int × Int × Bool × Bool)
  | 0, _, _, _, _, _, _, _, _, _ => none
  | k + 1, x0, x5, x303000, x303001, x303002, x303003, x303004, x303005, x303006 => if x5 = 10 then (dec_parts.j4 k x0 true x303000 x303001 x303002 x303003 x303004 x303005 x303006) else (dec_parts.j4 k x0 (x5 == 11) x303000 x303001 x303002 x303003 x303004 x303005 x303006)
def dec_parts.j4 : Nat → Int → Bool → Int → Int → Int → Int → Int → Bool → Bool → Option (Int × Int × Int × Int × Int × Bool × Bool)
  | 0, _, _, _, _, _, _, _, _, _ => none
  | k + 1, x0, x59, x303000, x303001, x303002, x303003, x303004, x303005, x303006 => if x59 = true then ((dec_field.f x0 26 1).bind fun t306 => ((dec_field.f x0 25 1).bind fun t307 => (some (x303000, x303001, x303002, x303003, x303004, (t306 == 1), (t307 == 1))))) else (some (x303000, x303001, x303002, x303003, x303004, x303005, x303006))
def dec_parts.j0 : Nat → Int → Int → Int → Int → Int → Int → Bool → Int → Int → Int → Int → Int → Bool → Bool → Option (Int × Int × Int × Int × Int × Bool × Bool)
  | 0, _, _, _, _, _, _, _, _, _, _, _, _, _, _ => none
  | k + 1, x0, x5, x7, x8, x9, x23, x24, x303000, x303001, x303002, x303003, x303004, x303005, x303006 => if x24 = true then (dec_parts.j3 k x0 x5 x303000 x7 x303002 x303003 x303004 x303005 x303006) else (if x23 = 4 then (dec_parts.j1 k x0 x5 x7 x8 x9 x23 (x23 == 4) x303000 x303001 x303002 x303003 x303004 x303005 x303006) else (dec_parts.j1 k x0 x5 x7 x8 x9 x23 (x23 == 5) x303000 x303001 x303002 x303003 x303004 x303005 x303006))
def dec_parts.j1 : Nat → Int → Int → Int → Int → Int → Int → Bool → Int → Int → Int → Int → Int → Bool → Bool → Option (Int × Int × Int × Int × Int × Bool × Bool)
  | 0, _, _, _, _, _, _, _, _, _, _, _, _, _, _ => none
  | k + 1, x0, x5, x7, x8, x9, x23, x29, x303000, x303001, x303002, x303003, x303004, x303005, x303006 => if x29 = true then (dec_parts.j3 k x0 x5 x303000 x303001 x8 x9 x303004 x303005 x303006) else (if x23 = 6 then (dec_parts.j2 k x0 x5 x7 x8 x9 x23 (x23 == 6) x303000 x303001 x303002 x303003 x303004 x303005 x303006) else (dec_parts.j2 k x0 x5 x7 x8 x9 x23 (x23 == 11) x303000 x303001 x303002 x303003 x303004 x303005 x303006))
def dec_parts.j2 : Nat → Int → Int → Int → Int → Int → Int → Bool → Int → Int → Int → Int → Int → Bool → Bool → Option (Int × Int × Int × Int × Int × Bool × Bool)
  | 0, _, _, _, _, _, _, _, _, _, _, _, _, _, _ => none
  | k + 1, x0, x5, x7, x8, x9, x23, x36, x303000, x303001, x303002, x303003, x303004, x303005, x303006 => if x36 = true then (dec_parts.j3 k x0 x5 x303000 x7 x8 x9 x303004 x303005 x303006) else (if x23 = 3 then (dec_parts.j3 k x0 x5 x303000 x7 x8 x303003 x303004 x303005 x303006) else (if x23 = 7 then (dec_parts.j3 k x0 x5 x303000 x7 x8 x303003 x303004 x303005 x303006) else (if x23 = 8 then (dec_parts.j3 k x0 x5 x303000 x7 x8 x303003 x303004 x303005 x303006) else (if x23 = 10 then (dec_parts.j3 k x0 x5 x303000 x7 x8 x303003 x303004 x303005 x303006) else (dec_parts.j3 k x0 x5 x303000 x303001 x303002 x303003 x303004 x303005 x303006)))))
end
def dec_parts.f (k : Nat) (a0 : Int) (a1 : Int) : Option (Int × Int × Int × Int × Int × Bool × Bool) := (isa_Form.f k a1).bind fun t300 => ((dec_immediate.f a0 t300).bind fun t301 => ((dec_field.f a0 7 5).bind fun t303 => ((dec_field.f a0 15 5).bind fun t304 => ((dec_field.f a0 20 5).bind fun t305 => (if t300 = 1 then (dec_parts.j0 k a0 t300 t303 t304 t305 t300 (t300 == 1) a1 0 0 0 t301 false false) else (dec_parts.j0 k a0 t300 t303 t304 t305 t300 (t300 == 2) a1 0 0 0 t301 false false))))))
theorem dec_parts.mono_l : ∀ k, (∀ y0 y1 y2 y3 y4 y5 y6 y7 y8, LeO (dec_parts.j3 k y0 y1 y2 y3 y4 y5 y6 y7 y8) (dec_parts.j3 (k + 1) y0 y1 y2 y3 y4 y5 y6 y7 y8)) ∧ (∀ y0 y1 y2 y3 y4 y5 y6 y7 y8, LeO (dec_parts.j4 k y0 y1 y2 y3 y4 y5 y6 y7 y8) (dec_parts.j4 (k + 1) y0 y1 y2 y3 y4 y5 y6 y7 y8)) ∧ (∀ y0 y1 y2 y3 y4 y5 y6 y7 y8 y9 y10 y11 y12 y13, LeO (dec_parts.j0 k y0 y1 y2 y3 y4 y5 y6 y7 y8 y9 y10 y11 y12 y13) (dec_parts.j0 (k + 1) y0 y1 y2 y3 y4 y5 y6 y7 y8 y9 y10 y11 y12 y13)) ∧ (∀ y0 y1 y2 y3 y4 y5 y6 y7 y8 y9 y10 y11 y12 y13, LeO (dec_parts.j1 k y0 y1 y2 y3 y4 y5 y6 y7 y8 y9 y10 y11 y12 y13) (dec_parts.j1 (k + 1) y0 y1 y2 y3 y4 y5 y6 y7 y8 y9 y10 y11 y12 y13)) ∧ (∀ y0 y1 y2 y3 y4 y5 y6 y7 y8 y9 y10 y11 y12 y13, LeO (dec_parts.j2 k y0 y1 y2 y3 y4 y5 y6 y7 y8 y9 y10 y11 y12 y13) (dec_parts.j2 (k + 1) y0 y1 y2 y3 y4 y5 y6 y7 y8 y9 y10 y11 y12 y13))
 | 0 => ⟨fun _ _ _ _ _ _ _ _ _ r h => by simp [dec_parts.j3] at h, fun _ _ _ _ _ _ _ _ _ r h => by simp [dec_parts.j4] at h, fun _ _ _ _ _ _ _ _ _ _ _ _ _ _ r h => by simp [dec_parts.j0] at h, fun _ _ _ _ _ _ _ _ _ _ _ _ _ _ r h => by simp [dec_parts.j1] at h, fun _ _ _ _ _ _ _ _ _ _ _ _ _ _ r h => by simp [dec_parts.j2] at h⟩
 | k + 1 => by
  obtain ⟨ih0, ih1, ih2, ih3, ih4⟩ := dec_parts.mono_l k
  refine ⟨?_, ?_, ?_, ?_, ?_⟩
  all_goals (intros; (first | unfold dec_parts.j3 | unfold dec_parts.j4 | unfold dec_parts.j0 | unfold dec_parts.j1 | unfold dec_parts.j2); repeat' first | (with_reducible first | exact ih0 _ _ _ _ _ _ _ _ _ | exact ih1 _ _ _ _ _ _ _ _ _ | exact ih2 _ _ _ _ _ _ _ _ _ _ _ _ _ _ | exact ih3 _ _ _ _ _ _ _ _ _ _ _ _ _ _ | exact ih4 _ _ _ _ _ _ _ _ _ _ _ _ _ _ | exact isa_Form.mono _ _ | exact LeO.refl _ | exact LeO.none _ | refine LeO.ite ?_ ?_ | refine LeO.bind ?_ (fun _ => ?_)) | exact ih0 _ _ _ _ _ _ _ _ _ | exact ih1 _ _ _ _ _ _ _ _ _ | exact ih2 _ _ _ _ _ _ _ _ _ _ _ _ _ _ | exact ih3 _ _ _ _ _ _ _ _ _ _ _ _ _ _ | exact ih4 _ _ _ _ _ _ _ _ _ _ _ _ _ _ | exact isa_Form.mono _ _ | exact LeO.none _ | refine LeO.ite ?_ ?_ | refine LeO.bind ?_ (fun _ => ?_))
theorem dec_parts.mono : ∀ a0 a1 k, LeO (dec_parts.f k a0 a1) (dec_parts.f (k + 1) a0 a1) := by
 intro a0 a1 k
 obtain ⟨ih0, ih1, ih2, ih3, ih4⟩ := dec_parts.mono_l k
 unfold dec_parts.f
 repeat' first | (with_reducible first | exact ih0 _ _ _ _ _ _ _ _ _ | exact ih1 _ _ _ _ _ _ _ _ _ | exact ih2 _ _ _ _ _ _ _ _ _ _ _ _ _ _ | exact ih3 _ _ _ _ _ _ _ _ _ _ _ _ _ _ | exact ih4 _ _ _ _ _ _ _ _ _ _ _ _ _ _ | exact isa_Form.mono _ _ | exact LeO.refl _ | exact LeO.none _ | refine LeO.ite ?_ ?_ | refine LeO.bind ?_ (fun _ => ?_)) | exact ih0 _ _ _ _ _ _ _ _ _ | exact ih1 _ _ _ _ _ _ _ _ _ | exact ih2 _ _ _ _ _ _ _ _ _ _ _ _ _ _ | exact ih3 _ _ _ _ _ _ _ _ _ _ _ _ _ _ | exact ih4 _ _ _ _ _ _ _ _ _ _ _ _ _ _ | exact isa_Form.mono _ _ | exact LeO.none _ | refine LeO.ite ?_ ?_ | refine LeO.bind ?_ (fun _ => ?_)
set_option maxHeartbeats 8000000 in
set_option maxRecDepth 100000 in
theorem dec_parts.calls (k : Nat) (a0 : Int) (a1 : Int) (r1 : Int) (r2 : Int) (r3 : Int) (r4 : Int) (r5 : Int) (r6 : Bool) (r7 : Bool) (w : World) (hL : Laid w) (h : dec_parts.f k a0 a1 = some (r1, r2, r3, r4, r5, r6, r7)) :
  Calls Tryd.prog 26 #[.int .u32 a0, .int .i64 a1] w fun e w' => e = .returned (.agg #[.int .i64 r1, .int .i64 r2, .int .i64 r3, .int .i64 r4, .int .i64 r5, .bool r6, .bool r7]) ∧ Below w.heap.size w w' := by
 have HL := Aside0.mk hL
 clear hL
 have hu24 := Tryd.underlying24
 have HB := Aside0.mk (Below.refl w.heap.size w)
 have H : ((isa_Form.f k a1).bind fun t300 => ((dec_immediate.f a0 t300).bind fun t301 => ((dec_field.f a0 7 5).bind fun t303 => ((dec_field.f a0 15 5).bind fun t304 => ((dec_field.f a0 20 5).bind fun t305 => (if t300 = 1 then (dec_parts.j0 k a0 t300 t303 t304 t305 t300 (t300 == 1) a1 0 0 0 t301 false false) else (dec_parts.j0 k a0 t300 t303 t304 t305 t300 (t300 == 2) a1 0 0 0 t301 false false))))))) = some (r1, r2, r3, r4, r5, r6, r7) := h
 clear h
 replace H := be H
 obtain ⟨t300, A3, H⟩ := H
 replace H := be H
 obtain ⟨t301, A4, H⟩ := H
 replace H := be H
 obtain ⟨t303, A5, H⟩ := H
 replace H := be H
 obtain ⟨t304, A6, H⟩ := H
 replace H := be H
 obtain ⟨t305, A7, H⟩ := H
 have HC8 := Aside0.mk H
 clear H
 go_enter Tryd.func26, Tryd.ntmps26
 go_upto_block 0 with (first | ((with_reducible refine gate_dst (N := 4) rfl ?_); refine box_event ?hg (N := 4) ?hd (cs := #[.int .i64 0, .int .i64 0, .int .i64 0, .int .i64 0, .int .i64 0, .bool false, .bool false]) (t := 24) ?hr ?_; (case hd => rfl); (case hg => rfl); (case hr => first | (go_simp; done) | (go_simp; rfl)); intro gb299 hg w9 hbox hb; obtain ⟨n0_, GW299⟩ := nb (w := w) hg hb; clear HB; have HB := n0_; have BK299 := Aside0.mk hbox; have GE299 := GW299; clear n0_ hb hbox hg) | ((with_reducible refine gate_callee (f := 40) rfl ?_); refine goesL_ (some 11) rfl rfl Tryd.func40 (by kernel_rfl) rfl #[.int .i64 a1] rfl ga ?_; (with_reducible refine (isa_Form.calls k a1 t300 _ (by first | exact HL.out | exact laid_drewN HL.out | exact laid_below HL.out bl | exact laid_below HL.out HB.out | exact laid_belowd HL.out HB.out) A3.out).mono ?_); rintro e w' ⟨rfl, ⟨nd, rfl⟩⟩; refine ⟨_, rfl, ?_⟩; (try (rw [drewN_self w9]; generalize hq_ : World.drewN w9 _ = w9; have n0_ : Aside0 (w9.heap[gb299]? = some (.cells #[.int .i64 0, .int .i64 0, .int .i64 0, .int .i64 0, .int .i64 0, .bool false, .bool false] 24 (0, 0))) := ⟨by rw [← hq_]; exact (bk BK299.out)⟩; have n1_ : Aside0 (Below w.heap.size w w9) := ⟨by rw [← hq_]; exact bl⟩; clear BK299 HB hq_; have BK299 := n0_; have HB := n1_; clear n0_ n1_))) | ((with_reducible refine gate_callee (f := 51) rfl ?_); refine goesL_ (some 15) rfl rfl Tryd.func51 (by kernel_rfl) rfl #[.int .u32 a0, .int .i64 t300] rfl ga ?_; (with_reducible refine (dec_immediate.calls a0 t300 t301 _ A4.out).mono ?_); rintro e w10 ⟨rfl, hb⟩; refine ⟨_, rfl, ?_⟩; have n0_ := Aside0.mk (blk_below (g := gb299) (o := .cells #[.int .i64 0, .int .i64 0, .int .i64 0, .int .i64 0, .int .i64 0, .bool false, .bool false] 24 (0, 0)) (bk BK299.out) hb); have n1_ := Aside0.mk (below_step bl hb); clear BK299; clear HB; have BK299 := n0_; have HB := n1_; clear n0_ n1_; (try clear hb)) | ((with_reducible refine gate_dst (N := 6) rfl ?_); refine box_event ?hg (N := 6) ?hd (cs := #[.int .i64 0, .int .i64 0, .int .i64 0, .int .i64 0, .int .i64 0, .bool false, .bool false]) (t := 24) ?hr ?_; (case hd => rfl); (case hg => rfl); (case hr => first | (go_simp; done) | (go_simp; rfl)); intro gb302 hg w11 hbox hb; have n0_ := Aside0.mk (blk_below (g := gb299) (o := .cells #[.int .i64 0, .int .i64 0, .int .i64 0, .int .i64 0, .int .i64 0, .bool false, .bool false] 24 (0, 0)) (bk BK299.out) hb); have n1_ := Aside0.mk (below_step bl hb); have n2_ := Aside0.mk (hbox); have n3_ := Aside0.mk ((by rw [hg]; exact (below_size bl) : w.heap.size ≤ gb302)); have n4_ := Aside0.mk ((by rw [hg]; exact (below_size bl) : w.heap.size ≤ gb302)); have n5_ := Aside0.mk ((by rw [hg]; exact Nat.ne_of_lt (blk_lt (g := gb299) (o := .cells #[.int .i64 0, .int .i64 0, .int .i64 0, .int .i64 0, .int .i64 0, .bool false, .bool false] 24 (0, 0)) (bk BK299.out)) : gb299 ≠ gb302)); have n6_ := Aside0.mk ((by rw [hg]; exact Nat.ne_of_gt (blk_lt (g := gb299) (o := .cells #[.int .i64 0, .int .i64 0, .int .i64 0, .int .i64 0, .int .i64 0, .bool false, .bool false] 24 (0, 0)) (bk BK299.out)) : gb302 ≠ gb299)); clear BK299; clear HB; have BK299 := n0_; have HB := n1_; have BK302 := n2_; have GW302 := n3_; have GE302 := n4_; have NB299_302 := n5_; have NB302_299 := n6_; clear n0_ n1_ n2_ n3_ n4_ n5_ n6_; clear hb hbox hg; have hnb12 := NB302_299.out; have hnc12 := NB299_302.out; obtain ⟨hcz13_0, hcz13_1, hcz13_2, hcz13_3, hcz13_4, hcz13_5, hcz13_6, hfz13_0, hfz13_1, hfz13_2, hfz13_3, hfz13_4, hfz13_5, hfz13_6⟩ := cz7 (w := w11) BK302.out) | ((with_reducible refine gate_callee (f := 52) rfl ?_); refine goesL_ (some 18) rfl rfl Tryd.func52 (by kernel_rfl) rfl #[.int .u32 a0, .int .i64 7, .int .i64 5] rfl ga ?_; (with_reducible refine (dec_field.calls a0 7 5 t303 _ A5.out).mono ?_); rintro e w' ⟨rfl, ⟨nd, rfl⟩⟩; refine ⟨_, rfl, ?_⟩) | ((with_reducible refine gate_callee (f := 52) rfl ?_); refine goesL_ (some 20) rfl rfl Tryd.func52 (by kernel_rfl) rfl #[.int .u32 a0, .int .i64 15, .int .i64 5] rfl ga ?_; (with_reducible refine (dec_field.calls a0 15 5 t304 _ A6.out).mono ?_); rintro e w' ⟨rfl, ⟨nd, rfl⟩⟩; refine ⟨_, rfl, ?_⟩) | ((with_reducible refine gate_callee (f := 52) rfl ?_); refine goesL_ (some 22) rfl rfl Tryd.func52 (by kernel_rfl) rfl #[.int .u32 a0, .int .i64 20, .int .i64 5] rfl ga ?_; (with_reducible refine (dec_field.calls a0 20 5 t305 _ A7.out).mono ?_); rintro e w' ⟨rfl, ⟨nd, rfl⟩⟩; refine ⟨_, rfl, ?_⟩))
 (try simp only [Act.put, List.setIfInBounds_toArray, List.set_cons_zero, List.set_cons_succ])
 go_cut [] (fun wc => ∃ (kq : Nat) (x303001_7 : Int) (x303002_7 : Int) (x303003_7 : Int), Aside0 (dec_parts.j3 kq a0 t300 a1 x303001_7 x303002_7 x303003_7 t301 false false = some (r1, r2, r3, r4, r5, r6, r7)) ∧ Aside0 (kq ≤ k) ∧ Aside0 (wc.heap[gb299]? = some (.cells #[.int .i64 0, .int .i64 0, .int .i64 0, .int .i64 0, .int .i64 0, .bool false, .bool false] 24 (0, 0))) ∧ Aside0 (wc.heap[gb302]? = some (.cells #[.int .i64 a1, .int .i64 x303001_7, .int .i64 x303002_7, .int .i64 x303003_7, .int .i64 t301, .bool false, .bool false] 24 (0, 0))) ∧ Aside0 (Below w.heap.size w wc))
 case first =>
  have H := HC8.out
  clear HC8
  have HC14 := Aside0.mk H
  clear H
  go_upto_if 24 with (fail)
  go_cut [24] (fun v24 wc => ∃ (kq : Nat) (x24_13 : Bool), v24 = .bool x24_13 ∧ Aside0 (dec_parts.j0 kq a0 t300 t303 t304 t305 t300 x24_13 a1 0 0 0 t301 false false = some (r1, r2, r3, r4, r5, r6, r7)) ∧ Aside0 (kq ≤ k) ∧ Aside0 (wc.heap[gb299]? = some (.cells #[.int .i64 0, .int .i64 0, .int .i64 0, .int .i64 0, .int .i64 0, .bool false, .bool false] 24 (0, 0))) ∧ Aside0 (wc.heap[gb302]? = some (.cells #[.int .i64 a1, .int .i64 0, .int .i64 0, .int .i64 0, .int .i64 t301, .bool false, .bool false] 24 (0, 0))) ∧ Aside0 (Below w.heap.size w wc))
  case first =>
   have H := HC14.out
   clear HC14
   by_cases c15 : t300 = 1
   ·rw [if_pos c15] at H
    obtain ⟨c15b0, c15b1⟩ := eqs c15
    clear c15
    (first | rw [c15b0] | (simp only [i64_w, i32_w]; rw [c15b0]) | skip)
    have H' := Aside0.mk H
    clear H
    go_wp2
    go_meet
    case rel => exact ⟨_, ((t300 == 1)), fj, H', ⟨by first | omega | exact Nat.le_refl _⟩, ⟨by refine bx ?_; refine blk_far ?_ NB299_302.out _; refine bx ?_; refine blk_far ?_ NB299_302.out _; refine bx ?_; refine blk_far ?_ NB299_302.out _; refine bx ?_; refine blk_far ?_ NB299_302.out _; refine bx ?_; refine blk_far ?_ NB299_302.out _; refine bx ?_; refine blk_far ?_ NB299_302.out _; refine bx ?_; refine blk_far ?_ NB299_302.out _; refine bx ?_; exact BK299.out⟩, ⟨by refine bx ?_; refine blk_put (cs := #[.int .i64 a1, .int .i64 0, .int .i64 0, .int .i64 0, .int .i64 t301, .bool false, .bool false]) ?_ 6 _ rfl; refine bx ?_; refine blk_put (cs := #[.int .i64 a1, .int .i64 0, .int .i64 0, .int .i64 0, .int .i64 t301, .bool false, .bool false]) ?_ 5 _ rfl; refine bx ?_; refine blk_put (cs := #[.int .i64 a1, .int .i64 0, .int .i64 0, .int .i64 0, .int .i64 0, .bool false, .bool false]) ?_ 4 _ rfl; refine bx ?_; refine blk_put (cs := #[.int .i64 a1, .int .i64 0, .int .i64 0, .int .i64 0, .int .i64 0, .bool false, .bool false]) ?_ 3 _ rfl; refine bx ?_; refine blk_put (cs := #[.int .i64 a1, .int .i64 0, .int .i64 0, .int .i64 0, .int .i64 0, .bool false, .bool false]) ?_ 2 _ rfl; refine bx ?_; refine blk_put (cs := #[.int .i64 a1, .int .i64 0, .int .i64 0, .int .i64 0, .int .i64 0, .bool false, .bool false]) ?_ 1 _ rfl; refine bx ?_; refine blk_put (cs := #[.int .i64 0, .int .i64 0, .int .i64 0, .int .i64 0, .int .i64 0, .bool false, .bool false]) ?_ 0 _ rfl; refine bx ?_; exact BK302.out⟩, ⟨bl⟩⟩
   ·rw [if_neg c15] at H
    have c15b0 : (t300 == 1) = false := beq_eq_false_iff_ne.mpr c15
    have c15b1 : (t300 != 1) = true := bne_iff_ne.mpr c15
    (first | rw [c15b0] | (simp only [i64_w, i32_w]; rw [c15b0]) | skip)
    have H' := Aside0.mk H
    clear H
    go_wp2
    go_meet
    case rel => exact ⟨_, ((t300 == 2)), fj, H', ⟨by first | omega | exact Nat.le_refl _⟩, ⟨by refine bx ?_; refine blk_far ?_ NB299_302.out _; refine bx ?_; refine blk_far ?_ NB299_302.out _; refine bx ?_; refine blk_far ?_ NB299_302.out _; refine bx ?_; refine blk_far ?_ NB299_302.out _; refine bx ?_; refine blk_far ?_ NB299_302.out _; refine bx ?_; refine blk_far ?_ NB299_302.out _; refine bx ?_; refine blk_far ?_ NB299_302.out _; refine bx ?_; exact BK299.out⟩, ⟨by refine bx ?_; refine blk_put (cs := #[.int .i64 a1, .int .i64 0, .int .i64 0, .int .i64 0, .int .i64 t301, .bool false, .bool false]) ?_ 6 _ rfl; refine bx ?_; refine blk_put (cs := #[.int .i64 a1, .int .i64 0, .int .i64 0, .int .i64 0, .int .i64 t301, .bool false, .bool false]) ?_ 5 _ rfl; refine bx ?_; refine blk_put (cs := #[.int .i64 a1, .int .i64 0, .int .i64 0, .int .i64 0, .int .i64 0, .bool false, .bool false]) ?_ 4 _ rfl; refine bx ?_; refine blk_put (cs := #[.int .i64 a1, .int .i64 0, .int .i64 0, .int .i64 0, .int .i64 0, .bool false, .bool false]) ?_ 3 _ rfl; refine bx ?_; refine blk_put (cs := #[.int .i64 a1, .int .i64 0, .int .i64 0, .int .i64 0, .int .i64 0, .bool false, .bool false]) ?_ 2 _ rfl; refine bx ?_; refine blk_put (cs := #[.int .i64 a1, .int .i64 0, .int .i64 0, .int .i64 0, .int .i64 0, .bool false, .bool false]) ?_ 1 _ rfl; refine bx ?_; refine blk_put (cs := #[.int .i64 0, .int .i64 0, .int .i64 0, .int .i64 0, .int .i64 0, .bool false, .bool false]) ?_ 0 _ rfl; refine bx ?_; exact BK302.out⟩, ⟨bl⟩⟩
  case rest =>
   clear HC14
   try clear c1
   try clear c2
   try clear p2
   try clear c4
   try clear c5
   try clear c12
   try clear c15
   try clear c15b0
   try clear c15b1
   try clear hcz13_0 hcz13_1 hcz13_2 hcz13_3 hcz13_4 hcz13_5 hcz13_6
   try clear hfz13_0 hfz13_1 hfz13_2 hfz13_3 hfz13_4 hfz13_5 hfz13_6
   obtain ⟨kq, x24_13, rfl, HA, HJ13, BK299, BK302, HB⟩ := hcut
   cases kq with
   | zero => exact absurd HA.out (by simp [dec_parts.j0])
   | succ kj13 =>
    have H := HA.out
    clear HA
    simp only [dec_parts.j0] at H
    by_cases c16 : x24_13 = true
    ·subst c16
     have H1 : (dec_parts.j3 kj13 a0 t300 a1 t303 0 0 t301 false false) = some (r1, r2, r3, r4, r5, r6, r7) := by rw [if_pos rfl] at H; exact H
     clear H
     have H := H1
     clear H1
     have H' := Aside0.mk H
     clear H
     have hnb17 := NB302_299.out
     have hnc17 := NB299_302.out
     obtain ⟨hcz18_0, hcz18_1, hcz18_2, hcz18_3, hcz18_4, hcz18_5, hcz18_6, hfz18_0, hfz18_1, hfz18_2, hfz18_3, hfz18_4, hfz18_5, hfz18_6⟩ := cz7 (w := wc) BK302.out
     go_wp2
     go_meet
     case rel => exact ⟨_, (t303), (0), (0), H', ⟨by have := HJ13.out; first | omega | exact Nat.le_refl _⟩, ⟨by refine bx ?_; refine blk_far ?_ NB299_302.out _; refine bx ?_; exact BK299.out⟩, ⟨by refine bx ?_; refine blk_put (cs := #[.int .i64 a1, .int .i64 0, .int .i64 0, .int .i64 0, .int .i64 t301, .bool false, .bool false]) ?_ 1 _ rfl; refine bx ?_; exact BK302.out⟩, ⟨bl⟩⟩
    ·replace c16 := Bool.eq_false_iff.mpr c16
     subst c16
     have H1 : (if t300 = 4 then (dec_parts.j1 kj13 a0 t300 t303 t304 t305 t300 (t300 == 4) a1 0 0 0 t301 false false) else (dec_parts.j1 kj13 a0 t300 t303 t304 t305 t300 (t300 == 5) a1 0 0 0 t301 false false)) = some (r1, r2, r3, r4, r5, r6, r7) := by rw [if_neg (show ¬ (false = true) by decide)] at H; exact H
     clear H
     have H := H1
     clear H1
     have HC19 := Aside0.mk H
     clear H
     go_upto_if 29 with (fail)
     go_cut [29] (fun v29 wc => ∃ (kq : Nat) (x29_18 : Bool), v29 = .bool x29_18 ∧ Aside0 (dec_parts.j1 kq a0 t300 t303 t304 t305 t300 x29_18 a1 0 0 0 t301 false false = some (r1, r2, r3, r4, r5, r6, r7)) ∧ Aside0 (kq ≤ kj13) ∧ Aside0 (wc.heap[gb299]? = some (.cells #[.int .i64 0, .int .i64 0, .int .i64 0, .int .i64 0, .int .i64 0, .bool false, .bool false] 24 (0, 0))) ∧ Aside0 (wc.heap[gb302]? = some (.cells #[.int .i64 a1, .int .i64 0, .int .i64 0, .int .i64 0, .int .i64 t301, .bool false, .bool false] 24 (0, 0))) ∧ Aside0 (Below w.heap.size w wc))
     case first =>
      have H := HC19.out
      clear HC19
      by_cases c20 : t300 = 4
      ·rw [if_pos c20] at H
       obtain ⟨c20b0, c20b1⟩ := eqs c20
       clear c20
       (first | rw [c20b0] | (simp only [i64_w, i32_w]; rw [c20b0]) | skip)
       have H' := Aside0.mk H
       clear H
       go_wp2
       go_meet
       case rel => exact ⟨_, ((t300 == 4)), fj, H', ⟨by have := HJ13.out; first | omega | exact Nat.le_refl _⟩, ⟨by refine bx ?_; exact BK299.out⟩, ⟨by refine bx ?_; exact BK302.out⟩, ⟨bl⟩⟩
      ·rw [if_neg c20] at H
       have c20b0 : (t300 == 4) = false := beq_eq_false_iff_ne.mpr c20
       have c20b1 : (t300 != 4) = true := bne_iff_ne.mpr c20
       (first | rw [c20b0] | (simp only [i64_w, i32_w]; rw [c20b0]) | skip)
       have H' := Aside0.mk H
       clear H
       go_wp2
       go_meet
       case rel => exact ⟨_, ((t300 == 5)), fj, H', ⟨by have := HJ13.out; first | omega | exact Nat.le_refl _⟩, ⟨by refine bx ?_; exact BK299.out⟩, ⟨by refine bx ?_; exact BK302.out⟩, ⟨bl⟩⟩
     case rest =>
      clear HC19
      try clear c1
      try clear c2
      try clear p2
      try clear c4
      try clear c5
      try clear c12
      try clear c15
      try clear c15b0
      try clear c15b1
      try clear c16
      try clear c17
      try clear c20
      try clear c20b0
      try clear c20b1
      try clear hcz13_0 hcz13_1 hcz13_2 hcz13_3 hcz13_4 hcz13_5 hcz13_6
      try clear hcz18_0 hcz18_1 hcz18_2 hcz18_3 hcz18_4 hcz18_5 hcz18_6
      try clear hfz13_0 hfz13_1 hfz13_2 hfz13_3 hfz13_4 hfz13_5 hfz13_6
      try clear hfz18_0 hfz18_1 hfz18_2 hfz18_3 hfz18_4 hfz18_5 hfz18_6
      try clear p2
      obtain ⟨kq, x29_18, rfl, HA, HJ18, BK299, BK302, HB⟩ := hcut
      cases kq with
      | zero => exact absurd HA.out (by simp [dec_parts.j1])
      | succ kj18 =>
       have H := HA.out
       clear HA
       simp only [dec_parts.j1] at H
       by_cases c21 : x29_18 = true
       ·subst c21
        have H1 : (dec_parts.j3 kj18 a0 t300 a1 0 t304 t305 t301 false false) = some (r1, r2, r3, r4, r5, r6, r7) := by rw [if_pos rfl] at H; exact H
        clear H
        have H := H1
        clear H1
        have H' := Aside0.mk H
        clear H
        have hnb22 := NB302_299.out
        have hnc22 := NB299_302.out
        obtain ⟨hcz23_0, hcz23_1, hcz23_2, hcz23_3, hcz23_4, hcz23_5, hcz23_6, hfz23_0, hfz23_1, hfz23_2, hfz23_3, hfz23_4, hfz23_5, hfz23_6⟩ := cz7 (w := wc) BK302.out
        go_wp2
        go_meet
        case rel => exact ⟨_, (0), (t304), (t305), H', ⟨by have := HJ13.out; have := HJ18.out; first | omega | exact Nat.le_refl _⟩, ⟨by refine bx ?_; refine blk_far ?_ NB299_302.out _; refine bx ?_; refine blk_far ?_ NB299_302.out _; refine bx ?_; exact BK299.out⟩, ⟨by refine bx ?_; refine blk_put (cs := #[.int .i64 a1, .int .i64 0, .int .i64 t304, .int .i64 0, .int .i64 t301, .bool false, .bool false]) ?_ 3 _ rfl; refine bx ?_; refine blk_put (cs := #[.int .i64 a1, .int .i64 0, .int .i64 0, .int .i64 0, .int .i64 t301, .bool false, .bool false]) ?_ 2 _ rfl; refine bx ?_; exact BK302.out⟩, ⟨bl⟩⟩
       ·replace c21 := Bool.eq_false_iff.mpr c21
        subst c21
        have H1 : (if t300 = 6 then (dec_parts.j2 kj18 a0 t300 t303 t304 t305 t300 (t300 == 6) a1 0 0 0 t301 false false) else (dec_parts.j2 kj18 a0 t300 t303 t304 t305 t300 (t300 == 11) a1 0 0 0 t301 false false)) = some (r1, r2, r3, r4, r5, r6, r7) := by rw [if_neg (show ¬ (false = true) by decide)] at H; exact H
        clear H
        have H := H1
        clear H1
        have HC24 := Aside0.mk H
        clear H
        go_upto_if 36 with (fail)
        go_cut [36] (fun v36 wc => ∃ (kq : Nat) (x36_23 : Bool), v36 = .bool x36_23 ∧ Aside0 (dec_parts.j2 kq a0 t300 t303 t304 t305 t300 x36_23 a1 0 0 0 t301 false false = some (r1, r2, r3, r4, r5, r6, r7)) ∧ Aside0 (kq ≤ kj18) ∧ Aside0 (wc.heap[gb299]? = some (.cells #[.int .i64 0, .int .i64 0, .int .i64 0, .int .i64 0, .int .i64 0, .bool false, .bool false] 24 (0, 0))) ∧ Aside0 (wc.heap[gb302]? = some (.cells #[.int .i64 a1, .int .i64 0, .int .i64 0, .int .i64 0, .int .i64 t301, .bool false, .bool false] 24 (0, 0))) ∧ Aside0 (Below w.heap.size w wc))
        case first =>
         have H := HC24.out
         clear HC24
         by_cases c25 : t300 = 6
         ·rw [if_pos c25] at H
          obtain ⟨c25b0, c25b1⟩ := eqs c25
          clear c25
          (first | rw [c25b0] | (simp only [i64_w, i32_w]; rw [c25b0]) | skip)
          have H' := Aside0.mk H
          clear H
          go_wp2
          go_meet
          case rel => exact ⟨_, ((t300 == 6)), fj, H', ⟨by have := HJ13.out; have := HJ18.out; first | omega | exact Nat.le_refl _⟩, ⟨by refine bx ?_; exact BK299.out⟩, ⟨by refine bx ?_; exact BK302.out⟩, ⟨bl⟩⟩
         ·rw [if_neg c25] at H
          have c25b0 : (t300 == 6) = false := beq_eq_false_iff_ne.mpr c25
          have c25b1 : (t300 != 6) = true := bne_iff_ne.mpr c25
          (first | rw [c25b0] | (simp only [i64_w, i32_w]; rw [c25b0]) | skip)
          have H' := Aside0.mk H
          clear H
          go_wp2
          go_meet
          case rel => exact ⟨_, ((t300 == 11)), fj, H', ⟨by have := HJ13.out; have := HJ18.out; first | omega | exact Nat.le_refl _⟩, ⟨by refine bx ?_; exact BK299.out⟩, ⟨by refine bx ?_; exact BK302.out⟩, ⟨bl⟩⟩
        case rest =>
         clear HC24
         try clear c1
         try clear c2
         try clear p2
         try clear c4
         try clear c5
         try clear c12
         try clear c15
         try clear c15b0
         try clear c15b1
         try clear c16
         try clear c17
         try clear c20
         try clear c20b0
         try clear c20b1
         try clear c21
         try clear c22
         try clear c25
         try clear c25b0
         try clear c25b1
         try clear hcz13_0 hcz13_1 hcz13_2 hcz13_3 hcz13_4 hcz13_5 hcz13_6
         try clear hcz18_0 hcz18_1 hcz18_2 hcz18_3 hcz18_4 hcz18_5 hcz18_6
         try clear hcz23_0 hcz23_1 hcz23_2 hcz23_3 hcz23_4 hcz23_5 hcz23_6
         try clear hfz13_0 hfz13_1 hfz13_2 hfz13_3 hfz13_4 hfz13_5 hfz13_6
         try clear hfz18_0 hfz18_1 hfz18_2 hfz18_3 hfz18_4 hfz18_5 hfz18_6
         try clear hfz23_0 hfz23_1 hfz23_2 hfz23_3 hfz23_4 hfz23_5 hfz23_6
         try clear p2
         obtain ⟨kq, x36_23, rfl, HA, HJ23, BK299, BK302, HB⟩ := hcut
         cases kq with
         | zero => exact absurd HA.out (by simp [dec_parts.j2])
         | succ kj23 =>
          have H := HA.out
          clear HA
          simp only [dec_parts.j2] at H
          by_cases c26 : x36_23 = true
          ·subst c26
           have H1 : (dec_parts.j3 kj23 a0 t300 a1 t303 t304 t305 t301 false false) = some (r1, r2, r3, r4, r5, r6, r7) := by rw [if_pos rfl] at H; exact H
           clear H
           have H := H1
           clear H1
           have H' := Aside0.mk H
           clear H
           have hnb27 := NB302_299.out
           have hnc27 := NB299_302.out
           obtain ⟨hcz28_0, hcz28_1, hcz28_2, hcz28_3, hcz28_4, hcz28_5, hcz28_6, hfz28_0, hfz28_1, hfz28_2, hfz28_3, hfz28_4, hfz28_5, hfz28_6⟩ := cz7 (w := wc) BK302.out
           go_wp2
           go_meet
           case rel => exact ⟨_, (t303), (t304), (t305), H', ⟨by have := HJ13.out; have := HJ18.out; have := HJ23.out; first | omega | exact Nat.le_refl _⟩, ⟨by refine bx ?_; refine blk_far ?_ NB299_302.out _; refine bx ?_; refine blk_far ?_ NB299_302.out _; refine bx ?_; refine blk_far ?_ NB299_302.out _; refine bx ?_; exact BK299.out⟩, ⟨by refine bx ?_; refine blk_put (cs := #[.int .i64 a1, .int .i64 t303, .int .i64 t304, .int .i64 0, .int .i64 t301, .bool false, .bool false]) ?_ 3 _ rfl; refine bx ?_; refine blk_put (cs := #[.int .i64 a1, .int .i64 t303, .int .i64 0, .int .i64 0, .int .i64 t301, .bool false, .bool false]) ?_ 2 _ rfl; refine bx ?_; refine blk_put (cs := #[.int .i64 a1, .int .i64 0, .int .i64 0, .int .i64 0, .int .i64 t301, .bool false, .bool false]) ?_ 1 _ rfl; refine bx ?_; exact BK302.out⟩, ⟨bl⟩⟩
          ·replace c26 := Bool.eq_false_iff.mpr c26
           subst c26
           have H1 : (if t300 = 3 then (dec_parts.j3 kj23 a0 t300 a1 t303 t304 0 t301 false false) else (if t300 = 7 then (dec_parts.j3 kj23 a0 t300 a1 t303 t304 0 t301 false false) else (if t300 = 8 then (dec_parts.j3 kj23 a0 t300 a1 t303 t304 0 t301 false false) else (if t300 = 10 then (dec_parts.j3 kj23 a0 t300 a1 t303 t304 0 t301 false false) else (dec_parts.j3 kj23 a0 t300 a1 0 0 0 t301 false false))))) = some (r1, r2, r3, r4, r5, r6, r7) := by rw [if_neg (show ¬ (false = true) by decide)] at H; exact H
           clear H
           have H := H1
           clear H1
           by_cases c29 : t300 = 3
           ·rw [if_pos c29] at H
            obtain ⟨c29b0, c29b1⟩ := eqs c29
            clear c29
            have H' := Aside0.mk H
            clear H
            have hnb30 := NB302_299.out
            have hnc30 := NB299_302.out
            obtain ⟨hcz31_0, hcz31_1, hcz31_2, hcz31_3, hcz31_4, hcz31_5, hcz31_6, hfz31_0, hfz31_1, hfz31_2, hfz31_3, hfz31_4, hfz31_5, hfz31_6⟩ := cz7 (w := wc) BK302.out
            go_wp2
            go_meet
            case rel => exact ⟨_, (t303), (t304), (0), H', ⟨by have := HJ13.out; have := HJ18.out; have := HJ23.out; first | omega | exact Nat.le_refl _⟩, ⟨by refine bx ?_; refine blk_far ?_ NB299_302.out _; refine bx ?_; refine blk_far ?_ NB299_302.out _; refine bx ?_; exact BK299.out⟩, ⟨by refine bx ?_; refine blk_put (cs := #[.int .i64 a1, .int .i64 t303, .int .i64 0, .int .i64 0, .int .i64 t301, .bool false, .bool false]) ?_ 2 _ rfl; refine bx ?_; refine blk_put (cs := #[.int .i64 a1, .int .i64 0, .int .i64 0, .int .i64 0, .int .i64 t301, .bool false, .bool false]) ?_ 1 _ rfl; refine bx ?_; exact BK302.out⟩, ⟨bl⟩⟩
           ·rw [if_neg c29] at H
            have c29b0 : (t300 == 3) = false := beq_eq_false_iff_ne.mpr c29
            have c29b1 : (t300 != 3) = true := bne_iff_ne.mpr c29
            by_cases c32 : t300 = 7
            ·rw [if_pos c32] at H
             obtain ⟨c32b0, c32b1⟩ := eqs c32
             clear c32
             have H' := Aside0.mk H
             clear H
             have hnb33 := NB302_299.out
             have hnc33 := NB299_302.out
             obtain ⟨hcz34_0, hcz34_1, hcz34_2, hcz34_3, hcz34_4, hcz34_5, hcz34_6, hfz34_0, hfz34_1, hfz34_2, hfz34_3, hfz34_4, hfz34_5, hfz34_6⟩ := cz7 (w := wc) BK302.out
             go_wp2
             go_meet
             case rel => exact ⟨_, (t303), (t304), (0), H', ⟨by have := HJ13.out; have := HJ18.out; have := HJ23.out; first | omega | exact Nat.le_refl _⟩, ⟨by refine bx ?_; refine blk_far ?_ NB299_302.out _; refine bx ?_; refine blk_far ?_ NB299_302.out _; refine bx ?_; exact BK299.out⟩, ⟨by refine bx ?_; refine blk_put (cs := #[.int .i64 a1, .int .i64 t303, .int .i64 0, .int .i64 0, .int .i64 t301, .bool false, .bool false]) ?_ 2 _ rfl; refine bx ?_; refine blk_put (cs := #[.int .i64 a1, .int .i64 0, .int .i64 0, .int .i64 0, .int .i64 t301, .bool false, .bool false]) ?_ 1 _ rfl; refine bx ?_; exact BK302.out⟩, ⟨bl⟩⟩
            ·rw [if_neg c32] at H
             have c32b0 : (t300 == 7) = false := beq_eq_false_iff_ne.mpr c32
             have c32b1 : (t300 != 7) = true := bne_iff_ne.mpr c32
             by_cases c35 : t300 = 8
             ·rw [if_pos c35] at H
              obtain ⟨c35b0, c35b1⟩ := eqs c35
              clear c35
              have H' := Aside0.mk H
              clear H
              have hnb36 := NB302_299.out
              have hnc36 := NB299_302.out
              obtain ⟨hcz37_0, hcz37_1, hcz37_2, hcz37_3, hcz37_4, hcz37_5, hcz37_6, hfz37_0, hfz37_1, hfz37_2, hfz37_3, hfz37_4, hfz37_5, hfz37_6⟩ := cz7 (w := wc) BK302.out
              go_wp2
              go_meet
              case rel => exact ⟨_, (t303), (t304), (0), H', ⟨by have := HJ13.out; have := HJ18.out; have := HJ23.out; first | omega | exact Nat.le_refl _⟩, ⟨by refine bx ?_; refine blk_far ?_ NB299_302.out _; refine bx ?_; refine blk_far ?_ NB299_302.out _; refine bx ?_; exact BK299.out⟩, ⟨by refine bx ?_; refine blk_put (cs := #[.int .i64 a1, .int .i64 t303, .int .i64 0, .int .i64 0, .int .i64 t301, .bool false, .bool false]) ?_ 2 _ rfl; refine bx ?_; refine blk_put (cs := #[.int .i64 a1, .int .i64 0, .int .i64 0, .int .i64 0, .int .i64 t301, .bool false, .bool false]) ?_ 1 _ rfl; refine bx ?_; exact BK302.out⟩, ⟨bl⟩⟩
             ·rw [if_neg c35] at H
              have c35b0 : (t300 == 8) = false := beq_eq_false_iff_ne.mpr c35
              have c35b1 : (t300 != 8) = true := bne_iff_ne.mpr c35
              by_cases c38 : t300 = 10
              ·rw [if_pos c38] at H
               obtain ⟨c38b0, c38b1⟩ := eqs c38
               clear c38
               have H' := Aside0.mk H
               clear H
               have hnb39 := NB302_299.out
               have hnc39 := NB299_302.out
               obtain ⟨hcz40_0, hcz40_1, hcz40_2, hcz40_3, hcz40_4, hcz40_5, hcz40_6, hfz40_0, hfz40_1, hfz40_2, hfz40_3, hfz40_4, hfz40_5, hfz40_6⟩ := cz7 (w := wc) BK302.out
               go_wp2
               go_meet
               case rel => exact ⟨_, (t303), (t304), (0), H', ⟨by have := HJ13.out; have := HJ18.out; have := HJ23.out; first | omega | exact Nat.le_refl _⟩, ⟨by refine bx ?_; refine blk_far ?_ NB299_302.out _; refine bx ?_; refine blk_far ?_ NB299_302.out _; refine bx ?_; exact BK299.out⟩, ⟨by refine bx ?_; refine blk_put (cs := #[.int .i64 a1, .int .i64 t303, .int .i64 0, .int .i64 0, .int .i64 t301, .bool false, .bool false]) ?_ 2 _ rfl; refine bx ?_; refine blk_put (cs := #[.int .i64 a1, .int .i64 0, .int .i64 0, .int .i64 0, .int .i64 t301, .bool false, .bool false]) ?_ 1 _ rfl; refine bx ?_; exact BK302.out⟩, ⟨bl⟩⟩
              ·rw [if_neg c38] at H
               have c38b0 : (t300 == 10) = false := beq_eq_false_iff_ne.mpr c38
               have c38b1 : (t300 != 10) = true := bne_iff_ne.mpr c38
               have H' := Aside0.mk H
               clear H
               go_wp2
               go_meet
               case rel => exact ⟨_, (0), (0), (0), H', ⟨by have := HJ13.out; have := HJ18.out; have := HJ23.out; first | omega | exact Nat.le_refl _⟩, ⟨by refine bx ?_; exact BK299.out⟩, ⟨by refine bx ?_; exact BK302.out⟩, ⟨bl⟩⟩
 case rest =>
  clear HC8
  try clear c1
  try clear c2
  try clear p2
  try clear c3
  try clear c4
  try clear c5
  try clear c12
  try clear c15
  try clear c15b0
  try clear c15b1
  try clear c16
  try clear c17
  try clear c20
  try clear c20b0
  try clear c20b1
  try clear c21
  try clear c22
  try clear c25
  try clear c25b0
  try clear c25b1
  try clear c26
  try clear c27
  try clear c29
  try clear c29b0
  try clear c29b1
  try clear c30
  try clear c32
  try clear c32b0
  try clear c32b1
  try clear c33
  try clear c35
  try clear c35b0
  try clear c35b1
  try clear c36
  try clear c38
  try clear c38b0
  try clear c38b1
  try clear c39
  try clear c40
  try clear hcz13_0 hcz13_1 hcz13_2 hcz13_3 hcz13_4 hcz13_5 hcz13_6
  try clear hcz18_0 hcz18_1 hcz18_2 hcz18_3 hcz18_4 hcz18_5 hcz18_6
  try clear hcz23_0 hcz23_1 hcz23_2 hcz23_3 hcz23_4 hcz23_5 hcz23_6
  try clear hcz28_0 hcz28_1 hcz28_2 hcz28_3 hcz28_4 hcz28_5 hcz28_6
  try clear hcz31_0 hcz31_1 hcz31_2 hcz31_3 hcz31_4 hcz31_5 hcz31_6
  try clear hcz34_0 hcz34_1 hcz34_2 hcz34_3 hcz34_4 hcz34_5 hcz34_6
  try clear hcz37_0 hcz37_1 hcz37_2 hcz37_3 hcz37_4 hcz37_5 hcz37_6
  try clear hcz40_0 hcz40_1 hcz40_2 hcz40_3 hcz40_4 hcz40_5 hcz40_6
  try clear hfz13_0 hfz13_1 hfz13_2 hfz13_3 hfz13_4 hfz13_5 hfz13_6
  try clear hfz18_0 hfz18_1 hfz18_2 hfz18_3 hfz18_4 hfz18_5 hfz18_6
  try clear hfz23_0 hfz23_1 hfz23_2 hfz23_3 hfz23_4 hfz23_5 hfz23_6
  try clear hfz28_0 hfz28_1 hfz28_2 hfz28_3 hfz28_4 hfz28_5 hfz28_6
  try clear hfz31_0 hfz31_1 hfz31_2 hfz31_3 hfz31_4 hfz31_5 hfz31_6
  try clear hfz34_0 hfz34_1 hfz34_2 hfz34_3 hfz34_4 hfz34_5 hfz34_6
  try clear hfz37_0 hfz37_1 hfz37_2 hfz37_3 hfz37_4 hfz37_5 hfz37_6
  try clear hfz40_0 hfz40_1 hfz40_2 hfz40_3 hfz40_4 hfz40_5 hfz40_6
  try clear p2
  obtain ⟨kq, x303001_7, x303002_7, x303003_7, HA, HJ7, BK299, BK302, HB⟩ := hcut
  cases kq with
  | zero => exact absurd HA.out (by simp [dec_parts.j3])
  | succ kj7 =>
   have H := HA.out
   clear HA
   simp only [dec_parts.j3] at H
   have HC41 := Aside0.mk H
   clear H
   go_upto_region 19 with (fail)
   go_cut [59] (fun v59 wc => ∃ (kq : Nat) (x59_40 : Bool), v59 = .bool x59_40 ∧ Aside0 (dec_parts.j4 kq a0 x59_40 a1 x303001_7 x303002_7 x303003_7 t301 false false = some (r1, r2, r3, r4, r5, r6, r7)) ∧ Aside0 (kq ≤ kj7) ∧ Aside0 (wc.heap[gb299]? = some (.cells #[.int .i64 0, .int .i64 0, .int .i64 0, .int .i64 0, .int .i64 0, .bool false, .bool false] 24 (0, 0))) ∧ Aside0 (wc.heap[gb302]? = some (.cells #[.int .i64 a1, .int .i64 x303001_7, .int .i64 x303002_7, .int .i64 x303003_7, .int .i64 t301, .bool false, .bool false] 24 (0, 0))) ∧ Aside0 (Below w.heap.size w wc))
   case first =>
    have H := HC41.out
    clear HC41
    by_cases c42 : t300 = 10
    ·rw [if_pos c42] at H
     obtain ⟨c42b0, c42b1⟩ := eqs c42
     clear c42
     (first | rw [c42b0] | (simp only [i64_w, i32_w]; rw [c42b0]) | skip)
     have H' := Aside0.mk H
     clear H
     go_wp2
     go_meet
     case rel => exact ⟨_, (true), fj, H', ⟨by have := HJ7.out; first | omega | exact Nat.le_refl _⟩, ⟨by refine bx ?_; exact BK299.out⟩, ⟨by refine bx ?_; exact BK302.out⟩, ⟨bl⟩⟩
    ·rw [if_neg c42] at H
     have c42b0 : (t300 == 10) = false := beq_eq_false_iff_ne.mpr c42
     have c42b1 : (t300 != 10) = true := bne_iff_ne.mpr c42
     (first | rw [c42b0] | (simp only [i64_w, i32_w]; rw [c42b0]) | skip)
     have H' := Aside0.mk H
     clear H
     go_wp2
     go_meet
     case rel => exact ⟨_, ((t300 == 11)), fj, H', ⟨by have := HJ7.out; first | omega | exact Nat.le_refl _⟩, ⟨by refine bx ?_; exact BK299.out⟩, ⟨by refine bx ?_; exact BK302.out⟩, ⟨bl⟩⟩
   case rest =>
    clear HC41
    try clear c1
    try clear c2
    try clear p2
    try clear c3
    try clear c4
    try clear c5
    try clear c12
    try clear c15
    try clear c15b0
    try clear c15b1
    try clear c16
    try clear c17
    try clear c20
    try clear c20b0
    try clear c20b1
    try clear c21
    try clear c22
    try clear c25
    try clear c25b0
    try clear c25b1
    try clear c26
    try clear c27
    try clear c29
    try clear c29b0
    try clear c29b1
    try clear c30
    try clear c32
    try clear c32b0
    try clear c32b1
    try clear c33
    try clear c35
    try clear c35b0
    try clear c35b1
    try clear c36
    try clear c38
    try clear c38b0
    try clear c38b1
    try clear c39
    try clear c40
    try clear c42
    try clear c42b0
    try clear c42b1
    try clear hcz13_0 hcz13_1 hcz13_2 hcz13_3 hcz13_4 hcz13_5 hcz13_6
    try clear hcz18_0 hcz18_1 hcz18_2 hcz18_3 hcz18_4 hcz18_5 hcz18_6
    try clear hcz23_0 hcz23_1 hcz23_2 hcz23_3 hcz23_4 hcz23_5 hcz23_6
    try clear hcz28_0 hcz28_1 hcz28_2 hcz28_3 hcz28_4 hcz28_5 hcz28_6
    try clear hcz31_0 hcz31_1 hcz31_2 hcz31_3 hcz31_4 hcz31_5 hcz31_6
    try clear hcz34_0 hcz34_1 hcz34_2 hcz34_3 hcz34_4 hcz34_5 hcz34_6
    try clear hcz37_0 hcz37_1 hcz37_2 hcz37_3 hcz37_4 hcz37_5 hcz37_6
    try clear hcz40_0 hcz40_1 hcz40_2 hcz40_3 hcz40_4 hcz40_5 hcz40_6
    try clear hfz13_0 hfz13_1 hfz13_2 hfz13_3 hfz13_4 hfz13_5 hfz13_6
    try clear hfz18_0 hfz18_1 hfz18_2 hfz18_3 hfz18_4 hfz18_5 hfz18_6
    try clear hfz23_0 hfz23_1 hfz23_2 hfz23_3 hfz23_4 hfz23_5 hfz23_6
    try clear hfz28_0 hfz28_1 hfz28_2 hfz28_3 hfz28_4 hfz28_5 hfz28_6
    try clear hfz31_0 hfz31_1 hfz31_2 hfz31_3 hfz31_4 hfz31_5 hfz31_6
    try clear hfz34_0 hfz34_1 hfz34_2 hfz34_3 hfz34_4 hfz34_5 hfz34_6
    try clear hfz37_0 hfz37_1 hfz37_2 hfz37_3 hfz37_4 hfz37_5 hfz37_6
    try clear hfz40_0 hfz40_1 hfz40_2 hfz40_3 hfz40_4 hfz40_5 hfz40_6
    try clear p2
    obtain ⟨kq, x59_40, rfl, HA, HJ40, BK299, BK302, HB⟩ := hcut
    cases kq with
    | zero => exact absurd HA.out (by simp [dec_parts.j4])
    | succ kj40 =>
     have H := HA.out
     clear HA
     simp only [dec_parts.j4] at H
     by_cases c43 : x59_40 = true
     ·subst c43
      have H1 : ((dec_field.f a0 26 1).bind fun t306 => ((dec_field.f a0 25 1).bind fun t307 => (some (a1, x303001_7, x303002_7, x303003_7, t301, (t306 == 1), (t307 == 1))))) = some (r1, r2, r3, r4, r5, r6, r7) := by rw [if_pos rfl] at H; exact H
      clear H
      have H := H1
      clear H1
      replace H := be H
      obtain ⟨t306, A44, H⟩ := H
      replace H := be H
      obtain ⟨t307, A45, H⟩ := H
      simp only [Option.some.injEq, Prod.mk.injEq] at H
      obtain ⟨rfl, rfl, rfl, rfl, rfl, rfl, rfl⟩ := H
      go_wp2_with (first | ((with_reducible refine gate_callee (f := 52) rfl ?_); refine goesL_ (some 61) rfl rfl Tryd.func52 (by kernel_rfl) rfl #[.int .u32 a0, .int .i64 26, .int .i64 1] rfl ga ?_; (with_reducible refine (dec_field.calls a0 26 1 t306 _ A44.out).mono ?_); rintro e w' ⟨rfl, ⟨nd, rfl⟩⟩; refine ⟨_, rfl, ?_⟩; (try (rw [drewN_self wc]; generalize hq_ : World.drewN wc _ = wc; have n0_ : Aside0 (wc.heap[gb299]? = some (.cells #[.int .i64 0, .int .i64 0, .int .i64 0, .int .i64 0, .int .i64 0, .bool false, .bool false] 24 (0, 0))) := ⟨by rw [← hq_]; exact (bk BK299.out)⟩; have n1_ : Aside0 (wc.heap[gb302]? = some (.cells #[.int .i64 a1, .int .i64 x303001_7, .int .i64 x303002_7, .int .i64 x303003_7, .int .i64 t301, .bool false, .bool false] 24 (0, 0))) := ⟨by rw [← hq_]; exact (bk BK302.out)⟩; have n2_ : Aside0 (Below w.heap.size w wc) := ⟨by rw [← hq_]; exact bl⟩; clear BK299 BK302 HB hq_; have BK299 := n0_; have BK302 := n1_; have HB := n2_; clear n0_ n1_ n2_))) | ((with_reducible refine gate_callee (f := 52) rfl ?_); refine goesL_ (some 64) rfl rfl Tryd.func52 (by kernel_rfl) rfl #[.int .u32 a0, .int .i64 25, .int .i64 1] rfl ga ?_; (with_reducible refine (dec_field.calls a0 25 1 t307 _ A45.out).mono ?_); rintro e w' ⟨rfl, ⟨nd, rfl⟩⟩; refine ⟨_, rfl, ?_⟩; (try (rw [drewN_self wc]; generalize hq_ : World.drewN wc _ = wc; have n0_ : Aside0 (wc.heap[gb299]? = some (.cells #[.int .i64 0, .int .i64 0, .int .i64 0, .int .i64 0, .int .i64 0, .bool false, .bool false] 24 (0, 0))) := ⟨by rw [← hq_]; exact (bk BK299.out)⟩; have n1_ : Aside0 (wc.heap[gb302]? = some (.cells #[.int .i64 a1, .int .i64 x303001_7, .int .i64 x303002_7, .int .i64 x303003_7, .int .i64 t301, .bool false, .bool false] 24 (0, 0))) := ⟨by rw [← hq_]; exact (bk BK302.out)⟩; have n2_ : Aside0 (Below w.heap.size w wc) := ⟨by rw [← hq_]; exact bl⟩; clear BK299 BK302 HB hq_; have BK299 := n0_; have BK302 := n1_; have HB := n2_; clear n0_ n1_ n2_)); have hnb46 := NB302_299.out; have hnc46 := NB299_302.out; obtain ⟨hcz47_0, hcz47_1, hcz47_2, hcz47_3, hcz47_4, hcz47_5, hcz47_6, hfz47_0, hfz47_1, hfz47_2, hfz47_3, hfz47_4, hfz47_5, hfz47_6⟩ := cz7 (w := wc) BK302.out; obtain ⟨hcz48_0, hcz48_1, hcz48_2, hcz48_3, hcz48_4, hcz48_5, hcz48_6, hfz48_0, hfz48_1, hfz48_2, hfz48_3, hfz48_4, hfz48_5, hfz48_6⟩ := cz7 (w := wc) BK299.out))
      refine bodyPost_ret (results_cell_row rfl _ _ gb299 24 #[.int .i64 a1, .int .i64 x303001_7, .int .i64 x303002_7, .int .i64 x303003_7, .int .i64 t301, .bool (t306 == 1), .bool (t307 == 1)] (0, 0) _ rfl (by refine bx ?_; refine blk_put (cs := #[.int .i64 a1, .int .i64 x303001_7, .int .i64 x303002_7, .int .i64 x303003_7, .int .i64 t301, .bool (t306 == 1), .bool false]) ?_ 6 _ rfl; refine bx ?_; refine blk_put (cs := #[.int .i64 a1, .int .i64 x303001_7, .int .i64 x303002_7, .int .i64 x303003_7, .int .i64 t301, .bool false, .bool false]) ?_ 5 _ rfl; refine bx ?_; refine blk_put (cs := #[.int .i64 a1, .int .i64 x303001_7, .int .i64 x303002_7, .int .i64 x303003_7, .int .i64 0, .bool false, .bool false]) ?_ 4 _ rfl; refine bx ?_; refine blk_put (cs := #[.int .i64 a1, .int .i64 x303001_7, .int .i64 x303002_7, .int .i64 0, .int .i64 0, .bool false, .bool false]) ?_ 3 _ rfl; refine bx ?_; refine blk_put (cs := #[.int .i64 a1, .int .i64 x303001_7, .int .i64 0, .int .i64 0, .int .i64 0, .bool false, .bool false]) ?_ 2 _ rfl; refine bx ?_; refine blk_put (cs := #[.int .i64 a1, .int .i64 0, .int .i64 0, .int .i64 0, .int .i64 0, .bool false, .bool false]) ?_ 1 _ rfl; refine bx ?_; refine blk_put (cs := #[.int .i64 0, .int .i64 0, .int .i64 0, .int .i64 0, .int .i64 0, .bool false, .bool false]) ?_ 0 _ rfl; refine bx ?_; refine blk_far ?_ NB299_302.out _; refine bx ?_; refine blk_far ?_ NB299_302.out _; refine bx ?_; exact BK299.out) Tryd.underlying24 rfl (by kernel_rfl)) rfl ?_
      exact ⟨fi, bl⟩
     ·replace c43 := Bool.eq_false_iff.mpr c43
      subst c43
      have H1 : (some (a1, x303001_7, x303002_7, x303003_7, t301, false, false)) = some (r1, r2, r3, r4, r5, r6, r7) := by rw [if_neg (show ¬ (false = true) by decide)] at H; exact H
      clear H
      have H := H1
      clear H1
      simp only [Option.some.injEq, Prod.mk.injEq] at H
      obtain ⟨rfl, rfl, rfl, rfl, rfl, rfl, rfl⟩ := H
      have hnb49 := NB302_299.out
      have hnc49 := NB299_302.out
      obtain ⟨hcz50_0, hcz50_1, hcz50_2, hcz50_3, hcz50_4, hcz50_5, hcz50_6, hfz50_0, hfz50_1, hfz50_2, hfz50_3, hfz50_4, hfz50_5, hfz50_6⟩ := cz7 (w := wc) BK302.out
      obtain ⟨hcz51_0, hcz51_1, hcz51_2, hcz51_3, hcz51_4, hcz51_5, hcz51_6, hfz51_0, hfz51_1, hfz51_2, hfz51_3, hfz51_4, hfz51_5, hfz51_6⟩ := cz7 (w := wc) BK299.out
      go_wp2
      refine bodyPost_ret (results_cell_row rfl _ _ gb299 24 #[.int .i64 a1, .int .i64 x303001_7, .int .i64 x303002_7, .int .i64 x303003_7, .int .i64 t301, .bool false, .bool false] (0, 0) _ rfl (by refine bx ?_; refine blk_put (cs := #[.int .i64 a1, .int .i64 x303001_7, .int .i64 x303002_7, .int .i64 x303003_7, .int .i64 t301, .bool false, .bool false]) ?_ 6 _ rfl; refine bx ?_; refine blk_put (cs := #[.int .i64 a1, .int .i64 x303001_7, .int .i64 x303002_7, .int .i64 x303003_7, .int .i64 t301, .bool false, .bool false]) ?_ 5 _ rfl; refine bx ?_; refine blk_put (cs := #[.int .i64 a1, .int .i64 x303001_7, .int .i64 x303002_7, .int .i64 x303003_7, .int .i64 0, .bool false, .bool false]) ?_ 4 _ rfl; refine bx ?_; refine blk_put (cs := #[.int .i64 a1, .int .i64 x303001_7, .int .i64 x303002_7, .int .i64 0, .int .i64 0, .bool false, .bool false]) ?_ 3 _ rfl; refine bx ?_; refine blk_put (cs := #[.int .i64 a1, .int .i64 x303001_7, .int .i64 0, .int .i64 0, .int .i64 0, .bool false, .bool false]) ?_ 2 _ rfl; refine bx ?_; refine blk_put (cs := #[.int .i64 a1, .int .i64 0, .int .i64 0, .int .i64 0, .int .i64 0, .bool false, .bool false]) ?_ 1 _ rfl; refine bx ?_; refine blk_put (cs := #[.int .i64 0, .int .i64 0, .int .i64 0, .int .i64 0, .int .i64 0, .bool false, .bool false]) ?_ 0 _ rfl; refine bx ?_; exact BK299.out) Tryd.underlying24 rfl (by kernel_rfl)) rfl ?_
      exact ⟨fi, bl⟩

end Go.Proofs.YtffehgfjjagibaaDoor.GImagePlaces
