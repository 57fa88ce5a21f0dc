-- Written by wip/stub.py of this repo.
import Derived.Test.YtfpphaflbmlpeaaGImageChecksx0
import Derived.Test.YtfpphaflbmlpeaaGImageChecksx1
import Derived.Test.YtfpphaflbmlpeaaGImageChecksx2
import Derived.Test.YtfpphaflbmlpeaaGImageChecksx3
import Derived.Test.YtfpphaflbmlpeaaGImageChecksx5
import Derived.Test.YtfpphaflbmlpeaaGImageChecksx6
namespace Go.Proofs.Ytfpphaflbmlpeaa.GImageChecks
open Go.RowKit Go.Proofs.YtfpphaflbmlpeaaW.PrintWords Go.Proofs.YtfpphaflbmlpeaaW.PrintLast Go.Proofs.YtfpphaflbmlpeaaW.PrintMore
attribute [local go_sem] max2_int min2_int max_two min_two max_three min_three max_four min_four   -- for this text's walks alone
set_option linter.unusedVariables false
set_option linter.unusedSimpArgs false

/-! ### spinnakerref08_Same: function 16 -/
mutual
def spinnakerref08_Same.j0 : Nat → Bool → List Int → List Int → List Int → List Int → List Int → List Int → Option (Bool)
  | 0, _, _, _, _, _, _, _ => none
  | k + 1, x28, x283000, x283001, x283002, x284000, x284001, x284002 => if x28 = true then (some false) else (spinnakerref08_Same.l0 k 0 x283000 x283001 x283002 x284000 x284001 x284002)
def spinnakerref08_Same.l0 : Nat → Int → List Int → List Int → List Int → List Int → List Int → List Int → Option (Bool)
  | 0, _, _, _, _, _, _, _ => none
  | k + 1, x5, x283000, x283001, x283002, x284000, x284001, x284002 => if x5 < (x283000.length : Int) then (if 0 ≤ x5 then (if x5 < (x284000.length : Int) then (if (rd x283000 x5) = (rd x284000 x5) then (spinnakerref08_Same.l0 k (wrap64 (x5 + 1)) x283000 x283001 x283002 x284000 x284001 x284002) else (some false)) else (none)) else (none)) else (some true)
end
def spinnakerref08_Same.f (k : Nat) (l0_0 : List Int) (l0_1 : List Int) (l0_2 : List Int) (l1_0 : List Int) (l1_1 : List Int) (l1_2 : List Int) : Option (Bool) := if (l0_0.length : Int) = (l1_0.length : Int) then ((spinnakerref01_Ints.f k l0_1 l1_1).bind fun t284 => (if t284 = true then ((spinnakerref01_Ints.f k l0_2 l1_2).bind fun t285 => (spinnakerref08_Same.j0 k (!t285) l0_0 l0_1 l0_2 l1_0 l1_1 l1_2)) else (spinnakerref08_Same.j0 k true l0_0 l0_1 l0_2 l1_0 l1_1 l1_2))) else (spinnakerref08_Same.j0 k true l0_0 l0_1 l0_2 l1_0 l1_1 l1_2)
theorem spinnakerref08_Same.mono_l : ∀ k, (∀ y0 y1 y2 y3 y4 y5 y6, LeO (spinnakerref08_Same.j0 k y0 y1 y2 y3 y4 y5 y6) (spinnakerref08_Same.j0 (k + 1) y0 y1 y2 y3 y4 y5 y6)) ∧ (∀ y0 y1 y2 y3 y4 y5 y6, LeO (spinnakerref08_Same.l0 k y0 y1 y2 y3 y4 y5 y6) (spinnakerref08_Same.l0 (k + 1) y0 y1 y2 y3 y4 y5 y6))
 | 0 => ⟨fun _ _ _ _ _ _ _ r h => by simp [spinnakerref08_Same.j0] at h, fun _ _ _ _ _ _ _ r h => by simp [spinnakerref08_Same.l0] at h⟩
 | k + 1 => by
  obtain ⟨ih0, ih1⟩ := spinnakerref08_Same.mono_l k
  refine ⟨?_, ?_⟩
  all_goals (intros; (first | unfold spinnakerref08_Same.j0 | unfold spinnakerref08_Same.l0); repeat' first | (with_reducible first | exact ih0 _ _ _ _ _ _ _ | exact ih1 _ _ _ _ _ _ _ | exact spinnakerref01_Ints.mono _ _ _ | exact LeO.refl _ | exact LeO.none _ | refine LeO.ite ?_ ?_ | refine LeO.bind ?_ (fun _ => ?_)) | exact ih0 _ _ _ _ _ _ _ | exact ih1 _ _ _ _ _ _ _ | exact spinnakerref01_Ints.mono _ _ _ | exact LeO.none _ | refine LeO.ite ?_ ?_ | refine LeO.bind ?_ (fun _ => ?_))
theorem spinnakerref08_Same.mono : ∀ a0 a1 a2 a3 a4 a5 k, LeO (spinnakerref08_Same.f k a0 a1 a2 a3 a4 a5) (spinnakerref08_Same.f (k + 1) a0 a1 a2 a3 a4 a5) := by
 intro a0 a1 a2 a3 a4 a5 k
 obtain ⟨ih0, ih1⟩ := spinnakerref08_Same.mono_l k
 unfold spinnakerref08_Same.f
 repeat' first | (with_reducible first | exact ih0 _ _ _ _ _ _ _ | exact ih1 _ _ _ _ _ _ _ | exact spinnakerref01_Ints.mono _ _ _ | exact LeO.refl _ | exact LeO.none _ | refine LeO.ite ?_ ?_ | refine LeO.bind ?_ (fun _ => ?_)) | exact ih0 _ _ _ _ _ _ _ | exact ih1 _ _ _ _ _ _ _ | exact spinnakerref01_Ints.mono _ _ _ | exact LeO.none _ | refine LeO.ite ?_ ?_ | refine LeO.bind ?_ (fun _ => ?_)
set_option maxHeartbeats 8000000 in
set_option maxRecDepth 100000 in
theorem spinnakerref08_Same.calls (k : Nat) (A0_0 : Option Addr) (c0_0 : Nat) (l0_0 : List Int) (A0_1 : Option Addr) (c0_1 : Nat) (l0_1 : List Int) (A0_2 : Option Addr) (c0_2 : Nat) (l0_2 : List Int) (A1_0 : Option Addr) (c1_0 : Nat) (l1_0 : List Int) (A1_1 : Option Addr) (c1_1 : Nat) (l1_1 : List Int) (A1_2 : Option Addr) (c1_2 : Nat) (l1_2 : List Int) (r : Bool) (w : World) (hr0_0 : Kd.C (Kd.int .u32) w A0_0 l0_0.length l0_0) (hc0_0 : l0_0.length ≤ c0_0) (hr0_1 : Kd.C (Kd.int .i64) w A0_1 l0_1.length l0_1) (hc0_1 : l0_1.length ≤ c0_1) (hr0_2 : Kd.C (Kd.int .i64) w A0_2 l0_2.length l0_2) (hc0_2 : l0_2.length ≤ c0_2) (hr1_0 : Kd.C (Kd.int .u32) w A1_0 l1_0.length l1_0) (hc1_0 : l1_0.length ≤ c1_0) (hr1_1 : Kd.C (Kd.int .i64) w A1_1 l1_1.length l1_1) (hc1_1 : l1_1.length ≤ c1_1) (hr1_2 : Kd.C (Kd.int .i64) w A1_2 l1_2.length l1_2) (hc1_2 : l1_2.length ≤ c1_2) (h : spinnakerref08_Same.f k l0_0 l0_1 l0_2 l1_0 l1_1 l1_2 = some r) :
  Calls Try.prog 16 #[.agg #[.slice A0_0 l0_0.length c0_0, .slice A0_1 l0_1.length c0_1, .slice A0_2 l0_2.length c0_2], .agg #[.slice A1_0 l1_0.length c1_0, .slice A1_1 l1_1.length c1_1, .slice A1_2 l1_2.length c1_2]] w fun e w' => e = .returned (.bool r) ∧ Below w.heap.size w w' := by
 have hu25 := Try.underlying25
 have HR0_0 := Aside0.mk hr0_0
 have HC0_0 := Aside0.mk hc0_0
 clear hr0_0 hc0_0
 have HR0_1 := Aside0.mk hr0_1
 have HC0_1 := Aside0.mk hc0_1
 clear hr0_1 hc0_1
 have HR0_2 := Aside0.mk hr0_2
 have HC0_2 := Aside0.mk hc0_2
 clear hr0_2 hc0_2
 have HR1_0 := Aside0.mk hr1_0
 have HC1_0 := Aside0.mk hc1_0
 clear hr1_0 hc1_0
 have HR1_1 := Aside0.mk hr1_1
 have HC1_1 := Aside0.mk hc1_1
 clear hr1_1 hc1_1
 have HR1_2 := Aside0.mk hr1_2
 have HC1_2 := Aside0.mk hc1_2
 clear hr1_2 hc1_2
 have HB := Aside0.mk (Below.refl w.heap.size w)
 have H : (if (l0_0.length : Int) = (l1_0.length : Int) then ((spinnakerref01_Ints.f k l0_1 l1_1).bind fun t284 => (if t284 = true then ((spinnakerref01_Ints.f k l0_2 l1_2).bind fun t285 => (spinnakerref08_Same.j0 k (!t285) l0_0 l0_1 l0_2 l1_0 l1_1 l1_2)) else (spinnakerref08_Same.j0 k true l0_0 l0_1 l0_2 l1_0 l1_1 l1_2))) else (spinnakerref08_Same.j0 k true l0_0 l0_1 l0_2 l1_0 l1_1 l1_2)) = some r := h
 clear h
 have HC3 := Aside0.mk H
 clear H
 go_enter Try.func16, Try.ntmps16
 go_upto_region 1 with (first | ((with_reducible refine gate_dst (N := 2) rfl ?_); refine box_event ?hg (N := 2) ?hd (cs := #[.slice A0_0 l0_0.length c0_0, .slice A0_1 l0_1.length c0_1, .slice A0_2 l0_2.length c0_2]) (t := 25) ?hr ?_; (case hd => rfl); (case hg => rfl); (case hr => first | (go_simp; done) | (go_simp; rfl)); intro gb282 hg w4 hbox hb; obtain ⟨n0_, GW282⟩ := nb (w := w) hg hb; clear HB; have HB := n0_; have BK282 := Aside0.mk hbox; have GE282 := GW282; clear n0_ hb hbox hg) | ((with_reducible refine gate_dst (N := 3) rfl ?_); refine box_event ?hg (N := 3) ?hd (cs := #[.slice A1_0 l1_0.length c1_0, .slice A1_1 l1_1.length c1_1, .slice A1_2 l1_2.length c1_2]) (t := 25) ?hr ?_; (case hd => rfl); (case hg => rfl); (case hr => first | (go_simp; done) | (go_simp; rfl)); intro gb283 hg w5 hbox hb; have n0_ := Aside0.mk (blk_below (g := gb282) (o := .cells #[.slice A0_0 l0_0.length c0_0, .slice A0_1 l0_1.length c0_1, .slice A0_2 l0_2.length c0_2] 25 (0, 0)) (bk BK282.out) hb); have n1_ := Aside0.mk (below_step bl hb); have n2_ := Aside0.mk (hbox); have n3_ := Aside0.mk ((by rw [hg]; exact (below_size bl) : w.heap.size ≤ gb283)); have n4_ := Aside0.mk ((by rw [hg]; exact (below_size bl) : w.heap.size ≤ gb283)); have n5_ := Aside0.mk ((by rw [hg]; exact Nat.ne_of_lt (blk_lt (g := gb282) (o := .cells #[.slice A0_0 l0_0.length c0_0, .slice A0_1 l0_1.length c0_1, .slice A0_2 l0_2.length c0_2] 25 (0, 0)) (bk BK282.out)) : gb282 ≠ gb283)); have n6_ := Aside0.mk ((by rw [hg]; exact Nat.ne_of_gt (blk_lt (g := gb282) (o := .cells #[.slice A0_0 l0_0.length c0_0, .slice A0_1 l0_1.length c0_1, .slice A0_2 l0_2.length c0_2] 25 (0, 0)) (bk BK282.out)) : gb283 ≠ gb282)); clear BK282; clear HB; have BK282 := n0_; have HB := n1_; have BK283 := n2_; have GW283 := n3_; have GE283 := n4_; have NB282_283 := n5_; have NB283_282 := n6_; clear n0_ n1_ n2_ n3_ n4_ n5_ n6_; clear hb hbox hg))
 repeat (go_quiet (first | ((with_reducible refine gate_dst (N := 2) rfl ?_); refine box_event ?hg (N := 2) ?hd (cs := #[.slice A0_0 l0_0.length c0_0, .slice A0_1 l0_1.length c0_1, .slice A0_2 l0_2.length c0_2]) (t := 25) ?hr ?_; (case hd => rfl); (case hg => rfl); (case hr => first | (go_simp; done) | (go_simp; rfl)); intro gb282 hg w4 hbox hb; obtain ⟨n0_, GW282⟩ := nb (w := w) hg hb; clear HB; have HB := n0_; have BK282 := Aside0.mk hbox; have GE282 := GW282; clear n0_ hb hbox hg) | ((with_reducible refine gate_dst (N := 3) rfl ?_); refine box_event ?hg (N := 3) ?hd (cs := #[.slice A1_0 l1_0.length c1_0, .slice A1_1 l1_1.length c1_1, .slice A1_2 l1_2.length c1_2]) (t := 25) ?hr ?_; (case hd => rfl); (case hg => rfl); (case hr => first | (go_simp; done) | (go_simp; rfl)); intro gb283 hg w5 hbox hb; have n0_ := Aside0.mk (blk_below (g := gb282) (o := .cells #[.slice A0_0 l0_0.length c0_0, .slice A0_1 l0_1.length c0_1, .slice A0_2 l0_2.length c0_2] 25 (0, 0)) (bk BK282.out) hb); have n1_ := Aside0.mk (below_step bl hb); have n2_ := Aside0.mk (hbox); have n3_ := Aside0.mk ((by rw [hg]; exact (below_size bl) : w.heap.size ≤ gb283)); have n4_ := Aside0.mk ((by rw [hg]; exact (below_size bl) : w.heap.size ≤ gb283)); have n5_ := Aside0.mk ((by rw [hg]; exact Nat.ne_of_lt (blk_lt (g := gb282) (o := .cells #[.slice A0_0 l0_0.length c0_0, .slice A0_1 l0_1.length c0_1, .slice A0_2 l0_2.length c0_2] 25 (0, 0)) (bk BK282.out)) : gb282 ≠ gb283)); have n6_ := Aside0.mk ((by rw [hg]; exact Nat.ne_of_gt (blk_lt (g := gb282) (o := .cells #[.slice A0_0 l0_0.length c0_0, .slice A0_1 l0_1.length c0_1, .slice A0_2 l0_2.length c0_2] 25 (0, 0)) (bk BK282.out)) : gb283 ≠ gb282)); clear BK282; clear HB; have BK282 := n0_; have HB := n1_; have BK283 := n2_; have GW283 := n3_; have GE283 := n4_; have NB282_283 := n5_; have NB283_282 := n6_; clear n0_ n1_ n2_ n3_ n4_ n5_ n6_; clear hb hbox hg)); go_upto_region 1 with (first | ((with_reducible refine gate_dst (N := 2) rfl ?_); refine box_event ?hg (N := 2) ?hd (cs := #[.slice A0_0 l0_0.length c0_0, .slice A0_1 l0_1.length c0_1, .slice A0_2 l0_2.length c0_2]) (t := 25) ?hr ?_; (case hd => rfl); (case hg => rfl); (case hr => first | (go_simp; done) | (go_simp; rfl)); intro gb282 hg w4 hbox hb; obtain ⟨n0_, GW282⟩ := nb (w := w) hg hb; clear HB; have HB := n0_; have BK282 := Aside0.mk hbox; have GE282 := GW282; clear n0_ hb hbox hg) | ((with_reducible refine gate_dst (N := 3) rfl ?_); refine box_event ?hg (N := 3) ?hd (cs := #[.slice A1_0 l1_0.length c1_0, .slice A1_1 l1_1.length c1_1, .slice A1_2 l1_2.length c1_2]) (t := 25) ?hr ?_; (case hd => rfl); (case hg => rfl); (case hr => first | (go_simp; done) | (go_simp; rfl)); intro gb283 hg w5 hbox hb; have n0_ := Aside0.mk (blk_below (g := gb282) (o := .cells #[.slice A0_0 l0_0.length c0_0, .slice A0_1 l0_1.length c0_1, .slice A0_2 l0_2.length c0_2] 25 (0, 0)) (bk BK282.out) hb); have n1_ := Aside0.mk (below_step bl hb); have n2_ := Aside0.mk (hbox); have n3_ := Aside0.mk ((by rw [hg]; exact (below_size bl) : w.heap.size ≤ gb283)); have n4_ := Aside0.mk ((by rw [hg]; exact (below_size bl) : w.heap.size ≤ gb283)); have n5_ := Aside0.mk ((by rw [hg]; exact Nat.ne_of_lt (blk_lt (g := gb282) (o := .cells #[.slice A0_0 l0_0.length c0_0, .slice A0_1 l0_1.length c0_1, .slice A0_2 l0_2.length c0_2] 25 (0, 0)) (bk BK282.out)) : gb282 ≠ gb283)); have n6_ := Aside0.mk ((by rw [hg]; exact Nat.ne_of_gt (blk_lt (g := gb282) (o := .cells #[.slice A0_0 l0_0.length c0_0, .slice A0_1 l0_1.length c0_1, .slice A0_2 l0_2.length c0_2] 25 (0, 0)) (bk BK282.out)) : gb283 ≠ gb282)); clear BK282; clear HB; have BK282 := n0_; have HB := n1_; have BK283 := n2_; have GW283 := n3_; have GE283 := n4_; have NB282_283 := n5_; have NB283_282 := n6_; clear n0_ n1_ n2_ n3_ n4_ n5_ n6_; clear hb hbox hg)))
 (try simp only [Act.put, List.setIfInBounds_toArray, List.set_cons_zero, List.set_cons_succ])
 go_cut [28] (fun v28 wc => ∃ (kq : Nat) (x28_2 : Bool), v28 = .bool x28_2 ∧ Aside0 (spinnakerref08_Same.j0 kq x28_2 l0_0 l0_1 l0_2 l1_0 l1_1 l1_2 = some r) ∧ Aside0 (kq ≤ k) ∧ Aside0 (wc.heap[gb282]? = some (.cells #[(.slice A0_0 l0_0.length c0_0), (.slice A0_1 l0_1.length c0_1), (.slice A0_2 l0_2.length c0_2)] 25 (0, 0))) ∧ Aside0 (wc.heap[gb283]? = some (.cells #[(.slice A1_0 l1_0.length c1_0), (.slice A1_1 l1_1.length c1_1), (.slice A1_2 l1_2.length c1_2)] 25 (0, 0))) ∧ Aside0 (Below w.heap.size w wc))
 case first =>
  have H := HC3.out
  clear HC3
  by_cases c6 : (l0_0.length : Int) = (l1_0.length : Int)
  ·rw [if_pos c6] at H
   have c6b0 : ((l0_0.length : Int) == (l1_0.length : Int)) = true := beq_iff_eq.mpr c6
   have c6b1 : ((l0_0.length : Int) != (l1_0.length : Int)) = false := bne_eq_false_iff_eq.mpr c6
   have c6b2 : (l0_0.length == l1_0.length) = true := by first | simpa using c6 | (simp at c6 ⊢; omega)
   clear c6
   (first | rw [c6b0] | (simp only [i64_w, i32_w]; rw [c6b0]) | skip)
   replace H := be H
   obtain ⟨t284, A7, H⟩ := H
   by_cases c8 : t284 = true
   ·subst c8
    have H1 : ((spinnakerref01_Ints.f k l0_2 l1_2).bind fun t285 => (spinnakerref08_Same.j0 k (!t285) l0_0 l0_1 l0_2 l1_0 l1_1 l1_2)) = some r := by rw [if_pos rfl] at H; exact H
    clear H
    have H := H1
    clear H1
    replace H := be H
    obtain ⟨t285, A9, H⟩ := H
    have H' := Aside0.mk H
    clear H
    have hnb10 := NB282_283.out
    have hnc10 := NB283_282.out
    obtain ⟨hcz11_0, hcz11_1, hcz11_2, hfz11_0, hfz11_1, hfz11_2⟩ := cz3 (w := w5) BK282.out
    obtain ⟨hcz12_0, hcz12_1, hcz12_2, hfz12_0, hfz12_1, hfz12_2⟩ := cz3 (w := w5) BK283.out
    go_wp2_with (first | (go_at_call 37; (with_reducible refine (spinnakerref01_Ints.calls k _ _ l0_1 _ _ l1_1 true _ ?side1 ?side2 ?side3 ?side4 A7.out).mono ?_); (case side1 => repeat (first | exact (Kd.C_below HR0_1.out HB.out) | (with_reducible refine Kd.C_alloc ?_ _) | (with_reducible refine Kd.C_drewN ?_ _) | (with_reducible refine Kd.C_drew ?_))); (case side2 => exact HC0_1.out); (case side3 => repeat (first | exact (Kd.C_below HR1_1.out HB.out) | (with_reducible refine Kd.C_alloc ?_ _) | (with_reducible refine Kd.C_drewN ?_ _) | (with_reducible refine Kd.C_drew ?_))); (case side4 => exact HC1_1.out); rintro e w' ⟨rfl, ⟨nd, rfl⟩⟩; (try first | exact ⟨rfl, _, World.drewN_drewN _ _ _⟩ | exact ⟨rfl, _, Eq.trans (World.drewN_drewN _ _ _) (congrArg (World.drewN _) (Nat.add_assoc _ _ _))⟩)) | (go_at_call 37; (with_reducible refine (spinnakerref01_Ints.calls k _ _ l0_2 _ _ l1_2 t285 _ ?side1 ?side2 ?side3 ?side4 A9.out).mono ?_); (case side1 => repeat (first | exact (Kd.C_below HR0_2.out bl) | (with_reducible refine Kd.C_alloc ?_ _) | (with_reducible refine Kd.C_drewN ?_ _) | (with_reducible refine Kd.C_drew ?_))); (case side2 => exact HC0_2.out); (case side3 => repeat (first | exact (Kd.C_below HR1_2.out bl) | (with_reducible refine Kd.C_alloc ?_ _) | (with_reducible refine Kd.C_drewN ?_ _) | (with_reducible refine Kd.C_drew ?_))); (case side4 => exact HC1_2.out); rintro e w' ⟨rfl, ⟨nd, rfl⟩⟩; (try first | exact ⟨rfl, _, World.drewN_drewN _ _ _⟩ | exact ⟨rfl, _, Eq.trans (World.drewN_drewN _ _ _) (congrArg (World.drewN _) (Nat.add_assoc _ _ _))⟩)))
    repeat (go_quiet (first | (go_at_call 37; (with_reducible refine (spinnakerref01_Ints.calls k _ _ l0_1 _ _ l1_1 true _ ?side1 ?side2 ?side3 ?side4 A7.out).mono ?_); (case side1 => repeat (first | exact (Kd.C_below HR0_1.out HB.out) | (with_reducible refine Kd.C_alloc ?_ _) | (with_reducible refine Kd.C_drewN ?_ _) | (with_reducible refine Kd.C_drew ?_))); (case side2 => exact HC0_1.out); (case side3 => repeat (first | exact (Kd.C_below HR1_1.out HB.out) | (with_reducible refine Kd.C_alloc ?_ _) | (with_reducible refine Kd.C_drewN ?_ _) | (with_reducible refine Kd.C_drew ?_))); (case side4 => exact HC1_1.out); rintro e w' ⟨rfl, ⟨nd, rfl⟩⟩; (try first | exact ⟨rfl, _, World.drewN_drewN _ _ _⟩ | exact ⟨rfl, _, Eq.trans (World.drewN_drewN _ _ _) (congrArg (World.drewN _) (Nat.add_assoc _ _ _))⟩)) | (go_at_call 37; (with_reducible refine (spinnakerref01_Ints.calls k _ _ l0_2 _ _ l1_2 t285 _ ?side1 ?side2 ?side3 ?side4 A9.out).mono ?_); (case side1 => repeat (first | exact (Kd.C_below HR0_2.out bl) | (with_reducible refine Kd.C_alloc ?_ _) | (with_reducible refine Kd.C_drewN ?_ _) | (with_reducible refine Kd.C_drew ?_))); (case side2 => exact HC0_2.out); (case side3 => repeat (first | exact (Kd.C_below HR1_2.out bl) | (with_reducible refine Kd.C_alloc ?_ _) | (with_reducible refine Kd.C_drewN ?_ _) | (with_reducible refine Kd.C_drew ?_))); (case side4 => exact HC1_2.out); rintro e w' ⟨rfl, ⟨nd, rfl⟩⟩; (try first | exact ⟨rfl, _, World.drewN_drewN _ _ _⟩ | exact ⟨rfl, _, Eq.trans (World.drewN_drewN _ _ _) (congrArg (World.drewN _) (Nat.add_assoc _ _ _))⟩))); try go_wp2_with (first | (go_at_call 37; (with_reducible refine (spinnakerref01_Ints.calls k _ _ l0_1 _ _ l1_1 true _ ?side1 ?side2 ?side3 ?side4 A7.out).mono ?_); (case side1 => repeat (first | exact (Kd.C_below HR0_1.out HB.out) | (with_reducible refine Kd.C_alloc ?_ _) | (with_reducible refine Kd.C_drewN ?_ _) | (with_reducible refine Kd.C_drew ?_))); (case side2 => exact HC0_1.out); (case side3 => repeat (first | exact (Kd.C_below HR1_1.out HB.out) | (with_reducible refine Kd.C_alloc ?_ _) | (with_reducible refine Kd.C_drewN ?_ _) | (with_reducible refine Kd.C_drew ?_))); (case side4 => exact HC1_1.out); rintro e w' ⟨rfl, ⟨nd, rfl⟩⟩; (try first | exact ⟨rfl, _, World.drewN_drewN _ _ _⟩ | exact ⟨rfl, _, Eq.trans (World.drewN_drewN _ _ _) (congrArg (World.drewN _) (Nat.add_assoc _ _ _))⟩)) | (go_at_call 37; (with_reducible refine (spinnakerref01_Ints.calls k _ _ l0_2 _ _ l1_2 t285 _ ?side1 ?side2 ?side3 ?side4 A9.out).mono ?_); (case side1 => repeat (first | exact (Kd.C_below HR0_2.out bl) | (with_reducible refine Kd.C_alloc ?_ _) | (with_reducible refine Kd.C_drewN ?_ _) | (with_reducible refine Kd.C_drew ?_))); (case side2 => exact HC0_2.out); (case side3 => repeat (first | exact (Kd.C_below HR1_2.out bl) | (with_reducible refine Kd.C_alloc ?_ _) | (with_reducible refine Kd.C_drewN ?_ _) | (with_reducible refine Kd.C_drew ?_))); (case side4 => exact HC1_2.out); rintro e w' ⟨rfl, ⟨nd, rfl⟩⟩; (try first | exact ⟨rfl, _, World.drewN_drewN _ _ _⟩ | exact ⟨rfl, _, Eq.trans (World.drewN_drewN _ _ _) (congrArg (World.drewN _) (Nat.add_assoc _ _ _))⟩))))
    go_meet
    case rel => exact ⟨_, (!t285), fj, H', ⟨by first | omega | exact Nat.le_refl _⟩, ⟨by refine bx ?_; exact BK282.out⟩, ⟨by refine bx ?_; exact BK283.out⟩, ⟨bl⟩⟩
   ·replace c8 := Bool.eq_false_iff.mpr c8
    subst c8
    have H1 : (spinnakerref08_Same.j0 k true l0_0 l0_1 l0_2 l1_0 l1_1 l1_2) = some r := by rw [if_neg (show ¬ (false = true) by decide)] at H; exact H
    clear H
    have H := H1
    clear H1
    have H' := Aside0.mk H
    clear H
    have hnb13 := NB282_283.out
    have hnc13 := NB283_282.out
    obtain ⟨hcz14_0, hcz14_1, hcz14_2, hfz14_0, hfz14_1, hfz14_2⟩ := cz3 (w := w5) BK282.out
    obtain ⟨hcz15_0, hcz15_1, hcz15_2, hfz15_0, hfz15_1, hfz15_2⟩ := cz3 (w := w5) BK283.out
    go_wp2_with (first | (go_at_call 37; (with_reducible refine (spinnakerref01_Ints.calls k _ _ l0_1 _ _ l1_1 false _ ?side1 ?side2 ?side3 ?side4 A7.out).mono ?_); (case side1 => repeat (first | exact (Kd.C_below HR0_1.out HB.out) | (with_reducible refine Kd.C_alloc ?_ _) | (with_reducible refine Kd.C_drewN ?_ _) | (with_reducible refine Kd.C_drew ?_))); (case side2 => exact HC0_1.out); (case side3 => repeat (first | exact (Kd.C_below HR1_1.out HB.out) | (with_reducible refine Kd.C_alloc ?_ _) | (with_reducible refine Kd.C_drewN ?_ _) | (with_reducible refine Kd.C_drew ?_))); (case side4 => exact HC1_1.out); rintro e w' ⟨rfl, ⟨nd, rfl⟩⟩; (try first | exact ⟨rfl, _, World.drewN_drewN _ _ _⟩ | exact ⟨rfl, _, Eq.trans (World.drewN_drewN _ _ _) (congrArg (World.drewN _) (Nat.add_assoc _ _ _))⟩)))
    repeat (go_quiet (first | (go_at_call 37; (with_reducible refine (spinnakerref01_Ints.calls k _ _ l0_1 _ _ l1_1 false _ ?side1 ?side2 ?side3 ?side4 A7.out).mono ?_); (case side1 => repeat (first | exact (Kd.C_below HR0_1.out HB.out) | (with_reducible refine Kd.C_alloc ?_ _) | (with_reducible refine Kd.C_drewN ?_ _) | (with_reducible refine Kd.C_drew ?_))); (case side2 => exact HC0_1.out); (case side3 => repeat (first | exact (Kd.C_below HR1_1.out HB.out) | (with_reducible refine Kd.C_alloc ?_ _) | (with_reducible refine Kd.C_drewN ?_ _) | (with_reducible refine Kd.C_drew ?_))); (case side4 => exact HC1_1.out); rintro e w' ⟨rfl, ⟨nd, rfl⟩⟩; (try first | exact ⟨rfl, _, World.drewN_drewN _ _ _⟩ | exact ⟨rfl, _, Eq.trans (World.drewN_drewN _ _ _) (congrArg (World.drewN _) (Nat.add_assoc _ _ _))⟩))); try go_wp2_with (first | (go_at_call 37; (with_reducible refine (spinnakerref01_Ints.calls k _ _ l0_1 _ _ l1_1 false _ ?side1 ?side2 ?side3 ?side4 A7.out).mono ?_); (case side1 => repeat (first | exact (Kd.C_below HR0_1.out HB.out) | (with_reducible refine Kd.C_alloc ?_ _) | (with_reducible refine Kd.C_drewN ?_ _) | (with_reducible refine Kd.C_drew ?_))); (case side2 => exact HC0_1.out); (case side3 => repeat (first | exact (Kd.C_below HR1_1.out HB.out) | (with_reducible refine Kd.C_alloc ?_ _) | (with_reducible refine Kd.C_drewN ?_ _) | (with_reducible refine Kd.C_drew ?_))); (case side4 => exact HC1_1.out); rintro e w' ⟨rfl, ⟨nd, rfl⟩⟩; (try first | exact ⟨rfl, _, World.drewN_drewN _ _ _⟩ | exact ⟨rfl, _, Eq.trans (World.drewN_drewN _ _ _) (congrArg (World.drewN _) (Nat.add_assoc _ _ _))⟩))))
    go_meet
    case rel => exact ⟨_, (true), fj, H', ⟨by first | omega | exact Nat.le_refl _⟩, ⟨by refine bx ?_; exact BK282.out⟩, ⟨by refine bx ?_; exact BK283.out⟩, ⟨bl⟩⟩
  ·rw [if_neg c6] at H
   have c6b0 : ((l0_0.length : Int) == (l1_0.length : Int)) = false := beq_eq_false_iff_ne.mpr c6
   have c6b1 : ((l0_0.length : Int) != (l1_0.length : Int)) = true := bne_iff_ne.mpr c6
   have c6b2 : (l0_0.length == l1_0.length) = false := by first | simpa using c6 | (simp at c6 ⊢; omega)
   (first | rw [c6b0] | (simp only [i64_w, i32_w]; rw [c6b0]) | skip)
   have H' := Aside0.mk H
   clear H
   have hnb16 := NB282_283.out
   have hnc16 := NB283_282.out
   obtain ⟨hcz17_0, hcz17_1, hcz17_2, hfz17_0, hfz17_1, hfz17_2⟩ := cz3 (w := w5) BK282.out
   obtain ⟨hcz18_0, hcz18_1, hcz18_2, hfz18_0, hfz18_1, hfz18_2⟩ := cz3 (w := w5) BK283.out
   go_wp2
   repeat (go_quiet (fail); try go_wp2)
   go_meet
   case rel => exact ⟨_, (true), fj, H', ⟨by first | omega | exact Nat.le_refl _⟩, ⟨by refine bx ?_; exact BK282.out⟩, ⟨by refine bx ?_; exact BK283.out⟩, ⟨bl⟩⟩
 case rest =>
  clear HC3
  try clear c1
  try clear p2
  try clear c6
  try clear c6b0
  try clear c6b1
  try clear c6b2
  try clear c8
  try clear c10
  try clear c13
  try clear c16
  try clear hcz11_0 hcz11_1 hcz11_2
  try clear hcz12_0 hcz12_1 hcz12_2
  try clear hcz14_0 hcz14_1 hcz14_2
  try clear hcz15_0 hcz15_1 hcz15_2
  try clear hcz17_0 hcz17_1 hcz17_2
  try clear hcz18_0 hcz18_1 hcz18_2
  try clear hfz11_0 hfz11_1 hfz11_2
  try clear hfz12_0 hfz12_1 hfz12_2
  try clear hfz14_0 hfz14_1 hfz14_2
  try clear hfz15_0 hfz15_1 hfz15_2
  try clear hfz17_0 hfz17_1 hfz17_2
  try clear hfz18_0 hfz18_1 hfz18_2
  obtain ⟨kq, x28_2, rfl, HA, HJ2, BK282, BK283, HB⟩ := hcut
  cases kq with
  | zero => exact absurd HA.out (by simp [spinnakerref08_Same.j0])
  | succ kj2 =>
   have H := HA.out
   clear HA
   simp only [spinnakerref08_Same.j0] at H
   by_cases c19 : x28_2 = true
   ·subst c19
    have H1 : (some false) = some r := by rw [if_pos rfl] at H; exact H
    clear H
    have H := H1
    clear H1
    obtain rfl := Option.some.inj H
    go_wp2
    repeat (go_quiet (fail); try go_wp2)
    go_ret
    exact ⟨fi, bl⟩
   ·replace c19 := Bool.eq_false_iff.mpr c19
    subst c19
    have H1 : (spinnakerref08_Same.l0 kj2 0 l0_0 l0_1 l0_2 l1_0 l1_1 l1_2) = some r := by rw [if_neg (show ¬ (false = true) by decide)] at H; exact H
    clear H
    have H := H1
    clear H1
    have H' := Aside0.mk H
    clear H
    go_wp2
    repeat (go_quiet (fail); try go_wp2)
    go_loopg [5] kj2 (fun kq v5 w' => ∃ (x5_2 : Int), v5 = .int .i64 x5_2 ∧ Aside0 (spinnakerref08_Same.l0 kq x5_2 l0_0 l0_1 l0_2 l1_0 l1_1 l1_2 = some r) ∧ Aside0 (kq ≤ kj2) ∧ Aside0 (w'.heap[gb282]? = some (.cells #[(.slice A0_0 l0_0.length c0_0), (.slice A0_1 l0_1.length c0_1), (.slice A0_2 l0_2.length c0_2)] 25 (0, 0))) ∧ Aside0 (w'.heap[gb283]? = some (.cells #[(.slice A1_0 l1_0.length c1_0), (.slice A1_1 l1_1.length c1_1), (.slice A1_2 l1_2.length c1_2)] 25 (0, 0))) ∧ Aside0 (Below w.heap.size w w'))
    case atStart => exact ⟨(0), fj, H', ⟨Nat.le_refl _⟩, ⟨by refine bx ?_; exact BK282.out⟩, ⟨by refine bx ?_; exact BK283.out⟩, ⟨bl⟩⟩
    case round =>
     clear H'
     try clear c1
     try clear p2
     try clear c6
     try clear c6b0
     try clear c6b1
     try clear c6b2
     try clear c8
     try clear c10
     try clear c13
     try clear c16
     try clear c19
     try clear hcz11_0 hcz11_1 hcz11_2
     try clear hcz12_0 hcz12_1 hcz12_2
     try clear hcz14_0 hcz14_1 hcz14_2
     try clear hcz15_0 hcz15_1 hcz15_2
     try clear hcz17_0 hcz17_1 hcz17_2
     try clear hcz18_0 hcz18_1 hcz18_2
     try clear hfz11_0 hfz11_1 hfz11_2
     try clear hfz12_0 hfz12_1 hfz12_2
     try clear hfz14_0 hfz14_1 hfz14_2
     try clear hfz15_0 hfz15_1 hfz15_2
     try clear hfz17_0 hfz17_1 hfz17_2
     try clear hfz18_0 hfz18_1 hfz18_2
     try clear p2
     obtain ⟨x5_2, rfl, HA, HK2, BK282, BK283, HB⟩ := hrel
     cases gk with
     | zero => exact absurd HA.out (by simp [spinnakerref08_Same.l0])
     | succ k2 =>
      have H := HA.out
      clear HA
      simp only [spinnakerref08_Same.l0] at H
      by_cases c20 : x5_2 < (l0_0.length : Int)
      ·rw [if_pos c20] at H
       have c20b0 := decide_eq_true c20
       clear c20
       by_cases c21 : 0 ≤ x5_2
       ·rw [if_pos c21] at H
        have c21b0 := decide_eq_true c21
        clear c21
        by_cases c22 : x5_2 < (l1_0.length : Int)
        ·rw [if_pos c22] at H
         have c22b0 := decide_eq_true c22
         clear c22
         by_cases c23 : (rd l0_0 x5_2) = (rd l1_0 x5_2)
         ·rw [if_pos c23] at H
          have c23b0 : ((rd l0_0 x5_2) == (rd l1_0 x5_2)) = true := beq_iff_eq.mpr c23
          have c23b1 : ((rd l0_0 x5_2) != (rd l1_0 x5_2)) = false := bne_eq_false_iff_eq.mpr c23
          clear c23
          have H' := Aside0.mk H
          clear H
          have hnb24 := NB282_283.out
          have hnc24 := NB283_282.out
          obtain ⟨hcz25_0, hcz25_1, hcz25_2, hfz25_0, hfz25_1, hfz25_2⟩ := cz3 (w := wr) BK282.out
          have p286 : 0 ≤ (x5_2 : Int) := of_decide_eq_true (by first | (with_reducible assumption) | assumption)
          have q286 : x5_2 < (l0_0.length : Int) := of_decide_eq_true (by first | (with_reducible assumption) | assumption)
          obtain ⟨ad286, e286, hx286_0⟩ := Kd.at_int HR0_0.out x5_2 p286 q286
          cases e286
          replace hx286_0 := (HB.out.cell (World.block_lt_of_cell? w _ hx286_0)).trans hx286_0
          replace p286 := eq_true p286
          replace q286 := eq_true q286
          obtain ⟨hcz26_0, hcz26_1, hcz26_2, hfz26_0, hfz26_1, hfz26_2⟩ := cz3 (w := wr) BK283.out
          have p287 : 0 ≤ (x5_2 : Int) := of_decide_eq_true (by first | (with_reducible assumption) | assumption)
          have q287 : x5_2 < (l1_0.length : Int) := of_decide_eq_true (by first | (with_reducible assumption) | assumption)
          obtain ⟨ad287, e287, hx287_0⟩ := Kd.at_int HR1_0.out x5_2 p287 q287
          cases e287
          replace hx287_0 := (HB.out.cell (World.block_lt_of_cell? w _ hx287_0)).trans hx287_0
          replace p287 := eq_true p287
          replace q287 := eq_true q287
          go_wp2
          repeat (go_quiet (fail); try go_wp2)
          go_roundg k2
          case measure => have := HJ2.out; have := HK2.out; omega
          case rel => exact ⟨(wrap64 (x5_2 + 1)), fj, H', ⟨by have := HJ2.out; have := HK2.out; omega⟩, ⟨by refine bx ?_; exact BK282.out⟩, ⟨by refine bx ?_; exact BK283.out⟩, ⟨bl⟩⟩
         ·rw [if_neg c23] at H
          have c23b0 : ((rd l0_0 x5_2) == (rd l1_0 x5_2)) = false := beq_eq_false_iff_ne.mpr c23
          have c23b1 : ((rd l0_0 x5_2) != (rd l1_0 x5_2)) = true := bne_iff_ne.mpr c23
          obtain rfl := Option.some.inj H
          have hnb27 := NB282_283.out
          have hnc27 := NB283_282.out
          obtain ⟨hcz28_0, hcz28_1, hcz28_2, hfz28_0, hfz28_1, hfz28_2⟩ := cz3 (w := wr) BK282.out
          have p286 : 0 ≤ (x5_2 : Int) := of_decide_eq_true (by first | (with_reducible assumption) | assumption)
          have q286 : x5_2 < (l0_0.length : Int) := of_decide_eq_true (by first | (with_reducible assumption) | assumption)
          obtain ⟨ad286, e286, hx286_0⟩ := Kd.at_int HR0_0.out x5_2 p286 q286
          cases e286
          replace hx286_0 := (HB.out.cell (World.block_lt_of_cell? w _ hx286_0)).trans hx286_0
          replace p286 := eq_true p286
          replace q286 := eq_true q286
          obtain ⟨hcz29_0, hcz29_1, hcz29_2, hfz29_0, hfz29_1, hfz29_2⟩ := cz3 (w := wr) BK283.out
          have p287 : 0 ≤ (x5_2 : Int) := of_decide_eq_true (by first | (with_reducible assumption) | assumption)
          have q287 : x5_2 < (l1_0.length : Int) := of_decide_eq_true (by first | (with_reducible assumption) | assumption)
          obtain ⟨ad287, e287, hx287_0⟩ := Kd.at_int HR1_0.out x5_2 p287 q287
          cases e287
          replace hx287_0 := (HB.out.cell (World.block_lt_of_cell? w _ hx287_0)).trans hx287_0
          replace p287 := eq_true p287
          replace q287 := eq_true q287
          go_wp2
          repeat (go_quiet (fail); try go_wp2)
          go_ret
          exact ⟨fi, bl⟩
        ·rw [if_neg c22] at H
         exact absurd H (by simp)
       ·rw [if_neg c21] at H
        exact absurd H (by simp)
      ·rw [if_neg c20] at H
       have c20b0 := decide_eq_false c20
       clear c20
       obtain rfl := Option.some.inj H
       have hnb30 := NB282_283.out
       have hnc30 := NB283_282.out
       obtain ⟨hcz31_0, hcz31_1, hcz31_2, hfz31_0, hfz31_1, hfz31_2⟩ := cz3 (w := wr) BK282.out
       go_wp2
       repeat (go_quiet (fail); try go_wp2)
       go_ret
       exact ⟨fi, bl⟩

/-! ### spinnakerlaw08_ImageChecks: function 3 -/
def spinnakerlaw08_ImageChecks.j0 : Nat → Int → List Int → Bool → List Int → List Int → List Int → Option (Bool)
  | 0, _, _, _, _, _, _ => none
  | k + 1, x3, x4, x26, x289000, x289001, x289002 => if x26 = true then (some false) else (if x3 = 0 then ((image_Decode.f k x4).bind fun bt298 => ((spinnakerref08_Bytes.f k x289000 x289001 x289002).bind fun t309 => ((spinnakerref01_Same.f k x4 t309).bind fun t312 => (if t312 = true then (if bt298.2.2.2 = 0 then ((spinnakerref08_Same.f k bt298.1 bt298.2.1 bt298.2.2.1 x289000 x289001 x289002).bind fun t313 => (if t313 = true then ((spinnakerlaw08_awake.f k).bind fun t314 => (some t314)) else (some false))) else (some false)) else (some false))))) else (if (x4.length : Int) = 0 then ((spinnakerlaw08_awake.f k).bind fun t297 => (some t297)) else (some false)))
def spinnakerlaw08_ImageChecks.f (k : Nat) (l0_0 : List Int) (l0_1 : List Int) (l0_2 : List Int) : Option (Bool) := (spinnakerlaw08_large.f l0_0 l0_1 l0_2).bind fun t289 => (if t289 = true then ((spinnakerlaw08_awake.f k).bind fun t290 => (some t290)) else ((spinnakerref08_Check.f k l0_0 l0_1 l0_2).bind fun t291 => ((image_Encode.f k l0_0 l0_1 l0_2).bind fun bt292 => ((image_Check.f k l0_0 l0_1 l0_2).bind fun t296 => (if t296 = t291 then (spinnakerlaw08_ImageChecks.j0 k t291 bt292.1 (bt292.2 != t291) l0_0 l0_1 l0_2) else (spinnakerlaw08_ImageChecks.j0 k t291 bt292.1 true l0_0 l0_1 l0_2))))))
theorem spinnakerlaw08_ImageChecks.mono_l : ∀ k, (∀ y0 y1 y2 y3 y4 y5, LeO (spinnakerlaw08_ImageChecks.j0 k y0 y1 y2 y3 y4 y5) (spinnakerlaw08_ImageChecks.j0 (k + 1) y0 y1 y2 y3 y4 y5))
 | 0 => fun _ _ _ _ _ _ r h => by simp [spinnakerlaw08_ImageChecks.j0] at h
 | k + 1 => by
  have ih0 := spinnakerlaw08_ImageChecks.mono_l k
  ·intro y0 y1 y2 y3 y4 y5
   unfold spinnakerlaw08_ImageChecks.j0
   repeat' first | (with_reducible first | exact ih0 _ _ _ _ _ _ | exact image_Check.mono _ _ _ _ | exact image_Decode.mono _ _ | exact image_Encode.mono _ _ _ _ | exact spinnakerlaw08_awake.mono _ | exact spinnakerref01_Same.mono _ _ _ | exact spinnakerref08_Bytes.mono _ _ _ _ | exact spinnakerref08_Check.mono _ _ _ _ | exact spinnakerref08_Same.mono _ _ _ _ _ _ _ | exact LeO.refl _ | exact LeO.none _ | refine LeO.ite ?_ ?_ | refine LeO.bind ?_ (fun _ => ?_)) | exact ih0 _ _ _ _ _ _ | exact image_Check.mono _ _ _ _ | exact image_Decode.mono _ _ | exact image_Encode.mono _ _ _ _ | exact spinnakerlaw08_awake.mono _ | exact spinnakerref01_Same.mono _ _ _ | exact spinnakerref08_Bytes.mono _ _ _ _ | exact spinnakerref08_Check.mono _ _ _ _ | exact spinnakerref08_Same.mono _ _ _ _ _ _ _ | exact LeO.none _ | refine LeO.ite ?_ ?_ | refine LeO.bind ?_ (fun _ => ?_)
theorem spinnakerlaw08_ImageChecks.mono : ∀ a0 a1 a2 k, LeO (spinnakerlaw08_ImageChecks.f k a0 a1 a2) (spinnakerlaw08_ImageChecks.f (k + 1) a0 a1 a2) := by
 intro a0 a1 a2 k
 have ih0 := spinnakerlaw08_ImageChecks.mono_l k
 unfold spinnakerlaw08_ImageChecks.f
 repeat' first | (with_reducible first | exact ih0 _ _ _ _ _ _ | exact image_Check.mono _ _ _ _ | exact image_Decode.mono _ _ | exact image_Encode.mono _ _ _ _ | exact spinnakerlaw08_awake.mono _ | exact spinnakerref01_Same.mono _ _ _ | exact spinnakerref08_Bytes.mono _ _ _ _ | exact spinnakerref08_Check.mono _ _ _ _ | exact spinnakerref08_Same.mono _ _ _ _ _ _ _ | exact LeO.refl _ | exact LeO.none _ | refine LeO.ite ?_ ?_ | refine LeO.bind ?_ (fun _ => ?_)) | exact ih0 _ _ _ _ _ _ | exact image_Check.mono _ _ _ _ | exact image_Decode.mono _ _ | exact image_Encode.mono _ _ _ _ | exact spinnakerlaw08_awake.mono _ | exact spinnakerref01_Same.mono _ _ _ | exact spinnakerref08_Bytes.mono _ _ _ _ | exact spinnakerref08_Check.mono _ _ _ _ | exact spinnakerref08_Same.mono _ _ _ _ _ _ _ | exact LeO.none _ | refine LeO.ite ?_ ?_ | refine LeO.bind ?_ (fun _ => ?_)
set_option maxHeartbeats 8000000 in
set_option maxRecDepth 100000 in
theorem spinnakerlaw08_ImageChecks.calls (k : Nat) (A0_0 : Option Addr) (c0_0 : Nat) (l0_0 : List Int) (A0_1 : Option Addr) (c0_1 : Nat) (l0_1 : List Int) (A0_2 : Option Addr) (c0_2 : Nat) (l0_2 : List Int) (r : Bool) (w : World) (hr0_0 : Kd.C (Kd.int .u32) w A0_0 l0_0.length l0_0) (hc0_0 : l0_0.length ≤ c0_0) (hr0_1 : Kd.C (Kd.int .i64) w A0_1 l0_1.length l0_1) (hc0_1 : l0_1.length ≤ c0_1) (hr0_2 : Kd.C (Kd.int .i64) w A0_2 l0_2.length l0_2) (hc0_2 : l0_2.length ≤ c0_2) (h : spinnakerlaw08_ImageChecks.f k l0_0 l0_1 l0_2 = some r) :
  Calls Try.prog 3 #[.agg #[.slice A0_0 l0_0.length c0_0, .slice A0_1 l0_1.length c0_1, .slice A0_2 l0_2.length c0_2]] w fun e w' => e = .returned (.bool r) ∧ Below w.heap.size w w' := by
 have hu25 := Try.underlying25
 have HR0_0 := Aside0.mk hr0_0
 have HC0_0 := Aside0.mk hc0_0
 clear hr0_0 hc0_0
 have HR0_1 := Aside0.mk hr0_1
 have HC0_1 := Aside0.mk hc0_1
 clear hr0_1 hc0_1
 have HR0_2 := Aside0.mk hr0_2
 have HC0_2 := Aside0.mk hc0_2
 clear hr0_2 hc0_2
 have HB := Aside0.mk (Below.refl w.heap.size w)
 have H : ((spinnakerlaw08_large.f l0_0 l0_1 l0_2).bind fun t289 => (if t289 = true then ((spinnakerlaw08_awake.f k).bind fun t290 => (some t290)) else ((spinnakerref08_Check.f k l0_0 l0_1 l0_2).bind fun t291 => ((image_Encode.f k l0_0 l0_1 l0_2).bind fun bt292 => ((image_Check.f k l0_0 l0_1 l0_2).bind fun t296 => (if t296 = t291 then (spinnakerlaw08_ImageChecks.j0 k t291 bt292.1 (bt292.2 != t291) l0_0 l0_1 l0_2) else (spinnakerlaw08_ImageChecks.j0 k t291 bt292.1 true l0_0 l0_1 l0_2))))))) = some r := h
 clear h
 replace H := be H
 obtain ⟨t289, A2, H⟩ := H
 by_cases c3 : t289 = true
 ·subst c3
  have H1 : ((spinnakerlaw08_awake.f k).bind fun t290 => (some t290)) = some r := by rw [if_pos rfl] at H; exact H
  clear H
  have H := H1
  clear H1
  replace H := be H
  obtain ⟨t290, A4, H⟩ := H
  obtain rfl := Option.some.inj H
  go_enter Try.func3, Try.ntmps3
  go_wp2_with (first | ((with_reducible refine gate_dst (N := 1) rfl ?_); refine box_event ?hg (N := 1) ?hd (cs := #[.slice A0_0 l0_0.length c0_0, .slice A0_1 l0_1.length c0_1, .slice A0_2 l0_2.length c0_2]) (t := 25) ?hr ?_; (case hd => rfl); (case hg => rfl); (case hr => first | (go_simp; done) | (go_simp; rfl)); intro gb288 hg w5 hbox hb; obtain ⟨n0_, GW288⟩ := nb (w := w) hg hb; clear HB; have HB := n0_; have BK288 := Aside0.mk hbox; have GE288 := GW288; clear n0_ hb hbox hg; obtain ⟨hcz6_0, hcz6_1, hcz6_2, hfz6_0, hfz6_1, hfz6_2⟩ := cz3 (w := w5) BK288.out) | ((with_reducible refine gate_callee (f := 8) rfl ?_); refine goesL_ (some 9) rfl rfl Try.func8 (by kernel_rfl) rfl #[.agg #[.slice A0_0 l0_0.length c0_0, .slice A0_1 l0_1.length c0_1, .slice A0_2 l0_2.length c0_2]] rfl ga ?_; (with_reducible refine (spinnakerlaw08_large.calls _ _ l0_0 _ _ l0_1 _ _ l0_2 true _ ?side1 ?side2 ?side3 ?side4 ?side5 ?side6 A2.out).mono ?_); (case side1 => repeat (first | exact (Kd.C_below HR0_0.out HB.out) | (with_reducible refine Kd.C_alloc ?_ _) | (with_reducible refine Kd.C_drewN ?_ _) | (with_reducible refine Kd.C_drew ?_))); (case side2 => exact HC0_0.out); (case side3 => repeat (first | exact (Kd.C_below HR0_1.out HB.out) | (with_reducible refine Kd.C_alloc ?_ _) | (with_reducible refine Kd.C_drewN ?_ _) | (with_reducible refine Kd.C_drew ?_))); (case side4 => exact HC0_1.out); (case side5 => repeat (first | exact (Kd.C_below HR0_2.out HB.out) | (with_reducible refine Kd.C_alloc ?_ _) | (with_reducible refine Kd.C_drewN ?_ _) | (with_reducible refine Kd.C_drew ?_))); (case side6 => exact HC0_2.out); rintro e w7 ⟨rfl, hb⟩; refine ⟨_, rfl, ?_⟩; have n0_ := Aside0.mk (blk_below (g := gb288) (o := .cells #[.slice A0_0 l0_0.length c0_0, .slice A0_1 l0_1.length c0_1, .slice A0_2 l0_2.length c0_2] 25 (0, 0)) (bk BK288.out) hb); have n1_ := Aside0.mk (below_step bl hb); clear BK288; clear HB; have BK288 := n0_; have HB := n1_; clear n0_ n1_; (try clear hb)) | ((with_reducible refine gate_callee (f := 9) rfl ?_); refine goesL_ (some 10) rfl rfl Try.func9 (by kernel_rfl) rfl #[] rfl ga ?_; (with_reducible refine (spinnakerlaw08_awake.calls k  t290 _ A4.out).mono ?_); rintro e w8 ⟨rfl, hb⟩; refine ⟨_, rfl, ?_⟩; have n0_ := Aside0.mk (blk_below (g := gb288) (o := .cells #[.slice A0_0 l0_0.length c0_0, .slice A0_1 l0_1.length c0_1, .slice A0_2 l0_2.length c0_2] 25 (0, 0)) (bk BK288.out) hb); have n1_ := Aside0.mk (below_step bl hb); clear BK288; clear HB; have BK288 := n0_; have HB := n1_; clear n0_ n1_; (try clear hb)))
  go_ret
  exact ⟨fi, bl⟩
 ·replace c3 := Bool.eq_false_iff.mpr c3
  subst c3
  have H1 : ((spinnakerref08_Check.f k l0_0 l0_1 l0_2).bind fun t291 => ((image_Encode.f k l0_0 l0_1 l0_2).bind fun bt292 => ((image_Check.f k l0_0 l0_1 l0_2).bind fun t296 => (if t296 = t291 then (spinnakerlaw08_ImageChecks.j0 k t291 bt292.1 (bt292.2 != t291) l0_0 l0_1 l0_2) else (spinnakerlaw08_ImageChecks.j0 k t291 bt292.1 true l0_0 l0_1 l0_2))))) = some r := by rw [if_neg (show ¬ (false = true) by decide)] at H; exact H
  clear H
  have H := H1
  clear H1
  replace H := be H
  obtain ⟨t291, A9, H⟩ := H
  replace H := be H
  obtain ⟨⟨t292, t295⟩, A10, H⟩ := H
  dsimp only at H
  have HC11 := Aside0.mk H
  clear H
  go_enter Try.func3, Try.ntmps3
  go_upto_region 5 with (first | ((with_reducible refine gate_dst (N := 1) rfl ?_); refine box_event ?hg (N := 1) ?hd (cs := #[.slice A0_0 l0_0.length c0_0, .slice A0_1 l0_1.length c0_1, .slice A0_2 l0_2.length c0_2]) (t := 25) ?hr ?_; (case hd => rfl); (case hg => rfl); (case hr => first | (go_simp; done) | (go_simp; rfl)); intro gb288 hg w12 hbox hb; obtain ⟨n0_, GW288⟩ := nb (w := w) hg hb; clear HB; have HB := n0_; have BK288 := Aside0.mk hbox; have GE288 := GW288; clear n0_ hb hbox hg; obtain ⟨hcz13_0, hcz13_1, hcz13_2, hfz13_0, hfz13_1, hfz13_2⟩ := cz3 (w := w12) BK288.out) | ((with_reducible refine gate_callee (f := 8) rfl ?_); refine goesL_ (some 9) rfl rfl Try.func8 (by kernel_rfl) rfl #[.agg #[.slice A0_0 l0_0.length c0_0, .slice A0_1 l0_1.length c0_1, .slice A0_2 l0_2.length c0_2]] rfl ga ?_; (with_reducible refine (spinnakerlaw08_large.calls _ _ l0_0 _ _ l0_1 _ _ l0_2 false _ ?side1 ?side2 ?side3 ?side4 ?side5 ?side6 A2.out).mono ?_); (case side1 => repeat (first | exact (Kd.C_below HR0_0.out HB.out) | (with_reducible refine Kd.C_alloc ?_ _) | (with_reducible refine Kd.C_drewN ?_ _) | (with_reducible refine Kd.C_drew ?_))); (case side2 => exact HC0_0.out); (case side3 => repeat (first | exact (Kd.C_below HR0_1.out HB.out) | (with_reducible refine Kd.C_alloc ?_ _) | (with_reducible refine Kd.C_drewN ?_ _) | (with_reducible refine Kd.C_drew ?_))); (case side4 => exact HC0_1.out); (case side5 => repeat (first | exact (Kd.C_below HR0_2.out HB.out) | (with_reducible refine Kd.C_alloc ?_ _) | (with_reducible refine Kd.C_drewN ?_ _) | (with_reducible refine Kd.C_drew ?_))); (case side6 => exact HC0_2.out); rintro e w14 ⟨rfl, hb⟩; refine ⟨_, rfl, ?_⟩; have n0_ := Aside0.mk (blk_below (g := gb288) (o := .cells #[.slice A0_0 l0_0.length c0_0, .slice A0_1 l0_1.length c0_1, .slice A0_2 l0_2.length c0_2] 25 (0, 0)) (bk BK288.out) hb); have n1_ := Aside0.mk (below_step bl hb); clear BK288; clear HB; have BK288 := n0_; have HB := n1_; clear n0_ n1_; (try clear hb); obtain ⟨hcz15_0, hcz15_1, hcz15_2, hfz15_0, hfz15_1, hfz15_2⟩ := cz3 (w := w14) BK288.out) | ((with_reducible refine gate_callee (f := 10) rfl ?_); refine goesL_ (some 12) rfl rfl Try.func10 (by kernel_rfl) rfl #[.agg #[.slice A0_0 l0_0.length c0_0, .slice A0_1 l0_1.length c0_1, .slice A0_2 l0_2.length c0_2]] rfl ga ?_; (with_reducible refine (spinnakerref08_Check.calls k _ _ l0_0 _ _ l0_1 _ _ l0_2 t291 _ ?side1 ?side2 ?side3 ?side4 ?side5 ?side6 A9.out).mono ?_); (case side1 => repeat (first | exact (Kd.C_below HR0_0.out HB.out) | (with_reducible refine Kd.C_alloc ?_ _) | (with_reducible refine Kd.C_drewN ?_ _) | (with_reducible refine Kd.C_drew ?_))); (case side2 => exact HC0_0.out); (case side3 => repeat (first | exact (Kd.C_below HR0_1.out HB.out) | (with_reducible refine Kd.C_alloc ?_ _) | (with_reducible refine Kd.C_drewN ?_ _) | (with_reducible refine Kd.C_drew ?_))); (case side4 => exact HC0_1.out); (case side5 => repeat (first | exact (Kd.C_below HR0_2.out HB.out) | (with_reducible refine Kd.C_alloc ?_ _) | (with_reducible refine Kd.C_drewN ?_ _) | (with_reducible refine Kd.C_drew ?_))); (case side6 => exact HC0_2.out); rintro e w16 ⟨rfl, hb⟩; refine ⟨_, rfl, ?_⟩; have n0_ := Aside0.mk (blk_below (g := gb288) (o := .cells #[.slice A0_0 l0_0.length c0_0, .slice A0_1 l0_1.length c0_1, .slice A0_2 l0_2.length c0_2] 25 (0, 0)) (bk BK288.out) hb); have n1_ := Aside0.mk (below_step bl hb); clear BK288; clear HB; have BK288 := n0_; have HB := n1_; clear n0_ n1_; (try clear hb); obtain ⟨hcz17_0, hcz17_1, hcz17_2, hfz17_0, hfz17_1, hfz17_2⟩ := cz3 (w := w16) BK288.out) | ((with_reducible refine gate_callee (f := 11) rfl ?_); refine goesL_ (some 15) rfl rfl Try.func11 (by kernel_rfl) rfl #[.agg #[.slice A0_0 l0_0.length c0_0, .slice A0_1 l0_1.length c0_1, .slice A0_2 l0_2.length c0_2]] rfl ga ?_; (with_reducible refine (image_Encode.calls k _ _ l0_0 _ _ l0_1 _ _ l0_2 t292 t295 _ ?side1 ?side2 ?side3 ?side4 ?side5 ?side6 A10.out).mono ?_); (case side1 => repeat (first | exact (Kd.C_below HR0_0.out HB.out) | (with_reducible refine Kd.C_alloc ?_ _) | (with_reducible refine Kd.C_drewN ?_ _) | (with_reducible refine Kd.C_drew ?_))); (case side2 => exact HC0_0.out); (case side3 => repeat (first | exact (Kd.C_below HR0_1.out HB.out) | (with_reducible refine Kd.C_alloc ?_ _) | (with_reducible refine Kd.C_drewN ?_ _) | (with_reducible refine Kd.C_drew ?_))); (case side4 => exact HC0_1.out); (case side5 => repeat (first | exact (Kd.C_below HR0_2.out HB.out) | (with_reducible refine Kd.C_alloc ?_ _) | (with_reducible refine Kd.C_drewN ?_ _) | (with_reducible refine Kd.C_drew ?_))); (case side6 => exact HC0_2.out); rintro e w18 ⟨v293, rfl, ho0, hb⟩; refine ⟨_, rfl, ?_⟩; have n0_ := Aside0.mk (Kd.R_lower ho0 (below_size bl)); have n1_ := Aside0.mk (blk_below (g := gb288) (o := .cells #[.slice A0_0 l0_0.length c0_0, .slice A0_1 l0_1.length c0_1, .slice A0_2 l0_2.length c0_2] 25 (0, 0)) (bk BK288.out) hb); have n2_ := Aside0.mk (below_step bl hb); clear BK288; clear HB; have HO294 := n0_; have BK288 := n1_; have HB := n2_; clear n0_ n1_ n2_; (try clear hb); (try clear ho0)))
  (try simp only [Act.put, List.setIfInBounds_toArray, List.set_cons_zero, List.set_cons_succ])
  go_cut [26] (fun v26 wc => ∃ (kq : Nat) (x26_10 : Bool), v26 = .bool x26_10 ∧ Aside0 (spinnakerlaw08_ImageChecks.j0 kq t291 t292 x26_10 l0_0 l0_1 l0_2 = some r) ∧ Aside0 (kq ≤ k) ∧ Aside0 (Kd.R (Kd.int .u8) 5 wc w.heap.size (fun _ => True) v293 t292) ∧ Aside0 (wc.heap[gb288]? = some (.cells #[(.slice A0_0 l0_0.length c0_0), (.slice A0_1 l0_1.length c0_1), (.slice A0_2 l0_2.length c0_2)] 25 (0, 0))) ∧ Aside0 (Below w.heap.size w wc))
  case first =>
   have H := HC11.out
   clear HC11
   replace H := be H
   obtain ⟨t296, A19, H⟩ := H
   by_cases c20 : t296 = t291
   ·rw [if_pos c20] at H
    have c20b0 : (t296 == t291) = true := beq_iff_eq.mpr c20
    have c20b1 : (t296 != t291) = false := bne_eq_false_iff_eq.mpr c20
    clear c20
    (first | rw [c20b0] | (simp only [i64_w, i32_w]; rw [c20b0]) | skip)
    have H' := Aside0.mk H
    clear H
    obtain ⟨hcz21_0, hcz21_1, hcz21_2, hfz21_0, hfz21_1, hfz21_2⟩ := cz3 (w := w18) BK288.out
    go_wp2_with (first | ((with_reducible refine gate_callee (f := 12) rfl ?_); refine goesL_ (some 19) rfl rfl Try.func12 (by kernel_rfl) rfl #[.agg #[.slice A0_0 l0_0.length c0_0, .slice A0_1 l0_1.length c0_1, .slice A0_2 l0_2.length c0_2]] rfl ga ?_; (with_reducible refine (image_Check.calls k _ _ l0_0 _ _ l0_1 _ _ l0_2 t296 _ ?side1 ?side2 ?side3 ?side4 ?side5 ?side6 A19.out).mono ?_); (case side1 => repeat (first | exact (Kd.C_below HR0_0.out HB.out) | (with_reducible refine Kd.C_alloc ?_ _) | (with_reducible refine Kd.C_drewN ?_ _) | (with_reducible refine Kd.C_drew ?_))); (case side2 => exact HC0_0.out); (case side3 => repeat (first | exact (Kd.C_below HR0_1.out HB.out) | (with_reducible refine Kd.C_alloc ?_ _) | (with_reducible refine Kd.C_drewN ?_ _) | (with_reducible refine Kd.C_drew ?_))); (case side4 => exact HC0_1.out); (case side5 => repeat (first | exact (Kd.C_below HR0_2.out HB.out) | (with_reducible refine Kd.C_alloc ?_ _) | (with_reducible refine Kd.C_drewN ?_ _) | (with_reducible refine Kd.C_drew ?_))); (case side6 => exact HC0_2.out); rintro e w22 ⟨rfl, hb⟩; refine ⟨_, rfl, ?_⟩; have n0_ := Aside0.mk (Kd.R_below (by (with_reducible repeat (first | apply Kd.R_alloc | apply Kd.R_drewN | apply Kd.R_drew)); exact HO294.out) hb); have n1_ := Aside0.mk (blk_below (g := gb288) (o := .cells #[.slice A0_0 l0_0.length c0_0, .slice A0_1 l0_1.length c0_1, .slice A0_2 l0_2.length c0_2] 25 (0, 0)) (bk BK288.out) hb); have n2_ := Aside0.mk (below_step bl hb); clear HO294; clear BK288; clear HB; have HO294 := n0_; have BK288 := n1_; have HB := n2_; clear n0_ n1_ n2_; (try clear hb)))
    go_meet
    case rel => exact ⟨_, ((t295 != t291)), fj, H', ⟨by first | omega | exact Nat.le_refl _⟩, ⟨by (with_reducible repeat (first | apply Kd.R_alloc | apply Kd.R_drewN | apply Kd.R_drew)); exact HO294.out⟩, ⟨by refine bx ?_; exact BK288.out⟩, ⟨bl⟩⟩
   ·rw [if_neg c20] at H
    have c20b0 : (t296 == t291) = false := beq_eq_false_iff_ne.mpr c20
    have c20b1 : (t296 != t291) = true := bne_iff_ne.mpr c20
    (first | rw [c20b0] | (simp only [i64_w, i32_w]; rw [c20b0]) | skip)
    have H' := Aside0.mk H
    clear H
    obtain ⟨hcz23_0, hcz23_1, hcz23_2, hfz23_0, hfz23_1, hfz23_2⟩ := cz3 (w := w18) BK288.out
    go_wp2_with (first | ((with_reducible refine gate_callee (f := 12) rfl ?_); refine goesL_ (some 19) rfl rfl Try.func12 (by kernel_rfl) rfl #[.agg #[.slice A0_0 l0_0.length c0_0, .slice A0_1 l0_1.length c0_1, .slice A0_2 l0_2.length c0_2]] rfl ga ?_; (with_reducible refine (image_Check.calls k _ _ l0_0 _ _ l0_1 _ _ l0_2 t296 _ ?side1 ?side2 ?side3 ?side4 ?side5 ?side6 A19.out).mono ?_); (case side1 => repeat (first | exact (Kd.C_below HR0_0.out HB.out) | (with_reducible refine Kd.C_alloc ?_ _) | (with_reducible refine Kd.C_drewN ?_ _) | (with_reducible refine Kd.C_drew ?_))); (case side2 => exact HC0_0.out); (case side3 => repeat (first | exact (Kd.C_below HR0_1.out HB.out) | (with_reducible refine Kd.C_alloc ?_ _) | (with_reducible refine Kd.C_drewN ?_ _) | (with_reducible refine Kd.C_drew ?_))); (case side4 => exact HC0_1.out); (case side5 => repeat (first | exact (Kd.C_below HR0_2.out HB.out) | (with_reducible refine Kd.C_alloc ?_ _) | (with_reducible refine Kd.C_drewN ?_ _) | (with_reducible refine Kd.C_drew ?_))); (case side6 => exact HC0_2.out); rintro e w24 ⟨rfl, hb⟩; refine ⟨_, rfl, ?_⟩; have n0_ := Aside0.mk (Kd.R_below (by (with_reducible repeat (first | apply Kd.R_alloc | apply Kd.R_drewN | apply Kd.R_drew)); exact HO294.out) hb); have n1_ := Aside0.mk (blk_below (g := gb288) (o := .cells #[.slice A0_0 l0_0.length c0_0, .slice A0_1 l0_1.length c0_1, .slice A0_2 l0_2.length c0_2] 25 (0, 0)) (bk BK288.out) hb); have n2_ := Aside0.mk (below_step bl hb); clear HO294; clear BK288; clear HB; have HO294 := n0_; have BK288 := n1_; have HB := n2_; clear n0_ n1_ n2_; (try clear hb)))
    go_meet
    case rel => exact ⟨_, (true), fj, H', ⟨by first | omega | exact Nat.le_refl _⟩, ⟨by (with_reducible repeat (first | apply Kd.R_alloc | apply Kd.R_drewN | apply Kd.R_drew)); exact HO294.out⟩, ⟨by refine bx ?_; exact BK288.out⟩, ⟨bl⟩⟩
  case rest =>
   clear HC11
   try clear c1
   try clear c2
   try clear p2
   try clear c3
   try clear c8
   try clear c9
   try clear c10
   try clear c11
   try clear c12
   try clear c20
   try clear c20b0
   try clear c20b1
   try clear hcz13_0 hcz13_1 hcz13_2
   try clear hcz15_0 hcz15_1 hcz15_2
   try clear hcz17_0 hcz17_1 hcz17_2
   try clear hcz21_0 hcz21_1 hcz21_2
   try clear hcz23_0 hcz23_1 hcz23_2
   try clear hcz6_0 hcz6_1 hcz6_2
   try clear hfz13_0 hfz13_1 hfz13_2
   try clear hfz15_0 hfz15_1 hfz15_2
   try clear hfz17_0 hfz17_1 hfz17_2
   try clear hfz21_0 hfz21_1 hfz21_2
   try clear hfz23_0 hfz23_1 hfz23_2
   try clear hfz6_0 hfz6_1 hfz6_2
   obtain ⟨kq, x26_10, rfl, HA, HJ10, HO_4, BK288, HB⟩ := hcut
   cases kq with
   | zero => exact absurd HA.out (by simp [spinnakerlaw08_ImageChecks.j0])
   | succ kj10 =>
    have H := HA.out
    clear HA
    simp only [spinnakerlaw08_ImageChecks.j0] at H
    by_cases c25 : x26_10 = true
    ·subst c25
     have H1 : (some false) = some r := by rw [if_pos rfl] at H; exact H
     clear H
     have H := H1
     clear H1
     obtain rfl := Option.some.inj H
     go_wp2
     go_ret
     exact ⟨fi, bl⟩
    ·replace c25 := Bool.eq_false_iff.mpr c25
     subst c25
     have H1 : (if t291 = 0 then ((image_Decode.f kj10 t292).bind fun bt298 => ((spinnakerref08_Bytes.f kj10 l0_0 l0_1 l0_2).bind fun t309 => ((spinnakerref01_Same.f kj10 t292 t309).bind fun t312 => (if t312 = true then (if bt298.2.2.2 = 0 then ((spinnakerref08_Same.f kj10 bt298.1 bt298.2.1 bt298.2.2.1 l0_0 l0_1 l0_2).bind fun t313 => (if t313 = true then ((spinnakerlaw08_awake.f kj10).bind fun t314 => (some t314)) else (some false))) else (some false)) else (some false))))) else (if (t292.length : Int) = 0 then ((spinnakerlaw08_awake.f kj10).bind fun t297 => (some t297)) else (some false))) = some r := by rw [if_neg (show ¬ (false = true) by decide)] at H; exact H
     clear H
     have H := H1
     clear H1
     by_cases c26 : t291 = 0
     ·rw [if_pos c26] at H
      obtain ⟨c26b0, c26b1⟩ := eqs c26
      clear c26
      replace H := be H
      obtain ⟨⟨t298, t301, t304, t307⟩, A27, H⟩ := H
      dsimp only at H
      replace H := be H
      obtain ⟨t309, A28, H⟩ := H
      replace H := be H
      obtain ⟨t312, A29, H⟩ := H
      by_cases c30 : t312 = true
      ·subst c30
       have H1 : (if t307 = 0 then ((spinnakerref08_Same.f kj10 t298 t301 t304 l0_0 l0_1 l0_2).bind fun t313 => (if t313 = true then ((spinnakerlaw08_awake.f kj10).bind fun t314 => (some t314)) else (some false))) else (some false)) = some r := by rw [if_pos rfl] at H; exact H
       clear H
       have H := H1
       clear H1
       by_cases c31 : t307 = 0
       ·rw [if_pos c31] at H
        obtain ⟨c31b0, c31b1⟩ := eqs c31
        clear c31
        replace H := be H
        obtain ⟨t313, A32, H⟩ := H
        by_cases c33 : t313 = true
        ·subst c33
         have H1 : ((spinnakerlaw08_awake.f kj10).bind fun t314 => (some t314)) = some r := by rw [if_pos rfl] at H; exact H
         clear H
         have H := H1
         clear H1
         replace H := be H
         obtain ⟨t314, A34, H⟩ := H
         obtain rfl := Option.some.inj H
         obtain ⟨Ao35, co35, eo35⟩ := Kd.R_slice HO_4.out
         subst eo35
         go_wp2_with (first | ((with_reducible refine gate_callee (f := 13) rfl ?_); refine goesL_ (some 37) rfl rfl Try.func13 (by kernel_rfl) rfl #[.slice Ao35 t292.length co35] rfl ga ?_; (with_reducible refine (image_Decode.calls kj10 _ _ t292 t298 t301 t304 t307 _ ?side1 ?side2 A27.out).mono ?_); (case side1 => repeat (first | exact (Kd.R_reads' HO_4.out).2.2 | (with_reducible refine Kd.C_alloc ?_ _) | (with_reducible refine Kd.C_drewN ?_ _) | (with_reducible refine Kd.C_drew ?_))); (case side2 => exact (Kd.R_reads' HO_4.out).2.1); rintro e w36 ⟨v299, v302, v305, rfl, ho0, ho1, ho2, hb⟩; refine ⟨_, rfl, ?_⟩; have n0_ := Aside0.mk (Kd.R_below (by (with_reducible repeat (first | apply Kd.R_alloc | apply Kd.R_drewN | apply Kd.R_drew)); exact HO_4.out) hb); have n1_ := Aside0.mk (Kd.R_lower ho0 (below_size bl)); have n2_ := Aside0.mk (Kd.R_lower ho1 (below_size bl)); have n3_ := Aside0.mk (Kd.R_lower ho2 (below_size bl)); have n4_ := Aside0.mk (blk_below (g := gb288) (o := .cells #[.slice A0_0 l0_0.length c0_0, .slice A0_1 l0_1.length c0_1, .slice A0_2 l0_2.length c0_2] 25 (0, 0)) (bk BK288.out) hb); have n5_ := Aside0.mk (below_step bl hb); clear HO_4; clear BK288; clear HB; have HO_4 := n0_; have HO300 := n1_; have HO303 := n2_; have HO306 := n3_; have BK288 := n4_; have HB := n5_; clear n0_ n1_ n2_ n3_ n4_ n5_; (try clear hb); (try clear ho0); (try clear ho1); (try clear ho2)) | ((with_reducible refine gate_dst (N := 6) rfl ?_); refine box_event ?hg (N := 6) ?hd (cs := #[.slice none 0 0, .slice none 0 0, .slice none 0 0]) (t := 25) ?hr ?_; (case hd => rfl); (case hg => rfl); (case hr => first | (go_simp; done) | (go_simp; rfl)); intro gb308 hg w37 hbox hb; have n0_ := Aside0.mk (Kd.R_below (by (with_reducible repeat (first | apply Kd.R_alloc | apply Kd.R_drewN | apply Kd.R_drew)); exact HO_4.out) hb); have n1_ := Aside0.mk (Kd.R_below (by (with_reducible repeat (first | apply Kd.R_alloc | apply Kd.R_drewN | apply Kd.R_drew)); exact HO300.out) hb); have n2_ := Aside0.mk (Kd.R_below (by (with_reducible repeat (first | apply Kd.R_alloc | apply Kd.R_drewN | apply Kd.R_drew)); exact HO303.out) hb); have n3_ := Aside0.mk (Kd.R_below (by (with_reducible repeat (first | apply Kd.R_alloc | apply Kd.R_drewN | apply Kd.R_drew)); exact HO306.out) hb); have n4_ := Aside0.mk (blk_below (g := gb288) (o := .cells #[.slice A0_0 l0_0.length c0_0, .slice A0_1 l0_1.length c0_1, .slice A0_2 l0_2.length c0_2] 25 (0, 0)) (bk BK288.out) hb); have n5_ := Aside0.mk (below_step bl hb); have n6_ := Aside0.mk (hbox); have n7_ := Aside0.mk ((by rw [hg]; exact (below_size bl) : w.heap.size ≤ gb308)); have n8_ := Aside0.mk ((by rw [hg]; exact (below_size bl) : w.heap.size ≤ gb308)); have n9_ := Aside0.mk ((by rw [hg]; exact Nat.ne_of_lt (blk_lt (g := gb288) (o := .cells #[.slice A0_0 l0_0.length c0_0, .slice A0_1 l0_1.length c0_1, .slice A0_2 l0_2.length c0_2] 25 (0, 0)) (bk BK288.out)) : gb288 ≠ gb308)); have n10_ := Aside0.mk ((by rw [hg]; exact Nat.ne_of_gt (blk_lt (g := gb288) (o := .cells #[.slice A0_0 l0_0.length c0_0, .slice A0_1 l0_1.length c0_1, .slice A0_2 l0_2.length c0_2] 25 (0, 0)) (bk BK288.out)) : gb308 ≠ gb288)); clear HO_4; clear HO300; clear HO303; clear HO306; clear BK288; clear HB; have HO_4 := n0_; have HO300 := n1_; have HO303 := n2_; have HO306 := n3_; have BK288 := n4_; have HB := n5_; have BK308 := n6_; have GW308 := n7_; have GE308 := n8_; have NB288_308 := n9_; have NB308_288 := n10_; clear n0_ n1_ n2_ n3_ n4_ n5_ n6_ n7_ n8_ n9_ n10_; clear hb hbox hg; obtain ⟨Ao38, co38, eo38⟩ := Kd.R_slice HO300.out; subst eo38; have hnb39 := NB308_288.out; have hnc39 := NB288_308.out; obtain ⟨hcz40_0, hcz40_1, hcz40_2, hfz40_0, hfz40_1, hfz40_2⟩ := cz3 (w := w37) BK308.out; obtain ⟨Ao41, co41, eo41⟩ := Kd.R_slice HO303.out; subst eo41; obtain ⟨Ao42, co42, eo42⟩ := Kd.R_slice HO306.out; subst eo42; obtain ⟨hcz43_0, hcz43_1, hcz43_2, hfz43_0, hfz43_1, hfz43_2⟩ := cz3 (w := w37) BK288.out) | ((with_reducible refine gate_callee (f := 15) rfl ?_); refine goesL_ (some 42) rfl rfl Try.func15 (by kernel_rfl) rfl #[.agg #[.slice A0_0 l0_0.length c0_0, .slice A0_1 l0_1.length c0_1, .slice A0_2 l0_2.length c0_2]] rfl ga ?_; (with_reducible refine (spinnakerref08_Bytes.calls kj10 _ _ l0_0 _ _ l0_1 _ _ l0_2 t309 _ ?side1 ?side2 ?side3 ?side4 ?side5 ?side6 A28.out).mono ?_); (case side1 => exact Kd.C_below HR0_0.out bl); (case side2 => exact HC0_0.out); (case side3 => exact Kd.C_below HR0_1.out bl); (case side4 => exact HC0_1.out); (case side5 => exact Kd.C_below HR0_2.out bl); (case side6 => exact HC0_2.out); rintro e w44 ⟨v310, rfl, ho0, hb⟩; refine ⟨_, rfl, ?_⟩; have n0_ := Aside0.mk (Kd.R_elder' (by (with_reducible repeat (first | apply Kd.R_alloc | apply Kd.R_drewN | apply Kd.R_drew)); exact (Kd.R_mono (Kd.R_far (p := ⟨gb308, 2, none⟩) (Kd.R_far (p := ⟨gb308, 1, none⟩) (Kd.R_far (p := ⟨gb308, 0, none⟩) (Kd.R_types HO_4.out BK308.out (by decide)) (fun _ hk => hk.2) (.slice Ao38 t298.length co38)) (fun _ hk => hk.2) (.slice Ao41 t301.length co41)) (fun _ hk => hk.2) (.slice Ao42 t304.length co42)) (fun _ h_ => h_.1))) (Kd.R_base ho0) hb); have n1_ := Aside0.mk (Kd.R_below (by (with_reducible repeat (first | apply Kd.R_alloc | apply Kd.R_drewN | apply Kd.R_drew)); exact (Kd.R_mono (Kd.R_far (p := ⟨gb308, 2, none⟩) (Kd.R_far (p := ⟨gb308, 1, none⟩) (Kd.R_far (p := ⟨gb308, 0, none⟩) (Kd.R_types HO300.out BK308.out (by decide)) (fun _ hk => hk.2) (.slice Ao38 t298.length co38)) (fun _ hk => hk.2) (.slice Ao41 t301.length co41)) (fun _ hk => hk.2) (.slice Ao42 t304.length co42)) (fun _ h_ => h_.1))) hb); have n2_ := Aside0.mk (Kd.R_below (by (with_reducible repeat (first | apply Kd.R_alloc | apply Kd.R_drewN | apply Kd.R_drew)); exact (Kd.R_mono (Kd.R_far (p := ⟨gb308, 2, none⟩) (Kd.R_far (p := ⟨gb308, 1, none⟩) (Kd.R_far (p := ⟨gb308, 0, none⟩) (Kd.R_types HO303.out BK308.out (by decide)) (fun _ hk => hk.2) (.slice Ao38 t298.length co38)) (fun _ hk => hk.2) (.slice Ao41 t301.length co41)) (fun _ hk => hk.2) (.slice Ao42 t304.length co42)) (fun _ h_ => h_.1))) hb); have n3_ := Aside0.mk (Kd.R_below (by (with_reducible repeat (first | apply Kd.R_alloc | apply Kd.R_drewN | apply Kd.R_drew)); exact (Kd.R_mono (Kd.R_far (p := ⟨gb308, 2, none⟩) (Kd.R_far (p := ⟨gb308, 1, none⟩) (Kd.R_far (p := ⟨gb308, 0, none⟩) (Kd.R_types HO306.out BK308.out (by decide)) (fun _ hk => hk.2) (.slice Ao38 t298.length co38)) (fun _ hk => hk.2) (.slice Ao41 t301.length co41)) (fun _ hk => hk.2) (.slice Ao42 t304.length co42)) (fun _ h_ => h_.1))) hb); have n4_ := Aside0.mk (Kd.R_lower (Kd.R_new' ho0 (Kd.R_lt (by (with_reducible repeat (first | apply Kd.R_alloc | apply Kd.R_drewN | apply Kd.R_drew)); exact (Kd.R_mono (Kd.R_far (p := ⟨gb308, 2, none⟩) (Kd.R_far (p := ⟨gb308, 1, none⟩) (Kd.R_far (p := ⟨gb308, 0, none⟩) (Kd.R_types HO_4.out BK308.out (by decide)) (fun _ hk => hk.2) (.slice Ao38 t298.length co38)) (fun _ hk => hk.2) (.slice Ao41 t301.length co41)) (fun _ hk => hk.2) (.slice Ao42 t304.length co42)) (fun _ h_ => h_.1))))) (below_size bl)); have n5_ := Aside0.mk (blk_below (g := gb288) (o := .cells #[.slice A0_0 l0_0.length c0_0, .slice A0_1 l0_1.length c0_1, .slice A0_2 l0_2.length c0_2] 25 (0, 0)) (by refine bx ?_; refine blk_far ?_ NB288_308.out _; refine bx ?_; refine blk_far ?_ NB288_308.out _; refine bx ?_; refine blk_far ?_ NB288_308.out _; refine bx ?_; exact BK288.out) hb); have n6_ := Aside0.mk (blk_below (g := gb308) (o := .cells #[.slice Ao38 t298.length co38, .slice Ao41 t301.length co41, .slice Ao42 t304.length co42] 25 (0, 0)) (by refine bx ?_; refine blk_put (cs := #[.slice Ao38 t298.length co38, .slice Ao41 t301.length co41, .slice none 0 0]) ?_ 2 _ rfl; refine bx ?_; refine blk_put (cs := #[.slice Ao38 t298.length co38, .slice none 0 0, .slice none 0 0]) ?_ 1 _ rfl; refine bx ?_; refine blk_put (cs := #[.slice none 0 0, .slice none 0 0, .slice none 0 0]) ?_ 0 _ rfl; refine bx ?_; exact BK308.out) hb); have n7_ := Aside0.mk (below_step bl hb); clear HO_4; clear HO300; clear HO303; clear HO306; clear BK288; clear BK308; clear HB; have HO_4 := n0_; have HO300 := n1_; have HO303 := n2_; have HO306 := n3_; have HO311 := n4_; have BK288 := n5_; have BK308 := n6_; have HB := n7_; clear n0_ n1_ n2_ n3_ n4_ n5_ n6_ n7_; (try clear hb); (try clear ho0); obtain ⟨Ao45, co45, eo45⟩ := Kd.R_slice HO311.out; subst eo45) | ((with_reducible refine gate_callee (f := 14) rfl ?_); refine goesL_ (some 43) rfl rfl Try.func14 (by kernel_rfl) rfl #[.slice Ao35 t292.length co35, .slice Ao45 t309.length co45] rfl ga ?_; (with_reducible refine (spinnakerref01_Same.calls kj10 _ _ t292 _ _ t309 true _ ?side1 ?side2 ?side3 ?side4 A29.out).mono ?_); (case side1 => repeat (first | exact (Kd.R_reads' HO_4.out).2.2 | (with_reducible refine Kd.C_alloc ?_ _) | (with_reducible refine Kd.C_drewN ?_ _) | (with_reducible refine Kd.C_drew ?_))); (case side2 => exact (Kd.R_reads' HO_4.out).2.1); (case side3 => repeat (first | exact (Kd.R_reads' HO311.out).2.2 | (with_reducible refine Kd.C_alloc ?_ _) | (with_reducible refine Kd.C_drewN ?_ _) | (with_reducible refine Kd.C_drew ?_))); (case side4 => exact (Kd.R_reads' HO311.out).2.1); rintro e w' ⟨rfl, ⟨nd, rfl⟩⟩; refine ⟨_, rfl, ?_⟩; obtain ⟨hcz46_0, hcz46_1, hcz46_2, hfz46_0, hfz46_1, hfz46_2⟩ := cz3 (w := w44) BK308.out; obtain ⟨hcz47_0, hcz47_1, hcz47_2, hfz47_0, hfz47_1, hfz47_2⟩ := cz3 (w := w44) BK288.out) | (go_at_call 16; (with_reducible refine (spinnakerref08_Same.calls kj10 _ _ t298 _ _ t301 _ _ t304 _ _ l0_0 _ _ l0_1 _ _ l0_2 true _ ?side1 ?side2 ?side3 ?side4 ?side5 ?side6 ?side7 ?side8 ?side9 ?side10 ?side11 ?side12 A32.out).mono ?_); (case side1 => repeat (first | exact (Kd.R_reads' HO300.out).2.2 | (with_reducible refine Kd.C_alloc ?_ _) | (with_reducible refine Kd.C_drewN ?_ _) | (with_reducible refine Kd.C_drew ?_))); (case side2 => exact (Kd.R_reads' HO300.out).2.1); (case side3 => repeat (first | exact (Kd.R_reads' HO303.out).2.2 | (with_reducible refine Kd.C_alloc ?_ _) | (with_reducible refine Kd.C_drewN ?_ _) | (with_reducible refine Kd.C_drew ?_))); (case side4 => exact (Kd.R_reads' HO303.out).2.1); (case side5 => repeat (first | exact (Kd.R_reads' HO306.out).2.2 | (with_reducible refine Kd.C_alloc ?_ _) | (with_reducible refine Kd.C_drewN ?_ _) | (with_reducible refine Kd.C_drew ?_))); (case side6 => exact (Kd.R_reads' HO306.out).2.1); (case side7 => repeat (first | exact (Kd.C_below HR0_0.out bl) | (with_reducible refine Kd.C_alloc ?_ _) | (with_reducible refine Kd.C_drewN ?_ _) | (with_reducible refine Kd.C_drew ?_))); (case side8 => exact HC0_0.out); (case side9 => repeat (first | exact (Kd.C_below HR0_1.out bl) | (with_reducible refine Kd.C_alloc ?_ _) | (with_reducible refine Kd.C_drewN ?_ _) | (with_reducible refine Kd.C_drew ?_))); (case side10 => exact HC0_1.out); (case side11 => repeat (first | exact (Kd.C_below HR0_2.out bl) | (with_reducible refine Kd.C_alloc ?_ _) | (with_reducible refine Kd.C_drewN ?_ _) | (with_reducible refine Kd.C_drew ?_))); (case side12 => exact HC0_2.out); rintro e w48 ⟨rfl, hb⟩; have n0_ := Aside0.mk (Kd.R_below (by (with_reducible repeat (first | apply Kd.R_alloc | apply Kd.R_drewN | apply Kd.R_drew)); exact HO_4.out) hb); have n1_ := Aside0.mk (Kd.R_below (by (with_reducible repeat (first | apply Kd.R_alloc | apply Kd.R_drewN | apply Kd.R_drew)); exact HO300.out) hb); have n2_ := Aside0.mk (Kd.R_below (by (with_reducible repeat (first | apply Kd.R_alloc | apply Kd.R_drewN | apply Kd.R_drew)); exact HO303.out) hb); have n3_ := Aside0.mk (Kd.R_below (by (with_reducible repeat (first | apply Kd.R_alloc | apply Kd.R_drewN | apply Kd.R_drew)); exact HO306.out) hb); have n4_ := Aside0.mk (Kd.R_below (by (with_reducible repeat (first | apply Kd.R_alloc | apply Kd.R_drewN | apply Kd.R_drew)); exact HO311.out) hb); have n5_ := Aside0.mk (blk_below (g := gb288) (o := .cells #[.slice A0_0 l0_0.length c0_0, .slice A0_1 l0_1.length c0_1, .slice A0_2 l0_2.length c0_2] 25 (0, 0)) (bk BK288.out) hb); have n6_ := Aside0.mk (blk_below (g := gb308) (o := .cells #[.slice Ao38 t298.length co38, .slice Ao41 t301.length co41, .slice Ao42 t304.length co42] 25 (0, 0)) (bk BK308.out) hb); have n7_ := Aside0.mk (below_step bl hb); clear HO_4; clear HO300; clear HO303; clear HO306; clear HO311; clear BK288; clear BK308; clear HB; have HO_4 := n0_; have HO300 := n1_; have HO303 := n2_; have HO306 := n3_; have HO311 := n4_; have BK288 := n5_; have BK308 := n6_; have HB := n7_; clear n0_ n1_ n2_ n3_ n4_ n5_ n6_ n7_; (try clear hb)) | (go_at_call 9; (with_reducible refine (spinnakerlaw08_awake.calls kj10  t314 _ A34.out).mono ?_); rintro e w49 ⟨rfl, hb⟩; have n0_ := Aside0.mk (Kd.R_below (by (with_reducible repeat (first | apply Kd.R_alloc | apply Kd.R_drewN | apply Kd.R_drew)); exact HO_4.out) hb); have n1_ := Aside0.mk (Kd.R_below (by (with_reducible repeat (first | apply Kd.R_alloc | apply Kd.R_drewN | apply Kd.R_drew)); exact HO300.out) hb); have n2_ := Aside0.mk (Kd.R_below (by (with_reducible repeat (first | apply Kd.R_alloc | apply Kd.R_drewN | apply Kd.R_drew)); exact HO303.out) hb); have n3_ := Aside0.mk (Kd.R_below (by (with_reducible repeat (first | apply Kd.R_alloc | apply Kd.R_drewN | apply Kd.R_drew)); exact HO306.out) hb); have n4_ := Aside0.mk (Kd.R_below (by (with_reducible repeat (first | apply Kd.R_alloc | apply Kd.R_drewN | apply Kd.R_drew)); exact HO311.out) hb); have n5_ := Aside0.mk (blk_below (g := gb288) (o := .cells #[.slice A0_0 l0_0.length c0_0, .slice A0_1 l0_1.length c0_1, .slice A0_2 l0_2.length c0_2] 25 (0, 0)) (bk BK288.out) hb); have n6_ := Aside0.mk (blk_below (g := gb308) (o := .cells #[.slice Ao38 t298.length co38, .slice Ao41 t301.length co41, .slice Ao42 t304.length co42] 25 (0, 0)) (bk BK308.out) hb); have n7_ := Aside0.mk (below_step bl hb); clear HO_4; clear HO300; clear HO303; clear HO306; clear HO311; clear BK288; clear BK308; clear HB; have HO_4 := n0_; have HO300 := n1_; have HO303 := n2_; have HO306 := n3_; have HO311 := n4_; have BK288 := n5_; have BK308 := n6_; have HB := n7_; clear n0_ n1_ n2_ n3_ n4_ n5_ n6_ n7_; (try clear hb)))
         go_ret
         exact ⟨fi, bl⟩
        ·replace c33 := Bool.eq_false_iff.mpr c33
         subst c33
         have H1 : (some false) = some r := by rw [if_neg (show ¬ (false = true) by decide)] at H; exact H
         clear H
         have H := H1
         clear H1
         obtain rfl := Option.some.inj H
         obtain ⟨Ao50, co50, eo50⟩ := Kd.R_slice HO_4.out
         subst eo50
         go_wp2_with (first | ((with_reducible refine gate_callee (f := 13) rfl ?_); refine goesL_ (some 37) rfl rfl Try.func13 (by kernel_rfl) rfl #[.slice Ao50 t292.length co50] rfl ga ?_; (with_reducible refine (image_Decode.calls kj10 _ _ t292 t298 t301 t304 t307 _ ?side1 ?side2 A27.out).mono ?_); (case side1 => repeat (first | exact (Kd.R_reads' HO_4.out).2.2 | (with_reducible refine Kd.C_alloc ?_ _) | (with_reducible refine Kd.C_drewN ?_ _) | (with_reducible refine Kd.C_drew ?_))); (case side2 => exact (Kd.R_reads' HO_4.out).2.1); rintro e w51 ⟨v299, v302, v305, rfl, ho0, ho1, ho2, hb⟩; refine ⟨_, rfl, ?_⟩; have n0_ := Aside0.mk (Kd.R_below (by (with_reducible repeat (first | apply Kd.R_alloc | apply Kd.R_drewN | apply Kd.R_drew)); exact HO_4.out) hb); have n1_ := Aside0.mk (Kd.R_lower ho0 (below_size bl)); have n2_ := Aside0.mk (Kd.R_lower ho1 (below_size bl)); have n3_ := Aside0.mk (Kd.R_lower ho2 (below_size bl)); have n4_ := Aside0.mk (blk_below (g := gb288) (o := .cells #[.slice A0_0 l0_0.length c0_0, .slice A0_1 l0_1.length c0_1, .slice A0_2 l0_2.length c0_2] 25 (0, 0)) (bk BK288.out) hb); have n5_ := Aside0.mk (below_step bl hb); clear HO_4; clear BK288; clear HB; have HO_4 := n0_; have HO300 := n1_; have HO303 := n2_; have HO306 := n3_; have BK288 := n4_; have HB := n5_; clear n0_ n1_ n2_ n3_ n4_ n5_; (try clear hb); (try clear ho0); (try clear ho1); (try clear ho2)) | ((with_reducible refine gate_dst (N := 6) rfl ?_); refine box_event ?hg (N := 6) ?hd (cs := #[.slice none 0 0, .slice none 0 0, .slice none 0 0]) (t := 25) ?hr ?_; (case hd => rfl); (case hg => rfl); (case hr => first | (go_simp; done) | (go_simp; rfl)); intro gb308 hg w52 hbox hb; have n0_ := Aside0.mk (Kd.R_below (by (with_reducible repeat (first | apply Kd.R_alloc | apply Kd.R_drewN | apply Kd.R_drew)); exact HO_4.out) hb); have n1_ := Aside0.mk (Kd.R_below (by (with_reducible repeat (first | apply Kd.R_alloc | apply Kd.R_drewN | apply Kd.R_drew)); exact HO300.out) hb); have n2_ := Aside0.mk (Kd.R_below (by (with_reducible repeat (first | apply Kd.R_alloc | apply Kd.R_drewN | apply Kd.R_drew)); exact HO303.out) hb); have n3_ := Aside0.mk (Kd.R_below (by (with_reducible repeat (first | apply Kd.R_alloc | apply Kd.R_drewN | apply Kd.R_drew)); exact HO306.out) hb); have n4_ := Aside0.mk (blk_below (g := gb288) (o := .cells #[.slice A0_0 l0_0.length c0_0, .slice A0_1 l0_1.length c0_1, .slice A0_2 l0_2.length c0_2] 25 (0, 0)) (bk BK288.out) hb); have n5_ := Aside0.mk (below_step bl hb); have n6_ := Aside0.mk (hbox); have n7_ := Aside0.mk ((by rw [hg]; exact (below_size bl) : w.heap.size ≤ gb308)); have n8_ := Aside0.mk ((by rw [hg]; exact (below_size bl) : w.heap.size ≤ gb308)); have n9_ := Aside0.mk ((by rw [hg]; exact Nat.ne_of_lt (blk_lt (g := gb288) (o := .cells #[.slice A0_0 l0_0.length c0_0, .slice A0_1 l0_1.length c0_1, .slice A0_2 l0_2.length c0_2] 25 (0, 0)) (bk BK288.out)) : gb288 ≠ gb308)); have n10_ := Aside0.mk ((by rw [hg]; exact Nat.ne_of_gt (blk_lt (g := gb288) (o := .cells #[.slice A0_0 l0_0.length c0_0, .slice A0_1 l0_1.length c0_1, .slice A0_2 l0_2.length c0_2] 25 (0, 0)) (bk BK288.out)) : gb308 ≠ gb288)); clear HO_4; clear HO300; clear HO303; clear HO306; clear BK288; clear HB; have HO_4 := n0_; have HO300 := n1_; have HO303 := n2_; have HO306 := n3_; have BK288 := n4_; have HB := n5_; have BK308 := n6_; have GW308 := n7_; have GE308 := n8_; have NB288_308 := n9_; have NB308_288 := n10_; clear n0_ n1_ n2_ n3_ n4_ n5_ n6_ n7_ n8_ n9_ n10_; clear hb hbox hg; obtain ⟨Ao53, co53, eo53⟩ := Kd.R_slice HO300.out; subst eo53; have hnb54 := NB308_288.out; have hnc54 := NB288_308.out; obtain ⟨hcz55_0, hcz55_1, hcz55_2, hfz55_0, hfz55_1, hfz55_2⟩ := cz3 (w := w52) BK308.out; obtain ⟨Ao56, co56, eo56⟩ := Kd.R_slice HO303.out; subst eo56; obtain ⟨Ao57, co57, eo57⟩ := Kd.R_slice HO306.out; subst eo57; obtain ⟨hcz58_0, hcz58_1, hcz58_2, hfz58_0, hfz58_1, hfz58_2⟩ := cz3 (w := w52) BK288.out) | ((with_reducible refine gate_callee (f := 15) rfl ?_); refine goesL_ (some 42) rfl rfl Try.func15 (by kernel_rfl) rfl #[.agg #[.slice A0_0 l0_0.length c0_0, .slice A0_1 l0_1.length c0_1, .slice A0_2 l0_2.length c0_2]] rfl ga ?_; (with_reducible refine (spinnakerref08_Bytes.calls kj10 _ _ l0_0 _ _ l0_1 _ _ l0_2 t309 _ ?side1 ?side2 ?side3 ?side4 ?side5 ?side6 A28.out).mono ?_); (case side1 => exact Kd.C_below HR0_0.out bl); (case side2 => exact HC0_0.out); (case side3 => exact Kd.C_below HR0_1.out bl); (case side4 => exact HC0_1.out); (case side5 => exact Kd.C_below HR0_2.out bl); (case side6 => exact HC0_2.out); rintro e w59 ⟨v310, rfl, ho0, hb⟩; refine ⟨_, rfl, ?_⟩; have n0_ := Aside0.mk (Kd.R_elder' (by (with_reducible repeat (first | apply Kd.R_alloc | apply Kd.R_drewN | apply Kd.R_drew)); exact (Kd.R_mono (Kd.R_far (p := ⟨gb308, 2, none⟩) (Kd.R_far (p := ⟨gb308, 1, none⟩) (Kd.R_far (p := ⟨gb308, 0, none⟩) (Kd.R_types HO_4.out BK308.out (by decide)) (fun _ hk => hk.2) (.slice Ao53 t298.length co53)) (fun _ hk => hk.2) (.slice Ao56 t301.length co56)) (fun _ hk => hk.2) (.slice Ao57 t304.length co57)) (fun _ h_ => h_.1))) (Kd.R_base ho0) hb); have n1_ := Aside0.mk (Kd.R_below (by (with_reducible repeat (first | apply Kd.R_alloc | apply Kd.R_drewN | apply Kd.R_drew)); exact (Kd.R_mono (Kd.R_far (p := ⟨gb308, 2, none⟩) (Kd.R_far (p := ⟨gb308, 1, none⟩) (Kd.R_far (p := ⟨gb308, 0, none⟩) (Kd.R_types HO300.out BK308.out (by decide)) (fun _ hk => hk.2) (.slice Ao53 t298.length co53)) (fun _ hk => hk.2) (.slice Ao56 t301.length co56)) (fun _ hk => hk.2) (.slice Ao57 t304.length co57)) (fun _ h_ => h_.1))) hb); have n2_ := Aside0.mk (Kd.R_below (by (with_reducible repeat (first | apply Kd.R_alloc | apply Kd.R_drewN | apply Kd.R_drew)); exact (Kd.R_mono (Kd.R_far (p := ⟨gb308, 2, none⟩) (Kd.R_far (p := ⟨gb308, 1, none⟩) (Kd.R_far (p := ⟨gb308, 0, none⟩) (Kd.R_types HO303.out BK308.out (by decide)) (fun _ hk => hk.2) (.slice Ao53 t298.length co53)) (fun _ hk => hk.2) (.slice Ao56 t301.length co56)) (fun _ hk => hk.2) (.slice Ao57 t304.length co57)) (fun _ h_ => h_.1))) hb); have n3_ := Aside0.mk (Kd.R_below (by (with_reducible repeat (first | apply Kd.R_alloc | apply Kd.R_drewN | apply Kd.R_drew)); exact (Kd.R_mono (Kd.R_far (p := ⟨gb308, 2, none⟩) (Kd.R_far (p := ⟨gb308, 1, none⟩) (Kd.R_far (p := ⟨gb308, 0, none⟩) (Kd.R_types HO306.out BK308.out (by decide)) (fun _ hk => hk.2) (.slice Ao53 t298.length co53)) (fun _ hk => hk.2) (.slice Ao56 t301.length co56)) (fun _ hk => hk.2) (.slice Ao57 t304.length co57)) (fun _ h_ => h_.1))) hb); have n4_ := Aside0.mk (Kd.R_lower (Kd.R_new' ho0 (Kd.R_lt (by (with_reducible repeat (first | apply Kd.R_alloc | apply Kd.R_drewN | apply Kd.R_drew)); exact (Kd.R_mono (Kd.R_far (p := ⟨gb308, 2, none⟩) (Kd.R_far (p := ⟨gb308, 1, none⟩) (Kd.R_far (p := ⟨gb308, 0, none⟩) (Kd.R_types HO_4.out BK308.out (by decide)) (fun _ hk => hk.2) (.slice Ao53 t298.length co53)) (fun _ hk => hk.2) (.slice Ao56 t301.length co56)) (fun _ hk => hk.2) (.slice Ao57 t304.length co57)) (fun _ h_ => h_.1))))) (below_size bl)); have n5_ := Aside0.mk (blk_below (g := gb288) (o := .cells #[.slice A0_0 l0_0.length c0_0, .slice A0_1 l0_1.length c0_1, .slice A0_2 l0_2.length c0_2] 25 (0, 0)) (by refine bx ?_; refine blk_far ?_ NB288_308.out _; refine bx ?_; refine blk_far ?_ NB288_308.out _; refine bx ?_; refine blk_far ?_ NB288_308.out _; refine bx ?_; exact BK288.out) hb); have n6_ := Aside0.mk (blk_below (g := gb308) (o := .cells #[.slice Ao53 t298.length co53, .slice Ao56 t301.length co56, .slice Ao57 t304.length co57] 25 (0, 0)) (by refine bx ?_; refine blk_put (cs := #[.slice Ao53 t298.length co53, .slice Ao56 t301.length co56, .slice none 0 0]) ?_ 2 _ rfl; refine bx ?_; refine blk_put (cs := #[.slice Ao53 t298.length co53, .slice none 0 0, .slice none 0 0]) ?_ 1 _ rfl; refine bx ?_; refine blk_put (cs := #[.slice none 0 0, .slice none 0 0, .slice none 0 0]) ?_ 0 _ rfl; refine bx ?_; exact BK308.out) hb); have n7_ := Aside0.mk (below_step bl hb); clear HO_4; clear HO300; clear HO303; clear HO306; clear BK288; clear BK308; clear HB; have HO_4 := n0_; have HO300 := n1_; have HO303 := n2_; have HO306 := n3_; have HO311 := n4_; have BK288 := n5_; have BK308 := n6_; have HB := n7_; clear n0_ n1_ n2_ n3_ n4_ n5_ n6_ n7_; (try clear hb); (try clear ho0); obtain ⟨Ao60, co60, eo60⟩ := Kd.R_slice HO311.out; subst eo60) | ((with_reducible refine gate_callee (f := 14) rfl ?_); refine goesL_ (some 43) rfl rfl Try.func14 (by kernel_rfl) rfl #[.slice Ao50 t292.length co50, .slice Ao60 t309.length co60] rfl ga ?_; (with_reducible refine (spinnakerref01_Same.calls kj10 _ _ t292 _ _ t309 true _ ?side1 ?side2 ?side3 ?side4 A29.out).mono ?_); (case side1 => repeat (first | exact (Kd.R_reads' HO_4.out).2.2 | (with_reducible refine Kd.C_alloc ?_ _) | (with_reducible refine Kd.C_drewN ?_ _) | (with_reducible refine Kd.C_drew ?_))); (case side2 => exact (Kd.R_reads' HO_4.out).2.1); (case side3 => repeat (first | exact (Kd.R_reads' HO311.out).2.2 | (with_reducible refine Kd.C_alloc ?_ _) | (with_reducible refine Kd.C_drewN ?_ _) | (with_reducible refine Kd.C_drew ?_))); (case side4 => exact (Kd.R_reads' HO311.out).2.1); rintro e w' ⟨rfl, ⟨nd, rfl⟩⟩; refine ⟨_, rfl, ?_⟩; obtain ⟨hcz61_0, hcz61_1, hcz61_2, hfz61_0, hfz61_1, hfz61_2⟩ := cz3 (w := w59) BK308.out; obtain ⟨hcz62_0, hcz62_1, hcz62_2, hfz62_0, hfz62_1, hfz62_2⟩ := cz3 (w := w59) BK288.out) | (go_at_call 16; (with_reducible refine (spinnakerref08_Same.calls kj10 _ _ t298 _ _ t301 _ _ t304 _ _ l0_0 _ _ l0_1 _ _ l0_2 false _ ?side1 ?side2 ?side3 ?side4 ?side5 ?side6 ?side7 ?side8 ?side9 ?side10 ?side11 ?side12 A32.out).mono ?_); (case side1 => repeat (first | exact (Kd.R_reads' HO300.out).2.2 | (with_reducible refine Kd.C_alloc ?_ _) | (with_reducible refine Kd.C_drewN ?_ _) | (with_reducible refine Kd.C_drew ?_))); (case side2 => exact (Kd.R_reads' HO300.out).2.1); (case side3 => repeat (first | exact (Kd.R_reads' HO303.out).2.2 | (with_reducible refine Kd.C_alloc ?_ _) | (with_reducible refine Kd.C_drewN ?_ _) | (with_reducible refine Kd.C_drew ?_))); (case side4 => exact (Kd.R_reads' HO303.out).2.1); (case side5 => repeat (first | exact (Kd.R_reads' HO306.out).2.2 | (with_reducible refine Kd.C_alloc ?_ _) | (with_reducible refine Kd.C_drewN ?_ _) | (with_reducible refine Kd.C_drew ?_))); (case side6 => exact (Kd.R_reads' HO306.out).2.1); (case side7 => repeat (first | exact (Kd.C_below HR0_0.out bl) | (with_reducible refine Kd.C_alloc ?_ _) | (with_reducible refine Kd.C_drewN ?_ _) | (with_reducible refine Kd.C_drew ?_))); (case side8 => exact HC0_0.out); (case side9 => repeat (first | exact (Kd.C_below HR0_1.out bl) | (with_reducible refine Kd.C_alloc ?_ _) | (with_reducible refine Kd.C_drewN ?_ _) | (with_reducible refine Kd.C_drew ?_))); (case side10 => exact HC0_1.out); (case side11 => repeat (first | exact (Kd.C_below HR0_2.out bl) | (with_reducible refine Kd.C_alloc ?_ _) | (with_reducible refine Kd.C_drewN ?_ _) | (with_reducible refine Kd.C_drew ?_))); (case side12 => exact HC0_2.out); rintro e w63 ⟨rfl, hb⟩; have n0_ := Aside0.mk (Kd.R_below (by (with_reducible repeat (first | apply Kd.R_alloc | apply Kd.R_drewN | apply Kd.R_drew)); exact HO_4.out) hb); have n1_ := Aside0.mk (Kd.R_below (by (with_reducible repeat (first | apply Kd.R_alloc | apply Kd.R_drewN | apply Kd.R_drew)); exact HO300.out) hb); have n2_ := Aside0.mk (Kd.R_below (by (with_reducible repeat (first | apply Kd.R_alloc | apply Kd.R_drewN | apply Kd.R_drew)); exact HO303.out) hb); have n3_ := Aside0.mk (Kd.R_below (by (with_reducible repeat (first | apply Kd.R_alloc | apply Kd.R_drewN | apply Kd.R_drew)); exact HO306.out) hb); have n4_ := Aside0.mk (Kd.R_below (by (with_reducible repeat (first | apply Kd.R_alloc | apply Kd.R_drewN | apply Kd.R_drew)); exact HO311.out) hb); have n5_ := Aside0.mk (blk_below (g := gb288) (o := .cells #[.slice A0_0 l0_0.length c0_0, .slice A0_1 l0_1.length c0_1, .slice A0_2 l0_2.length c0_2] 25 (0, 0)) (bk BK288.out) hb); have n6_ := Aside0.mk (blk_below (g := gb308) (o := .cells #[.slice Ao53 t298.length co53, .slice Ao56 t301.length co56, .slice Ao57 t304.length co57] 25 (0, 0)) (bk BK308.out) hb); have n7_ := Aside0.mk (below_step bl hb); clear HO_4; clear HO300; clear HO303; clear HO306; clear HO311; clear BK288; clear BK308; clear HB; have HO_4 := n0_; have HO300 := n1_; have HO303 := n2_; have HO306 := n3_; have HO311 := n4_; have BK288 := n5_; have BK308 := n6_; have HB := n7_; clear n0_ n1_ n2_ n3_ n4_ n5_ n6_ n7_; (try clear hb)))
         go_ret
         exact ⟨fi, bl⟩
       ·rw [if_neg c31] at H
        have c31b0 : (t307 == 0) = false := beq_eq_false_iff_ne.mpr c31
        have c31b1 : (t307 != 0) = true := bne_iff_ne.mpr c31
        obtain rfl := Option.some.inj H
        obtain ⟨Ao64, co64, eo64⟩ := Kd.R_slice HO_4.out
        subst eo64
        go_wp2_with (first | ((with_reducible refine gate_callee (f := 13) rfl ?_); refine goesL_ (some 37) rfl rfl Try.func13 (by kernel_rfl) rfl #[.slice Ao64 t292.length co64] rfl ga ?_; (with_reducible refine (image_Decode.calls kj10 _ _ t292 t298 t301 t304 t307 _ ?side1 ?side2 A27.out).mono ?_); (case side1 => repeat (first | exact (Kd.R_reads' HO_4.out).2.2 | (with_reducible refine Kd.C_alloc ?_ _) | (with_reducible refine Kd.C_drewN ?_ _) | (with_reducible refine Kd.C_drew ?_))); (case side2 => exact (Kd.R_reads' HO_4.out).2.1); rintro e w65 ⟨v299, v302, v305, rfl, ho0, ho1, ho2, hb⟩; refine ⟨_, rfl, ?_⟩; have n0_ := Aside0.mk (Kd.R_below (by (with_reducible repeat (first | apply Kd.R_alloc | apply Kd.R_drewN | apply Kd.R_drew)); exact HO_4.out) hb); have n1_ := Aside0.mk (Kd.R_lower ho0 (below_size bl)); have n2_ := Aside0.mk (Kd.R_lower ho1 (below_size bl)); have n3_ := Aside0.mk (Kd.R_lower ho2 (below_size bl)); have n4_ := Aside0.mk (blk_below (g := gb288) (o := .cells #[.slice A0_0 l0_0.length c0_0, .slice A0_1 l0_1.length c0_1, .slice A0_2 l0_2.length c0_2] 25 (0, 0)) (bk BK288.out) hb); have n5_ := Aside0.mk (below_step bl hb); clear HO_4; clear BK288; clear HB; have HO_4 := n0_; have HO300 := n1_; have HO303 := n2_; have HO306 := n3_; have BK288 := n4_; have HB := n5_; clear n0_ n1_ n2_ n3_ n4_ n5_; (try clear hb); (try clear ho0); (try clear ho1); (try clear ho2)) | ((with_reducible refine gate_dst (N := 6) rfl ?_); refine box_event ?hg (N := 6) ?hd (cs := #[.slice none 0 0, .slice none 0 0, .slice none 0 0]) (t := 25) ?hr ?_; (case hd => rfl); (case hg => rfl); (case hr => first | (go_simp; done) | (go_simp; rfl)); intro gb308 hg w66 hbox hb; have n0_ := Aside0.mk (Kd.R_below (by (with_reducible repeat (first | apply Kd.R_alloc | apply Kd.R_drewN | apply Kd.R_drew)); exact HO_4.out) hb); have n1_ := Aside0.mk (Kd.R_below (by (with_reducible repeat (first | apply Kd.R_alloc | apply Kd.R_drewN | apply Kd.R_drew)); exact HO300.out) hb); have n2_ := Aside0.mk (Kd.R_below (by (with_reducible repeat (first | apply Kd.R_alloc | apply Kd.R_drewN | apply Kd.R_drew)); exact HO303.out) hb); have n3_ := Aside0.mk (Kd.R_below (by (with_reducible repeat (first | apply Kd.R_alloc | apply Kd.R_drewN | apply Kd.R_drew)); exact HO306.out) hb); have n4_ := Aside0.mk (blk_below (g := gb288) (o := .cells #[.slice A0_0 l0_0.length c0_0, .slice A0_1 l0_1.length c0_1, .slice A0_2 l0_2.length c0_2] 25 (0, 0)) (bk BK288.out) hb); have n5_ := Aside0.mk (below_step bl hb); have n6_ := Aside0.mk (hbox); have n7_ := Aside0.mk ((by rw [hg]; exact (below_size bl) : w.heap.size ≤ gb308)); have n8_ := Aside0.mk ((by rw [hg]; exact (below_size bl) : w.heap.size ≤ gb308)); have n9_ := Aside0.mk ((by rw [hg]; exact Nat.ne_of_lt (blk_lt (g := gb288) (o := .cells #[.slice A0_0 l0_0.length c0_0, .slice A0_1 l0_1.length c0_1, .slice A0_2 l0_2.length c0_2] 25 (0, 0)) (bk BK288.out)) : gb288 ≠ gb308)); have n10_ := Aside0.mk ((by rw [hg]; exact Nat.ne_of_gt (blk_lt (g := gb288) (o := .cells #[.slice A0_0 l0_0.length c0_0, .slice A0_1 l0_1.length c0_1, .slice A0_2 l0_2.length c0_2] 25 (0, 0)) (bk BK288.out)) : gb308 ≠ gb288)); clear HO_4; clear HO300; clear HO303; clear HO306; clear BK288; clear HB; have HO_4 := n0_; have HO300 := n1_; have HO303 := n2_; have HO306 := n3_; have BK288 := n4_; have HB := n5_; have BK308 := n6_; have GW308 := n7_; have GE308 := n8_; have NB288_308 := n9_; have NB308_288 := n10_; clear n0_ n1_ n2_ n3_ n4_ n5_ n6_ n7_ n8_ n9_ n10_; clear hb hbox hg; obtain ⟨Ao67, co67, eo67⟩ := Kd.R_slice HO300.out; subst eo67; have hnb68 := NB308_288.out; have hnc68 := NB288_308.out; obtain ⟨hcz69_0, hcz69_1, hcz69_2, hfz69_0, hfz69_1, hfz69_2⟩ := cz3 (w := w66) BK308.out; obtain ⟨Ao70, co70, eo70⟩ := Kd.R_slice HO303.out; subst eo70; obtain ⟨Ao71, co71, eo71⟩ := Kd.R_slice HO306.out; subst eo71; obtain ⟨hcz72_0, hcz72_1, hcz72_2, hfz72_0, hfz72_1, hfz72_2⟩ := cz3 (w := w66) BK288.out) | ((with_reducible refine gate_callee (f := 15) rfl ?_); refine goesL_ (some 42) rfl rfl Try.func15 (by kernel_rfl) rfl #[.agg #[.slice A0_0 l0_0.length c0_0, .slice A0_1 l0_1.length c0_1, .slice A0_2 l0_2.length c0_2]] rfl ga ?_; (with_reducible refine (spinnakerref08_Bytes.calls kj10 _ _ l0_0 _ _ l0_1 _ _ l0_2 t309 _ ?side1 ?side2 ?side3 ?side4 ?side5 ?side6 A28.out).mono ?_); (case side1 => exact Kd.C_below HR0_0.out bl); (case side2 => exact HC0_0.out); (case side3 => exact Kd.C_below HR0_1.out bl); (case side4 => exact HC0_1.out); (case side5 => exact Kd.C_below HR0_2.out bl); (case side6 => exact HC0_2.out); rintro e w73 ⟨v310, rfl, ho0, hb⟩; refine ⟨_, rfl, ?_⟩; have n0_ := Aside0.mk (Kd.R_elder' (by (with_reducible repeat (first | apply Kd.R_alloc | apply Kd.R_drewN | apply Kd.R_drew)); exact (Kd.R_mono (Kd.R_far (p := ⟨gb308, 2, none⟩) (Kd.R_far (p := ⟨gb308, 1, none⟩) (Kd.R_far (p := ⟨gb308, 0, none⟩) (Kd.R_types HO_4.out BK308.out (by decide)) (fun _ hk => hk.2) (.slice Ao67 t298.length co67)) (fun _ hk => hk.2) (.slice Ao70 t301.length co70)) (fun _ hk => hk.2) (.slice Ao71 t304.length co71)) (fun _ h_ => h_.1))) (Kd.R_base ho0) hb); have n1_ := Aside0.mk (Kd.R_below (by (with_reducible repeat (first | apply Kd.R_alloc | apply Kd.R_drewN | apply Kd.R_drew)); exact (Kd.R_mono (Kd.R_far (p := ⟨gb308, 2, none⟩) (Kd.R_far (p := ⟨gb308, 1, none⟩) (Kd.R_far (p := ⟨gb308, 0, none⟩) (Kd.R_types HO300.out BK308.out (by decide)) (fun _ hk => hk.2) (.slice Ao67 t298.length co67)) (fun _ hk => hk.2) (.slice Ao70 t301.length co70)) (fun _ hk => hk.2) (.slice Ao71 t304.length co71)) (fun _ h_ => h_.1))) hb); have n2_ := Aside0.mk (Kd.R_below (by (with_reducible repeat (first | apply Kd.R_alloc | apply Kd.R_drewN | apply Kd.R_drew)); exact (Kd.R_mono (Kd.R_far (p := ⟨gb308, 2, none⟩) (Kd.R_far (p := ⟨gb308, 1, none⟩) (Kd.R_far (p := ⟨gb308, 0, none⟩) (Kd.R_types HO303.out BK308.out (by decide)) (fun _ hk => hk.2) (.slice Ao67 t298.length co67)) (fun _ hk => hk.2) (.slice Ao70 t301.length co70)) (fun _ hk => hk.2) (.slice Ao71 t304.length co71)) (fun _ h_ => h_.1))) hb); have n3_ := Aside0.mk (Kd.R_below (by (with_reducible repeat (first | apply Kd.R_alloc | apply Kd.R_drewN | apply Kd.R_drew)); exact (Kd.R_mono (Kd.R_far (p := ⟨gb308, 2, none⟩) (Kd.R_far (p := ⟨gb308, 1, none⟩) (Kd.R_far (p := ⟨gb308, 0, none⟩) (Kd.R_types HO306.out BK308.out (by decide)) (fun _ hk => hk.2) (.slice Ao67 t298.length co67)) (fun _ hk => hk.2) (.slice Ao70 t301.length co70)) (fun _ hk => hk.2) (.slice Ao71 t304.length co71)) (fun _ h_ => h_.1))) hb); have n4_ := Aside0.mk (Kd.R_lower (Kd.R_new' ho0 (Kd.R_lt (by (with_reducible repeat (first | apply Kd.R_alloc | apply Kd.R_drewN | apply Kd.R_drew)); exact (Kd.R_mono (Kd.R_far (p := ⟨gb308, 2, none⟩) (Kd.R_far (p := ⟨gb308, 1, none⟩) (Kd.R_far (p := ⟨gb308, 0, none⟩) (Kd.R_types HO_4.out BK308.out (by decide)) (fun _ hk => hk.2) (.slice Ao67 t298.length co67)) (fun _ hk => hk.2) (.slice Ao70 t301.length co70)) (fun _ hk => hk.2) (.slice Ao71 t304.length co71)) (fun _ h_ => h_.1))))) (below_size bl)); have n5_ := Aside0.mk (blk_below (g := gb288) (o := .cells #[.slice A0_0 l0_0.length c0_0, .slice A0_1 l0_1.length c0_1, .slice A0_2 l0_2.length c0_2] 25 (0, 0)) (by refine bx ?_; refine blk_far ?_ NB288_308.out _; refine bx ?_; refine blk_far ?_ NB288_308.out _; refine bx ?_; refine blk_far ?_ NB288_308.out _; refine bx ?_; exact BK288.out) hb); have n6_ := Aside0.mk (blk_below (g := gb308) (o := .cells #[.slice Ao67 t298.length co67, .slice Ao70 t301.length co70, .slice Ao71 t304.length co71] 25 (0, 0)) (by refine bx ?_; refine blk_put (cs := #[.slice Ao67 t298.length co67, .slice Ao70 t301.length co70, .slice none 0 0]) ?_ 2 _ rfl; refine bx ?_; refine blk_put (cs := #[.slice Ao67 t298.length co67, .slice none 0 0, .slice none 0 0]) ?_ 1 _ rfl; refine bx ?_; refine blk_put (cs := #[.slice none 0 0, .slice none 0 0, .slice none 0 0]) ?_ 0 _ rfl; refine bx ?_; exact BK308.out) hb); have n7_ := Aside0.mk (below_step bl hb); clear HO_4; clear HO300; clear HO303; clear HO306; clear BK288; clear BK308; clear HB; have HO_4 := n0_; have HO300 := n1_; have HO303 := n2_; have HO306 := n3_; have HO311 := n4_; have BK288 := n5_; have BK308 := n6_; have HB := n7_; clear n0_ n1_ n2_ n3_ n4_ n5_ n6_ n7_; (try clear hb); (try clear ho0); obtain ⟨Ao74, co74, eo74⟩ := Kd.R_slice HO311.out; subst eo74) | ((with_reducible refine gate_callee (f := 14) rfl ?_); refine goesL_ (some 43) rfl rfl Try.func14 (by kernel_rfl) rfl #[.slice Ao64 t292.length co64, .slice Ao74 t309.length co74] rfl ga ?_; (with_reducible refine (spinnakerref01_Same.calls kj10 _ _ t292 _ _ t309 true _ ?side1 ?side2 ?side3 ?side4 A29.out).mono ?_); (case side1 => repeat (first | exact (Kd.R_reads' HO_4.out).2.2 | (with_reducible refine Kd.C_alloc ?_ _) | (with_reducible refine Kd.C_drewN ?_ _) | (with_reducible refine Kd.C_drew ?_))); (case side2 => exact (Kd.R_reads' HO_4.out).2.1); (case side3 => repeat (first | exact (Kd.R_reads' HO311.out).2.2 | (with_reducible refine Kd.C_alloc ?_ _) | (with_reducible refine Kd.C_drewN ?_ _) | (with_reducible refine Kd.C_drew ?_))); (case side4 => exact (Kd.R_reads' HO311.out).2.1); rintro e w' ⟨rfl, ⟨nd, rfl⟩⟩; refine ⟨_, rfl, ?_⟩))
        go_ret
        exact ⟨fi, bl⟩
      ·replace c30 := Bool.eq_false_iff.mpr c30
       subst c30
       have H1 : (some false) = some r := by rw [if_neg (show ¬ (false = true) by decide)] at H; exact H
       clear H
       have H := H1
       clear H1
       obtain rfl := Option.some.inj H
       obtain ⟨Ao75, co75, eo75⟩ := Kd.R_slice HO_4.out
       subst eo75
       go_wp2_with (first | ((with_reducible refine gate_callee (f := 13) rfl ?_); refine goesL_ (some 37) rfl rfl Try.func13 (by kernel_rfl) rfl #[.slice Ao75 t292.length co75] rfl ga ?_; (with_reducible refine (image_Decode.calls kj10 _ _ t292 t298 t301 t304 t307 _ ?side1 ?side2 A27.out).mono ?_); (case side1 => repeat (first | exact (Kd.R_reads' HO_4.out).2.2 | (with_reducible refine Kd.C_alloc ?_ _) | (with_reducible refine Kd.C_drewN ?_ _) | (with_reducible refine Kd.C_drew ?_))); (case side2 => exact (Kd.R_reads' HO_4.out).2.1); rintro e w76 ⟨v299, v302, v305, rfl, ho0, ho1, ho2, hb⟩; refine ⟨_, rfl, ?_⟩; have n0_ := Aside0.mk (Kd.R_below (by (with_reducible repeat (first | apply Kd.R_alloc | apply Kd.R_drewN | apply Kd.R_drew)); exact HO_4.out) hb); have n1_ := Aside0.mk (Kd.R_lower ho0 (below_size bl)); have n2_ := Aside0.mk (Kd.R_lower ho1 (below_size bl)); have n3_ := Aside0.mk (Kd.R_lower ho2 (below_size bl)); have n4_ := Aside0.mk (blk_below (g := gb288) (o := .cells #[.slice A0_0 l0_0.length c0_0, .slice A0_1 l0_1.length c0_1, .slice A0_2 l0_2.length c0_2] 25 (0, 0)) (bk BK288.out) hb); have n5_ := Aside0.mk (below_step bl hb); clear HO_4; clear BK288; clear HB; have HO_4 := n0_; have HO300 := n1_; have HO303 := n2_; have HO306 := n3_; have BK288 := n4_; have HB := n5_; clear n0_ n1_ n2_ n3_ n4_ n5_; (try clear hb); (try clear ho0); (try clear ho1); (try clear ho2)) | ((with_reducible refine gate_dst (N := 6) rfl ?_); refine box_event ?hg (N := 6) ?hd (cs := #[.slice none 0 0, .slice none 0 0, .slice none 0 0]) (t := 25) ?hr ?_; (case hd => rfl); (case hg => rfl); (case hr => first | (go_simp; done) | (go_simp; rfl)); intro gb308 hg w77 hbox hb; have n0_ := Aside0.mk (Kd.R_below (by (with_reducible repeat (first | apply Kd.R_alloc | apply Kd.R_drewN | apply Kd.R_drew)); exact HO_4.out) hb); have n1_ := Aside0.mk (Kd.R_below (by (with_reducible repeat (first | apply Kd.R_alloc | apply Kd.R_drewN | apply Kd.R_drew)); exact HO300.out) hb); have n2_ := Aside0.mk (Kd.R_below (by (with_reducible repeat (first | apply Kd.R_alloc | apply Kd.R_drewN | apply Kd.R_drew)); exact HO303.out) hb); have n3_ := Aside0.mk (Kd.R_below (by (with_reducible repeat (first | apply Kd.R_alloc | apply Kd.R_drewN | apply Kd.R_drew)); exact HO306.out) hb); have n4_ := Aside0.mk (blk_below (g := gb288) (o := .cells #[.slice A0_0 l0_0.length c0_0, .slice A0_1 l0_1.length c0_1, .slice A0_2 l0_2.length c0_2] 25 (0, 0)) (bk BK288.out) hb); have n5_ := Aside0.mk (below_step bl hb); have n6_ := Aside0.mk (hbox); have n7_ := Aside0.mk ((by rw [hg]; exact (below_size bl) : w.heap.size ≤ gb308)); have n8_ := Aside0.mk ((by rw [hg]; exact (below_size bl) : w.heap.size ≤ gb308)); have n9_ := Aside0.mk ((by rw [hg]; exact Nat.ne_of_lt (blk_lt (g := gb288) (o := .cells #[.slice A0_0 l0_0.length c0_0, .slice A0_1 l0_1.length c0_1, .slice A0_2 l0_2.length c0_2] 25 (0, 0)) (bk BK288.out)) : gb288 ≠ gb308)); have n10_ := Aside0.mk ((by rw [hg]; exact Nat.ne_of_gt (blk_lt (g := gb288) (o := .cells #[.slice A0_0 l0_0.length c0_0, .slice A0_1 l0_1.length c0_1, .slice A0_2 l0_2.length c0_2] 25 (0, 0)) (bk BK288.out)) : gb308 ≠ gb288)); clear HO_4; clear HO300; clear HO303; clear HO306; clear BK288; clear HB; have HO_4 := n0_; have HO300 := n1_; have HO303 := n2_; have HO306 := n3_; have BK288 := n4_; have HB := n5_; have BK308 := n6_; have GW308 := n7_; have GE308 := n8_; have NB288_308 := n9_; have NB308_288 := n10_; clear n0_ n1_ n2_ n3_ n4_ n5_ n6_ n7_ n8_ n9_ n10_; clear hb hbox hg; obtain ⟨Ao78, co78, eo78⟩ := Kd.R_slice HO300.out; subst eo78; have hnb79 := NB308_288.out; have hnc79 := NB288_308.out; obtain ⟨hcz80_0, hcz80_1, hcz80_2, hfz80_0, hfz80_1, hfz80_2⟩ := cz3 (w := w77) BK308.out; obtain ⟨Ao81, co81, eo81⟩ := Kd.R_slice HO303.out; subst eo81; obtain ⟨Ao82, co82, eo82⟩ := Kd.R_slice HO306.out; subst eo82; obtain ⟨hcz83_0, hcz83_1, hcz83_2, hfz83_0, hfz83_1, hfz83_2⟩ := cz3 (w := w77) BK288.out) | ((with_reducible refine gate_callee (f := 15) rfl ?_); refine goesL_ (some 42) rfl rfl Try.func15 (by kernel_rfl) rfl #[.agg #[.slice A0_0 l0_0.length c0_0, .slice A0_1 l0_1.length c0_1, .slice A0_2 l0_2.length c0_2]] rfl ga ?_; (with_reducible refine (spinnakerref08_Bytes.calls kj10 _ _ l0_0 _ _ l0_1 _ _ l0_2 t309 _ ?side1 ?side2 ?side3 ?side4 ?side5 ?side6 A28.out).mono ?_); (case side1 => exact Kd.C_below HR0_0.out bl); (case side2 => exact HC0_0.out); (case side3 => exact Kd.C_below HR0_1.out bl); (case side4 => exact HC0_1.out); (case side5 => exact Kd.C_below HR0_2.out bl); (case side6 => exact HC0_2.out); rintro e w84 ⟨v310, rfl, ho0, hb⟩; refine ⟨_, rfl, ?_⟩; have n0_ := Aside0.mk (Kd.R_elder' (by (with_reducible repeat (first | apply Kd.R_alloc | apply Kd.R_drewN | apply Kd.R_drew)); exact (Kd.R_mono (Kd.R_far (p := ⟨gb308, 2, none⟩) (Kd.R_far (p := ⟨gb308, 1, none⟩) (Kd.R_far (p := ⟨gb308, 0, none⟩) (Kd.R_types HO_4.out BK308.out (by decide)) (fun _ hk => hk.2) (.slice Ao78 t298.length co78)) (fun _ hk => hk.2) (.slice Ao81 t301.length co81)) (fun _ hk => hk.2) (.slice Ao82 t304.length co82)) (fun _ h_ => h_.1))) (Kd.R_base ho0) hb); have n1_ := Aside0.mk (Kd.R_below (by (with_reducible repeat (first | apply Kd.R_alloc | apply Kd.R_drewN | apply Kd.R_drew)); exact (Kd.R_mono (Kd.R_far (p := ⟨gb308, 2, none⟩) (Kd.R_far (p := ⟨gb308, 1, none⟩) (Kd.R_far (p := ⟨gb308, 0, none⟩) (Kd.R_types HO300.out BK308.out (by decide)) (fun _ hk => hk.2) (.slice Ao78 t298.length co78)) (fun _ hk => hk.2) (.slice Ao81 t301.length co81)) (fun _ hk => hk.2) (.slice Ao82 t304.length co82)) (fun _ h_ => h_.1))) hb); have n2_ := Aside0.mk (Kd.R_below (by (with_reducible repeat (first | apply Kd.R_alloc | apply Kd.R_drewN | apply Kd.R_drew)); exact (Kd.R_mono (Kd.R_far (p := ⟨gb308, 2, none⟩) (Kd.R_far (p := ⟨gb308, 1, none⟩) (Kd.R_far (p := ⟨gb308, 0, none⟩) (Kd.R_types HO303.out BK308.out (by decide)) (fun _ hk => hk.2) (.slice Ao78 t298.length co78)) (fun _ hk => hk.2) (.slice Ao81 t301.length co81)) (fun _ hk => hk.2) (.slice Ao82 t304.length co82)) (fun _ h_ => h_.1))) hb); have n3_ := Aside0.mk (Kd.R_below (by (with_reducible repeat (first | apply Kd.R_alloc | apply Kd.R_drewN | apply Kd.R_drew)); exact (Kd.R_mono (Kd.R_far (p := ⟨gb308, 2, none⟩) (Kd.R_far (p := ⟨gb308, 1, none⟩) (Kd.R_far (p := ⟨gb308, 0, none⟩) (Kd.R_types HO306.out BK308.out (by decide)) (fun _ hk => hk.2) (.slice Ao78 t298.length co78)) (fun _ hk => hk.2) (.slice Ao81 t301.length co81)) (fun _ hk => hk.2) (.slice Ao82 t304.length co82)) (fun _ h_ => h_.1))) hb); have n4_ := Aside0.mk (Kd.R_lower (Kd.R_new' ho0 (Kd.R_lt (by (with_reducible repeat (first | apply Kd.R_alloc | apply Kd.R_drewN | apply Kd.R_drew)); exact (Kd.R_mono (Kd.R_far (p := ⟨gb308, 2, none⟩) (Kd.R_far (p := ⟨gb308, 1, none⟩) (Kd.R_far (p := ⟨gb308, 0, none⟩) (Kd.R_types HO_4.out BK308.out (by decide)) (fun _ hk => hk.2) (.slice Ao78 t298.length co78)) (fun _ hk => hk.2) (.slice Ao81 t301.length co81)) (fun _ hk => hk.2) (.slice Ao82 t304.length co82)) (fun _ h_ => h_.1))))) (below_size bl)); have n5_ := Aside0.mk (blk_below (g := gb288) (o := .cells #[.slice A0_0 l0_0.length c0_0, .slice A0_1 l0_1.length c0_1, .slice A0_2 l0_2.length c0_2] 25 (0, 0)) (by refine bx ?_; refine blk_far ?_ NB288_308.out _; refine bx ?_; refine blk_far ?_ NB288_308.out _; refine bx ?_; refine blk_far ?_ NB288_308.out _; refine bx ?_; exact BK288.out) hb); have n6_ := Aside0.mk (blk_below (g := gb308) (o := .cells #[.slice Ao78 t298.length co78, .slice Ao81 t301.length co81, .slice Ao82 t304.length co82] 25 (0, 0)) (by refine bx ?_; refine blk_put (cs := #[.slice Ao78 t298.length co78, .slice Ao81 t301.length co81, .slice none 0 0]) ?_ 2 _ rfl; refine bx ?_; refine blk_put (cs := #[.slice Ao78 t298.length co78, .slice none 0 0, .slice none 0 0]) ?_ 1 _ rfl; refine bx ?_; refine blk_put (cs := #[.slice none 0 0, .slice none 0 0, .slice none 0 0]) ?_ 0 _ rfl; refine bx ?_; exact BK308.out) hb); have n7_ := Aside0.mk (below_step bl hb); clear HO_4; clear HO300; clear HO303; clear HO306; clear BK288; clear BK308; clear HB; have HO_4 := n0_; have HO300 := n1_; have HO303 := n2_; have HO306 := n3_; have HO311 := n4_; have BK288 := n5_; have BK308 := n6_; have HB := n7_; clear n0_ n1_ n2_ n3_ n4_ n5_ n6_ n7_; (try clear hb); (try clear ho0); obtain ⟨Ao85, co85, eo85⟩ := Kd.R_slice HO311.out; subst eo85) | ((with_reducible refine gate_callee (f := 14) rfl ?_); refine goesL_ (some 43) rfl rfl Try.func14 (by kernel_rfl) rfl #[.slice Ao75 t292.length co75, .slice Ao85 t309.length co85] rfl ga ?_; (with_reducible refine (spinnakerref01_Same.calls kj10 _ _ t292 _ _ t309 false _ ?side1 ?side2 ?side3 ?side4 A29.out).mono ?_); (case side1 => repeat (first | exact (Kd.R_reads' HO_4.out).2.2 | (with_reducible refine Kd.C_alloc ?_ _) | (with_reducible refine Kd.C_drewN ?_ _) | (with_reducible refine Kd.C_drew ?_))); (case side2 => exact (Kd.R_reads' HO_4.out).2.1); (case side3 => repeat (first | exact (Kd.R_reads' HO311.out).2.2 | (with_reducible refine Kd.C_alloc ?_ _) | (with_reducible refine Kd.C_drewN ?_ _) | (with_reducible refine Kd.C_drew ?_))); (case side4 => exact (Kd.R_reads' HO311.out).2.1); rintro e w' ⟨rfl, ⟨nd, rfl⟩⟩; refine ⟨_, rfl, ?_⟩))
       go_ret
       exact ⟨fi, bl⟩
     ·rw [if_neg c26] at H
      have c26b0 : (t291 == 0) = false := beq_eq_false_iff_ne.mpr c26
      have c26b1 : (t291 != 0) = true := bne_iff_ne.mpr c26
      by_cases c86 : (t292.length : Int) = 0
      ·rw [if_pos c86] at H
       obtain ⟨c86b0, c86b1⟩ := eqs c86
       clear c86
       replace H := be H
       obtain ⟨t297, A87, H⟩ := H
       obtain rfl := Option.some.inj H
       obtain ⟨Ao88, co88, eo88⟩ := Kd.R_slice HO_4.out
       subst eo88
       go_wp2_with (first | (go_at_call 9; (with_reducible refine (spinnakerlaw08_awake.calls kj10  t297 _ A87.out).mono ?_); rintro e w89 ⟨rfl, hb⟩; have n0_ := Aside0.mk (Kd.R_below (by (with_reducible repeat (first | apply Kd.R_alloc | apply Kd.R_drewN | apply Kd.R_drew)); exact HO_4.out) hb); have n1_ := Aside0.mk (blk_below (g := gb288) (o := .cells #[.slice A0_0 l0_0.length c0_0, .slice A0_1 l0_1.length c0_1, .slice A0_2 l0_2.length c0_2] 25 (0, 0)) (bk BK288.out) hb); have n2_ := Aside0.mk (below_step bl hb); clear HO_4; clear BK288; clear HB; have HO_4 := n0_; have BK288 := n1_; have HB := n2_; clear n0_ n1_ n2_; (try clear hb)))
       go_ret
       exact ⟨fi, bl⟩
      ·rw [if_neg c86] at H
       have c86b0 : ((t292.length : Int) == 0) = false := beq_eq_false_iff_ne.mpr c86
       have c86b1 : ((t292.length : Int) != 0) = true := bne_iff_ne.mpr c86
       have c86b2 : ¬ (t292 = []) := fun h_ => c86 (by rw [h_]; rfl)
       obtain rfl := Option.some.inj H
       obtain ⟨Ao90, co90, eo90⟩ := Kd.R_slice HO_4.out
       subst eo90
       go_wp2
       go_ret
       exact ⟨fi, bl⟩

end Go.Proofs.Ytfpphaflbmlpeaa.GImageChecks
