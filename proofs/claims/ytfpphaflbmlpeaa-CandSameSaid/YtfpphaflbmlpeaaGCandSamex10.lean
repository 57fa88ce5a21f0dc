-- Written by wip/stub.py of this repo.
import Derived.Test.YtfpphaflbmlpeaaGCandSamex0
import Derived.Test.YtfpphaflbmlpeaaGCandSamex2
import Derived.Test.YtfpphaflbmlpeaaGCandSamex9
namespace Go.Proofs.Ytfpphaflbmlpeaa.GCandSame
open Go.RowKit Go.Proofs.YtfpphaflbmlpeaaW.PrintWords Go.Proofs.YtfpphaflbmlpeaaW.PrintLast Go.Proofs.YtfpphaflbmlpeaaW.PrintMore
attribute [local go_sem] max2_int min2_int max_two min_two max_three min_three max_four min_four   -- for this text's walks alone
set_option linter.unusedVariables false
set_option linter.unusedSimpArgs false

attribute [local go_sem high] eqA75
/-! ### spinnakerref13_Same: function 20 -/
mutual
def spinnakerref13_Same.j0 : Nat → Bool → List (List (S75)) → List (S70) → List (List (S75)) → List (S70) → Option (Bool)
  | 0, _, _, _, _, _ => none
  | k + 1, x23, x248000, x248001, x249000, x249001 => if x23 = true then (some false) else (spinnakerref13_Same.l0 k 0 x248000 x248001 x249000 x249001)
def spinnakerref13_Same.l0 : Nat → Int → List (List (S75)) → List (S70) → List (List (S75)) → List (S70) → Option (Bool)
  | 0, _, _, _, _, _ => none
  | k + 1, x5, x248000, x248001, x249000, x249001 => if x5 < (x248000.length : Int) then (if 0 ≤ x5 then (if x5 < (x249000.length : Int) then (if ((rd_L4 x248000 x5).length : Int) = ((rd_L4 x249000 x5).length : Int) then (spinnakerref13_Same.l1 k x5 0 x248000 x248001 x249000 x249001) else (some false)) else (none)) else (none)) else (spinnakerref13_Same.l2 k 0 x248000 x248001 x249000 x249001)
def spinnakerref13_Same.l1 : Nat → Int → Int → List (List (S75)) → List (S70) → List (List (S75)) → List (S70) → Option (Bool)
  | 0, _, _, _, _, _, _ => none
  | k + 1, x5, x6, x248000, x248001, x249000, x249001 => if 0 ≤ x5 then (if x5 < (x248000.length : Int) then (if x6 < ((rd_L4 x248000 x5).length : Int) then (if 0 ≤ x6 then (if x5 < (x249000.length : Int) then (if x6 < ((rd_L4 x249000 x5).length : Int) then (if (!(((rd_T75 (rd_L4 x248000 x5) x6).f0) == ((rd_T75 (rd_L4 x249000 x5) x6).f0)) || (!(((rd_T75 (rd_L4 x248000 x5) x6).f1) == ((rd_T75 (rd_L4 x249000 x5) x6).f1)) || ((!(((rd_T75 (rd_L4 x248000 x5) x6).f2.f0) == ((rd_T75 (rd_L4 x249000 x5) x6).f2.f0)) || (!(((rd_T75 (rd_L4 x248000 x5) x6).f2.f1) == ((rd_T75 (rd_L4 x249000 x5) x6).f2.f1)))) || (!(((rd_T75 (rd_L4 x248000 x5) x6).f3) == ((rd_T75 (rd_L4 x249000 x5) x6).f3)) || (!(((rd_T75 (rd_L4 x248000 x5) x6).f4) == ((rd_T75 (rd_L4 x249000 x5) x6).f4))))))) = true then (some false) else (spinnakerref13_Same.l1 k x5 (wrap64 (x6 + 1)) x248000 x248001 x249000 x249001)) else (none)) else (none)) else (none)) else (spinnakerref13_Same.l0 k (wrap64 (x5 + 1)) x248000 x248001 x249000 x249001)) else (none)) else (none)
def spinnakerref13_Same.l2 : Nat → Int → List (List (S75)) → List (S70) → List (List (S75)) → List (S70) → Option (Bool)
  | 0, _, _, _, _, _ => none
  | k + 1, x7, x248000, x248001, x249000, x249001 => if x7 < (x248001.length : Int) then (if 0 ≤ x7 then (if x7 < (x249001.length : Int) then (if ((rd_T70 x248001 x7).f0) = ((rd_T70 x249001 x7).f0) then ((spinnakerref13_Refs.f k ((rd_T70 x248001 x7).f1) ((rd_T70 x249001 x7).f1)).bind fun t260 => (if t260 = true then (spinnakerref13_Same.l2 k (wrap64 (x7 + 1)) x248000 x248001 x249000 x249001) else (some false))) else (some false)) else (none)) else (none)) else (some true)
end
def spinnakerref13_Same.f (k : Nat) (l0_0 : List (List (S75))) (l0_1 : List (S70)) (l1_0 : List (List (S75))) (l1_1 : List (S70)) : Option (Bool) := if (l0_0.length : Int) = (l1_0.length : Int) then (spinnakerref13_Same.j0 k ((l0_1.length : Int) != (l1_1.length : Int)) l0_0 l0_1 l1_0 l1_1) else (spinnakerref13_Same.j0 k true l0_0 l0_1 l1_0 l1_1)
theorem spinnakerref13_Same.mono_l : ∀ k, (∀ y0 y1 y2 y3 y4, LeO (spinnakerref13_Same.j0 k y0 y1 y2 y3 y4) (spinnakerref13_Same.j0 (k + 1) y0 y1 y2 y3 y4)) ∧ (∀ y0 y1 y2 y3 y4, LeO (spinnakerref13_Same.l0 k y0 y1 y2 y3 y4) (spinnakerref13_Same.l0 (k + 1) y0 y1 y2 y3 y4)) ∧ (∀ y0 y1 y2 y3 y4 y5, LeO (spinnakerref13_Same.l1 k y0 y1 y2 y3 y4 y5) (spinnakerref13_Same.l1 (k + 1) y0 y1 y2 y3 y4 y5)) ∧ (∀ y0 y1 y2 y3 y4, LeO (spinnakerref13_Same.l2 k y0 y1 y2 y3 y4) (spinnakerref13_Same.l2 (k + 1) y0 y1 y2 y3 y4))
 | 0 => ⟨fun _ _ _ _ _ r h => by simp [spinnakerref13_Same.j0] at h, fun _ _ _ _ _ r h => by simp [spinnakerref13_Same.l0] at h, fun _ _ _ _ _ _ r h => by simp [spinnakerref13_Same.l1] at h, fun _ _ _ _ _ r h => by simp [spinnakerref13_Same.l2] at h⟩
 | k + 1 => by
  obtain ⟨ih0, ih1, ih2, ih3⟩ := spinnakerref13_Same.mono_l k
  refine ⟨?_, ?_, ?_, ?_⟩
  all_goals (intros; (first | unfold spinnakerref13_Same.j0 | unfold spinnakerref13_Same.l0 | unfold spinnakerref13_Same.l1 | unfold spinnakerref13_Same.l2); repeat' first | (with_reducible first | exact ih0 _ _ _ _ _ | exact ih1 _ _ _ _ _ | exact ih2 _ _ _ _ _ _ | exact ih3 _ _ _ _ _ | exact spinnakerref13_Refs.mono _ _ _ | exact LeO.refl _ | exact LeO.none _ | refine LeO.ite ?_ ?_ | refine LeO.bind ?_ (fun _ => ?_)) | exact ih0 _ _ _ _ _ | exact ih1 _ _ _ _ _ | exact ih2 _ _ _ _ _ _ | exact ih3 _ _ _ _ _ | exact spinnakerref13_Refs.mono _ _ _ | exact LeO.none _ | refine LeO.ite ?_ ?_ | refine LeO.bind ?_ (fun _ => ?_))
theorem spinnakerref13_Same.mono : ∀ a0 a1 a2 a3 k, LeO (spinnakerref13_Same.f k a0 a1 a2 a3) (spinnakerref13_Same.f (k + 1) a0 a1 a2 a3) := by
 intro a0 a1 a2 a3 k
 obtain ⟨ih0, ih1, ih2, ih3⟩ := spinnakerref13_Same.mono_l k
 unfold spinnakerref13_Same.f
 repeat' first | (with_reducible first | exact ih0 _ _ _ _ _ | exact ih1 _ _ _ _ _ | exact ih2 _ _ _ _ _ _ | exact ih3 _ _ _ _ _ | exact spinnakerref13_Refs.mono _ _ _ | exact LeO.refl _ | exact LeO.none _ | refine LeO.ite ?_ ?_ | refine LeO.bind ?_ (fun _ => ?_)) | exact ih0 _ _ _ _ _ | exact ih1 _ _ _ _ _ | exact ih2 _ _ _ _ _ _ | exact ih3 _ _ _ _ _ | exact spinnakerref13_Refs.mono _ _ _ | exact LeO.none _ | refine LeO.ite ?_ ?_ | refine LeO.bind ?_ (fun _ => ?_)
set_option maxHeartbeats 8000000 in
set_option maxRecDepth 100000 in
theorem spinnakerref13_Same.calls (k : Nat) (A0_0 : Option Addr) (c0_0 : Nat) (l0_0 : List (List (S75))) (A0_1 : Option Addr) (c0_1 : Nat) (l0_1 : List (S70)) (A1_0 : Option Addr) (c1_0 : Nat) (l1_0 : List (List (S75))) (A1_1 : Option Addr) (c1_1 : Nat) (l1_1 : List (S70)) (r : Bool) (w : World) (hr0_0 : Kd.C (Kd.slice 75 k75) w A0_0 l0_0.length l0_0) (hc0_0 : l0_0.length ≤ c0_0) (hr0_1 : Kd.C k70 w A0_1 l0_1.length l0_1) (hc0_1 : l0_1.length ≤ c0_1) (hr1_0 : Kd.C (Kd.slice 75 k75) w A1_0 l1_0.length l1_0) (hc1_0 : l1_0.length ≤ c1_0) (hr1_1 : Kd.C k70 w A1_1 l1_1.length l1_1) (hc1_1 : l1_1.length ≤ c1_1) (h : spinnakerref13_Same.f k l0_0 l0_1 l1_0 l1_1 = some r) :
  Calls Try.prog 20 #[.agg #[.slice A0_0 l0_0.length c0_0, .slice A0_1 l0_1.length c0_1], .agg #[.slice A1_0 l1_0.length c1_0, .slice A1_1 l1_1.length c1_1]] w fun e w' => e = .returned (.bool r) ∧ Below w.heap.size w w' := by
 have hu42 := Try.underlying42
 have hu75 := Try.underlying75
 have HR0_0 := Aside0.mk hr0_0
 have HC0_0 := Aside0.mk hc0_0
 clear hr0_0 hc0_0
 have HR0_1 := Aside0.mk hr0_1
 have HC0_1 := Aside0.mk hc0_1
 clear hr0_1 hc0_1
 have HR1_0 := Aside0.mk hr1_0
 have HC1_0 := Aside0.mk hc1_0
 clear hr1_0 hc1_0
 have HR1_1 := Aside0.mk hr1_1
 have HC1_1 := Aside0.mk hc1_1
 clear hr1_1 hc1_1
 have HB := Aside0.mk (Below.refl w.heap.size w)
 have H : (if (l0_0.length : Int) = (l1_0.length : Int) then (spinnakerref13_Same.j0 k ((l0_1.length : Int) != (l1_1.length : Int)) l0_0 l0_1 l1_0 l1_1) else (spinnakerref13_Same.j0 k true l0_0 l0_1 l1_0 l1_1)) = some r := h
 clear h
 have HC3 := Aside0.mk H
 clear H
 go_enter Try.func20, Try.ntmps20
 go_upto_region 1 with (first | ((with_reducible refine gate_dst (N := 2) rfl ?_); (try (refine gate_guard (by rfl) ?_; dsimp only)); refine box_event ?hg (N := 2) ?hd (cs := #[.slice A0_0 l0_0.length c0_0, .slice A0_1 l0_1.length c0_1]) (t := 42) ?hr ?_; (case hd => rfl); (case hg => rfl); (case hr => first | (go_simp; done) | (go_simp; rfl)); intro gb247 hg w4 hbox hb; obtain ⟨n0_, GW247⟩ := nb (w := w) hg hb; clear HB; have HB := n0_; have BK247 := Aside0.mk hbox; have GE247 := GW247; clear n0_ hb hbox hg) | ((with_reducible refine gate_dst (N := 3) rfl ?_); (try (refine gate_guard (by rfl) ?_; dsimp only)); refine box_event ?hg (N := 3) ?hd (cs := #[.slice A1_0 l1_0.length c1_0, .slice A1_1 l1_1.length c1_1]) (t := 42) ?hr ?_; (case hd => rfl); (case hg => rfl); (case hr => first | (go_simp; done) | (go_simp; rfl)); intro gb248 hg w5 hbox hb; have n0_ := Aside0.mk (blk_below (g := gb247) (o := .cells #[.slice A0_0 l0_0.length c0_0, .slice A0_1 l0_1.length c0_1] 42 (0, 0)) (bk BK247.out) hb); have n1_ := Aside0.mk (below_step bl hb); have n2_ := Aside0.mk (hbox); have n3_ := Aside0.mk ((by rw [hg]; exact (below_size bl) : w.heap.size ≤ gb248)); have n4_ := Aside0.mk ((by rw [hg]; exact (below_size bl) : w.heap.size ≤ gb248)); have n5_ := Aside0.mk ((by rw [hg]; exact Nat.ne_of_lt (blk_lt (g := gb247) (o := .cells #[.slice A0_0 l0_0.length c0_0, .slice A0_1 l0_1.length c0_1] 42 (0, 0)) (bk BK247.out)) : gb247 ≠ gb248)); have n6_ := Aside0.mk ((by rw [hg]; exact Nat.ne_of_gt (blk_lt (g := gb247) (o := .cells #[.slice A0_0 l0_0.length c0_0, .slice A0_1 l0_1.length c0_1] 42 (0, 0)) (bk BK247.out)) : gb248 ≠ gb247)); clear BK247; clear HB; have BK247 := n0_; have HB := n1_; have BK248 := n2_; have GW248 := n3_; have GE248 := n4_; have NB247_248 := n5_; have NB248_247 := n6_; clear n0_ n1_ n2_ n3_ n4_ n5_ n6_; clear hb hbox hg))
 repeat (go_quiet (first | ((with_reducible refine gate_dst (N := 2) rfl ?_); (try (refine gate_guard (by rfl) ?_; dsimp only)); refine box_event ?hg (N := 2) ?hd (cs := #[.slice A0_0 l0_0.length c0_0, .slice A0_1 l0_1.length c0_1]) (t := 42) ?hr ?_; (case hd => rfl); (case hg => rfl); (case hr => first | (go_simp; done) | (go_simp; rfl)); intro gb247 hg w4 hbox hb; obtain ⟨n0_, GW247⟩ := nb (w := w) hg hb; clear HB; have HB := n0_; have BK247 := Aside0.mk hbox; have GE247 := GW247; clear n0_ hb hbox hg) | ((with_reducible refine gate_dst (N := 3) rfl ?_); (try (refine gate_guard (by rfl) ?_; dsimp only)); refine box_event ?hg (N := 3) ?hd (cs := #[.slice A1_0 l1_0.length c1_0, .slice A1_1 l1_1.length c1_1]) (t := 42) ?hr ?_; (case hd => rfl); (case hg => rfl); (case hr => first | (go_simp; done) | (go_simp; rfl)); intro gb248 hg w5 hbox hb; have n0_ := Aside0.mk (blk_below (g := gb247) (o := .cells #[.slice A0_0 l0_0.length c0_0, .slice A0_1 l0_1.length c0_1] 42 (0, 0)) (bk BK247.out) hb); have n1_ := Aside0.mk (below_step bl hb); have n2_ := Aside0.mk (hbox); have n3_ := Aside0.mk ((by rw [hg]; exact (below_size bl) : w.heap.size ≤ gb248)); have n4_ := Aside0.mk ((by rw [hg]; exact (below_size bl) : w.heap.size ≤ gb248)); have n5_ := Aside0.mk ((by rw [hg]; exact Nat.ne_of_lt (blk_lt (g := gb247) (o := .cells #[.slice A0_0 l0_0.length c0_0, .slice A0_1 l0_1.length c0_1] 42 (0, 0)) (bk BK247.out)) : gb247 ≠ gb248)); have n6_ := Aside0.mk ((by rw [hg]; exact Nat.ne_of_gt (blk_lt (g := gb247) (o := .cells #[.slice A0_0 l0_0.length c0_0, .slice A0_1 l0_1.length c0_1] 42 (0, 0)) (bk BK247.out)) : gb248 ≠ gb247)); clear BK247; clear HB; have BK247 := n0_; have HB := n1_; have BK248 := n2_; have GW248 := n3_; have GE248 := n4_; have NB247_248 := n5_; have NB248_247 := n6_; clear n0_ n1_ n2_ n3_ n4_ n5_ n6_; clear hb hbox hg)); go_upto_region 1 with (first | ((with_reducible refine gate_dst (N := 2) rfl ?_); (try (refine gate_guard (by rfl) ?_; dsimp only)); refine box_event ?hg (N := 2) ?hd (cs := #[.slice A0_0 l0_0.length c0_0, .slice A0_1 l0_1.length c0_1]) (t := 42) ?hr ?_; (case hd => rfl); (case hg => rfl); (case hr => first | (go_simp; done) | (go_simp; rfl)); intro gb247 hg w4 hbox hb; obtain ⟨n0_, GW247⟩ := nb (w := w) hg hb; clear HB; have HB := n0_; have BK247 := Aside0.mk hbox; have GE247 := GW247; clear n0_ hb hbox hg) | ((with_reducible refine gate_dst (N := 3) rfl ?_); (try (refine gate_guard (by rfl) ?_; dsimp only)); refine box_event ?hg (N := 3) ?hd (cs := #[.slice A1_0 l1_0.length c1_0, .slice A1_1 l1_1.length c1_1]) (t := 42) ?hr ?_; (case hd => rfl); (case hg => rfl); (case hr => first | (go_simp; done) | (go_simp; rfl)); intro gb248 hg w5 hbox hb; have n0_ := Aside0.mk (blk_below (g := gb247) (o := .cells #[.slice A0_0 l0_0.length c0_0, .slice A0_1 l0_1.length c0_1] 42 (0, 0)) (bk BK247.out) hb); have n1_ := Aside0.mk (below_step bl hb); have n2_ := Aside0.mk (hbox); have n3_ := Aside0.mk ((by rw [hg]; exact (below_size bl) : w.heap.size ≤ gb248)); have n4_ := Aside0.mk ((by rw [hg]; exact (below_size bl) : w.heap.size ≤ gb248)); have n5_ := Aside0.mk ((by rw [hg]; exact Nat.ne_of_lt (blk_lt (g := gb247) (o := .cells #[.slice A0_0 l0_0.length c0_0, .slice A0_1 l0_1.length c0_1] 42 (0, 0)) (bk BK247.out)) : gb247 ≠ gb248)); have n6_ := Aside0.mk ((by rw [hg]; exact Nat.ne_of_gt (blk_lt (g := gb247) (o := .cells #[.slice A0_0 l0_0.length c0_0, .slice A0_1 l0_1.length c0_1] 42 (0, 0)) (bk BK247.out)) : gb248 ≠ gb247)); clear BK247; clear HB; have BK247 := n0_; have HB := n1_; have BK248 := n2_; have GW248 := n3_; have GE248 := n4_; have NB247_248 := n5_; have NB248_247 := n6_; clear n0_ n1_ n2_ n3_ n4_ n5_ n6_; clear hb hbox hg)))
 (try simp only [Act.put, List.setIfInBounds_toArray, List.set_cons_zero, List.set_cons_succ])
 go_cut [23] (fun v23 wc => ∃ (kq : Nat) (x23_2 : Bool), v23 = .bool x23_2 ∧ Aside0 (spinnakerref13_Same.j0 kq x23_2 l0_0 l0_1 l1_0 l1_1 = some r) ∧ Aside0 (kq ≤ k) ∧ Aside0 (wc.heap[gb247]? = some (.cells #[(.slice A0_0 l0_0.length c0_0), (.slice A0_1 l0_1.length c0_1)] 42 (0, 0))) ∧ Aside0 (wc.heap[gb248]? = some (.cells #[(.slice A1_0 l1_0.length c1_0), (.slice A1_1 l1_1.length c1_1)] 42 (0, 0))) ∧ Aside0 (Below w.heap.size w wc))
 case first =>
  have H := HC3.out
  clear HC3
  by_cases c6 : (l0_0.length : Int) = (l1_0.length : Int)
  ·rw [if_pos c6] at H
   have c6b0 : ((l0_0.length : Int) == (l1_0.length : Int)) = true := beq_iff_eq.mpr c6
   have c6b1 : ((l0_0.length : Int) != (l1_0.length : Int)) = false := bne_eq_false_iff_eq.mpr c6
   have c6b2 : (l0_0.length == l1_0.length) = true := by first | simpa using c6 | (simp at c6 ⊢; omega)
   clear c6
   (first | rw [c6b0] | (simp only [i64_w, i32_w]; rw [c6b0]) | skip)
   have H' := Aside0.mk H
   clear H
   have hnb7 := NB247_248.out
   have hnc7 := NB248_247.out
   obtain ⟨hcz8_0, hcz8_1, hfz8_0, hfz8_1⟩ := cz2 (w := w5) BK247.out
   obtain ⟨hcz9_0, hcz9_1, hfz9_0, hfz9_1⟩ := cz2 (w := w5) BK248.out
   go_wp2
   repeat (go_quiet (fail); try go_wp2)
   go_meet
   case rel => exact ⟨_, (((l0_1.length : Int) != (l1_1.length : Int))), fj, H', ⟨by first | omega | exact Nat.le_refl _⟩, ⟨by refine bx ?_; exact BK247.out⟩, ⟨by refine bx ?_; exact BK248.out⟩, ⟨bl⟩⟩
  ·rw [if_neg c6] at H
   have c6b0 : ((l0_0.length : Int) == (l1_0.length : Int)) = false := beq_eq_false_iff_ne.mpr c6
   have c6b1 : ((l0_0.length : Int) != (l1_0.length : Int)) = true := bne_iff_ne.mpr c6
   have c6b2 : (l0_0.length == l1_0.length) = false := by first | simpa using c6 | (simp at c6 ⊢; omega)
   (first | rw [c6b0] | (simp only [i64_w, i32_w]; rw [c6b0]) | skip)
   have H' := Aside0.mk H
   clear H
   have hnb10 := NB247_248.out
   have hnc10 := NB248_247.out
   obtain ⟨hcz11_0, hcz11_1, hfz11_0, hfz11_1⟩ := cz2 (w := w5) BK247.out
   obtain ⟨hcz12_0, hcz12_1, hfz12_0, hfz12_1⟩ := cz2 (w := w5) BK248.out
   go_wp2
   repeat (go_quiet (fail); try go_wp2)
   go_meet
   case rel => exact ⟨_, (true), fj, H', ⟨by first | omega | exact Nat.le_refl _⟩, ⟨by refine bx ?_; exact BK247.out⟩, ⟨by refine bx ?_; exact BK248.out⟩, ⟨bl⟩⟩
 case rest =>
  clear HC3
  try clear c1
  try clear c2
  try clear p2
  try clear c6
  try clear c6b0
  try clear c6b1
  try clear c6b2
  try clear c7
  try clear c10
  try clear hcz11_0 hcz11_1
  try clear hcz12_0 hcz12_1
  try clear hcz8_0 hcz8_1
  try clear hcz9_0 hcz9_1
  try clear hfz11_0 hfz11_1
  try clear hfz12_0 hfz12_1
  try clear hfz8_0 hfz8_1
  try clear hfz9_0 hfz9_1
  obtain ⟨kq, x23_2, rfl, HA, HJ2, BK247, BK248, HB⟩ := hcut
  cases kq with
  | zero => exact absurd HA.out (by simp [spinnakerref13_Same.j0])
  | succ kj2 =>
   have H := HA.out
   clear HA
   simp only [spinnakerref13_Same.j0] at H
   by_cases c13 : x23_2 = true
   ·subst c13
    have H1 : (some false) = some r := by rw [if_pos rfl] at H; exact H
    clear H
    have H := H1
    clear H1
    obtain rfl := Option.some.inj H
    go_wp2
    repeat (go_quiet (fail); try go_wp2)
    go_ret
    exact ⟨fi, bl⟩
   ·replace c13 := Bool.eq_false_iff.mpr c13
    subst c13
    have H1 : (spinnakerref13_Same.l0 kj2 0 l0_0 l0_1 l1_0 l1_1) = some r := by rw [if_neg (show ¬ (false = true) by decide)] at H; exact H
    clear H
    have H := H1
    clear H1
    have H' := Aside0.mk H
    clear H
    go_wp2
    repeat (go_quiet (fail); try go_wp2)
    go_loopg [5] kj2 (fun kq v5 w' => ∃ (x5_2 : Int), v5 = .int .i64 x5_2 ∧ Aside0 (spinnakerref13_Same.l0 kq x5_2 l0_0 l0_1 l1_0 l1_1 = some r) ∧ Aside0 (kq ≤ kj2) ∧ Aside0 (w'.heap[gb247]? = some (.cells #[(.slice A0_0 l0_0.length c0_0), (.slice A0_1 l0_1.length c0_1)] 42 (0, 0))) ∧ Aside0 (w'.heap[gb248]? = some (.cells #[(.slice A1_0 l1_0.length c1_0), (.slice A1_1 l1_1.length c1_1)] 42 (0, 0))) ∧ Aside0 (Below w.heap.size w w'))
    case atStart => exact ⟨(0), fj, H', ⟨Nat.le_refl _⟩, ⟨by refine bx ?_; exact BK247.out⟩, ⟨by refine bx ?_; exact BK248.out⟩, ⟨bl⟩⟩
    case round =>
     clear H'
     try clear c1
     try clear c2
     try clear p2
     try clear c6
     try clear c6b0
     try clear c6b1
     try clear c6b2
     try clear c7
     try clear c10
     try clear c13
     try clear hcz11_0 hcz11_1
     try clear hcz12_0 hcz12_1
     try clear hcz8_0 hcz8_1
     try clear hcz9_0 hcz9_1
     try clear hfz11_0 hfz11_1
     try clear hfz12_0 hfz12_1
     try clear hfz8_0 hfz8_1
     try clear hfz9_0 hfz9_1
     try clear p2
     obtain ⟨x5_2, rfl, HA, HK2, BK247, BK248, HB⟩ := hrel
     cases gk with
     | zero => exact absurd HA.out (by simp [spinnakerref13_Same.l0])
     | succ k2 =>
      have H := HA.out
      clear HA
      simp only [spinnakerref13_Same.l0] at H
      by_cases c14 : x5_2 < (l0_0.length : Int)
      ·rw [if_pos c14] at H
       have c14b0 := decide_eq_true c14
       clear c14
       by_cases c15 : 0 ≤ x5_2
       ·rw [if_pos c15] at H
        have c15b0 := decide_eq_true c15
        clear c15
        by_cases c16 : x5_2 < (l1_0.length : Int)
        ·rw [if_pos c16] at H
         have c16b0 := decide_eq_true c16
         clear c16
         by_cases c17 : ((rd_L4 l0_0 x5_2).length : Int) = ((rd_L4 l1_0 x5_2).length : Int)
         ·rw [if_pos c17] at H
          have c17b0 : (((rd_L4 l0_0 x5_2).length : Int) == ((rd_L4 l1_0 x5_2).length : Int)) = true := beq_iff_eq.mpr c17
          have c17b1 : (((rd_L4 l0_0 x5_2).length : Int) != ((rd_L4 l1_0 x5_2).length : Int)) = false := bne_eq_false_iff_eq.mpr c17
          have c17b2 : ((rd_L4 l0_0 x5_2).length == (rd_L4 l1_0 x5_2).length) = true := by first | simpa using c17 | (simp at c17 ⊢; omega)
          clear c17
          have H' := Aside0.mk H
          clear H
          have hnb18 := NB247_248.out
          have hnc18 := NB248_247.out
          obtain ⟨hcz19_0, hcz19_1, hfz19_0, hfz19_1⟩ := cz2 (w := wr) BK247.out
          have p249 : 0 ≤ (x5_2 : Int) := of_decide_eq_true (by first | (with_reducible assumption) | assumption)
          have q249 : x5_2 < (l0_0.length : Int) := of_decide_eq_true (by first | (with_reducible assumption) | assumption)
          obtain ⟨ad249, A249_0, c249_0, e249, hx249_0, hl249_0, hi249_0⟩ := at_L4 HR0_0.out x5_2 p249 q249
          cases e249
          replace hx249_0 := (HB.out.cell (World.block_lt_of_cell? w _ hx249_0)).trans hx249_0
          have HR249_0 := Aside0.mk hi249_0
          have HC249_0 := Aside0.mk hl249_0
          clear hi249_0 hl249_0
          replace p249 := eq_true p249
          replace q249 := eq_true q249
          obtain ⟨hcz20_0, hcz20_1, hfz20_0, hfz20_1⟩ := cz2 (w := wr) BK248.out
          have p250 : 0 ≤ (x5_2 : Int) := of_decide_eq_true (by first | (with_reducible assumption) | assumption)
          have q250 : x5_2 < (l1_0.length : Int) := of_decide_eq_true (by first | (with_reducible assumption) | assumption)
          obtain ⟨ad250, A250_0, c250_0, e250, hx250_0, hl250_0, hi250_0⟩ := at_L4 HR1_0.out x5_2 p250 q250
          cases e250
          replace hx250_0 := (HB.out.cell (World.block_lt_of_cell? w _ hx250_0)).trans hx250_0
          have HR250_0 := Aside0.mk hi250_0
          have HC250_0 := Aside0.mk hl250_0
          clear hi250_0 hl250_0
          replace p250 := eq_true p250
          replace q250 := eq_true q250
          go_wp2
          repeat (go_quiet (fail); try go_wp2)
          go_loopg [6] k2 (fun kq v6 w' => ∃ (x6_3 : Int), v6 = .int .i64 x6_3 ∧ Aside0 (spinnakerref13_Same.l1 kq x5_2 x6_3 l0_0 l0_1 l1_0 l1_1 = some r) ∧ Aside0 (kq ≤ k2) ∧ Aside0 (w'.heap[gb247]? = some (.cells #[(.slice (some ad249) l0_0.length c0_0), (.slice A0_1 l0_1.length c0_1)] 42 (0, 0))) ∧ Aside0 (w'.heap[gb248]? = some (.cells #[(.slice (some ad250) l1_0.length c1_0), (.slice A1_1 l1_1.length c1_1)] 42 (0, 0))) ∧ Aside0 (Below w.heap.size w w'))
          case atStart => exact ⟨(0), fj, H', ⟨Nat.le_refl _⟩, ⟨by refine bx ?_; exact BK247.out⟩, ⟨by refine bx ?_; exact BK248.out⟩, ⟨bl⟩⟩
          case round =>
           clear H'
           try clear c1
           try clear c2
           try clear p2
           try clear q2
           try clear hx2
           try clear c6
           try clear c6b0
           try clear c6b1
           try clear c6b2
           try clear c7
           try clear c10
           try clear c13
           try clear c14
           try clear c14b0
           try clear c15
           try clear c15b0
           try clear c16
           try clear c16b0
           try clear c17
           try clear c17b0
           try clear c17b1
           try clear c17b2
           try clear c18
           try clear c20
           try clear hcz11_0 hcz11_1
           try clear hcz12_0 hcz12_1
           try clear hcz19_0 hcz19_1
           try clear hcz20_0 hcz20_1
           try clear hcz8_0 hcz8_1
           try clear hcz9_0 hcz9_1
           try clear hfz11_0 hfz11_1
           try clear hfz12_0 hfz12_1
           try clear hfz19_0 hfz19_1
           try clear hfz20_0 hfz20_1
           try clear hfz8_0 hfz8_1
           try clear hfz9_0 hfz9_1
           try clear hx249_0
           try clear hx250_0
           try clear p2
           try clear p249
           try clear p250
           try clear q249
           try clear q250
           obtain ⟨x6_3, rfl, HA, HK3, BK247, BK248, HB⟩ := hrel
           cases gk with
           | zero => exact absurd HA.out (by simp [spinnakerref13_Same.l1])
           | succ k3 =>
            have H := HA.out
            clear HA
            simp only [spinnakerref13_Same.l1] at H
            by_cases c21 : 0 ≤ x5_2
            ·rw [if_pos c21] at H
             have c21b0 := decide_eq_true c21
             clear c21
             by_cases c22 : x5_2 < (l0_0.length : Int)
             ·rw [if_pos c22] at H
              have c22b0 := decide_eq_true c22
              clear c22
              by_cases c23 : x6_3 < ((rd_L4 l0_0 x5_2).length : Int)
              ·rw [if_pos c23] at H
               have c23b0 := decide_eq_true c23
               clear c23
               by_cases c24 : 0 ≤ x6_3
               ·rw [if_pos c24] at H
                have c24b0 := decide_eq_true c24
                clear c24
                by_cases c25 : x5_2 < (l1_0.length : Int)
                ·rw [if_pos c25] at H
                 have c25b0 := decide_eq_true c25
                 clear c25
                 by_cases c26 : x6_3 < ((rd_L4 l1_0 x5_2).length : Int)
                 ·rw [if_pos c26] at H
                  have c26b0 := decide_eq_true c26
                  clear c26
                  by_cases c27 : (!(((rd_T75 (rd_L4 l0_0 x5_2) x6_3).f0) == ((rd_T75 (rd_L4 l1_0 x5_2) x6_3).f0)) || (!(((rd_T75 (rd_L4 l0_0 x5_2) x6_3).f1) == ((rd_T75 (rd_L4 l1_0 x5_2) x6_3).f1)) || ((!(((rd_T75 (rd_L4 l0_0 x5_2) x6_3).f2.f0) == ((rd_T75 (rd_L4 l1_0 x5_2) x6_3).f2.f0)) || (!(((rd_T75 (rd_L4 l0_0 x5_2) x6_3).f2.f1) == ((rd_T75 (rd_L4 l1_0 x5_2) x6_3).f2.f1)))) || (!(((rd_T75 (rd_L4 l0_0 x5_2) x6_3).f3) == ((rd_T75 (rd_L4 l1_0 x5_2) x6_3).f3)) || (!(((rd_T75 (rd_L4 l0_0 x5_2) x6_3).f4) == ((rd_T75 (rd_L4 l1_0 x5_2) x6_3).f4))))))) = true
                  ·rw [if_pos c27] at H
                   have c27b0 : (!(((rd_T75 (rd_L4 l0_0 x5_2) x6_3).f0) == ((rd_T75 (rd_L4 l1_0 x5_2) x6_3).f0)) || (!(((rd_T75 (rd_L4 l0_0 x5_2) x6_3).f1) == ((rd_T75 (rd_L4 l1_0 x5_2) x6_3).f1)) || ((!(((rd_T75 (rd_L4 l0_0 x5_2) x6_3).f2.f0) == ((rd_T75 (rd_L4 l1_0 x5_2) x6_3).f2.f0)) || (!(((rd_T75 (rd_L4 l0_0 x5_2) x6_3).f2.f1) == ((rd_T75 (rd_L4 l1_0 x5_2) x6_3).f2.f1)))) || (!(((rd_T75 (rd_L4 l0_0 x5_2) x6_3).f3) == ((rd_T75 (rd_L4 l1_0 x5_2) x6_3).f3)) || (!(((rd_T75 (rd_L4 l0_0 x5_2) x6_3).f4) == ((rd_T75 (rd_L4 l1_0 x5_2) x6_3).f4))))))) = true := c27
                   clear c27
                   obtain rfl := Option.some.inj H
                   have hnb28 := NB247_248.out
                   have hnc28 := NB248_247.out
                   obtain ⟨hcz29_0, hcz29_1, hfz29_0, hfz29_1⟩ := cz2 (w := wr) BK247.out
                   have p251 : 0 ≤ (x5_2 : Int) := of_decide_eq_true (by first | (with_reducible assumption) | assumption)
                   have q251 : x5_2 < (l0_0.length : Int) := of_decide_eq_true (by first | (with_reducible assumption) | assumption)
                   obtain ⟨ad251, A251_0, c251_0, e251, hx251_0, hl251_0, hi251_0⟩ := at_L4 HR0_0.out x5_2 p251 q251
                   obtain rfl : ad249 = ad251 := (by injection e251)
                   replace hx251_0 := (HB.out.cell (World.block_lt_of_cell? w _ hx251_0)).trans hx251_0
                   have HR251_0 := Aside0.mk hi251_0
                   have HC251_0 := Aside0.mk hl251_0
                   clear hi251_0 hl251_0
                   replace p251 := eq_true p251
                   replace q251 := eq_true q251
                   have p252 : 0 ≤ (x5_2 : Int) := of_decide_eq_true (by first | (with_reducible assumption) | assumption)
                   have q252 : x5_2 < (l0_0.length : Int) := of_decide_eq_true (by first | (with_reducible assumption) | assumption)
                   obtain ⟨ad252, A252_0, c252_0, e252, hx252_0, hl252_0, hi252_0⟩ := at_L4 HR0_0.out x5_2 p252 q252
                   obtain rfl : ad249 = ad252 := (by injection e252)
                   replace hx252_0 := (HB.out.cell (World.block_lt_of_cell? w _ hx252_0)).trans hx252_0
                   have HR252_0 := Aside0.mk hi252_0
                   have HC252_0 := Aside0.mk hl252_0
                   clear hi252_0 hl252_0
                   replace p252 := eq_true p252
                   replace q252 := eq_true q252
                   have ea_ := Option.some.inj (hx251_0.symm.trans hx252_0)
                   injection ea_ with ea_ en_ ec_
                   subst ea_
                   subst ec_
                   clear en_
                   have p253 : 0 ≤ (x6_3 : Int) := of_decide_eq_true (by first | (with_reducible assumption) | assumption)
                   have q253 : x6_3 < ((rd_L4 l0_0 x5_2).length : Int) := of_decide_eq_true (by first | (with_reducible assumption) | assumption)
                   obtain ⟨ad253, e253, hx253_0, hx253_1, hx253_2, hx253_3, hx253_4, hx253_5⟩ := at_T75 HR252_0.out x6_3 p253 q253
                   cases e253
                   replace hx253_0 := (HB.out.cell (World.block_lt_of_cell? w _ hx253_0)).trans hx253_0
                   replace hx253_1 := (HB.out.cell (World.block_lt_of_cell? w _ hx253_1)).trans hx253_1
                   replace hx253_2 := (HB.out.cell (World.block_lt_of_cell? w _ hx253_2)).trans hx253_2
                   replace hx253_3 := (HB.out.cell (World.block_lt_of_cell? w _ hx253_3)).trans hx253_3
                   replace hx253_4 := (HB.out.cell (World.block_lt_of_cell? w _ hx253_4)).trans hx253_4
                   replace hx253_5 := (HB.out.cell (World.block_lt_of_cell? w _ hx253_5)).trans hx253_5
                   replace p253 := eq_true p253
                   replace q253 := eq_true q253
                   obtain ⟨hcz30_0, hcz30_1, hfz30_0, hfz30_1⟩ := cz2 (w := wr) BK248.out
                   have p254 : 0 ≤ (x5_2 : Int) := of_decide_eq_true (by first | (with_reducible assumption) | assumption)
                   have q254 : x5_2 < (l1_0.length : Int) := of_decide_eq_true (by first | (with_reducible assumption) | assumption)
                   obtain ⟨ad254, A254_0, c254_0, e254, hx254_0, hl254_0, hi254_0⟩ := at_L4 HR1_0.out x5_2 p254 q254
                   obtain rfl : ad250 = ad254 := (by injection e254)
                   replace hx254_0 := (HB.out.cell (World.block_lt_of_cell? w _ hx254_0)).trans hx254_0
                   have HR254_0 := Aside0.mk hi254_0
                   have HC254_0 := Aside0.mk hl254_0
                   clear hi254_0 hl254_0
                   replace p254 := eq_true p254
                   replace q254 := eq_true q254
                   have p255 : 0 ≤ (x6_3 : Int) := of_decide_eq_true (by first | (with_reducible assumption) | assumption)
                   have q255 : x6_3 < ((rd_L4 l1_0 x5_2).length : Int) := of_decide_eq_true (by first | (with_reducible assumption) | assumption)
                   obtain ⟨ad255, e255, hx255_0, hx255_1, hx255_2, hx255_3, hx255_4, hx255_5⟩ := at_T75 HR254_0.out x6_3 p255 q255
                   cases e255
                   replace hx255_0 := (HB.out.cell (World.block_lt_of_cell? w _ hx255_0)).trans hx255_0
                   replace hx255_1 := (HB.out.cell (World.block_lt_of_cell? w _ hx255_1)).trans hx255_1
                   replace hx255_2 := (HB.out.cell (World.block_lt_of_cell? w _ hx255_2)).trans hx255_2
                   replace hx255_3 := (HB.out.cell (World.block_lt_of_cell? w _ hx255_3)).trans hx255_3
                   replace hx255_4 := (HB.out.cell (World.block_lt_of_cell? w _ hx255_4)).trans hx255_4
                   replace hx255_5 := (HB.out.cell (World.block_lt_of_cell? w _ hx255_5)).trans hx255_5
                   replace p255 := eq_true p255
                   replace q255 := eq_true q255
                   go_wp2
                   repeat (go_quiet (fail); try go_wp2)
                   go_ret
                   exact ⟨fi, bl⟩
                  ·rw [if_neg c27] at H
                   have c27b0 : (!(((rd_T75 (rd_L4 l0_0 x5_2) x6_3).f0) == ((rd_T75 (rd_L4 l1_0 x5_2) x6_3).f0)) || (!(((rd_T75 (rd_L4 l0_0 x5_2) x6_3).f1) == ((rd_T75 (rd_L4 l1_0 x5_2) x6_3).f1)) || ((!(((rd_T75 (rd_L4 l0_0 x5_2) x6_3).f2.f0) == ((rd_T75 (rd_L4 l1_0 x5_2) x6_3).f2.f0)) || (!(((rd_T75 (rd_L4 l0_0 x5_2) x6_3).f2.f1) == ((rd_T75 (rd_L4 l1_0 x5_2) x6_3).f2.f1)))) || (!(((rd_T75 (rd_L4 l0_0 x5_2) x6_3).f3) == ((rd_T75 (rd_L4 l1_0 x5_2) x6_3).f3)) || (!(((rd_T75 (rd_L4 l0_0 x5_2) x6_3).f4) == ((rd_T75 (rd_L4 l1_0 x5_2) x6_3).f4))))))) = false := by simpa using c27
                   clear c27
                   have H' := Aside0.mk H
                   clear H
                   have hnb31 := NB247_248.out
                   have hnc31 := NB248_247.out
                   obtain ⟨hcz32_0, hcz32_1, hfz32_0, hfz32_1⟩ := cz2 (w := wr) BK247.out
                   have p251 : 0 ≤ (x5_2 : Int) := of_decide_eq_true (by first | (with_reducible assumption) | assumption)
                   have q251 : x5_2 < (l0_0.length : Int) := of_decide_eq_true (by first | (with_reducible assumption) | assumption)
                   obtain ⟨ad251, A251_0, c251_0, e251, hx251_0, hl251_0, hi251_0⟩ := at_L4 HR0_0.out x5_2 p251 q251
                   obtain rfl : ad249 = ad251 := (by injection e251)
                   replace hx251_0 := (HB.out.cell (World.block_lt_of_cell? w _ hx251_0)).trans hx251_0
                   have HR251_0 := Aside0.mk hi251_0
                   have HC251_0 := Aside0.mk hl251_0
                   clear hi251_0 hl251_0
                   replace p251 := eq_true p251
                   replace q251 := eq_true q251
                   have p252 : 0 ≤ (x5_2 : Int) := of_decide_eq_true (by first | (with_reducible assumption) | assumption)
                   have q252 : x5_2 < (l0_0.length : Int) := of_decide_eq_true (by first | (with_reducible assumption) | assumption)
                   obtain ⟨ad252, A252_0, c252_0, e252, hx252_0, hl252_0, hi252_0⟩ := at_L4 HR0_0.out x5_2 p252 q252
                   obtain rfl : ad249 = ad252 := (by injection e252)
                   replace hx252_0 := (HB.out.cell (World.block_lt_of_cell? w _ hx252_0)).trans hx252_0
                   have HR252_0 := Aside0.mk hi252_0
                   have HC252_0 := Aside0.mk hl252_0
                   clear hi252_0 hl252_0
                   replace p252 := eq_true p252
                   replace q252 := eq_true q252
                   have ea_ := Option.some.inj (hx251_0.symm.trans hx252_0)
                   injection ea_ with ea_ en_ ec_
                   subst ea_
                   subst ec_
                   clear en_
                   have p253 : 0 ≤ (x6_3 : Int) := of_decide_eq_true (by first | (with_reducible assumption) | assumption)
                   have q253 : x6_3 < ((rd_L4 l0_0 x5_2).length : Int) := of_decide_eq_true (by first | (with_reducible assumption) | assumption)
                   obtain ⟨ad253, e253, hx253_0, hx253_1, hx253_2, hx253_3, hx253_4, hx253_5⟩ := at_T75 HR252_0.out x6_3 p253 q253
                   cases e253
                   replace hx253_0 := (HB.out.cell (World.block_lt_of_cell? w _ hx253_0)).trans hx253_0
                   replace hx253_1 := (HB.out.cell (World.block_lt_of_cell? w _ hx253_1)).trans hx253_1
                   replace hx253_2 := (HB.out.cell (World.block_lt_of_cell? w _ hx253_2)).trans hx253_2
                   replace hx253_3 := (HB.out.cell (World.block_lt_of_cell? w _ hx253_3)).trans hx253_3
                   replace hx253_4 := (HB.out.cell (World.block_lt_of_cell? w _ hx253_4)).trans hx253_4
                   replace hx253_5 := (HB.out.cell (World.block_lt_of_cell? w _ hx253_5)).trans hx253_5
                   replace p253 := eq_true p253
                   replace q253 := eq_true q253
                   obtain ⟨hcz33_0, hcz33_1, hfz33_0, hfz33_1⟩ := cz2 (w := wr) BK248.out
                   have p254 : 0 ≤ (x5_2 : Int) := of_decide_eq_true (by first | (with_reducible assumption) | assumption)
                   have q254 : x5_2 < (l1_0.length : Int) := of_decide_eq_true (by first | (with_reducible assumption) | assumption)
                   obtain ⟨ad254, A254_0, c254_0, e254, hx254_0, hl254_0, hi254_0⟩ := at_L4 HR1_0.out x5_2 p254 q254
                   obtain rfl : ad250 = ad254 := (by injection e254)
                   replace hx254_0 := (HB.out.cell (World.block_lt_of_cell? w _ hx254_0)).trans hx254_0
                   have HR254_0 := Aside0.mk hi254_0
                   have HC254_0 := Aside0.mk hl254_0
                   clear hi254_0 hl254_0
                   replace p254 := eq_true p254
                   replace q254 := eq_true q254
                   have p255 : 0 ≤ (x6_3 : Int) := of_decide_eq_true (by first | (with_reducible assumption) | assumption)
                   have q255 : x6_3 < ((rd_L4 l1_0 x5_2).length : Int) := of_decide_eq_true (by first | (with_reducible assumption) | assumption)
                   obtain ⟨ad255, e255, hx255_0, hx255_1, hx255_2, hx255_3, hx255_4, hx255_5⟩ := at_T75 HR254_0.out x6_3 p255 q255
                   cases e255
                   replace hx255_0 := (HB.out.cell (World.block_lt_of_cell? w _ hx255_0)).trans hx255_0
                   replace hx255_1 := (HB.out.cell (World.block_lt_of_cell? w _ hx255_1)).trans hx255_1
                   replace hx255_2 := (HB.out.cell (World.block_lt_of_cell? w _ hx255_2)).trans hx255_2
                   replace hx255_3 := (HB.out.cell (World.block_lt_of_cell? w _ hx255_3)).trans hx255_3
                   replace hx255_4 := (HB.out.cell (World.block_lt_of_cell? w _ hx255_4)).trans hx255_4
                   replace hx255_5 := (HB.out.cell (World.block_lt_of_cell? w _ hx255_5)).trans hx255_5
                   replace p255 := eq_true p255
                   replace q255 := eq_true q255
                   go_wp2
                   repeat (go_quiet (fail); try go_wp2)
                   go_roundg k3
                   case measure => have := HJ2.out; have := HK2.out; have := HK3.out; omega
                   case rel => exact ⟨(wrap64 (x6_3 + 1)), fj, H', ⟨by have := HJ2.out; have := HK2.out; have := HK3.out; omega⟩, ⟨by refine bx ?_; exact BK247.out⟩, ⟨by refine bx ?_; exact BK248.out⟩, ⟨bl⟩⟩
                 ·rw [if_neg c26] at H
                  exact absurd H (by simp)
                ·rw [if_neg c25] at H
                 exact absurd H (by simp)
               ·rw [if_neg c24] at H
                exact absurd H (by simp)
              ·rw [if_neg c23] at H
               have c23b0 := decide_eq_false c23
               clear c23
               have H' := Aside0.mk H
               clear H
               have hnb34 := NB247_248.out
               have hnc34 := NB248_247.out
               obtain ⟨hcz35_0, hcz35_1, hfz35_0, hfz35_1⟩ := cz2 (w := wr) BK247.out
               have p251 : 0 ≤ (x5_2 : Int) := of_decide_eq_true (by first | (with_reducible assumption) | assumption)
               have q251 : x5_2 < (l0_0.length : Int) := of_decide_eq_true (by first | (with_reducible assumption) | assumption)
               obtain ⟨ad251, A251_0, c251_0, e251, hx251_0, hl251_0, hi251_0⟩ := at_L4 HR0_0.out x5_2 p251 q251
               obtain rfl : ad249 = ad251 := (by injection e251)
               replace hx251_0 := (HB.out.cell (World.block_lt_of_cell? w _ hx251_0)).trans hx251_0
               have HR251_0 := Aside0.mk hi251_0
               have HC251_0 := Aside0.mk hl251_0
               clear hi251_0 hl251_0
               replace p251 := eq_true p251
               replace q251 := eq_true q251
               go_wp2
               repeat (go_quiet (fail); try go_wp2)
               go_roundg k3
               case measure => have := HJ2.out; have := HK2.out; have := HK3.out; omega
               case rel => exact ⟨(wrap64 (x5_2 + 1)), fj, H', ⟨by have := HJ2.out; have := HK2.out; have := HK3.out; omega⟩, ⟨by refine bx ?_; exact BK247.out⟩, ⟨by refine bx ?_; exact BK248.out⟩, ⟨bl⟩⟩
             ·rw [if_neg c22] at H
              exact absurd H (by simp)
            ·rw [if_neg c21] at H
             exact absurd H (by simp)
         ·rw [if_neg c17] at H
          have c17b0 : (((rd_L4 l0_0 x5_2).length : Int) == ((rd_L4 l1_0 x5_2).length : Int)) = false := beq_eq_false_iff_ne.mpr c17
          have c17b1 : (((rd_L4 l0_0 x5_2).length : Int) != ((rd_L4 l1_0 x5_2).length : Int)) = true := bne_iff_ne.mpr c17
          have c17b2 : ((rd_L4 l0_0 x5_2).length == (rd_L4 l1_0 x5_2).length) = false := by first | simpa using c17 | (simp at c17 ⊢; omega)
          obtain rfl := Option.some.inj H
          have hnb36 := NB247_248.out
          have hnc36 := NB248_247.out
          obtain ⟨hcz37_0, hcz37_1, hfz37_0, hfz37_1⟩ := cz2 (w := wr) BK247.out
          have p249 : 0 ≤ (x5_2 : Int) := of_decide_eq_true (by first | (with_reducible assumption) | assumption)
          have q249 : x5_2 < (l0_0.length : Int) := of_decide_eq_true (by first | (with_reducible assumption) | assumption)
          obtain ⟨ad249, A249_0, c249_0, e249, hx249_0, hl249_0, hi249_0⟩ := at_L4 HR0_0.out x5_2 p249 q249
          cases e249
          replace hx249_0 := (HB.out.cell (World.block_lt_of_cell? w _ hx249_0)).trans hx249_0
          have HR249_0 := Aside0.mk hi249_0
          have HC249_0 := Aside0.mk hl249_0
          clear hi249_0 hl249_0
          replace p249 := eq_true p249
          replace q249 := eq_true q249
          obtain ⟨hcz38_0, hcz38_1, hfz38_0, hfz38_1⟩ := cz2 (w := wr) BK248.out
          have p250 : 0 ≤ (x5_2 : Int) := of_decide_eq_true (by first | (with_reducible assumption) | assumption)
          have q250 : x5_2 < (l1_0.length : Int) := of_decide_eq_true (by first | (with_reducible assumption) | assumption)
          obtain ⟨ad250, A250_0, c250_0, e250, hx250_0, hl250_0, hi250_0⟩ := at_L4 HR1_0.out x5_2 p250 q250
          cases e250
          replace hx250_0 := (HB.out.cell (World.block_lt_of_cell? w _ hx250_0)).trans hx250_0
          have HR250_0 := Aside0.mk hi250_0
          have HC250_0 := Aside0.mk hl250_0
          clear hi250_0 hl250_0
          replace p250 := eq_true p250
          replace q250 := eq_true q250
          go_wp2
          repeat (go_quiet (fail); try go_wp2)
          go_ret
          exact ⟨fi, bl⟩
        ·rw [if_neg c16] at H
         exact absurd H (by simp)
       ·rw [if_neg c15] at H
        exact absurd H (by simp)
      ·rw [if_neg c14] at H
       have c14b0 := decide_eq_false c14
       clear c14
       have H' := Aside0.mk H
       clear H
       have hnb39 := NB247_248.out
       have hnc39 := NB248_247.out
       obtain ⟨hcz40_0, hcz40_1, hfz40_0, hfz40_1⟩ := cz2 (w := wr) BK247.out
       go_wp2
       repeat (go_quiet (fail); try go_wp2)
       go_loopg [7] k2 (fun kq v7 w' => ∃ (x7_3 : Int), v7 = .int .i64 x7_3 ∧ Aside0 (spinnakerref13_Same.l2 kq x7_3 l0_0 l0_1 l1_0 l1_1 = some r) ∧ Aside0 (kq ≤ k2) ∧ Aside0 (w'.heap[gb247]? = some (.cells #[(.slice A0_0 l0_0.length c0_0), (.slice A0_1 l0_1.length c0_1)] 42 (0, 0))) ∧ Aside0 (w'.heap[gb248]? = some (.cells #[(.slice A1_0 l1_0.length c1_0), (.slice A1_1 l1_1.length c1_1)] 42 (0, 0))) ∧ Aside0 (Below w.heap.size w w'))
       case atStart => exact ⟨(0), fj, H', ⟨Nat.le_refl _⟩, ⟨by refine bx ?_; exact BK247.out⟩, ⟨by refine bx ?_; exact BK248.out⟩, ⟨bl⟩⟩
       case round =>
        clear H'
        try clear c1
        try clear c2
        try clear p2
        try clear q2
        try clear hx2
        try clear c3
        try clear c6
        try clear c6b0
        try clear c6b1
        try clear c6b2
        try clear p6
        try clear c7
        try clear c10
        try clear c13
        try clear c14
        try clear c14b0
        try clear c15
        try clear c15b0
        try clear c16
        try clear c16b0
        try clear c17
        try clear c17b0
        try clear c17b1
        try clear c17b2
        try clear c18
        try clear c20
        try clear c21
        try clear c21b0
        try clear c22
        try clear c22b0
        try clear c23
        try clear c23b0
        try clear c24
        try clear c24b0
        try clear p24
        try clear q24
        try clear hx24
        try clear c25
        try clear c25b0
        try clear p25
        try clear q25
        try clear hx25
        try clear c26
        try clear c26b0
        try clear c27
        try clear c27b0
        try clear c28
        try clear c31
        try clear c34
        try clear c36
        try clear c39
        try clear hcz11_0 hcz11_1
        try clear hcz12_0 hcz12_1
        try clear hcz19_0 hcz19_1
        try clear hcz20_0 hcz20_1
        try clear hcz29_0 hcz29_1
        try clear hcz30_0 hcz30_1
        try clear hcz32_0 hcz32_1
        try clear hcz33_0 hcz33_1
        try clear hcz35_0 hcz35_1
        try clear hcz37_0 hcz37_1
        try clear hcz38_0 hcz38_1
        try clear hcz40_0 hcz40_1
        try clear hcz8_0 hcz8_1
        try clear hcz9_0 hcz9_1
        try clear hfz11_0 hfz11_1
        try clear hfz12_0 hfz12_1
        try clear hfz19_0 hfz19_1
        try clear hfz20_0 hfz20_1
        try clear hfz29_0 hfz29_1
        try clear hfz30_0 hfz30_1
        try clear hfz32_0 hfz32_1
        try clear hfz33_0 hfz33_1
        try clear hfz35_0 hfz35_1
        try clear hfz37_0 hfz37_1
        try clear hfz38_0 hfz38_1
        try clear hfz40_0 hfz40_1
        try clear hfz8_0 hfz8_1
        try clear hfz9_0 hfz9_1
        try clear hx249_0
        try clear hx250_0
        try clear hx251_0
        try clear hx252_0
        try clear hx253_0
        try clear hx253_1
        try clear hx253_2
        try clear hx253_3
        try clear hx253_4
        try clear hx253_5
        try clear hx254_0
        try clear hx255_0
        try clear hx255_1
        try clear hx255_2
        try clear hx255_3
        try clear hx255_4
        try clear hx255_5
        try clear p2
        try clear p249
        try clear p250
        try clear p251
        try clear p252
        try clear p253
        try clear p254
        try clear p255
        try clear q2
        try clear q249
        try clear q250
        try clear q251
        try clear q252
        try clear q253
        try clear q254
        try clear q255
        obtain ⟨x7_3, rfl, HA, HK3, BK247, BK248, HB⟩ := hrel
        cases gk with
        | zero => exact absurd HA.out (by simp [spinnakerref13_Same.l2])
        | succ k3 =>
         have H := HA.out
         clear HA
         simp only [spinnakerref13_Same.l2] at H
         by_cases c41 : x7_3 < (l0_1.length : Int)
         ·rw [if_pos c41] at H
          have c41b0 := decide_eq_true c41
          clear c41
          by_cases c42 : 0 ≤ x7_3
          ·rw [if_pos c42] at H
           have c42b0 := decide_eq_true c42
           clear c42
           by_cases c43 : x7_3 < (l1_1.length : Int)
           ·rw [if_pos c43] at H
            have c43b0 := decide_eq_true c43
            clear c43
            by_cases c44 : ((rd_T70 l0_1 x7_3).f0) = ((rd_T70 l1_1 x7_3).f0)
            ·rw [if_pos c44] at H
             have c44b0 : (((rd_T70 l0_1 x7_3).f0) == ((rd_T70 l1_1 x7_3).f0)) = true := beq_iff_eq.mpr c44
             have c44b1 : (((rd_T70 l0_1 x7_3).f0) != ((rd_T70 l1_1 x7_3).f0)) = false := bne_eq_false_iff_eq.mpr c44
             clear c44
             replace H := be H
             obtain ⟨t260, A45, H⟩ := H
             by_cases c46 : t260 = true
             ·subst c46
              have H1 : (spinnakerref13_Same.l2 k3 (wrap64 (x7_3 + 1)) l0_0 l0_1 l1_0 l1_1) = some r := by rw [if_pos rfl] at H; exact H
              clear H
              have H := H1
              clear H1
              have H' := Aside0.mk H
              clear H
              have hnb47 := NB247_248.out
              have hnc47 := NB248_247.out
              obtain ⟨hcz48_0, hcz48_1, hfz48_0, hfz48_1⟩ := cz2 (w := wr) BK247.out
              have p256 : 0 ≤ (x7_3 : Int) := of_decide_eq_true (by first | (with_reducible assumption) | assumption)
              have q256 : x7_3 < (l0_1.length : Int) := of_decide_eq_true (by first | (with_reducible assumption) | assumption)
              obtain ⟨ad256, A256_1, c256_1, e256, hx256_0, hx256_1, hl256_1, hi256_1⟩ := at_T70 HR0_1.out x7_3 p256 q256
              cases e256
              replace hx256_0 := (HB.out.cell (World.block_lt_of_cell? w _ hx256_0)).trans hx256_0
              replace hx256_1 := (HB.out.cell (World.block_lt_of_cell? w _ hx256_1)).trans hx256_1
              have HR256_1 := Aside0.mk hi256_1
              have HC256_1 := Aside0.mk hl256_1
              clear hi256_1 hl256_1
              replace p256 := eq_true p256
              replace q256 := eq_true q256
              obtain ⟨hcz49_0, hcz49_1, hfz49_0, hfz49_1⟩ := cz2 (w := wr) BK248.out
              have p257 : 0 ≤ (x7_3 : Int) := of_decide_eq_true (by first | (with_reducible assumption) | assumption)
              have q257 : x7_3 < (l1_1.length : Int) := of_decide_eq_true (by first | (with_reducible assumption) | assumption)
              obtain ⟨ad257, A257_1, c257_1, e257, hx257_0, hx257_1, hl257_1, hi257_1⟩ := at_T70 HR1_1.out x7_3 p257 q257
              cases e257
              replace hx257_0 := (HB.out.cell (World.block_lt_of_cell? w _ hx257_0)).trans hx257_0
              replace hx257_1 := (HB.out.cell (World.block_lt_of_cell? w _ hx257_1)).trans hx257_1
              have HR257_1 := Aside0.mk hi257_1
              have HC257_1 := Aside0.mk hl257_1
              clear hi257_1 hl257_1
              replace p257 := eq_true p257
              replace q257 := eq_true q257
              have p258 : 0 ≤ (x7_3 : Int) := of_decide_eq_true (by first | (with_reducible assumption) | assumption)
              have q258 : x7_3 < (l0_1.length : Int) := of_decide_eq_true (by first | (with_reducible assumption) | assumption)
              obtain ⟨ad258, A258_1, c258_1, e258, hx258_0, hx258_1, hl258_1, hi258_1⟩ := at_T70 HR0_1.out x7_3 p258 q258
              obtain rfl : ad256 = ad258 := (by injection e258)
              replace hx258_0 := (HB.out.cell (World.block_lt_of_cell? w _ hx258_0)).trans hx258_0
              replace hx258_1 := (HB.out.cell (World.block_lt_of_cell? w _ hx258_1)).trans hx258_1
              have HR258_1 := Aside0.mk hi258_1
              have HC258_1 := Aside0.mk hl258_1
              clear hi258_1 hl258_1
              replace p258 := eq_true p258
              replace q258 := eq_true q258
              have ea_ := Option.some.inj (hx256_1.symm.trans hx258_1)
              injection ea_ with ea_ en_ ec_
              subst ea_
              subst ec_
              clear en_
              have p259 : 0 ≤ (x7_3 : Int) := of_decide_eq_true (by first | (with_reducible assumption) | assumption)
              have q259 : x7_3 < (l1_1.length : Int) := of_decide_eq_true (by first | (with_reducible assumption) | assumption)
              obtain ⟨ad259, A259_1, c259_1, e259, hx259_0, hx259_1, hl259_1, hi259_1⟩ := at_T70 HR1_1.out x7_3 p259 q259
              obtain rfl : ad257 = ad259 := (by injection e259)
              replace hx259_0 := (HB.out.cell (World.block_lt_of_cell? w _ hx259_0)).trans hx259_0
              replace hx259_1 := (HB.out.cell (World.block_lt_of_cell? w _ hx259_1)).trans hx259_1
              have HR259_1 := Aside0.mk hi259_1
              have HC259_1 := Aside0.mk hl259_1
              clear hi259_1 hl259_1
              replace p259 := eq_true p259
              replace q259 := eq_true q259
              have ea_ := Option.some.inj (hx257_1.symm.trans hx259_1)
              injection ea_ with ea_ en_ ec_
              subst ea_
              subst ec_
              clear en_
              go_wp2_with (first | (go_at_call 43; (with_reducible refine (spinnakerref13_Refs.calls k3 _ _ ((rd_T70 l0_1 x7_3).f1) _ _ ((rd_T70 l1_1 x7_3).f1) true _ ?side1 ?side2 ?side3 ?side4 A45.out).mono ?_); (case side1 => repeat (first | exact (Kd.C_below HR258_1.out HB.out) | (with_reducible refine Kd.C_alloc ?_ _) | (with_reducible refine Kd.C_drewN ?_ _) | (with_reducible refine Kd.C_drew ?_))); (case side2 => exact HC258_1.out); (case side3 => repeat (first | exact (Kd.C_below HR259_1.out HB.out) | (with_reducible refine Kd.C_alloc ?_ _) | (with_reducible refine Kd.C_drewN ?_ _) | (with_reducible refine Kd.C_drew ?_))); (case side4 => exact HC259_1.out); rintro e w' ⟨rfl, ⟨nd, rfl⟩⟩; (try first | exact ⟨rfl, _, World.drewN_drewN _ _ _⟩ | exact ⟨rfl, _, Eq.trans (World.drewN_drewN _ _ _) (congrArg (World.drewN _) (Nat.add_assoc _ _ _))⟩)))
              repeat (go_quiet (first | (go_at_call 43; (with_reducible refine (spinnakerref13_Refs.calls k3 _ _ ((rd_T70 l0_1 x7_3).f1) _ _ ((rd_T70 l1_1 x7_3).f1) true _ ?side1 ?side2 ?side3 ?side4 A45.out).mono ?_); (case side1 => repeat (first | exact (Kd.C_below HR258_1.out HB.out) | (with_reducible refine Kd.C_alloc ?_ _) | (with_reducible refine Kd.C_drewN ?_ _) | (with_reducible refine Kd.C_drew ?_))); (case side2 => exact HC258_1.out); (case side3 => repeat (first | exact (Kd.C_below HR259_1.out HB.out) | (with_reducible refine Kd.C_alloc ?_ _) | (with_reducible refine Kd.C_drewN ?_ _) | (with_reducible refine Kd.C_drew ?_))); (case side4 => exact HC259_1.out); rintro e w' ⟨rfl, ⟨nd, rfl⟩⟩; (try first | exact ⟨rfl, _, World.drewN_drewN _ _ _⟩ | exact ⟨rfl, _, Eq.trans (World.drewN_drewN _ _ _) (congrArg (World.drewN _) (Nat.add_assoc _ _ _))⟩))); try go_wp2_with (first | (go_at_call 43; (with_reducible refine (spinnakerref13_Refs.calls k3 _ _ ((rd_T70 l0_1 x7_3).f1) _ _ ((rd_T70 l1_1 x7_3).f1) true _ ?side1 ?side2 ?side3 ?side4 A45.out).mono ?_); (case side1 => repeat (first | exact (Kd.C_below HR258_1.out HB.out) | (with_reducible refine Kd.C_alloc ?_ _) | (with_reducible refine Kd.C_drewN ?_ _) | (with_reducible refine Kd.C_drew ?_))); (case side2 => exact HC258_1.out); (case side3 => repeat (first | exact (Kd.C_below HR259_1.out HB.out) | (with_reducible refine Kd.C_alloc ?_ _) | (with_reducible refine Kd.C_drewN ?_ _) | (with_reducible refine Kd.C_drew ?_))); (case side4 => exact HC259_1.out); rintro e w' ⟨rfl, ⟨nd, rfl⟩⟩; (try first | exact ⟨rfl, _, World.drewN_drewN _ _ _⟩ | exact ⟨rfl, _, Eq.trans (World.drewN_drewN _ _ _) (congrArg (World.drewN _) (Nat.add_assoc _ _ _))⟩))))
              go_roundg k3
              case measure => have := HJ2.out; have := HK2.out; have := HK3.out; omega
              case rel => exact ⟨(wrap64 (x7_3 + 1)), fj, H', ⟨by have := HJ2.out; have := HK2.out; have := HK3.out; omega⟩, ⟨by refine bx ?_; exact BK247.out⟩, ⟨by refine bx ?_; exact BK248.out⟩, ⟨bl⟩⟩
             ·replace c46 := Bool.eq_false_iff.mpr c46
              subst c46
              have H1 : (some false) = some r := by rw [if_neg (show ¬ (false = true) by decide)] at H; exact H
              clear H
              have H := H1
              clear H1
              obtain rfl := Option.some.inj H
              have hnb50 := NB247_248.out
              have hnc50 := NB248_247.out
              obtain ⟨hcz51_0, hcz51_1, hfz51_0, hfz51_1⟩ := cz2 (w := wr) BK247.out
              have p256 : 0 ≤ (x7_3 : Int) := of_decide_eq_true (by first | (with_reducible assumption) | assumption)
              have q256 : x7_3 < (l0_1.length : Int) := of_decide_eq_true (by first | (with_reducible assumption) | assumption)
              obtain ⟨ad256, A256_1, c256_1, e256, hx256_0, hx256_1, hl256_1, hi256_1⟩ := at_T70 HR0_1.out x7_3 p256 q256
              cases e256
              replace hx256_0 := (HB.out.cell (World.block_lt_of_cell? w _ hx256_0)).trans hx256_0
              replace hx256_1 := (HB.out.cell (World.block_lt_of_cell? w _ hx256_1)).trans hx256_1
              have HR256_1 := Aside0.mk hi256_1
              have HC256_1 := Aside0.mk hl256_1
              clear hi256_1 hl256_1
              replace p256 := eq_true p256
              replace q256 := eq_true q256
              obtain ⟨hcz52_0, hcz52_1, hfz52_0, hfz52_1⟩ := cz2 (w := wr) BK248.out
              have p257 : 0 ≤ (x7_3 : Int) := of_decide_eq_true (by first | (with_reducible assumption) | assumption)
              have q257 : x7_3 < (l1_1.length : Int) := of_decide_eq_true (by first | (with_reducible assumption) | assumption)
              obtain ⟨ad257, A257_1, c257_1, e257, hx257_0, hx257_1, hl257_1, hi257_1⟩ := at_T70 HR1_1.out x7_3 p257 q257
              cases e257
              replace hx257_0 := (HB.out.cell (World.block_lt_of_cell? w _ hx257_0)).trans hx257_0
              replace hx257_1 := (HB.out.cell (World.block_lt_of_cell? w _ hx257_1)).trans hx257_1
              have HR257_1 := Aside0.mk hi257_1
              have HC257_1 := Aside0.mk hl257_1
              clear hi257_1 hl257_1
              replace p257 := eq_true p257
              replace q257 := eq_true q257
              have p258 : 0 ≤ (x7_3 : Int) := of_decide_eq_true (by first | (with_reducible assumption) | assumption)
              have q258 : x7_3 < (l0_1.length : Int) := of_decide_eq_true (by first | (with_reducible assumption) | assumption)
              obtain ⟨ad258, A258_1, c258_1, e258, hx258_0, hx258_1, hl258_1, hi258_1⟩ := at_T70 HR0_1.out x7_3 p258 q258
              obtain rfl : ad256 = ad258 := (by injection e258)
              replace hx258_0 := (HB.out.cell (World.block_lt_of_cell? w _ hx258_0)).trans hx258_0
              replace hx258_1 := (HB.out.cell (World.block_lt_of_cell? w _ hx258_1)).trans hx258_1
              have HR258_1 := Aside0.mk hi258_1
              have HC258_1 := Aside0.mk hl258_1
              clear hi258_1 hl258_1
              replace p258 := eq_true p258
              replace q258 := eq_true q258
              have ea_ := Option.some.inj (hx256_1.symm.trans hx258_1)
              injection ea_ with ea_ en_ ec_
              subst ea_
              subst ec_
              clear en_
              have p259 : 0 ≤ (x7_3 : Int) := of_decide_eq_true (by first | (with_reducible assumption) | assumption)
              have q259 : x7_3 < (l1_1.length : Int) := of_decide_eq_true (by first | (with_reducible assumption) | assumption)
              obtain ⟨ad259, A259_1, c259_1, e259, hx259_0, hx259_1, hl259_1, hi259_1⟩ := at_T70 HR1_1.out x7_3 p259 q259
              obtain rfl : ad257 = ad259 := (by injection e259)
              replace hx259_0 := (HB.out.cell (World.block_lt_of_cell? w _ hx259_0)).trans hx259_0
              replace hx259_1 := (HB.out.cell (World.block_lt_of_cell? w _ hx259_1)).trans hx259_1
              have HR259_1 := Aside0.mk hi259_1
              have HC259_1 := Aside0.mk hl259_1
              clear hi259_1 hl259_1
              replace p259 := eq_true p259
              replace q259 := eq_true q259
              have ea_ := Option.some.inj (hx257_1.symm.trans hx259_1)
              injection ea_ with ea_ en_ ec_
              subst ea_
              subst ec_
              clear en_
              go_wp2_with (first | (go_at_call 43; (with_reducible refine (spinnakerref13_Refs.calls k3 _ _ ((rd_T70 l0_1 x7_3).f1) _ _ ((rd_T70 l1_1 x7_3).f1) false _ ?side1 ?side2 ?side3 ?side4 A45.out).mono ?_); (case side1 => repeat (first | exact (Kd.C_below HR258_1.out HB.out) | (with_reducible refine Kd.C_alloc ?_ _) | (with_reducible refine Kd.C_drewN ?_ _) | (with_reducible refine Kd.C_drew ?_))); (case side2 => exact HC258_1.out); (case side3 => repeat (first | exact (Kd.C_below HR259_1.out HB.out) | (with_reducible refine Kd.C_alloc ?_ _) | (with_reducible refine Kd.C_drewN ?_ _) | (with_reducible refine Kd.C_drew ?_))); (case side4 => exact HC259_1.out); rintro e w' ⟨rfl, ⟨nd, rfl⟩⟩; (try first | exact ⟨rfl, _, World.drewN_drewN _ _ _⟩ | exact ⟨rfl, _, Eq.trans (World.drewN_drewN _ _ _) (congrArg (World.drewN _) (Nat.add_assoc _ _ _))⟩)))
              repeat (go_quiet (first | (go_at_call 43; (with_reducible refine (spinnakerref13_Refs.calls k3 _ _ ((rd_T70 l0_1 x7_3).f1) _ _ ((rd_T70 l1_1 x7_3).f1) false _ ?side1 ?side2 ?side3 ?side4 A45.out).mono ?_); (case side1 => repeat (first | exact (Kd.C_below HR258_1.out HB.out) | (with_reducible refine Kd.C_alloc ?_ _) | (with_reducible refine Kd.C_drewN ?_ _) | (with_reducible refine Kd.C_drew ?_))); (case side2 => exact HC258_1.out); (case side3 => repeat (first | exact (Kd.C_below HR259_1.out HB.out) | (with_reducible refine Kd.C_alloc ?_ _) | (with_reducible refine Kd.C_drewN ?_ _) | (with_reducible refine Kd.C_drew ?_))); (case side4 => exact HC259_1.out); rintro e w' ⟨rfl, ⟨nd, rfl⟩⟩; (try first | exact ⟨rfl, _, World.drewN_drewN _ _ _⟩ | exact ⟨rfl, _, Eq.trans (World.drewN_drewN _ _ _) (congrArg (World.drewN _) (Nat.add_assoc _ _ _))⟩))); try go_wp2_with (first | (go_at_call 43; (with_reducible refine (spinnakerref13_Refs.calls k3 _ _ ((rd_T70 l0_1 x7_3).f1) _ _ ((rd_T70 l1_1 x7_3).f1) false _ ?side1 ?side2 ?side3 ?side4 A45.out).mono ?_); (case side1 => repeat (first | exact (Kd.C_below HR258_1.out HB.out) | (with_reducible refine Kd.C_alloc ?_ _) | (with_reducible refine Kd.C_drewN ?_ _) | (with_reducible refine Kd.C_drew ?_))); (case side2 => exact HC258_1.out); (case side3 => repeat (first | exact (Kd.C_below HR259_1.out HB.out) | (with_reducible refine Kd.C_alloc ?_ _) | (with_reducible refine Kd.C_drewN ?_ _) | (with_reducible refine Kd.C_drew ?_))); (case side4 => exact HC259_1.out); rintro e w' ⟨rfl, ⟨nd, rfl⟩⟩; (try first | exact ⟨rfl, _, World.drewN_drewN _ _ _⟩ | exact ⟨rfl, _, Eq.trans (World.drewN_drewN _ _ _) (congrArg (World.drewN _) (Nat.add_assoc _ _ _))⟩))))
              go_ret
              exact ⟨fi, bl⟩
            ·rw [if_neg c44] at H
             have c44b0 : (((rd_T70 l0_1 x7_3).f0) == ((rd_T70 l1_1 x7_3).f0)) = false := beq_eq_false_iff_ne.mpr c44
             have c44b1 : (((rd_T70 l0_1 x7_3).f0) != ((rd_T70 l1_1 x7_3).f0)) = true := bne_iff_ne.mpr c44
             obtain rfl := Option.some.inj H
             have hnb53 := NB247_248.out
             have hnc53 := NB248_247.out
             obtain ⟨hcz54_0, hcz54_1, hfz54_0, hfz54_1⟩ := cz2 (w := wr) BK247.out
             have p256 : 0 ≤ (x7_3 : Int) := of_decide_eq_true (by first | (with_reducible assumption) | assumption)
             have q256 : x7_3 < (l0_1.length : Int) := of_decide_eq_true (by first | (with_reducible assumption) | assumption)
             obtain ⟨ad256, A256_1, c256_1, e256, hx256_0, hx256_1, hl256_1, hi256_1⟩ := at_T70 HR0_1.out x7_3 p256 q256
             cases e256
             replace hx256_0 := (HB.out.cell (World.block_lt_of_cell? w _ hx256_0)).trans hx256_0
             replace hx256_1 := (HB.out.cell (World.block_lt_of_cell? w _ hx256_1)).trans hx256_1
             have HR256_1 := Aside0.mk hi256_1
             have HC256_1 := Aside0.mk hl256_1
             clear hi256_1 hl256_1
             replace p256 := eq_true p256
             replace q256 := eq_true q256
             obtain ⟨hcz55_0, hcz55_1, hfz55_0, hfz55_1⟩ := cz2 (w := wr) BK248.out
             have p257 : 0 ≤ (x7_3 : Int) := of_decide_eq_true (by first | (with_reducible assumption) | assumption)
             have q257 : x7_3 < (l1_1.length : Int) := of_decide_eq_true (by first | (with_reducible assumption) | assumption)
             obtain ⟨ad257, A257_1, c257_1, e257, hx257_0, hx257_1, hl257_1, hi257_1⟩ := at_T70 HR1_1.out x7_3 p257 q257
             cases e257
             replace hx257_0 := (HB.out.cell (World.block_lt_of_cell? w _ hx257_0)).trans hx257_0
             replace hx257_1 := (HB.out.cell (World.block_lt_of_cell? w _ hx257_1)).trans hx257_1
             have HR257_1 := Aside0.mk hi257_1
             have HC257_1 := Aside0.mk hl257_1
             clear hi257_1 hl257_1
             replace p257 := eq_true p257
             replace q257 := eq_true q257
             go_wp2
             repeat (go_quiet (fail); try go_wp2)
             go_ret
             exact ⟨fi, bl⟩
           ·rw [if_neg c43] at H
            exact absurd H (by simp)
          ·rw [if_neg c42] at H
           exact absurd H (by simp)
         ·rw [if_neg c41] at H
          have c41b0 := decide_eq_false c41
          clear c41
          obtain rfl := Option.some.inj H
          have hnb56 := NB247_248.out
          have hnc56 := NB248_247.out
          obtain ⟨hcz57_0, hcz57_1, hfz57_0, hfz57_1⟩ := cz2 (w := wr) BK247.out
          go_wp2
          repeat (go_quiet (fail); try go_wp2)
          go_ret
          exact ⟨fi, bl⟩

end Go.Proofs.Ytfpphaflbmlpeaa.GCandSame
