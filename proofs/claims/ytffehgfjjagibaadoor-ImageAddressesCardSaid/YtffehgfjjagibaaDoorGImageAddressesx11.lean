-- Written by wip/stub.py of this repo.
import Derived.Test.YtffehgfjjagibaaDoorGImageAddressesx0
import Derived.Test.YtffehgfjjagibaaDoorGImageAddressesx1
import Derived.Test.YtffehgfjjagibaaDoorGImageAddressesx2
import Derived.Test.YtffehgfjjagibaaDoorGImageAddressesx10
namespace Go.Proofs.YtffehgfjjagibaaDoor.GImageAddresses
open Go.RowKit Go.Proofs.YtffehgfjjagibaaDoorW.PrintWords Go.Proofs.YtffehgfjjagibaaDoorW.PrintLast Go.Proofs.YtffehgfjjagibaaDoorW.PrintMore
attribute [local go_sem] max2_int min2_int max_two min_two max_three min_three max_four min_four   -- for this text's walks alone
set_option linter.unusedVariables false
set_option linter.unusedSimpArgs false

/-! ### spinnakerlaw08_ImageAddresses: function 8 -/
def spinnakerlaw08_ImageAddresses.j0 : Nat → Int → Bool → List Int → List Int → List Int → Option (Bool)
  | 0, _, _, _, _, _ => none
  | k + 1, x1, x27, x390000, x390001, x390002 => if x27 = true then ((spinnakerlaw08_large.f x390000 x390001 x390002).bind fun t393 => (if t393 = true then ((spinnakerlaw08_awake.f k).bind fun t394 => (some t394)) else (some false))) else ((image_PC.f x1).bind fun t395 => ((image_Fetch.f k x390000 x390001 x390002 t395).bind fun bt396 => ((image_Addr.f x1).bind fun t405 => ((image_Place.f x390000 x390001 x390002 t405).bind fun bt406 => (if x1 > (-1099511627776) then (if x1 < 1099511627776 then (if x1 ≥ 0 then (if (bt396.2.2.2.2.2.2.2 == (decide (x1 < (x390000.length : Int)))) = true then (if (bt406.2 == (decide (x1 < (x390001.length : Int)))) = true then (if bt406.2 = true then (if bt406.1 = x1 then ((spinnakerlaw08_awake.f k).bind fun t408 => (some t408)) else (some false)) else ((spinnakerlaw08_awake.f k).bind fun t409 => (some t409))) else (some false)) else (some false)) else (if (bt396.2.2.2.2.2.2.2 == false) = true then (if (bt406.2 == false) = true then (if bt406.2 = true then (if bt406.1 = x1 then ((spinnakerlaw08_awake.f k).bind fun t410 => (some t410)) else (some false)) else ((spinnakerlaw08_awake.f k).bind fun t411 => (some t411))) else (some false)) else (some false))) else (if bt406.2 = true then ((spinnakerlaw08_awake.f k).bind fun t412 => (some t412)) else ((spinnakerlaw08_awake.f k).bind fun t413 => (some t413)))) else (if bt406.2 = true then ((spinnakerlaw08_awake.f k).bind fun t414 => (some t414)) else ((spinnakerlaw08_awake.f k).bind fun t415 => (some t415))))))))
def spinnakerlaw08_ImageAddresses.f (k : Nat) (l0_0 : List Int) (l0_1 : List Int) (l0_2 : List Int) (a1 : Int) : Option (Bool) := (spinnakerlaw08_large.f l0_0 l0_1 l0_2).bind fun t390 => (if t390 = true then (spinnakerlaw08_ImageAddresses.j0 k a1 true l0_0 l0_1 l0_2) else ((image_PC.f a1).bind fun t391 => (if t391 = (wrap64 (65536 + (wrap64 (4 * a1)))) then ((image_Addr.f a1).bind fun t392 => (spinnakerlaw08_ImageAddresses.j0 k a1 (t392 != (wrap64 (16777216 + (wrap64 (8 * a1))))) l0_0 l0_1 l0_2)) else (spinnakerlaw08_ImageAddresses.j0 k a1 true l0_0 l0_1 l0_2))))
theorem spinnakerlaw08_ImageAddresses.mono_l : ∀ k, (∀ y0 y1 y2 y3 y4, LeO (spinnakerlaw08_ImageAddresses.j0 k y0 y1 y2 y3 y4) (spinnakerlaw08_ImageAddresses.j0 (k + 1) y0 y1 y2 y3 y4))
 | 0 => fun _ _ _ _ _ r h => by simp [spinnakerlaw08_ImageAddresses.j0] at h
 | k + 1 => by
  have ih0 := spinnakerlaw08_ImageAddresses.mono_l k
  ·intro y0 y1 y2 y3 y4
   unfold spinnakerlaw08_ImageAddresses.j0
   repeat' first | (with_reducible first | exact ih0 _ _ _ _ _ | exact image_Fetch.mono _ _ _ _ _ | exact spinnakerlaw08_awake.mono _ | exact LeO.refl _ | exact LeO.none _ | refine LeO.ite ?_ ?_ | refine LeO.bind ?_ (fun _ => ?_)) | exact ih0 _ _ _ _ _ | exact image_Fetch.mono _ _ _ _ _ | exact spinnakerlaw08_awake.mono _ | exact LeO.none _ | refine LeO.ite ?_ ?_ | refine LeO.bind ?_ (fun _ => ?_)
theorem spinnakerlaw08_ImageAddresses.mono : ∀ a0 a1 a2 a3 k, LeO (spinnakerlaw08_ImageAddresses.f k a0 a1 a2 a3) (spinnakerlaw08_ImageAddresses.f (k + 1) a0 a1 a2 a3) := by
 intro a0 a1 a2 a3 k
 have ih0 := spinnakerlaw08_ImageAddresses.mono_l k
 unfold spinnakerlaw08_ImageAddresses.f
 repeat' first | (with_reducible first | exact ih0 _ _ _ _ _ | exact image_Fetch.mono _ _ _ _ _ | exact spinnakerlaw08_awake.mono _ | exact LeO.refl _ | exact LeO.none _ | refine LeO.ite ?_ ?_ | refine LeO.bind ?_ (fun _ => ?_)) | exact ih0 _ _ _ _ _ | exact image_Fetch.mono _ _ _ _ _ | exact spinnakerlaw08_awake.mono _ | exact LeO.none _ | refine LeO.ite ?_ ?_ | refine LeO.bind ?_ (fun _ => ?_)
def spinnakerlaw08_ImageAddresses.T3 : Bool × List (List Nat × List Nat) := (true, [([], []), ([], []), ([1], [1]), ([0, 2, 2], [0, 2]), ([3], [3]), ([4], [4]), ([4], [4]), ([], []), ([7, 5, 3, 0, 1, 2, 3, 4, 5, 7], [5, 7]), ([6, 8, 0, 1, 2, 3, 4, 5, 6, 7, 8], [6])])
def spinnakerlaw08_ImageAddresses.B3 : List Nat := [0, 0, 2, 7, 15, 31, 31, 0, 191, 511]
theorem spinnakerlaw08_ImageAddresses.tab3 : rtab .any (opsOf Tryd.f8 3) = spinnakerlaw08_ImageAddresses.T3 := by kernel_rfl
theorem spinnakerlaw08_ImageAddresses.bits3 : waitsOk spinnakerlaw08_ImageAddresses.T3.2 spinnakerlaw08_ImageAddresses.B3 = true := by kernel_rfl
def spinnakerlaw08_ImageAddresses.T4 : Bool × List (List Nat × List Nat) := (true, [([], []), ([], []), ([1], [1]), ([0, 2, 2], [0, 2]), ([3], [3]), ([4], [4]), ([4], [4]), ([5, 3, 0, 1, 2, 3, 4, 5], [5]), ([6, 7, 0, 1, 2, 3, 4, 5, 6, 7], [6])])
def spinnakerlaw08_ImageAddresses.B4 : List Nat := [0, 0, 2, 7, 15, 31, 31, 63, 255]
theorem spinnakerlaw08_ImageAddresses.tab4 : rtab .any (opsOf Tryd.f8 4) = spinnakerlaw08_ImageAddresses.T4 := by kernel_rfl
theorem spinnakerlaw08_ImageAddresses.bits4 : waitsOk spinnakerlaw08_ImageAddresses.T4.2 spinnakerlaw08_ImageAddresses.B4 = true := by kernel_rfl
set_option maxHeartbeats 8000000 in
set_option maxRecDepth 100000 in
theorem spinnakerlaw08_ImageAddresses.calls (k : Nat) (A0_0 : Option Addr) (c0_0 : Nat) (l0_0 : List Int) (A0_1 : Option Addr) (c0_1 : Nat) (l0_1 : List Int) (A0_2 : Option Addr) (c0_2 : Nat) (l0_2 : List Int) (a1 : Int) (r : Bool) (w : World) (hL : Laid w) (hr0_0 : Kd.C (Kd.int .u32) w A0_0 l0_0.length l0_0) (hc0_0 : l0_0.length ≤ c0_0) (hr0_1 : Kd.C (Kd.int .i64) w A0_1 l0_1.length l0_1) (hc0_1 : l0_1.length ≤ c0_1) (hr0_2 : Kd.C (Kd.int .i64) w A0_2 l0_2.length l0_2) (hc0_2 : l0_2.length ≤ c0_2) (h : spinnakerlaw08_ImageAddresses.f k l0_0 l0_1 l0_2 a1 = some r) :
  Calls Tryd.prog 8 #[.agg #[.slice A0_0 l0_0.length c0_0, .slice A0_1 l0_1.length c0_1, .slice A0_2 l0_2.length c0_2], .int .i64 a1] w fun e w' => e = .returned (.bool r) ∧ Below w.heap.size w w' := by
 have HL := Aside0.mk hL
 clear hL
 have hu43 := Tryd.underlying43
 have hu24 := Tryd.underlying24
 have HR0_0 := Aside0.mk hr0_0
 have HC0_0 := Aside0.mk hc0_0
 clear hr0_0 hc0_0
 have HR0_1 := Aside0.mk hr0_1
 have HC0_1 := Aside0.mk hc0_1
 clear hr0_1 hc0_1
 have HR0_2 := Aside0.mk hr0_2
 have HC0_2 := Aside0.mk hc0_2
 clear hr0_2 hc0_2
 have HB := Aside0.mk (Below.refl w.heap.size w)
 have H : ((spinnakerlaw08_large.f l0_0 l0_1 l0_2).bind fun t390 => (if t390 = true then (spinnakerlaw08_ImageAddresses.j0 k a1 true l0_0 l0_1 l0_2) else ((image_PC.f a1).bind fun t391 => (if t391 = (wrap64 (65536 + (wrap64 (4 * a1)))) then ((image_Addr.f a1).bind fun t392 => (spinnakerlaw08_ImageAddresses.j0 k a1 (t392 != (wrap64 (16777216 + (wrap64 (8 * a1))))) l0_0 l0_1 l0_2)) else (spinnakerlaw08_ImageAddresses.j0 k a1 true l0_0 l0_1 l0_2))))) = some r := h
 clear h
 have HC3 := Aside0.mk H
 clear H
 go_enter Tryd.func8, Tryd.ntmps8
 go_upto_region 1 with (first | ((with_reducible refine gate_dst (N := 2) rfl ?_); (try (refine gate_guard (by rfl) ?_; dsimp only)); refine box_event ?hg (N := 2) ?hd (cs := #[.slice A0_0 l0_0.length c0_0, .slice A0_1 l0_1.length c0_1, .slice A0_2 l0_2.length c0_2]) (t := 43) ?hr ?_; (case hd => rfl); (case hg => rfl); (case hr => first | (go_simp; done) | (go_simp; rfl)); intro gb389 hg w4 hbox hb; obtain ⟨n0_, GW389⟩ := nb (w := w) hg hb; clear HB; have HB := n0_; have BK389 := Aside0.mk hbox; have GE389 := GW389; clear n0_ hb hbox hg))
 (try simp only [Act.put, List.setIfInBounds_toArray, List.set_cons_zero, List.set_cons_succ])
 go_cut [27] (fun v27 wc => ∃ (kq : Nat) (x27_2 : Bool), v27 = .bool x27_2 ∧ Aside0 (spinnakerlaw08_ImageAddresses.j0 kq a1 x27_2 l0_0 l0_1 l0_2 = some r) ∧ Aside0 (kq ≤ k) ∧ Aside0 (wc.heap[gb389]? = some (.cells #[(.slice A0_0 l0_0.length c0_0), (.slice A0_1 l0_1.length c0_1), (.slice A0_2 l0_2.length c0_2)] 43 (0, 0))) ∧ Aside0 (Below w.heap.size w wc))
 case first =>
  have H := HC3.out
  clear HC3
  replace H := be H
  obtain ⟨t390, A5, H⟩ := H
  by_cases c6 : t390 = true
  ·subst c6
   have H1 : (spinnakerlaw08_ImageAddresses.j0 k a1 true l0_0 l0_1 l0_2) = some r := by rw [if_pos rfl] at H; exact H
   clear H
   have H := H1
   clear H1
   have H' := Aside0.mk H
   clear H
   obtain ⟨hcz7_0, hcz7_1, hcz7_2, hfz7_0, hfz7_1, hfz7_2⟩ := cz3 (w := w4) BK389.out
   go_wp2_with (first | ((with_reducible refine gate_callee (f := 18) rfl ?_); refine goesL_ (some 11) rfl rfl Tryd.func18 (by kernel_rfl) rfl #[.agg #[.slice A0_0 l0_0.length c0_0, .slice A0_1 l0_1.length c0_1, .slice A0_2 l0_2.length c0_2]] rfl ga ?_; (with_reducible refine (spinnakerlaw08_large.calls _ _ l0_0 _ _ l0_1 _ _ l0_2 true _ ?side1 ?side2 ?side3 ?side4 ?side5 ?side6 A5.out).mono ?_); (case side1 => repeat (first | exact (Kd.C_below HR0_0.out HB.out) | (with_reducible refine Kd.C_alloc ?_ _) | (with_reducible refine Kd.C_drewN ?_ _) | (with_reducible refine Kd.C_drew ?_))); (case side2 => exact HC0_0.out); (case side3 => repeat (first | exact (Kd.C_below HR0_1.out HB.out) | (with_reducible refine Kd.C_alloc ?_ _) | (with_reducible refine Kd.C_drewN ?_ _) | (with_reducible refine Kd.C_drew ?_))); (case side4 => exact HC0_1.out); (case side5 => repeat (first | exact (Kd.C_below HR0_2.out HB.out) | (with_reducible refine Kd.C_alloc ?_ _) | (with_reducible refine Kd.C_drewN ?_ _) | (with_reducible refine Kd.C_drew ?_))); (case side6 => exact HC0_2.out); rintro e w8 ⟨rfl, hb⟩; refine ⟨_, rfl, ?_⟩; have n0_ := Aside0.mk (blk_below (g := gb389) (o := .cells #[.slice A0_0 l0_0.length c0_0, .slice A0_1 l0_1.length c0_1, .slice A0_2 l0_2.length c0_2] 43 (0, 0)) (bk BK389.out) hb); have n1_ := Aside0.mk (below_step bl hb); clear BK389; clear HB; have BK389 := n0_; have HB := n1_; clear n0_ n1_; (try clear hb)))
   go_meet
   case rel => exact ⟨_, (true), fj, H', ⟨by first | omega | exact Nat.le_refl _⟩, ⟨by refine bx ?_; exact BK389.out⟩, ⟨bl⟩⟩
  ·replace c6 := Bool.eq_false_iff.mpr c6
   subst c6
   have H1 : ((image_PC.f a1).bind fun t391 => (if t391 = (wrap64 (65536 + (wrap64 (4 * a1)))) then ((image_Addr.f a1).bind fun t392 => (spinnakerlaw08_ImageAddresses.j0 k a1 (t392 != (wrap64 (16777216 + (wrap64 (8 * a1))))) l0_0 l0_1 l0_2)) else (spinnakerlaw08_ImageAddresses.j0 k a1 true l0_0 l0_1 l0_2))) = some r := by rw [if_neg (show ¬ (false = true) by decide)] at H; exact H
   clear H
   have H := H1
   clear H1
   replace H := be H
   obtain ⟨t391, A9, H⟩ := H
   by_cases c10 : t391 = (wrap64 (65536 + (wrap64 (4 * a1))))
   ·rw [if_pos c10] at H
    have c10b0 : (t391 == (wrap64 (65536 + (wrap64 (4 * a1))))) = true := beq_iff_eq.mpr c10
    have c10b1 : (t391 != (wrap64 (65536 + (wrap64 (4 * a1))))) = false := bne_eq_false_iff_eq.mpr c10
    clear c10
    (first | rw [c10b0] | (simp only [i64_w, i32_w]; rw [c10b0]) | skip)
    replace H := be H
    obtain ⟨t392, A11, H⟩ := H
    have H' := Aside0.mk H
    clear H
    obtain ⟨hcz12_0, hcz12_1, hcz12_2, hfz12_0, hfz12_1, hfz12_2⟩ := cz3 (w := w4) BK389.out
    go_wp2_with (first | ((with_reducible refine gate_callee (f := 18) rfl ?_); refine goesL_ (some 11) rfl rfl Tryd.func18 (by kernel_rfl) rfl #[.agg #[.slice A0_0 l0_0.length c0_0, .slice A0_1 l0_1.length c0_1, .slice A0_2 l0_2.length c0_2]] rfl ga ?_; (with_reducible refine (spinnakerlaw08_large.calls _ _ l0_0 _ _ l0_1 _ _ l0_2 false _ ?side1 ?side2 ?side3 ?side4 ?side5 ?side6 A5.out).mono ?_); (case side1 => repeat (first | exact (Kd.C_below HR0_0.out HB.out) | (with_reducible refine Kd.C_alloc ?_ _) | (with_reducible refine Kd.C_drewN ?_ _) | (with_reducible refine Kd.C_drew ?_))); (case side2 => exact HC0_0.out); (case side3 => repeat (first | exact (Kd.C_below HR0_1.out HB.out) | (with_reducible refine Kd.C_alloc ?_ _) | (with_reducible refine Kd.C_drewN ?_ _) | (with_reducible refine Kd.C_drew ?_))); (case side4 => exact HC0_1.out); (case side5 => repeat (first | exact (Kd.C_below HR0_2.out HB.out) | (with_reducible refine Kd.C_alloc ?_ _) | (with_reducible refine Kd.C_drewN ?_ _) | (with_reducible refine Kd.C_drew ?_))); (case side6 => exact HC0_2.out); rintro e w13 ⟨rfl, hb⟩; refine ⟨_, rfl, ?_⟩; have n0_ := Aside0.mk (blk_below (g := gb389) (o := .cells #[.slice A0_0 l0_0.length c0_0, .slice A0_1 l0_1.length c0_1, .slice A0_2 l0_2.length c0_2] 43 (0, 0)) (bk BK389.out) hb); have n1_ := Aside0.mk (below_step bl hb); clear BK389; clear HB; have BK389 := n0_; have HB := n1_; clear n0_ n1_; (try clear hb)) | (go_at_call 24; (with_reducible refine (image_PC.calls a1 t391 _ A9.out).mono ?_); rintro e w' ⟨rfl, ⟨nd, rfl⟩⟩) | (go_at_call 25; (with_reducible refine (image_Addr.calls a1 t392 _ A11.out).mono ?_); rintro e w' ⟨rfl, ⟨nd, rfl⟩⟩))
    go_meet
    case rel => exact ⟨_, ((t392 != (wrap64 (16777216 + (wrap64 (8 * a1)))))), fj, H', ⟨by first | omega | exact Nat.le_refl _⟩, ⟨by refine bx ?_; exact BK389.out⟩, ⟨bl⟩⟩
   ·rw [if_neg c10] at H
    have c10b0 : (t391 == (wrap64 (65536 + (wrap64 (4 * a1))))) = false := beq_eq_false_iff_ne.mpr c10
    have c10b1 : (t391 != (wrap64 (65536 + (wrap64 (4 * a1))))) = true := bne_iff_ne.mpr c10
    (first | rw [c10b0] | (simp only [i64_w, i32_w]; rw [c10b0]) | skip)
    have H' := Aside0.mk H
    clear H
    obtain ⟨hcz14_0, hcz14_1, hcz14_2, hfz14_0, hfz14_1, hfz14_2⟩ := cz3 (w := w4) BK389.out
    go_wp2_with (first | ((with_reducible refine gate_callee (f := 18) rfl ?_); refine goesL_ (some 11) rfl rfl Tryd.func18 (by kernel_rfl) rfl #[.agg #[.slice A0_0 l0_0.length c0_0, .slice A0_1 l0_1.length c0_1, .slice A0_2 l0_2.length c0_2]] rfl ga ?_; (with_reducible refine (spinnakerlaw08_large.calls _ _ l0_0 _ _ l0_1 _ _ l0_2 false _ ?side1 ?side2 ?side3 ?side4 ?side5 ?side6 A5.out).mono ?_); (case side1 => repeat (first | exact (Kd.C_below HR0_0.out HB.out) | (with_reducible refine Kd.C_alloc ?_ _) | (with_reducible refine Kd.C_drewN ?_ _) | (with_reducible refine Kd.C_drew ?_))); (case side2 => exact HC0_0.out); (case side3 => repeat (first | exact (Kd.C_below HR0_1.out HB.out) | (with_reducible refine Kd.C_alloc ?_ _) | (with_reducible refine Kd.C_drewN ?_ _) | (with_reducible refine Kd.C_drew ?_))); (case side4 => exact HC0_1.out); (case side5 => repeat (first | exact (Kd.C_below HR0_2.out HB.out) | (with_reducible refine Kd.C_alloc ?_ _) | (with_reducible refine Kd.C_drewN ?_ _) | (with_reducible refine Kd.C_drew ?_))); (case side6 => exact HC0_2.out); rintro e w15 ⟨rfl, hb⟩; refine ⟨_, rfl, ?_⟩; have n0_ := Aside0.mk (blk_below (g := gb389) (o := .cells #[.slice A0_0 l0_0.length c0_0, .slice A0_1 l0_1.length c0_1, .slice A0_2 l0_2.length c0_2] 43 (0, 0)) (bk BK389.out) hb); have n1_ := Aside0.mk (below_step bl hb); clear BK389; clear HB; have BK389 := n0_; have HB := n1_; clear n0_ n1_; (try clear hb)) | (go_at_call 24; (with_reducible refine (image_PC.calls a1 t391 _ A9.out).mono ?_); rintro e w' ⟨rfl, ⟨nd, rfl⟩⟩))
    go_meet
    case rel => exact ⟨_, (true), fj, H', ⟨by first | omega | exact Nat.le_refl _⟩, ⟨by refine bx ?_; exact BK389.out⟩, ⟨bl⟩⟩
 case rest =>
  clear HC3
  try clear c1
  try clear p2
  try clear c6
  try clear p6
  try clear c8
  try clear c10
  try clear c10b0
  try clear c10b1
  try clear hcz12_0 hcz12_1 hcz12_2
  try clear hcz14_0 hcz14_1 hcz14_2
  try clear hcz7_0 hcz7_1 hcz7_2
  try clear hfz12_0 hfz12_1 hfz12_2
  try clear hfz14_0 hfz14_1 hfz14_2
  try clear hfz7_0 hfz7_1 hfz7_2
  obtain ⟨kq, x27_2, rfl, HA, HJ2, BK389, HB⟩ := hcut
  cases kq with
  | zero => exact absurd HA.out (by simp [spinnakerlaw08_ImageAddresses.j0])
  | succ kj2 =>
   have H := HA.out
   clear HA
   simp only [spinnakerlaw08_ImageAddresses.j0] at H
   by_cases c16 : x27_2 = true
   ·subst c16
    have H1 : ((spinnakerlaw08_large.f l0_0 l0_1 l0_2).bind fun t393 => (if t393 = true then ((spinnakerlaw08_awake.f kj2).bind fun t394 => (some t394)) else (some false))) = some r := by rw [if_pos rfl] at H; exact H
    clear H
    have H := H1
    clear H1
    replace H := be H
    obtain ⟨t393, A17, H⟩ := H
    by_cases c18 : t393 = true
    ·subst c18
     have H1 : ((spinnakerlaw08_awake.f kj2).bind fun t394 => (some t394)) = some r := by rw [if_pos rfl] at H; exact H
     clear H
     have H := H1
     clear H1
     replace H := be H
     obtain ⟨t394, A19, H⟩ := H
     obtain rfl := Option.some.inj H
     obtain ⟨hcz20_0, hcz20_1, hcz20_2, hfz20_0, hfz20_1, hfz20_2⟩ := cz3 (w := wc) BK389.out
     go_wp2_with (first | ((with_reducible refine gate_callee (f := 18) rfl ?_); refine goesL_ (some 29) rfl rfl Tryd.func18 (by kernel_rfl) rfl #[.agg #[.slice A0_0 l0_0.length c0_0, .slice A0_1 l0_1.length c0_1, .slice A0_2 l0_2.length c0_2]] rfl ga ?_; (with_reducible refine (spinnakerlaw08_large.calls _ _ l0_0 _ _ l0_1 _ _ l0_2 true _ ?side1 ?side2 ?side3 ?side4 ?side5 ?side6 A17.out).mono ?_); (case side1 => repeat (first | exact (Kd.C_below HR0_0.out HB.out) | (with_reducible refine Kd.C_alloc ?_ _) | (with_reducible refine Kd.C_drewN ?_ _) | (with_reducible refine Kd.C_drew ?_))); (case side2 => exact HC0_0.out); (case side3 => repeat (first | exact (Kd.C_below HR0_1.out HB.out) | (with_reducible refine Kd.C_alloc ?_ _) | (with_reducible refine Kd.C_drewN ?_ _) | (with_reducible refine Kd.C_drew ?_))); (case side4 => exact HC0_1.out); (case side5 => repeat (first | exact (Kd.C_below HR0_2.out HB.out) | (with_reducible refine Kd.C_alloc ?_ _) | (with_reducible refine Kd.C_drewN ?_ _) | (with_reducible refine Kd.C_drew ?_))); (case side6 => exact HC0_2.out); rintro e w21 ⟨rfl, hb⟩; refine ⟨_, rfl, ?_⟩; have n0_ := Aside0.mk (blk_below (g := gb389) (o := .cells #[.slice A0_0 l0_0.length c0_0, .slice A0_1 l0_1.length c0_1, .slice A0_2 l0_2.length c0_2] 43 (0, 0)) (bk BK389.out) hb); have n1_ := Aside0.mk (below_step bl hb); clear BK389; clear HB; have BK389 := n0_; have HB := n1_; clear n0_ n1_; (try clear hb)) | (go_at_call 19; (with_reducible refine (spinnakerlaw08_awake.calls kj2  t394 _ A19.out).mono ?_); rintro e w22 ⟨rfl, hb⟩; have n0_ := Aside0.mk (blk_below (g := gb389) (o := .cells #[.slice A0_0 l0_0.length c0_0, .slice A0_1 l0_1.length c0_1, .slice A0_2 l0_2.length c0_2] 43 (0, 0)) (bk BK389.out) hb); have n1_ := Aside0.mk (below_step bl hb); clear BK389; clear HB; have BK389 := n0_; have HB := n1_; clear n0_ n1_; (try clear hb)))
     go_ret
     exact ⟨fi, bl⟩
    ·replace c18 := Bool.eq_false_iff.mpr c18
     subst c18
     have H1 : (some false) = some r := by rw [if_neg (show ¬ (false = true) by decide)] at H; exact H
     clear H
     have H := H1
     clear H1
     obtain rfl := Option.some.inj H
     obtain ⟨hcz23_0, hcz23_1, hcz23_2, hfz23_0, hfz23_1, hfz23_2⟩ := cz3 (w := wc) BK389.out
     go_wp2_with (first | ((with_reducible refine gate_callee (f := 18) rfl ?_); refine goesL_ (some 29) rfl rfl Tryd.func18 (by kernel_rfl) rfl #[.agg #[.slice A0_0 l0_0.length c0_0, .slice A0_1 l0_1.length c0_1, .slice A0_2 l0_2.length c0_2]] rfl ga ?_; (with_reducible refine (spinnakerlaw08_large.calls _ _ l0_0 _ _ l0_1 _ _ l0_2 false _ ?side1 ?side2 ?side3 ?side4 ?side5 ?side6 A17.out).mono ?_); (case side1 => repeat (first | exact (Kd.C_below HR0_0.out HB.out) | (with_reducible refine Kd.C_alloc ?_ _) | (with_reducible refine Kd.C_drewN ?_ _) | (with_reducible refine Kd.C_drew ?_))); (case side2 => exact HC0_0.out); (case side3 => repeat (first | exact (Kd.C_below HR0_1.out HB.out) | (with_reducible refine Kd.C_alloc ?_ _) | (with_reducible refine Kd.C_drewN ?_ _) | (with_reducible refine Kd.C_drew ?_))); (case side4 => exact HC0_1.out); (case side5 => repeat (first | exact (Kd.C_below HR0_2.out HB.out) | (with_reducible refine Kd.C_alloc ?_ _) | (with_reducible refine Kd.C_drewN ?_ _) | (with_reducible refine Kd.C_drew ?_))); (case side6 => exact HC0_2.out); rintro e w24 ⟨rfl, hb⟩; refine ⟨_, rfl, ?_⟩; have n0_ := Aside0.mk (blk_below (g := gb389) (o := .cells #[.slice A0_0 l0_0.length c0_0, .slice A0_1 l0_1.length c0_1, .slice A0_2 l0_2.length c0_2] 43 (0, 0)) (bk BK389.out) hb); have n1_ := Aside0.mk (below_step bl hb); clear BK389; clear HB; have BK389 := n0_; have HB := n1_; clear n0_ n1_; (try clear hb)))
     go_ret
     exact ⟨fi, bl⟩
   ·replace c16 := Bool.eq_false_iff.mpr c16
    subst c16
    have H1 : ((image_PC.f a1).bind fun t395 => ((image_Fetch.f kj2 l0_0 l0_1 l0_2 t395).bind fun bt396 => ((image_Addr.f a1).bind fun t405 => ((image_Place.f l0_0 l0_1 l0_2 t405).bind fun bt406 => (if a1 > (-1099511627776) then (if a1 < 1099511627776 then (if a1 ≥ 0 then (if (bt396.2.2.2.2.2.2.2 == (decide (a1 < (l0_0.length : Int)))) = true then (if (bt406.2 == (decide (a1 < (l0_1.length : Int)))) = true then (if bt406.2 = true then (if bt406.1 = a1 then ((spinnakerlaw08_awake.f kj2).bind fun t408 => (some t408)) else (some false)) else ((spinnakerlaw08_awake.f kj2).bind fun t409 => (some t409))) else (some false)) else (some false)) else (if (bt396.2.2.2.2.2.2.2 == false) = true then (if (bt406.2 == false) = true then (if bt406.2 = true then (if bt406.1 = a1 then ((spinnakerlaw08_awake.f kj2).bind fun t410 => (some t410)) else (some false)) else ((spinnakerlaw08_awake.f kj2).bind fun t411 => (some t411))) else (some false)) else (some false))) else (if bt406.2 = true then ((spinnakerlaw08_awake.f kj2).bind fun t412 => (some t412)) else ((spinnakerlaw08_awake.f kj2).bind fun t413 => (some t413)))) else (if bt406.2 = true then ((spinnakerlaw08_awake.f kj2).bind fun t414 => (some t414)) else ((spinnakerlaw08_awake.f kj2).bind fun t415 => (some t415)))))))) = some r := by rw [if_neg (show ¬ (false = true) by decide)] at H; exact H
    clear H
    have H := H1
    clear H1
    replace H := be H
    obtain ⟨t395, A25, H⟩ := H
    replace H := be H
    obtain ⟨⟨t396, t397, t398, t399, t400, t401, t402, t403⟩, A26, H⟩ := H
    dsimp only at H
    replace H := be H
    obtain ⟨t405, A27, H⟩ := H
    replace H := be H
    obtain ⟨⟨t406, t407⟩, A28, H⟩ := H
    dsimp only at H
    try go_wp2
    have n0_ := Aside0.mk (blk_drew BK389.out)
    have n1_ := Aside0.mk (below_drew1 HB.out)
    clear BK389
    clear HB
    have BK389 := n0_
    have HB := n1_
    clear n0_ n1_
    refine start_ (n := 10) (S := fun w' => w'.cell? ⟨gb389, 0, none⟩ = some (.slice A0_0 l0_0.length c0_0) ∧ w'.cell? ⟨gb389, 1, none⟩ = some (.slice A0_1 l0_1.length c0_1) ∧ w'.cell? ⟨gb389, 2, none⟩ = some (.slice A0_2 l0_2.length c0_2)) (ds := []) (fl 10 0) (by kernel_rfl) rfl rfl (cy3 BK389.out) (fun hHeld => ?_); refine with_tabW spinnakerlaw08_ImageAddresses.tab3 spinnakerlaw08_ImageAddresses.bits3 (fun HT_ HW_ => ?_)
    generalize wc.drew = w88 at BK389 HB hHeld ⊢
    refine pq 1 (some 35) ?_ #[false, true, false, false, false, false, false, false, false, false] HT_.out rfl rfl ?_ ?_ ?_ ?_
    rotate_left
    ·intro w'
     go_simp
     with_reducible rfl
    rotate_left
    ·refine pt ?_
     rfl
    refine pk 0 (some 34) ?_ (fl 10 2) HT_.out HW_.out rfl rfl ?_ hHeld ?_ ?_ ?_
    rotate_left
    ·rintro w' ⟨s0, s1, s2⟩
     go_simp
     with_reducible rfl
    rotate_left
    ·refine pt ?_
     rfl
    refine join_ (σ := Nat) 2 (fl 10 8) (fun s_ => [(36, .int .i64 t395), (37, .tuple #[.agg #[.int .i64 t396, .int .i64 t397, .int .i64 t398, .int .i64 t399, .int .i64 t400, .bool t401, .bool t402], .bool t403]), (5, .pointer (some ⟨s_, 0, none⟩)), (33, .tuple #[.agg #[.int .i64 t396, .int .i64 t397, .int .i64 t398, .int .i64 t399, .int .i64 t400, .bool t401, .bool t402], .bool t403]), (38, .agg #[.int .i64 t396, .int .i64 t397, .int .i64 t398, .int .i64 t399, .int .i64 t400, .bool t401, .bool t402]), (39, .bool t403)]) (fun s_ w' => (w'.cell? ⟨gb389, 0, none⟩ = some (.slice A0_0 l0_0.length c0_0) ∧ w'.cell? ⟨gb389, 1, none⟩ = some (.slice A0_1 l0_1.length c0_1) ∧ w'.cell? ⟨gb389, 2, none⟩ = some (.slice A0_2 l0_2.length c0_2)) ∧ (w'.heap[gb389]? = some (.cells #[.slice A0_0 l0_0.length c0_0, .slice A0_1 l0_1.length c0_1, .slice A0_2 l0_2.length c0_2] 43 (0, 0))) ∧ (w'.heap[s_]? = some (.cells #[.int .i64 0, .int .i64 0, .int .i64 0, .int .i64 0, .int .i64 0, .bool false, .bool false] 24 (0, 0))) ∧ (w.heap.size ≤ s_) ∧ (w.heap.size ≤ s_) ∧ (gb389 ≠ s_) ∧ (s_ ≠ gb389) ∧ (Below w.heap.size w w')) ?_ ?_
    rotate_left
    ·intro hCont
     refine two_ (i := 2) (j := 7) (Ni := some 36) (Nj := some 5) (fl 10 3) #[true, true, false, false, false, false, false, true, false, false] rfl rfl rfl rfl (two_of HT_.out (by kernel_rfl)) (by decide) (by decide) (fun K hK => ?_) (fun K hK => ?_)
     ·skip
      refine goes_ Tryd.func24 (by kernel_rfl) rfl #[.int .i64 a1] (by rfl) rfl rfl ga ?_
      with_reducible refine (image_PC.calls a1 t395 _ A25.out).mono ?_
      rintro e w' ⟨rfl, ⟨nd, rfl⟩⟩
      refine ⟨_, rfl, ?_⟩
      refine hK.out _ _ (cy3 BK389.out) (fun hHeld => ?_)
      clear hK K
      refine norm_ (a' := ?_) ?_ ?_
      rotate_left
      ·show Act.put _ (some 36) _ = _
       refine pt ?_
       rfl
      refine two_ (i := 3) (j := 7) (Ni := some 37) (Nj := some 5) (fl 10 4) #[true, true, true, false, false, false, false, true, false, false] rfl rfl rfl rfl (two_of HT_.out (by kernel_rfl)) (by decide) (by decide) (fun K hK => ?_) (fun K hK => ?_)
      ·skip
       refine goes_ Tryd.func20 (by kernel_rfl) rfl #[.agg #[.slice A0_0 l0_0.length c0_0, .slice A0_1 l0_1.length c0_1, .slice A0_2 l0_2.length c0_2], .int .i64 t395] (by rfl) rfl rfl ga ?_
       with_reducible refine (image_Fetch.calls kj2 _ _ l0_0 _ _ l0_1 _ _ l0_2 t395 t396 t397 t398 t399 t400 t401 t402 t403 _ (by first | exact HL.out | exact laid_drewN HL.out | exact laid_below HL.out bl | exact laid_below HL.out HB.out | exact laid_belowd HL.out HB.out) ?side1 ?side2 ?side3 ?side4 ?side5 ?side6 A26.out).mono ?_
       (case side1 => repeat (first | exact (Kd.C_below HR0_0.out bl) | (with_reducible refine Kd.C_alloc ?_ _) | (with_reducible refine Kd.C_drewN ?_ _) | (with_reducible refine Kd.C_drew ?_)))
       (case side2 => exact HC0_0.out)
       (case side3 => repeat (first | exact (Kd.C_below HR0_1.out bl) | (with_reducible refine Kd.C_alloc ?_ _) | (with_reducible refine Kd.C_drewN ?_ _) | (with_reducible refine Kd.C_drew ?_)))
       (case side4 => exact HC0_1.out)
       (case side5 => repeat (first | exact (Kd.C_below HR0_2.out bl) | (with_reducible refine Kd.C_alloc ?_ _) | (with_reducible refine Kd.C_drewN ?_ _) | (with_reducible refine Kd.C_drew ?_)))
       (case side6 => exact HC0_2.out)
       rintro e w89 ⟨rfl, hb⟩
       refine ⟨_, rfl, ?_⟩
       have n0_ := Aside0.mk (blk_below (g := gb389) (o := .cells #[.slice A0_0 l0_0.length c0_0, .slice A0_1 l0_1.length c0_1, .slice A0_2 l0_2.length c0_2] 43 (0, 0)) (bk BK389.out) hb)
       have n1_ := Aside0.mk (below_step bl hb)
       clear BK389
       clear HB
       have BK389 := n0_
       have HB := n1_
       clear n0_ n1_
       (try clear hb)
       (try clear hb2)
       (try clear hk)
       (try clear hi)
       refine hK.out _ _ (cy3 BK389.out) (fun hHeld => ?_)
       clear hK K
       refine norm_ (a' := ?_) ?_ ?_
       rotate_left
       ·show Act.put _ (some 37) _ = _
        refine pt ?_
        rfl
       refine pq 4 (some 33) ?_ (fl 10 5) HT_.out rfl rfl ?_ ?_ ?_ ?_
       rotate_left
       ·intro w'
        go_simp
        with_reducible rfl
       rotate_left
       ·refine pt ?_
        rfl
       refine pq 5 (some 38) ?_ (fl 10 6) HT_.out rfl rfl ?_ ?_ ?_ ?_
       rotate_left
       ·intro w'
        go_simp
        with_reducible rfl
       rotate_left
       ·refine pt ?_
        rfl
       refine pq 6 (some 39) ?_ (fl 10 7) HT_.out rfl rfl ?_ ?_ ?_ ?_
       rotate_left
       ·intro w'
        go_simp
        with_reducible rfl
       rotate_left
       ·refine pt ?_
        rfl
       refine one_ (i := 7) (N := some 5) (fl 10 8) rfl rfl (one_of HT_.out (by kernel_rfl)) (by decide) (fun K hK => ?_)
       refine box_step ?hg (N := 5) ?hd (cs := #[.int .i64 0, .int .i64 0, .int .i64 0, .int .i64 0, .int .i64 0, .bool false, .bool false]) (t := 24) ?hr ?_; (case hd => rfl); (case hg => rfl); (case hr => first | (go_simp; done) | (go_simp; rfl))
       intro gb404 hg w90 hbox hb
       have n0_ := Aside0.mk (blk_below (g := gb389) (o := .cells #[.slice A0_0 l0_0.length c0_0, .slice A0_1 l0_1.length c0_1, .slice A0_2 l0_2.length c0_2] 43 (0, 0)) (bk BK389.out) hb)
       have n1_ := Aside0.mk (below_step bl hb)
       have n2_ := Aside0.mk (hbox)
       have n3_ := Aside0.mk ((by rw [hg]; exact (below_size bl) : w.heap.size ≤ gb404))
       have n4_ := Aside0.mk ((by rw [hg]; exact (below_size bl) : w.heap.size ≤ gb404))
       have n5_ := Aside0.mk ((by rw [hg]; exact Nat.ne_of_lt (blk_lt (g := gb389) (o := .cells #[.slice A0_0 l0_0.length c0_0, .slice A0_1 l0_1.length c0_1, .slice A0_2 l0_2.length c0_2] 43 (0, 0)) (bk BK389.out)) : gb389 ≠ gb404))
       have n6_ := Aside0.mk ((by rw [hg]; exact Nat.ne_of_gt (blk_lt (g := gb389) (o := .cells #[.slice A0_0 l0_0.length c0_0, .slice A0_1 l0_1.length c0_1, .slice A0_2 l0_2.length c0_2] 43 (0, 0)) (bk BK389.out)) : gb404 ≠ gb389))
       clear BK389
       clear HB
       have BK389 := n0_
       have HB := n1_
       have BK404 := n2_
       have GW404 := n3_
       have GE404 := n4_
       have NB389_404 := n5_
       have NB404_389 := n6_
       clear n0_ n1_ n2_ n3_ n4_ n5_ n6_
       clear hb hbox hg
       refine hK.out _ _ (cy3 BK389.out) (fun hHeld => ?_)
       clear hK K
       refine norm_ (a' := ?_) ?_ ?_
       rotate_left
       ·show Act.put _ (some 5) _ = _
        refine pt ?_
        rfl
       exact norm_ (by simp only [putAll, Act.put, List.setIfInBounds_toArray, List.set_cons_zero, List.set_cons_succ]) (hCont (gb404) _ ⟨hHeld, (bk BK389.out), (bk BK404.out), GW404.out, GE404.out, NB389_404.out, NB404_389.out, bl⟩)
      ·skip
       refine box_step ?hg (N := 5) ?hd (cs := #[.int .i64 0, .int .i64 0, .int .i64 0, .int .i64 0, .int .i64 0, .bool false, .bool false]) (t := 24) ?hr ?_; (case hd => rfl); (case hg => rfl); (case hr => first | (go_simp; done) | (go_simp; rfl))
       intro gb404 hg w89 hbox hb
       have n0_ := Aside0.mk (blk_below (g := gb389) (o := .cells #[.slice A0_0 l0_0.length c0_0, .slice A0_1 l0_1.length c0_1, .slice A0_2 l0_2.length c0_2] 43 (0, 0)) (bk BK389.out) hb)
       have n1_ := Aside0.mk (below_step bl hb)
       have n2_ := Aside0.mk (hbox)
       have n3_ := Aside0.mk ((by rw [hg]; exact (below_size bl) : w.heap.size ≤ gb404))
       have n4_ := Aside0.mk ((by rw [hg]; exact (below_size bl) : w.heap.size ≤ gb404))
       have n5_ := Aside0.mk ((by rw [hg]; exact Nat.ne_of_lt (blk_lt (g := gb389) (o := .cells #[.slice A0_0 l0_0.length c0_0, .slice A0_1 l0_1.length c0_1, .slice A0_2 l0_2.length c0_2] 43 (0, 0)) (bk BK389.out)) : gb389 ≠ gb404))
       have n6_ := Aside0.mk ((by rw [hg]; exact Nat.ne_of_gt (blk_lt (g := gb389) (o := .cells #[.slice A0_0 l0_0.length c0_0, .slice A0_1 l0_1.length c0_1, .slice A0_2 l0_2.length c0_2] 43 (0, 0)) (bk BK389.out)) : gb404 ≠ gb389))
       clear BK389
       clear HB
       have BK389 := n0_
       have HB := n1_
       have BK404 := n2_
       have GW404 := n3_
       have GE404 := n4_
       have NB389_404 := n5_
       have NB404_389 := n6_
       clear n0_ n1_ n2_ n3_ n4_ n5_ n6_
       clear hb hbox hg
       refine hK.out _ _ (cy3 BK389.out) (fun hHeld => ?_)
       clear hK K
       refine norm_ (a' := ?_) ?_ ?_
       rotate_left
       ·show Act.put _ (some 5) _ = _
        refine pt ?_
        rfl
       refine one_ (i := 3) (N := some 37) #[true, true, true, true, false, false, false, true, false, false] rfl rfl (one_of HT_.out (by kernel_rfl)) (by decide) (fun K hK => ?_)
       refine goes_ Tryd.func20 (by kernel_rfl) rfl #[.agg #[.slice A0_0 l0_0.length c0_0, .slice A0_1 l0_1.length c0_1, .slice A0_2 l0_2.length c0_2], .int .i64 t395] (by rfl) rfl rfl ga ?_
       with_reducible refine (image_Fetch.calls kj2 _ _ l0_0 _ _ l0_1 _ _ l0_2 t395 t396 t397 t398 t399 t400 t401 t402 t403 _ (by first | exact HL.out | exact laid_drewN HL.out | exact laid_below HL.out bl | exact laid_below HL.out HB.out | exact laid_belowd HL.out HB.out) ?side1 ?side2 ?side3 ?side4 ?side5 ?side6 A26.out).mono ?_
       (case side1 => repeat (first | exact (Kd.C_below HR0_0.out HB.out) | (with_reducible refine Kd.C_alloc ?_ _) | (with_reducible refine Kd.C_drewN ?_ _) | (with_reducible refine Kd.C_drew ?_)))
       (case side2 => exact HC0_0.out)
       (case side3 => repeat (first | exact (Kd.C_below HR0_1.out HB.out) | (with_reducible refine Kd.C_alloc ?_ _) | (with_reducible refine Kd.C_drewN ?_ _) | (with_reducible refine Kd.C_drew ?_)))
       (case side4 => exact HC0_1.out)
       (case side5 => repeat (first | exact (Kd.C_below HR0_2.out HB.out) | (with_reducible refine Kd.C_alloc ?_ _) | (with_reducible refine Kd.C_drewN ?_ _) | (with_reducible refine Kd.C_drew ?_)))
       (case side6 => exact HC0_2.out)
       rintro e w90 ⟨rfl, hb⟩
       refine ⟨_, rfl, ?_⟩
       have n0_ := Aside0.mk (blk_below (g := gb389) (o := .cells #[.slice A0_0 l0_0.length c0_0, .slice A0_1 l0_1.length c0_1, .slice A0_2 l0_2.length c0_2] 43 (0, 0)) (bk BK389.out) hb)
       have n1_ := Aside0.mk (blk_below (g := gb404) (o := .cells #[.int .i64 0, .int .i64 0, .int .i64 0, .int .i64 0, .int .i64 0, .bool false, .bool false] 24 (0, 0)) (bk BK404.out) hb)
       have n2_ := Aside0.mk (below_step bl hb)
       clear BK389
       clear BK404
       clear HB
       have BK389 := n0_
       have BK404 := n1_
       have HB := n2_
       clear n0_ n1_ n2_
       (try clear hb)
       (try clear hb2)
       (try clear hk)
       (try clear hi)
       refine hK.out _ _ (cy3 BK389.out) (fun hHeld => ?_)
       clear hK K
       refine norm_ (a' := ?_) ?_ ?_
       rotate_left
       ·show Act.put _ (some 37) _ = _
        refine pt ?_
        rfl
       refine pq 4 (some 33) ?_ #[true, true, true, true, true, false, false, true, false, false] HT_.out rfl rfl ?_ ?_ ?_ ?_
       rotate_left
       ·intro w'
        go_simp
        with_reducible rfl
       rotate_left
       ·refine pt ?_
        rfl
       refine pq 5 (some 38) ?_ #[true, true, true, true, true, true, false, true, false, false] HT_.out rfl rfl ?_ ?_ ?_ ?_
       rotate_left
       ·intro w'
        go_simp
        with_reducible rfl
       rotate_left
       ·refine pt ?_
        rfl
       refine pq 6 (some 39) ?_ (fl 10 8) HT_.out rfl rfl ?_ ?_ ?_ ?_
       rotate_left
       ·intro w'
        go_simp
        with_reducible rfl
       rotate_left
       ·refine pt ?_
        rfl
       exact norm_ (by simp only [putAll, Act.put, List.setIfInBounds_toArray, List.set_cons_zero, List.set_cons_succ]) (hCont (gb404) _ ⟨hHeld, (bk BK389.out), (bk BK404.out), GW404.out, GE404.out, NB389_404.out, NB404_389.out, bl⟩)
     ·skip
      refine box_step ?hg (N := 5) ?hd (cs := #[.int .i64 0, .int .i64 0, .int .i64 0, .int .i64 0, .int .i64 0, .bool false, .bool false]) (t := 24) ?hr ?_; (case hd => rfl); (case hg => rfl); (case hr => first | (go_simp; done) | (go_simp; rfl))
      intro gb404 hg w89 hbox hb
      have n0_ := Aside0.mk (blk_below (g := gb389) (o := .cells #[.slice A0_0 l0_0.length c0_0, .slice A0_1 l0_1.length c0_1, .slice A0_2 l0_2.length c0_2] 43 (0, 0)) (bk BK389.out) hb)
      have n1_ := Aside0.mk (below_step bl hb)
      have n2_ := Aside0.mk (hbox)
      have n3_ := Aside0.mk ((by rw [hg]; exact (below_size bl) : w.heap.size ≤ gb404))
      have n4_ := Aside0.mk ((by rw [hg]; exact (below_size bl) : w.heap.size ≤ gb404))
      have n5_ := Aside0.mk ((by rw [hg]; exact Nat.ne_of_lt (blk_lt (g := gb389) (o := .cells #[.slice A0_0 l0_0.length c0_0, .slice A0_1 l0_1.length c0_1, .slice A0_2 l0_2.length c0_2] 43 (0, 0)) (bk BK389.out)) : gb389 ≠ gb404))
      have n6_ := Aside0.mk ((by rw [hg]; exact Nat.ne_of_gt (blk_lt (g := gb389) (o := .cells #[.slice A0_0 l0_0.length c0_0, .slice A0_1 l0_1.length c0_1, .slice A0_2 l0_2.length c0_2] 43 (0, 0)) (bk BK389.out)) : gb404 ≠ gb389))
      clear BK389
      clear HB
      have BK389 := n0_
      have HB := n1_
      have BK404 := n2_
      have GW404 := n3_
      have GE404 := n4_
      have NB389_404 := n5_
      have NB404_389 := n6_
      clear n0_ n1_ n2_ n3_ n4_ n5_ n6_
      clear hb hbox hg
      refine hK.out _ _ (cy3 BK389.out) (fun hHeld => ?_)
      clear hK K
      refine norm_ (a' := ?_) ?_ ?_
      rotate_left
      ·show Act.put _ (some 5) _ = _
       refine pt ?_
       rfl
      refine one_ (i := 2) (N := some 36) #[true, true, true, false, false, false, false, true, false, false] rfl rfl (one_of HT_.out (by kernel_rfl)) (by decide) (fun K hK => ?_)
      refine goes_ Tryd.func24 (by kernel_rfl) rfl #[.int .i64 a1] (by rfl) rfl rfl ga ?_
      with_reducible refine (image_PC.calls a1 t395 _ A25.out).mono ?_
      rintro e w' ⟨rfl, ⟨nd, rfl⟩⟩
      refine ⟨_, rfl, ?_⟩
      refine hK.out _ _ (cy3 BK389.out) (fun hHeld => ?_)
      clear hK K
      refine norm_ (a' := ?_) ?_ ?_
      rotate_left
      ·show Act.put _ (some 36) _ = _
       refine pt ?_
       rfl
      refine one_ (i := 3) (N := some 37) #[true, true, true, true, false, false, false, true, false, false] rfl rfl (one_of HT_.out (by kernel_rfl)) (by decide) (fun K hK => ?_)
      refine goes_ Tryd.func20 (by kernel_rfl) rfl #[.agg #[.slice A0_0 l0_0.length c0_0, .slice A0_1 l0_1.length c0_1, .slice A0_2 l0_2.length c0_2], .int .i64 t395] (by rfl) rfl rfl ga ?_
      with_reducible refine (image_Fetch.calls kj2 _ _ l0_0 _ _ l0_1 _ _ l0_2 t395 t396 t397 t398 t399 t400 t401 t402 t403 _ (by first | exact HL.out | exact laid_drewN HL.out | exact laid_below HL.out bl | exact laid_below HL.out HB.out | exact laid_belowd HL.out HB.out) ?side1 ?side2 ?side3 ?side4 ?side5 ?side6 A26.out).mono ?_
      (case side1 => repeat (first | exact (Kd.C_below HR0_0.out bl) | (with_reducible refine Kd.C_alloc ?_ _) | (with_reducible refine Kd.C_drewN ?_ _) | (with_reducible refine Kd.C_drew ?_)))
      (case side2 => exact HC0_0.out)
      (case side3 => repeat (first | exact (Kd.C_below HR0_1.out bl) | (with_reducible refine Kd.C_alloc ?_ _) | (with_reducible refine Kd.C_drewN ?_ _) | (with_reducible refine Kd.C_drew ?_)))
      (case side4 => exact HC0_1.out)
      (case side5 => repeat (first | exact (Kd.C_below HR0_2.out bl) | (with_reducible refine Kd.C_alloc ?_ _) | (with_reducible refine Kd.C_drewN ?_ _) | (with_reducible refine Kd.C_drew ?_)))
      (case side6 => exact HC0_2.out)
      rintro e w90 ⟨rfl, hb⟩
      refine ⟨_, rfl, ?_⟩
      have n0_ := Aside0.mk (blk_below (g := gb389) (o := .cells #[.slice A0_0 l0_0.length c0_0, .slice A0_1 l0_1.length c0_1, .slice A0_2 l0_2.length c0_2] 43 (0, 0)) (bk BK389.out) hb)
      have n1_ := Aside0.mk (blk_below (g := gb404) (o := .cells #[.int .i64 0, .int .i64 0, .int .i64 0, .int .i64 0, .int .i64 0, .bool false, .bool false] 24 (0, 0)) (bk BK404.out) hb)
      have n2_ := Aside0.mk (below_step bl hb)
      clear BK389
      clear BK404
      clear HB
      have BK389 := n0_
      have BK404 := n1_
      have HB := n2_
      clear n0_ n1_ n2_
      (try clear hb)
      (try clear hb2)
      (try clear hk)
      (try clear hi)
      refine hK.out _ _ (cy3 BK389.out) (fun hHeld => ?_)
      clear hK K
      refine norm_ (a' := ?_) ?_ ?_
      rotate_left
      ·show Act.put _ (some 37) _ = _
       refine pt ?_
       rfl
      refine pq 4 (some 33) ?_ #[true, true, true, true, true, false, false, true, false, false] HT_.out rfl rfl ?_ ?_ ?_ ?_
      rotate_left
      ·intro w'
       go_simp
       with_reducible rfl
      rotate_left
      ·refine pt ?_
       rfl
      refine pq 5 (some 38) ?_ #[true, true, true, true, true, true, false, true, false, false] HT_.out rfl rfl ?_ ?_ ?_ ?_
      rotate_left
      ·intro w'
       go_simp
       with_reducible rfl
      rotate_left
      ·refine pt ?_
       rfl
      refine pq 6 (some 39) ?_ (fl 10 8) HT_.out rfl rfl ?_ ?_ ?_ ?_
      rotate_left
      ·intro w'
       go_simp
       with_reducible rfl
      rotate_left
      ·refine pt ?_
       rfl
      exact norm_ (by simp only [putAll, Act.put, List.setIfInBounds_toArray, List.set_cons_zero, List.set_cons_succ]) (hCont (gb404) _ ⟨hHeld, (bk BK389.out), (bk BK404.out), GW404.out, GE404.out, NB389_404.out, NB404_389.out, bl⟩)
    rintro gb404 w91 ⟨hS_, h0_, h1_, h2_, h3_, h4_, h5_, h6_⟩
    have n0_ : Aside0 (w91.heap[gb389]? = some (.cells #[.slice A0_0 l0_0.length c0_0, .slice A0_1 l0_1.length c0_1, .slice A0_2 l0_2.length c0_2] 43 (0, 0))) := ⟨h0_⟩
    have n1_ : Aside0 (w91.heap[gb404]? = some (.cells #[.int .i64 0, .int .i64 0, .int .i64 0, .int .i64 0, .int .i64 0, .bool false, .bool false] 24 (0, 0))) := ⟨h1_⟩
    have n2_ : Aside0 (w.heap.size ≤ gb404) := ⟨h2_⟩
    have n3_ : Aside0 (w.heap.size ≤ gb404) := ⟨h3_⟩
    have n4_ : Aside0 (gb389 ≠ gb404) := ⟨h4_⟩
    have n5_ : Aside0 (gb404 ≠ gb389) := ⟨h5_⟩
    have n6_ : Aside0 (Below w.heap.size w w91) := ⟨h6_⟩
    clear BK389
    clear HB
    clear h0_ h1_ h2_ h3_ h4_ h5_ h6_
    have BK389 := n0_
    have BK404 := n1_
    have GW404 := n2_
    have GE404 := n3_
    have NB389_404 := n4_
    have NB404_389 := n5_
    have HB := n6_
    clear n0_ n1_ n2_ n3_ n4_ n5_ n6_
    have hHeld : w91.cell? ⟨gb389, 0, none⟩ = some (.slice A0_0 l0_0.length c0_0) ∧ w91.cell? ⟨gb389, 1, none⟩ = some (.slice A0_1 l0_1.length c0_1) ∧ w91.cell? ⟨gb389, 2, none⟩ = some (.slice A0_2 l0_2.length c0_2) := hS_
    refine norm_ (a' := ?_) ?_ ?_
    rotate_left
    ·simp only [putAll, Act.put, List.setIfInBounds_toArray, List.set_cons_zero, List.set_cons_succ]
     rfl
    refine one_ (i := 8) (N := none) (fl 10 9) rfl rfl (one_of HT_.out (by kernel_rfl)) (by decide) (fun K hK => ?_)
    have hs92 : w91.cell? ⟨gb404, 0, none⟩ = some (.int .i64 0) := (blk_cell BK404.out 0).trans rfl
    have hfs92 := blk_frozen BK404.out 0
    have hns92_0 := NB389_404.out
    have hms92_0 := NB404_389.out
    have hs93 : w91.cell? ⟨gb404, 1, none⟩ = some (.int .i64 0) := (blk_cell BK404.out 1).trans rfl
    have hfs93 := blk_frozen BK404.out 1
    have hns93_0 := NB389_404.out
    have hms93_0 := NB404_389.out
    have hs94 : w91.cell? ⟨gb404, 2, none⟩ = some (.int .i64 0) := (blk_cell BK404.out 2).trans rfl
    have hfs94 := blk_frozen BK404.out 2
    have hns94_0 := NB389_404.out
    have hms94_0 := NB404_389.out
    have hs95 : w91.cell? ⟨gb404, 3, none⟩ = some (.int .i64 0) := (blk_cell BK404.out 3).trans rfl
    have hfs95 := blk_frozen BK404.out 3
    have hns95_0 := NB389_404.out
    have hms95_0 := NB404_389.out
    have hs96 : w91.cell? ⟨gb404, 4, none⟩ = some (.int .i64 0) := (blk_cell BK404.out 4).trans rfl
    have hfs96 := blk_frozen BK404.out 4
    have hns96_0 := NB389_404.out
    have hms96_0 := NB404_389.out
    have hs97 : w91.cell? ⟨gb404, 5, none⟩ = some (.bool false) := (blk_cell BK404.out 5).trans rfl
    have hfs97 := blk_frozen BK404.out 5
    have hns97_0 := NB389_404.out
    have hms97_0 := NB404_389.out
    have hs98 : w91.cell? ⟨gb404, 6, none⟩ = some (.bool false) := (blk_cell BK404.out 6).trans rfl
    have hfs98 := blk_frozen BK404.out 6
    have hns98_0 := NB389_404.out
    have hms98_0 := NB404_389.out
    refine skip_ (w1 := ?_) (by rfl) rfl ?_ ?_
    rotate_left
    ·go_simp
     rfl
    refine hK.out _ _ ⟨((cell_far (p := ⟨gb404, _, none⟩) NB389_404.out _).trans (((cell_far (p := ⟨gb404, _, none⟩) NB389_404.out _).trans (((cell_far (p := ⟨gb404, _, none⟩) NB389_404.out _).trans (((cell_far (p := ⟨gb404, _, none⟩) NB389_404.out _).trans (((cell_far (p := ⟨gb404, _, none⟩) NB389_404.out _).trans (((cell_far (p := ⟨gb404, _, none⟩) NB389_404.out _).trans (((cell_far (p := ⟨gb404, _, none⟩) NB389_404.out _).trans (hHeld.1)))))))))))))), ((cell_far (p := ⟨gb404, _, none⟩) NB389_404.out _).trans (((cell_far (p := ⟨gb404, _, none⟩) NB389_404.out _).trans (((cell_far (p := ⟨gb404, _, none⟩) NB389_404.out _).trans (((cell_far (p := ⟨gb404, _, none⟩) NB389_404.out _).trans (((cell_far (p := ⟨gb404, _, none⟩) NB389_404.out _).trans (((cell_far (p := ⟨gb404, _, none⟩) NB389_404.out _).trans (((cell_far (p := ⟨gb404, _, none⟩) NB389_404.out _).trans (hHeld.2.1)))))))))))))), ((cell_far (p := ⟨gb404, _, none⟩) NB389_404.out _).trans (((cell_far (p := ⟨gb404, _, none⟩) NB389_404.out _).trans (((cell_far (p := ⟨gb404, _, none⟩) NB389_404.out _).trans (((cell_far (p := ⟨gb404, _, none⟩) NB389_404.out _).trans (((cell_far (p := ⟨gb404, _, none⟩) NB389_404.out _).trans (((cell_far (p := ⟨gb404, _, none⟩) NB389_404.out _).trans (((cell_far (p := ⟨gb404, _, none⟩) NB389_404.out _).trans (hHeld.2.2))))))))))))))⟩ (fun hHeld => ?_)
    clear hK K
    refine pq 9 (some 6) ?_ (fl 10 10) HT_.out rfl rfl ?_ ?_ ?_ ?_
    rotate_left
    ·intro w'
     go_simp
     with_reducible rfl
    rotate_left
    ·refine pt ?_
     rfl
    refine done_ (done_of HT_.out (by kernel_rfl)) ?_
    try go_wp2
    have n0_ : Aside0 ((((((((w91.setCell ⟨gb404, 0, none⟩ (.int .i64 t396)).setCell ⟨gb404, 1, none⟩ (.int .i64 t397)).setCell ⟨gb404, 2, none⟩ (.int .i64 t398)).setCell ⟨gb404, 3, none⟩ (.int .i64 t399)).setCell ⟨gb404, 4, none⟩ (.int .i64 t400)).setCell ⟨gb404, 5, none⟩ (.bool t401)).setCell ⟨gb404, 6, none⟩ (.bool t402)).heap[gb389]? = some (.cells #[.slice A0_0 l0_0.length c0_0, .slice A0_1 l0_1.length c0_1, .slice A0_2 l0_2.length c0_2] 43 (0, 0))) := ⟨by refine bx ?_; refine blk_far ?_ NB389_404.out _; refine bx ?_; refine blk_far ?_ NB389_404.out _; refine bx ?_; refine blk_far ?_ NB389_404.out _; refine bx ?_; refine blk_far ?_ NB389_404.out _; refine bx ?_; refine blk_far ?_ NB389_404.out _; refine bx ?_; refine blk_far ?_ NB389_404.out _; refine bx ?_; refine blk_far ?_ NB389_404.out _; refine bx ?_; exact BK389.out⟩
    have n1_ : Aside0 ((((((((w91.setCell ⟨gb404, 0, none⟩ (.int .i64 t396)).setCell ⟨gb404, 1, none⟩ (.int .i64 t397)).setCell ⟨gb404, 2, none⟩ (.int .i64 t398)).setCell ⟨gb404, 3, none⟩ (.int .i64 t399)).setCell ⟨gb404, 4, none⟩ (.int .i64 t400)).setCell ⟨gb404, 5, none⟩ (.bool t401)).setCell ⟨gb404, 6, none⟩ (.bool t402)).heap[gb404]? = some (.cells #[.int .i64 t396, .int .i64 t397, .int .i64 t398, .int .i64 t399, .int .i64 t400, .bool t401, .bool t402] 24 (0, 0))) := ⟨by refine bx ?_; refine blk_put (cs := #[.int .i64 t396, .int .i64 t397, .int .i64 t398, .int .i64 t399, .int .i64 t400, .bool t401, .bool false]) ?_ 6 _ rfl; refine bx ?_; refine blk_put (cs := #[.int .i64 t396, .int .i64 t397, .int .i64 t398, .int .i64 t399, .int .i64 t400, .bool false, .bool false]) ?_ 5 _ rfl; refine bx ?_; refine blk_put (cs := #[.int .i64 t396, .int .i64 t397, .int .i64 t398, .int .i64 t399, .int .i64 0, .bool false, .bool false]) ?_ 4 _ rfl; refine bx ?_; refine blk_put (cs := #[.int .i64 t396, .int .i64 t397, .int .i64 t398, .int .i64 0, .int .i64 0, .bool false, .bool false]) ?_ 3 _ rfl; refine bx ?_; refine blk_put (cs := #[.int .i64 t396, .int .i64 t397, .int .i64 0, .int .i64 0, .int .i64 0, .bool false, .bool false]) ?_ 2 _ rfl; refine bx ?_; refine blk_put (cs := #[.int .i64 t396, .int .i64 0, .int .i64 0, .int .i64 0, .int .i64 0, .bool false, .bool false]) ?_ 1 _ rfl; refine bx ?_; refine blk_put (cs := #[.int .i64 0, .int .i64 0, .int .i64 0, .int .i64 0, .int .i64 0, .bool false, .bool false]) ?_ 0 _ rfl; refine bx ?_; exact BK404.out⟩
    have n2_ : Aside0 (Below w.heap.size w (((((((w91.setCell ⟨gb404, 0, none⟩ (.int .i64 t396)).setCell ⟨gb404, 1, none⟩ (.int .i64 t397)).setCell ⟨gb404, 2, none⟩ (.int .i64 t398)).setCell ⟨gb404, 3, none⟩ (.int .i64 t399)).setCell ⟨gb404, 4, none⟩ (.int .i64 t400)).setCell ⟨gb404, 5, none⟩ (.bool t401)).setCell ⟨gb404, 6, none⟩ (.bool t402))) := ⟨bl⟩
    (try clear BK389)
    (try clear BK404)
    (try clear HB)
    generalize (((((((w91.setCell ⟨gb404, 0, none⟩ (.int .i64 t396)).setCell ⟨gb404, 1, none⟩ (.int .i64 t397)).setCell ⟨gb404, 2, none⟩ (.int .i64 t398)).setCell ⟨gb404, 3, none⟩ (.int .i64 t399)).setCell ⟨gb404, 4, none⟩ (.int .i64 t400)).setCell ⟨gb404, 5, none⟩ (.bool t401)).setCell ⟨gb404, 6, none⟩ (.bool t402)) = w99 at n0_ n1_ n2_ ⊢
    have BK389 := n0_
    have BK404 := n1_
    have HB := n2_
    clear n0_ n1_ n2_
    have n0_ := Aside0.mk (blk_drew BK389.out)
    have n1_ := Aside0.mk (blk_drew BK404.out)
    have n2_ := Aside0.mk (below_drew1 HB.out)
    clear BK389
    clear BK404
    clear HB
    have BK389 := n0_
    have BK404 := n1_
    have HB := n2_
    clear n0_ n1_ n2_
    refine start_ (n := 9) (S := fun w' => w'.cell? ⟨gb389, 0, none⟩ = some (.slice A0_0 l0_0.length c0_0) ∧ w'.cell? ⟨gb389, 1, none⟩ = some (.slice A0_1 l0_1.length c0_1) ∧ w'.cell? ⟨gb389, 2, none⟩ = some (.slice A0_2 l0_2.length c0_2)) (ds := []) (fl 9 0) (by kernel_rfl) rfl rfl (cy3 BK389.out) (fun hHeld => ?_); refine with_tabW spinnakerlaw08_ImageAddresses.tab4 spinnakerlaw08_ImageAddresses.bits4 (fun HT_ HW_ => ?_)
    generalize w99.drew = w100 at BK389 BK404 HB hHeld ⊢
    refine pq 1 (some 42) ?_ #[false, true, false, false, false, false, false, false, false] HT_.out rfl rfl ?_ ?_ ?_ ?_
    rotate_left
    ·intro w'
     go_simp
     with_reducible rfl
    rotate_left
    ·refine pt ?_
     rfl
    refine pk 0 (some 41) ?_ (fl 9 2) HT_.out HW_.out rfl rfl ?_ hHeld ?_ ?_ ?_
    rotate_left
    ·rintro w' ⟨s0, s1, s2⟩
     go_simp
     with_reducible rfl
    rotate_left
    ·refine pt ?_
     rfl
    refine one_ (i := 2) (N := some 43) (fl 9 3) rfl rfl (one_of HT_.out (by kernel_rfl)) (by decide) (fun K hK => ?_)
    refine goes_ Tryd.func25 (by kernel_rfl) rfl #[.int .i64 a1] (by rfl) rfl rfl ga ?_
    with_reducible refine (image_Addr.calls a1 t405 _ A27.out).mono ?_
    rintro e w' ⟨rfl, ⟨nd, rfl⟩⟩
    refine ⟨_, rfl, ?_⟩
    refine hK.out _ _ (cy3 BK389.out) (fun hHeld => ?_)
    clear hK K
    refine norm_ (a' := ?_) ?_ ?_
    rotate_left
    ·show Act.put _ (some 43) _ = _
     refine pt ?_
     rfl
    refine one_ (i := 3) (N := some 44) (fl 9 4) rfl rfl (one_of HT_.out (by kernel_rfl)) (by decide) (fun K hK => ?_)
    refine goes_ Tryd.func22 (by kernel_rfl) rfl #[.agg #[.slice A0_0 l0_0.length c0_0, .slice A0_1 l0_1.length c0_1, .slice A0_2 l0_2.length c0_2], .int .i64 t405] (by rfl) rfl rfl ga ?_
    with_reducible refine (image_Place.calls _ _ l0_0 _ _ l0_1 _ _ l0_2 t405 t406 t407 _ ?side1 ?side2 ?side3 ?side4 ?side5 ?side6 A28.out).mono ?_
    (case side1 => repeat (first | exact (Kd.C_below HR0_0.out bl) | (with_reducible refine Kd.C_alloc ?_ _) | (with_reducible refine Kd.C_drewN ?_ _) | (with_reducible refine Kd.C_drew ?_)))
    (case side2 => exact HC0_0.out)
    (case side3 => repeat (first | exact (Kd.C_below HR0_1.out bl) | (with_reducible refine Kd.C_alloc ?_ _) | (with_reducible refine Kd.C_drewN ?_ _) | (with_reducible refine Kd.C_drew ?_)))
    (case side4 => exact HC0_1.out)
    (case side5 => repeat (first | exact (Kd.C_below HR0_2.out bl) | (with_reducible refine Kd.C_alloc ?_ _) | (with_reducible refine Kd.C_drewN ?_ _) | (with_reducible refine Kd.C_drew ?_)))
    (case side6 => exact HC0_2.out)
    rintro e w101 ⟨rfl, hb⟩
    refine ⟨_, rfl, ?_⟩
    have n0_ := Aside0.mk (blk_below (g := gb389) (o := .cells #[.slice A0_0 l0_0.length c0_0, .slice A0_1 l0_1.length c0_1, .slice A0_2 l0_2.length c0_2] 43 (0, 0)) (bk BK389.out) hb)
    have n1_ := Aside0.mk (blk_below (g := gb404) (o := .cells #[.int .i64 t396, .int .i64 t397, .int .i64 t398, .int .i64 t399, .int .i64 t400, .bool t401, .bool t402] 24 (0, 0)) (bk BK404.out) hb)
    have n2_ := Aside0.mk (below_step bl hb)
    clear BK389
    clear BK404
    clear HB
    have BK389 := n0_
    have BK404 := n1_
    have HB := n2_
    clear n0_ n1_ n2_
    (try clear hb)
    (try clear hb2)
    (try clear hk)
    (try clear hi)
    refine hK.out _ _ (cy3 BK389.out) (fun hHeld => ?_)
    clear hK K
    refine norm_ (a' := ?_) ?_ ?_
    rotate_left
    ·show Act.put _ (some 44) _ = _
     refine pt ?_
     rfl
    refine pq 4 (some 40) ?_ (fl 9 5) HT_.out rfl rfl ?_ ?_ ?_ ?_
    rotate_left
    ·intro w'
     go_simp
     with_reducible rfl
    rotate_left
    ·refine pt ?_
     rfl
    refine pq 5 (some 45) ?_ (fl 9 6) HT_.out rfl rfl ?_ ?_ ?_ ?_
    rotate_left
    ·intro w'
     go_simp
     with_reducible rfl
    rotate_left
    ·refine pt ?_
     rfl
    refine pq 6 (some 46) ?_ (fl 9 7) HT_.out rfl rfl ?_ ?_ ?_ ?_
    rotate_left
    ·intro w'
     go_simp
     with_reducible rfl
    rotate_left
    ·refine pt ?_
     rfl
    refine pq 7 (some 7) ?_ (fl 9 8) HT_.out rfl rfl ?_ ?_ ?_ ?_
    rotate_left
    ·intro w'
     go_simp
     with_reducible rfl
    rotate_left
    ·refine pt ?_
     rfl
    refine pq 8 (some 8) ?_ (fl 9 9) HT_.out rfl rfl ?_ ?_ ?_ ?_
    rotate_left
    ·intro w'
     go_simp
     with_reducible rfl
    rotate_left
    ·refine pt ?_
     rfl
    refine done_ (done_of HT_.out (by kernel_rfl)) ?_
    by_cases c29 : a1 > (-1099511627776)
    ·rw [if_pos c29] at H
     have c29b0 := decide_eq_true c29
     clear c29
     by_cases c30 : a1 < 1099511627776
     ·rw [if_pos c30] at H
      have c30b0 := decide_eq_true c30
      clear c30
      by_cases c31 : a1 ≥ 0
      ·rw [if_pos c31] at H
       have c31b0 := decide_eq_true c31
       clear c31
       by_cases c32 : (t403 == (decide (a1 < (l0_0.length : Int)))) = true
       ·rw [if_pos c32] at H
        have c32b0 : (t403 == (decide (a1 < (l0_0.length : Int)))) = true := c32
        (try (have c32b1 : decide (t403 = (decide (a1 < (l0_0.length : Int)))) = true := by simpa using c32))
        (try (have c32b2 : (t403 == (decide (a1 < (l0_0.length : Int)))) = true := by simpa using c32))
        clear c32
        by_cases c33 : (t407 == (decide (a1 < (l0_1.length : Int)))) = true
        ·rw [if_pos c33] at H
         have c33b0 : (t407 == (decide (a1 < (l0_1.length : Int)))) = true := c33
         (try (have c33b1 : decide (t407 = (decide (a1 < (l0_1.length : Int)))) = true := by simpa using c33))
         (try (have c33b2 : (t407 == (decide (a1 < (l0_1.length : Int)))) = true := by simpa using c33))
         clear c33
         by_cases c34 : t407 = true
         ·subst c34
          have H1 : (if t406 = a1 then ((spinnakerlaw08_awake.f kj2).bind fun t408 => (some t408)) else (some false)) = some r := by rw [if_pos rfl] at H; exact H
          clear H
          have H := H1
          clear H1
          by_cases c35 : t406 = a1
          ·rw [if_pos c35] at H
           have c35b0 : (t406 == a1) = true := beq_iff_eq.mpr c35
           have c35b1 : (t406 != a1) = false := bne_eq_false_iff_eq.mpr c35
           clear c35
           replace H := be H
           obtain ⟨t408, A36, H⟩ := H
           obtain rfl := Option.some.inj H
           have hnb51 := NB389_404.out
           have hnc51 := NB404_389.out
           obtain ⟨hcz52_0, hcz52_1, hcz52_2, hfz52_0, hfz52_1, hfz52_2⟩ := cz3 (w := w101) BK389.out
           try go_wp2_with (first | (go_at_call 19; (with_reducible refine (spinnakerlaw08_awake.calls kj2  t408 _ A36.out).mono ?_); rintro e w53 ⟨rfl, hb⟩; have n0_ := Aside0.mk (blk_below (g := gb389) (o := .cells #[.slice A0_0 l0_0.length c0_0, .slice A0_1 l0_1.length c0_1, .slice A0_2 l0_2.length c0_2] 43 (0, 0)) (bk BK389.out) hb); have n1_ := Aside0.mk (blk_below (g := gb404) (o := .cells #[.int .i64 t396, .int .i64 t397, .int .i64 t398, .int .i64 t399, .int .i64 t400, .bool t401, .bool t402] 24 (0, 0)) (bk BK404.out) hb); have n2_ := Aside0.mk (below_step bl hb); clear BK389; clear BK404; clear HB; have BK389 := n0_; have BK404 := n1_; have HB := n2_; clear n0_ n1_ n2_; (try clear hb)))
           go_ret
           exact ⟨fi, bl⟩
          ·rw [if_neg c35] at H
           have c35b0 : (t406 == a1) = false := beq_eq_false_iff_ne.mpr c35
           have c35b1 : (t406 != a1) = true := bne_iff_ne.mpr c35
           obtain rfl := Option.some.inj H
           have hnb68 := NB389_404.out
           have hnc68 := NB404_389.out
           obtain ⟨hcz69_0, hcz69_1, hcz69_2, hfz69_0, hfz69_1, hfz69_2⟩ := cz3 (w := w101) BK389.out
           try go_wp2
           go_ret
           exact ⟨fi, bl⟩
         ·replace c34 := Bool.eq_false_iff.mpr c34
          subst c34
          have H1 : ((spinnakerlaw08_awake.f kj2).bind fun t409 => (some t409)) = some r := by rw [if_neg (show ¬ (false = true) by decide)] at H; exact H
          clear H
          have H := H1
          clear H1
          replace H := be H
          obtain ⟨t409, A70, H⟩ := H
          obtain rfl := Option.some.inj H
          have hnb85 := NB389_404.out
          have hnc85 := NB404_389.out
          obtain ⟨hcz86_0, hcz86_1, hcz86_2, hfz86_0, hfz86_1, hfz86_2⟩ := cz3 (w := w101) BK389.out
          try go_wp2_with (first | (go_at_call 19; (with_reducible refine (spinnakerlaw08_awake.calls kj2  t409 _ A70.out).mono ?_); rintro e w87 ⟨rfl, hb⟩; have n0_ := Aside0.mk (blk_below (g := gb389) (o := .cells #[.slice A0_0 l0_0.length c0_0, .slice A0_1 l0_1.length c0_1, .slice A0_2 l0_2.length c0_2] 43 (0, 0)) (bk BK389.out) hb); have n1_ := Aside0.mk (blk_below (g := gb404) (o := .cells #[.int .i64 t396, .int .i64 t397, .int .i64 t398, .int .i64 t399, .int .i64 t400, .bool t401, .bool t402] 24 (0, 0)) (bk BK404.out) hb); have n2_ := Aside0.mk (below_step bl hb); clear BK389; clear BK404; clear HB; have BK389 := n0_; have BK404 := n1_; have HB := n2_; clear n0_ n1_ n2_; (try clear hb)))
          go_ret
          exact ⟨fi, bl⟩
        ·rw [if_neg c33] at H
         have c33b0 : (t407 == (decide (a1 < (l0_1.length : Int)))) = false := by simpa using c33
         (try (have c33b1 : decide (t407 = (decide (a1 < (l0_1.length : Int)))) = false := by simpa using c33))
         (try (have c33b2 : (t407 == (decide (a1 < (l0_1.length : Int)))) = false := by simpa using c33))
         (try (have c33b3 : ¬ (t407 = (decide (a1 < (l0_1.length : Int)))) := by simpa using c33))
         clear c33
         obtain rfl := Option.some.inj H
         have hnb102 := NB389_404.out
         have hnc102 := NB404_389.out
         obtain ⟨hcz103_0, hcz103_1, hcz103_2, hfz103_0, hfz103_1, hfz103_2⟩ := cz3 (w := w101) BK389.out
         try go_wp2
         go_ret
         exact ⟨fi, bl⟩
       ·rw [if_neg c32] at H
        have c32b0 : (t403 == (decide (a1 < (l0_0.length : Int)))) = false := by simpa using c32
        (try (have c32b1 : decide (t403 = (decide (a1 < (l0_0.length : Int)))) = false := by simpa using c32))
        (try (have c32b2 : (t403 == (decide (a1 < (l0_0.length : Int)))) = false := by simpa using c32))
        (try (have c32b3 : ¬ (t403 = (decide (a1 < (l0_0.length : Int)))) := by simpa using c32))
        clear c32
        obtain rfl := Option.some.inj H
        have hnb118 := NB389_404.out
        have hnc118 := NB404_389.out
        obtain ⟨hcz119_0, hcz119_1, hcz119_2, hfz119_0, hfz119_1, hfz119_2⟩ := cz3 (w := w101) BK389.out
        try go_wp2
        go_ret
        exact ⟨fi, bl⟩
      ·rw [if_neg c31] at H
       have c31b0 := decide_eq_false c31
       clear c31
       by_cases c120 : (t403 == false) = true
       ·rw [if_pos c120] at H
        have c120b0 : (t403 == false) = true := c120
        (try (have c120b1 : decide (t403 = false) = true := by simpa using c120))
        (try (have c120b2 : (t403 == false) = true := by simpa using c120))
        clear c120
        by_cases c121 : (t407 == false) = true
        ·rw [if_pos c121] at H
         have c121b0 : (t407 == false) = true := c121
         (try (have c121b1 : decide (t407 = false) = true := by simpa using c121))
         (try (have c121b2 : (t407 == false) = true := by simpa using c121))
         clear c121
         by_cases c122 : t407 = true
         ·subst c122
          have H1 : (if t406 = a1 then ((spinnakerlaw08_awake.f kj2).bind fun t410 => (some t410)) else (some false)) = some r := by rw [if_pos rfl] at H; exact H
          clear H
          have H := H1
          clear H1
          by_cases c123 : t406 = a1
          ·rw [if_pos c123] at H
           have c123b0 : (t406 == a1) = true := beq_iff_eq.mpr c123
           have c123b1 : (t406 != a1) = false := bne_eq_false_iff_eq.mpr c123
           clear c123
           replace H := be H
           obtain ⟨t410, A124, H⟩ := H
           obtain rfl := Option.some.inj H
           try go_wp2_with (first | (go_at_call 19; (with_reducible refine (spinnakerlaw08_awake.calls kj2  t410 _ A124.out).mono ?_); rintro e w139 ⟨rfl, hb⟩; have n0_ := Aside0.mk (blk_below (g := gb389) (o := .cells #[.slice A0_0 l0_0.length c0_0, .slice A0_1 l0_1.length c0_1, .slice A0_2 l0_2.length c0_2] 43 (0, 0)) (bk BK389.out) hb); have n1_ := Aside0.mk (blk_below (g := gb404) (o := .cells #[.int .i64 t396, .int .i64 t397, .int .i64 t398, .int .i64 t399, .int .i64 t400, .bool t401, .bool t402] 24 (0, 0)) (bk BK404.out) hb); have n2_ := Aside0.mk (below_step bl hb); clear BK389; clear BK404; clear HB; have BK389 := n0_; have BK404 := n1_; have HB := n2_; clear n0_ n1_ n2_; (try clear hb)))
           go_ret
           exact ⟨fi, bl⟩
          ·rw [if_neg c123] at H
           have c123b0 : (t406 == a1) = false := beq_eq_false_iff_ne.mpr c123
           have c123b1 : (t406 != a1) = true := bne_iff_ne.mpr c123
           obtain rfl := Option.some.inj H
           try go_wp2
           go_ret
           exact ⟨fi, bl⟩
         ·replace c122 := Bool.eq_false_iff.mpr c122
          subst c122
          have H1 : ((spinnakerlaw08_awake.f kj2).bind fun t411 => (some t411)) = some r := by rw [if_neg (show ¬ (false = true) by decide)] at H; exact H
          clear H
          have H := H1
          clear H1
          replace H := be H
          obtain ⟨t411, A154, H⟩ := H
          obtain rfl := Option.some.inj H
          try go_wp2_with (first | (go_at_call 19; (with_reducible refine (spinnakerlaw08_awake.calls kj2  t411 _ A154.out).mono ?_); rintro e w169 ⟨rfl, hb⟩; have n0_ := Aside0.mk (blk_below (g := gb389) (o := .cells #[.slice A0_0 l0_0.length c0_0, .slice A0_1 l0_1.length c0_1, .slice A0_2 l0_2.length c0_2] 43 (0, 0)) (bk BK389.out) hb); have n1_ := Aside0.mk (blk_below (g := gb404) (o := .cells #[.int .i64 t396, .int .i64 t397, .int .i64 t398, .int .i64 t399, .int .i64 t400, .bool t401, .bool t402] 24 (0, 0)) (bk BK404.out) hb); have n2_ := Aside0.mk (below_step bl hb); clear BK389; clear BK404; clear HB; have BK389 := n0_; have BK404 := n1_; have HB := n2_; clear n0_ n1_ n2_; (try clear hb)))
          go_ret
          exact ⟨fi, bl⟩
        ·rw [if_neg c121] at H
         have c121b0 : (t407 == false) = false := by simpa using c121
         (try (have c121b1 : decide (t407 = false) = false := by simpa using c121))
         (try (have c121b2 : (t407 == false) = false := by simpa using c121))
         (try (have c121b3 : ¬ (t407 = false) := by simpa using c121))
         clear c121
         obtain rfl := Option.some.inj H
         try go_wp2
         go_ret
         exact ⟨fi, bl⟩
       ·rw [if_neg c120] at H
        have c120b0 : (t403 == false) = false := by simpa using c120
        (try (have c120b1 : decide (t403 = false) = false := by simpa using c120))
        (try (have c120b2 : (t403 == false) = false := by simpa using c120))
        (try (have c120b3 : ¬ (t403 = false) := by simpa using c120))
        clear c120
        obtain rfl := Option.some.inj H
        try go_wp2
        go_ret
        exact ⟨fi, bl⟩
     ·rw [if_neg c30] at H
      have c30b0 := decide_eq_false c30
      clear c30
      by_cases c198 : t407 = true
      ·subst c198
       have H1 : ((spinnakerlaw08_awake.f kj2).bind fun t412 => (some t412)) = some r := by rw [if_pos rfl] at H; exact H
       clear H
       have H := H1
       clear H1
       replace H := be H
       obtain ⟨t412, A199, H⟩ := H
       obtain rfl := Option.some.inj H
       try go_wp2_with (first | (go_at_call 19; (with_reducible refine (spinnakerlaw08_awake.calls kj2  t412 _ A199.out).mono ?_); rintro e w214 ⟨rfl, hb⟩; have n0_ := Aside0.mk (blk_below (g := gb389) (o := .cells #[.slice A0_0 l0_0.length c0_0, .slice A0_1 l0_1.length c0_1, .slice A0_2 l0_2.length c0_2] 43 (0, 0)) (bk BK389.out) hb); have n1_ := Aside0.mk (blk_below (g := gb404) (o := .cells #[.int .i64 t396, .int .i64 t397, .int .i64 t398, .int .i64 t399, .int .i64 t400, .bool t401, .bool t402] 24 (0, 0)) (bk BK404.out) hb); have n2_ := Aside0.mk (below_step bl hb); clear BK389; clear BK404; clear HB; have BK389 := n0_; have BK404 := n1_; have HB := n2_; clear n0_ n1_ n2_; (try clear hb)))
       go_ret
       exact ⟨fi, bl⟩
      ·replace c198 := Bool.eq_false_iff.mpr c198
       subst c198
       have H1 : ((spinnakerlaw08_awake.f kj2).bind fun t413 => (some t413)) = some r := by rw [if_neg (show ¬ (false = true) by decide)] at H; exact H
       clear H
       have H := H1
       clear H1
       replace H := be H
       obtain ⟨t413, A215, H⟩ := H
       obtain rfl := Option.some.inj H
       try go_wp2_with (first | (go_at_call 19; (with_reducible refine (spinnakerlaw08_awake.calls kj2  t413 _ A215.out).mono ?_); rintro e w230 ⟨rfl, hb⟩; have n0_ := Aside0.mk (blk_below (g := gb389) (o := .cells #[.slice A0_0 l0_0.length c0_0, .slice A0_1 l0_1.length c0_1, .slice A0_2 l0_2.length c0_2] 43 (0, 0)) (bk BK389.out) hb); have n1_ := Aside0.mk (blk_below (g := gb404) (o := .cells #[.int .i64 t396, .int .i64 t397, .int .i64 t398, .int .i64 t399, .int .i64 t400, .bool t401, .bool t402] 24 (0, 0)) (bk BK404.out) hb); have n2_ := Aside0.mk (below_step bl hb); clear BK389; clear BK404; clear HB; have BK389 := n0_; have BK404 := n1_; have HB := n2_; clear n0_ n1_ n2_; (try clear hb)))
       go_ret
       exact ⟨fi, bl⟩
    ·rw [if_neg c29] at H
     have c29b0 := decide_eq_false c29
     clear c29
     by_cases c231 : t407 = true
     ·subst c231
      have H1 : ((spinnakerlaw08_awake.f kj2).bind fun t414 => (some t414)) = some r := by rw [if_pos rfl] at H; exact H
      clear H
      have H := H1
      clear H1
      replace H := be H
      obtain ⟨t414, A232, H⟩ := H
      obtain rfl := Option.some.inj H
      try go_wp2_with (first | (go_at_call 19; (with_reducible refine (spinnakerlaw08_awake.calls kj2  t414 _ A232.out).mono ?_); rintro e w247 ⟨rfl, hb⟩; have n0_ := Aside0.mk (blk_below (g := gb389) (o := .cells #[.slice A0_0 l0_0.length c0_0, .slice A0_1 l0_1.length c0_1, .slice A0_2 l0_2.length c0_2] 43 (0, 0)) (bk BK389.out) hb); have n1_ := Aside0.mk (blk_below (g := gb404) (o := .cells #[.int .i64 t396, .int .i64 t397, .int .i64 t398, .int .i64 t399, .int .i64 t400, .bool t401, .bool t402] 24 (0, 0)) (bk BK404.out) hb); have n2_ := Aside0.mk (below_step bl hb); clear BK389; clear BK404; clear HB; have BK389 := n0_; have BK404 := n1_; have HB := n2_; clear n0_ n1_ n2_; (try clear hb)))
      go_ret
      exact ⟨fi, bl⟩
     ·replace c231 := Bool.eq_false_iff.mpr c231
      subst c231
      have H1 : ((spinnakerlaw08_awake.f kj2).bind fun t415 => (some t415)) = some r := by rw [if_neg (show ¬ (false = true) by decide)] at H; exact H
      clear H
      have H := H1
      clear H1
      replace H := be H
      obtain ⟨t415, A248, H⟩ := H
      obtain rfl := Option.some.inj H
      try go_wp2_with (first | (go_at_call 19; (with_reducible refine (spinnakerlaw08_awake.calls kj2  t415 _ A248.out).mono ?_); rintro e w263 ⟨rfl, hb⟩; have n0_ := Aside0.mk (blk_below (g := gb389) (o := .cells #[.slice A0_0 l0_0.length c0_0, .slice A0_1 l0_1.length c0_1, .slice A0_2 l0_2.length c0_2] 43 (0, 0)) (bk BK389.out) hb); have n1_ := Aside0.mk (blk_below (g := gb404) (o := .cells #[.int .i64 t396, .int .i64 t397, .int .i64 t398, .int .i64 t399, .int .i64 t400, .bool t401, .bool t402] 24 (0, 0)) (bk BK404.out) hb); have n2_ := Aside0.mk (below_step bl hb); clear BK389; clear BK404; clear HB; have BK389 := n0_; have BK404 := n1_; have HB := n2_; clear n0_ n1_ n2_; (try clear hb)))
      go_ret
      exact ⟨fi, bl⟩

end Go.Proofs.YtffehgfjjagibaaDoor.GImageAddresses
