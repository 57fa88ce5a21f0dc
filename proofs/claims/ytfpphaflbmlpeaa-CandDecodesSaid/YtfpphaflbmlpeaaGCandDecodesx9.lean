-- Written by wip/stub.py of this repo.
import Derived.Test.YtfpphaflbmlpeaaGCandDecodesx0
import Derived.Test.YtfpphaflbmlpeaaGCandDecodesx2
import Derived.Test.YtfpphaflbmlpeaaGCandDecodesx8
namespace Go.Proofs.Ytfpphaflbmlpeaa.GCandDecodes
open Go.RowKit Go.Proofs.YtfpphaflbmlpeaaW.PrintWords Go.Proofs.YtfpphaflbmlpeaaW.PrintLast Go.Proofs.YtfpphaflbmlpeaaW.PrintMore
attribute [local go_sem] max2_int min2_int max_two min_two max_three min_three max_four min_four   -- for this text's walks alone
set_option linter.unusedVariables false
set_option linter.unusedSimpArgs false

attribute [local go_sem high] eqA75
/-! ### spinnakerref13_Same: function 20 -/
mutual
def spinnakerref13_Same.j0 : Nat → Bool → List (List (S75)) → List (S70) → List (List (S75)) → List (S70) → Option (Bool)
  | 0, _, _, _, _, _ => none
  | k + 1, x23, x228000, x228001, x229000, x229001 => if x23 = true then (some false) else (spinnakerref13_Same.l0 k 0 x228000 x228001 x229000 x229001)
def spinnakerref13_Same.l0 : Nat → Int → List (List (S75)) → List (S70) → List (List (S75)) → List (S70) → Option (Bool)
  | 0, _, _, _, _, _ => none
  | k + 1, x5, x228000, x228001, x229000, x229001 => if x5 < (x228000.length : Int) then (if 0 ≤ x5 then (if x5 < (x229000.length : Int) then (if ((rd_L5 x228000 x5).length : Int) = ((rd_L5 x229000 x5).length : Int) then (spinnakerref13_Same.l1 k x5 0 x228000 x228001 x229000 x229001) else (some false)) else (none)) else (none)) else (spinnakerref13_Same.l2 k 0 x228000 x228001 x229000 x229001)
def spinnakerref13_Same.l1 : Nat → Int → Int → List (List (S75)) → List (S70) → List (List (S75)) → List (S70) → Option (Bool)
  | 0, _, _, _, _, _, _ => none
  | k + 1, x5, x6, x228000, x228001, x229000, x229001 => if 0 ≤ x5 then (if x5 < (x228000.length : Int) then (if x6 < ((rd_L5 x228000 x5).length : Int) then (if 0 ≤ x6 then (if x5 < (x229000.length : Int) then (if x6 < ((rd_L5 x229000 x5).length : Int) then (if (!(((rd_T75 (rd_L5 x228000 x5) x6).f0) == ((rd_T75 (rd_L5 x229000 x5) x6).f0)) || (!(((rd_T75 (rd_L5 x228000 x5) x6).f1) == ((rd_T75 (rd_L5 x229000 x5) x6).f1)) || ((!(((rd_T75 (rd_L5 x228000 x5) x6).f2.f0) == ((rd_T75 (rd_L5 x229000 x5) x6).f2.f0)) || (!(((rd_T75 (rd_L5 x228000 x5) x6).f2.f1) == ((rd_T75 (rd_L5 x229000 x5) x6).f2.f1)))) || (!(((rd_T75 (rd_L5 x228000 x5) x6).f3) == ((rd_T75 (rd_L5 x229000 x5) x6).f3)) || (!(((rd_T75 (rd_L5 x228000 x5) x6).f4) == ((rd_T75 (rd_L5 x229000 x5) x6).f4))))))) = true then (some false) else (spinnakerref13_Same.l1 k x5 (wrap64 (x6 + 1)) x228000 x228001 x229000 x229001)) else (none)) else (none)) else (none)) else (spinnakerref13_Same.l0 k (wrap64 (x5 + 1)) x228000 x228001 x229000 x229001)) else (none)) else (none)
def spinnakerref13_Same.l2 : Nat → Int → List (List (S75)) → List (S70) → List (List (S75)) → List (S70) → Option (Bool)
  | 0, _, _, _, _, _ => none
  | k + 1, x7, x228000, x228001, x229000, x229001 => if x7 < (x228001.length : Int) then (if 0 ≤ x7 then (if x7 < (x229001.length : Int) then (if ((rd_T70 x228001 x7).f0) = ((rd_T70 x229001 x7).f0) then ((spinnakerref13_Refs.f k ((rd_T70 x228001 x7).f1) ((rd_T70 x229001 x7).f1)).bind fun t240 => (if t240 = true then (spinnakerref13_Same.l2 k (wrap64 (x7 + 1)) x228000 x228001 x229000 x229001) else (some false))) else (some false)) else (none)) else (none)) else (some true)
end
def spinnakerref13_Same.f (k : Nat) (l0_0 : List (List (S75))) (l0_1 : List (S70)) (l1_0 : List (List (S75))) (l1_1 : List (S70)) : Option (Bool) := if (l0_0.length : Int) = (l1_0.length : Int) then (spinnakerref13_Same.j0 k ((l0_1.length : Int) != (l1_1.length : Int)) l0_0 l0_1 l1_0 l1_1) else (spinnakerref13_Same.j0 k true l0_0 l0_1 l1_0 l1_1)
theorem spinnakerref13_Same.mono_l : ∀ k, (∀ y0 y1 y2 y3 y4, LeO (spinnakerref13_Same.j0 k y0 y1 y2 y3 y4) (spinnakerref13_Same.j0 (k + 1) y0 y1 y2 y3 y4)) ∧ (∀ y0 y1 y2 y3 y4, LeO (spinnakerref13_Same.l0 k y0 y1 y2 y3 y4) (spinnakerref13_Same.l0 (k + 1) y0 y1 y2 y3 y4)) ∧ (∀ y0 y1 y2 y3 y4 y5, LeO (spinnakerref13_Same.l1 k y0 y1 y2 y3 y4 y5) (spinnakerref13_Same.l1 (k + 1) y0 y1 y2 y3 y4 y5)) ∧ (∀ y0 y1 y2 y3 y4, LeO (spinnakerref13_Same.l2 k y0 y1 y2 y3 y4) (spinnakerref13_Same.l2 (k + 1) y0 y1 y2 y3 y4))
 | 0 => ⟨fun _ _ _ _ _ r h => by simp [spinnakerref13_Same.j0] at h, fun _ _ _ _ _ r h => by simp [spinnakerref13_Same.l0] at h, fun _ _ _ _ _ _ r h => by simp [spinnakerref13_Same.l1] at h, fun _ _ _ _ _ r h => by simp [spinnakerref13_Same.l2] at h⟩
 | k + 1 => by
  obtain ⟨ih0, ih1, ih2, ih3⟩ := spinnakerref13_Same.mono_l k
  refine ⟨?_, ?_, ?_, ?_⟩
  all_goals (intros; (first | unfold spinnakerref13_Same.j0 | unfold spinnakerref13_Same.l0 | unfold spinnakerref13_Same.l1 | unfold spinnakerref13_Same.l2); repeat' first | (with_reducible first | exact ih0 _ _ _ _ _ | exact ih1 _ _ _ _ _ | exact ih2 _ _ _ _ _ _ | exact ih3 _ _ _ _ _ | exact spinnakerref13_Refs.mono _ _ _ | exact LeO.refl _ | exact LeO.none _ | refine LeO.ite ?_ ?_ | refine LeO.bind ?_ (fun _ => ?_)) | exact ih0 _ _ _ _ _ | exact ih1 _ _ _ _ _ | exact ih2 _ _ _ _ _ _ | exact ih3 _ _ _ _ _ | exact spinnakerref13_Refs.mono _ _ _ | exact LeO.none _ | refine LeO.ite ?_ ?_ | refine LeO.bind ?_ (fun _ => ?_))
theorem spinnakerref13_Same.mono : ∀ a0 a1 a2 a3 k, LeO (spinnakerref13_Same.f k a0 a1 a2 a3) (spinnakerref13_Same.f (k + 1) a0 a1 a2 a3) := by
 intro a0 a1 a2 a3 k
 obtain ⟨ih0, ih1, ih2, ih3⟩ := spinnakerref13_Same.mono_l k
 unfold spinnakerref13_Same.f
 repeat' first | (with_reducible first | exact ih0 _ _ _ _ _ | exact ih1 _ _ _ _ _ | exact ih2 _ _ _ _ _ _ | exact ih3 _ _ _ _ _ | exact spinnakerref13_Refs.mono _ _ _ | exact LeO.refl _ | exact LeO.none _ | refine LeO.ite ?_ ?_ | refine LeO.bind ?_ (fun _ => ?_)) | exact ih0 _ _ _ _ _ | exact ih1 _ _ _ _ _ | exact ih2 _ _ _ _ _ _ | exact ih3 _ _ _ _ _ | exact spinnakerref13_Refs.mono _ _ _ | exact LeO.none _ | refine LeO.ite ?_ ?_ | refine LeO.bind ?_ (fun _ => ?_)
set_option maxHeartbeats 8000000 in
set_option maxRecDepth 100000 in
theorem spinnakerref13_Same.calls (k : Nat) (A0_0 : Option Addr) (c0_0 : Nat) (l0_0 : List (List (S75))) (A0_1 : Option Addr) (c0_1 : Nat) (l0_1 : List (S70)) (A1_0 : Option Addr) (c1_0 : Nat) (l1_0 : List (List (S75))) (A1_1 : Option Addr) (c1_1 : Nat) (l1_1 : List (S70)) (r : Bool) (w : World) (hr0_0 : Kd.C (Kd.slice 75 k75) w A0_0 l0_0.length l0_0) (hc0_0 : l0_0.length ≤ c0_0) (hr0_1 : Kd.C k70 w A0_1 l0_1.length l0_1) (hc0_1 : l0_1.length ≤ c0_1) (hr1_0 : Kd.C (Kd.slice 75 k75) w A1_0 l1_0.length l1_0) (hc1_0 : l1_0.length ≤ c1_0) (hr1_1 : Kd.C k70 w A1_1 l1_1.length l1_1) (hc1_1 : l1_1.length ≤ c1_1) (h : spinnakerref13_Same.f k l0_0 l0_1 l1_0 l1_1 = some r) :
  Calls Try.prog 20 #[.agg #[.slice A0_0 l0_0.length c0_0, .slice A0_1 l0_1.length c0_1], .agg #[.slice A1_0 l1_0.length c1_0, .slice A1_1 l1_1.length c1_1]] w fun e w' => e = .returned (.bool r) ∧ Below w.heap.size w w' := by
 have hu42 := Try.underlying42
 have hu75 := Try.underlying75
 have HR0_0 := Aside0.mk hr0_0
 have HC0_0 := Aside0.mk hc0_0
 clear hr0_0 hc0_0
 have HR0_1 := Aside0.mk hr0_1
 have HC0_1 := Aside0.mk hc0_1
 clear hr0_1 hc0_1
 have HR1_0 := Aside0.mk hr1_0
 have HC1_0 := Aside0.mk hc1_0
 clear hr1_0 hc1_0
 have HR1_1 := Aside0.mk hr1_1
 have HC1_1 := Aside0.mk hc1_1
 clear hr1_1 hc1_1
 have HB := Aside0.mk (Below.refl w.heap.size w)
 have H : (if (l0_0.length : Int) = (l1_0.length : Int) then (spinnakerref13_Same.j0 k ((l0_1.length : Int) != (l1_1.length : Int)) l0_0 l0_1 l1_0 l1_1) else (spinnakerref13_Same.j0 k true l0_0 l0_1 l1_0 l1_1)) = some r := h
 clear h
 have HC3 := Aside0.mk H
 clear H
 go_enter Try.func20, Try.ntmps20
 go_upto_region 1 with (first | ((with_reducible refine gate_dst (N := 2) rfl ?_); (try (refine gate_guard (by rfl) ?_; dsimp only)); refine bv 2 #[.slice A0_0 l0_0.length c0_0, .slice A0_1 l0_1.length c0_1] 42 ?_; intro gb227 hg w4 hbox hb; obtain ⟨n0_, GW227⟩ := nb (w := w) hg hb; clear HB; have HB := n0_; have BK227 := Aside0.mk hbox; have GE227 := GW227; clear n0_ hb hbox hg) | ((with_reducible refine gate_dst (N := 3) rfl ?_); (try (refine gate_guard (by rfl) ?_; dsimp only)); refine bv 3 #[.slice A1_0 l1_0.length c1_0, .slice A1_1 l1_1.length c1_1] 42 ?_; intro gb228 hg w5 hbox hb; have n0_ := Aside0.mk (blk_below (g := gb227) (o := .cells #[.slice A0_0 l0_0.length c0_0, .slice A0_1 l0_1.length c0_1] 42 (0, 0)) (bk BK227.out) hb); have n1_ := Aside0.mk (below_step bl hb); have n2_ := Aside0.mk (hbox); have n3_ := Aside0.mk ((by rw [hg]; exact (below_size bl) : w.heap.size ≤ gb228)); have n4_ := Aside0.mk ((by rw [hg]; exact (below_size bl) : w.heap.size ≤ gb228)); have n5_ := Aside0.mk ((nl hg (bk BK227.out) : gb227 ≠ gb228)); have n6_ := Aside0.mk ((ng hg (bk BK227.out) : gb228 ≠ gb227)); clear BK227; clear HB; have BK227 := n0_; have HB := n1_; have BK228 := n2_; have GW228 := n3_; have GE228 := n4_; have NB227_228 := n5_; have NB228_227 := n6_; clear n0_ n1_ n2_ n3_ n4_ n5_ n6_; clear hb hbox hg))
 repeat (go_quiet (first | ((with_reducible refine gate_dst (N := 2) rfl ?_); (try (refine gate_guard (by rfl) ?_; dsimp only)); refine bv 2 #[.slice A0_0 l0_0.length c0_0, .slice A0_1 l0_1.length c0_1] 42 ?_; intro gb227 hg w4 hbox hb; obtain ⟨n0_, GW227⟩ := nb (w := w) hg hb; clear HB; have HB := n0_; have BK227 := Aside0.mk hbox; have GE227 := GW227; clear n0_ hb hbox hg) | ((with_reducible refine gate_dst (N := 3) rfl ?_); (try (refine gate_guard (by rfl) ?_; dsimp only)); refine bv 3 #[.slice A1_0 l1_0.length c1_0, .slice A1_1 l1_1.length c1_1] 42 ?_; intro gb228 hg w5 hbox hb; have n0_ := Aside0.mk (blk_below (g := gb227) (o := .cells #[.slice A0_0 l0_0.length c0_0, .slice A0_1 l0_1.length c0_1] 42 (0, 0)) (bk BK227.out) hb); have n1_ := Aside0.mk (below_step bl hb); have n2_ := Aside0.mk (hbox); have n3_ := Aside0.mk ((by rw [hg]; exact (below_size bl) : w.heap.size ≤ gb228)); have n4_ := Aside0.mk ((by rw [hg]; exact (below_size bl) : w.heap.size ≤ gb228)); have n5_ := Aside0.mk ((nl hg (bk BK227.out) : gb227 ≠ gb228)); have n6_ := Aside0.mk ((ng hg (bk BK227.out) : gb228 ≠ gb227)); clear BK227; clear HB; have BK227 := n0_; have HB := n1_; have BK228 := n2_; have GW228 := n3_; have GE228 := n4_; have NB227_228 := n5_; have NB228_227 := n6_; clear n0_ n1_ n2_ n3_ n4_ n5_ n6_; clear hb hbox hg)); go_upto_region 1 with (first | ((with_reducible refine gate_dst (N := 2) rfl ?_); (try (refine gate_guard (by rfl) ?_; dsimp only)); refine bv 2 #[.slice A0_0 l0_0.length c0_0, .slice A0_1 l0_1.length c0_1] 42 ?_; intro gb227 hg w4 hbox hb; obtain ⟨n0_, GW227⟩ := nb (w := w) hg hb; clear HB; have HB := n0_; have BK227 := Aside0.mk hbox; have GE227 := GW227; clear n0_ hb hbox hg) | ((with_reducible refine gate_dst (N := 3) rfl ?_); (try (refine gate_guard (by rfl) ?_; dsimp only)); refine bv 3 #[.slice A1_0 l1_0.length c1_0, .slice A1_1 l1_1.length c1_1] 42 ?_; intro gb228 hg w5 hbox hb; have n0_ := Aside0.mk (blk_below (g := gb227) (o := .cells #[.slice A0_0 l0_0.length c0_0, .slice A0_1 l0_1.length c0_1] 42 (0, 0)) (bk BK227.out) hb); have n1_ := Aside0.mk (below_step bl hb); have n2_ := Aside0.mk (hbox); have n3_ := Aside0.mk ((by rw [hg]; exact (below_size bl) : w.heap.size ≤ gb228)); have n4_ := Aside0.mk ((by rw [hg]; exact (below_size bl) : w.heap.size ≤ gb228)); have n5_ := Aside0.mk ((nl hg (bk BK227.out) : gb227 ≠ gb228)); have n6_ := Aside0.mk ((ng hg (bk BK227.out) : gb228 ≠ gb227)); clear BK227; clear HB; have BK227 := n0_; have HB := n1_; have BK228 := n2_; have GW228 := n3_; have GE228 := n4_; have NB227_228 := n5_; have NB228_227 := n6_; clear n0_ n1_ n2_ n3_ n4_ n5_ n6_; clear hb hbox hg)))
 (try simp only [Act.put, List.setIfInBounds_toArray, List.set_cons_zero, List.set_cons_succ])
 go_cut [23] (fun v23 wc => ∃ (kq : Nat) (x23_2 : Bool), v23 = .bool x23_2 ∧ Aside0 (spinnakerref13_Same.j0 kq x23_2 l0_0 l0_1 l1_0 l1_1 = some r) ∧ Aside0 (kq ≤ k) ∧ Aside0 (wc.heap[gb227]? = some (.cells #[(.slice A0_0 l0_0.length c0_0), (.slice A0_1 l0_1.length c0_1)] 42 (0, 0))) ∧ Aside0 (wc.heap[gb228]? = some (.cells #[(.slice A1_0 l1_0.length c1_0), (.slice A1_1 l1_1.length c1_1)] 42 (0, 0))) ∧ Aside0 (Below w.heap.size w wc))
 case first =>
  have H := HC3.out
  clear HC3
  by_cases c6 : (l0_0.length : Int) = (l1_0.length : Int)
  rotate_left
  ·rw [if_neg c6] at H
   have c6b0 : ((l0_0.length : Int) == (l1_0.length : Int)) = false := beq_eq_false_iff_ne.mpr c6
   have c6b1 : ((l0_0.length : Int) != (l1_0.length : Int)) = true := bne_iff_ne.mpr c6
   have c6b2 : (l0_0.length == l1_0.length) = false := by first | simpa using c6 | (simp at c6 ⊢; omega)
   (first | rw [c6b0] | (simp only [i64_w, i32_w]; rw [c6b0]) | skip)
   have H' := Aside0.mk H
   clear H
   have hnb10 := NB227_228.out
   have hnc10 := NB228_227.out
   obtain ⟨hcz11_0, hcz11_1, hfz11_0, hfz11_1⟩ := cz2 (w := w5) BK227.out
   obtain ⟨hcz12_0, hcz12_1, hfz12_0, hfz12_1⟩ := cz2 (w := w5) BK228.out
   go_wp2
   repeat (go_quiet (fail); try go_wp2)
   go_meet
   case rel => exact ⟨_, (true), fj, H', ⟨by first | omega | exact Nat.le_refl _⟩, ⟨by refine bx ?_; exact BK227.out⟩, ⟨by refine bx ?_; exact BK228.out⟩, ⟨bl⟩⟩
  rw [if_pos c6] at H
  have c6b0 : ((l0_0.length : Int) == (l1_0.length : Int)) = true := beq_iff_eq.mpr c6
  have c6b1 : ((l0_0.length : Int) != (l1_0.length : Int)) = false := bne_eq_false_iff_eq.mpr c6
  have c6b2 : (l0_0.length == l1_0.length) = true := by first | simpa using c6 | (simp at c6 ⊢; omega)
  clear c6
  (first | rw [c6b0] | (simp only [i64_w, i32_w]; rw [c6b0]) | skip)
  have H' := Aside0.mk H
  clear H
  have hnb7 := NB227_228.out
  have hnc7 := NB228_227.out
  obtain ⟨hcz8_0, hcz8_1, hfz8_0, hfz8_1⟩ := cz2 (w := w5) BK227.out
  obtain ⟨hcz9_0, hcz9_1, hfz9_0, hfz9_1⟩ := cz2 (w := w5) BK228.out
  go_wp2
  repeat (go_quiet (fail); try go_wp2)
  go_meet
  case rel => exact ⟨_, (((l0_1.length : Int) != (l1_1.length : Int))), fj, H', ⟨by first | omega | exact Nat.le_refl _⟩, ⟨by refine bx ?_; exact BK227.out⟩, ⟨by refine bx ?_; exact BK228.out⟩, ⟨bl⟩⟩
 case rest =>
  clear HC3
  try clear c1
  try clear c2
  try clear p2
  try clear c6
  try clear c6b0
  try clear c6b1
  try clear c6b2
  try clear c7
  try clear c10
  try clear hcz11_0 hcz11_1
  try clear hcz12_0 hcz12_1
  try clear hcz8_0 hcz8_1
  try clear hcz9_0 hcz9_1
  try clear hfz11_0 hfz11_1
  try clear hfz12_0 hfz12_1
  try clear hfz8_0 hfz8_1
  try clear hfz9_0 hfz9_1
  obtain ⟨kq, x23_2, rfl, HA, HJ2, BK227, BK228, HB⟩ := hcut
  cases kq with
  | zero => exact absurd HA.out (by simp [spinnakerref13_Same.j0])
  | succ kj2 =>
   have H := HA.out
   clear HA
   simp only [spinnakerref13_Same.j0] at H
   by_cases c13 : x23_2 = true
   ·subst c13
    have H1 : (some false) = some r := by rw [if_pos rfl] at H; exact H
    clear H
    have H := H1
    clear H1
    obtain rfl := Option.some.inj H
    go_wp2
    repeat (go_quiet (fail); try go_wp2)
    go_ret
    exact ⟨fi, bl⟩
   replace c13 := Bool.eq_false_iff.mpr c13
   subst c13
   have H1 : (spinnakerref13_Same.l0 kj2 0 l0_0 l0_1 l1_0 l1_1) = some r := by rw [if_neg (show ¬ (false = true) by decide)] at H; exact H
   clear H
   have H := H1
   clear H1
   have H' := Aside0.mk H
   clear H
   go_wp2
   repeat (go_quiet (fail); try go_wp2)
   go_loopg [5] kj2 (fun kq v5 w' => ∃ (x5_2 : Int), v5 = .int .i64 x5_2 ∧ Aside0 (spinnakerref13_Same.l0 kq x5_2 l0_0 l0_1 l1_0 l1_1 = some r) ∧ Aside0 (kq ≤ kj2) ∧ Aside0 (w'.heap[gb227]? = some (.cells #[(.slice A0_0 l0_0.length c0_0), (.slice A0_1 l0_1.length c0_1)] 42 (0, 0))) ∧ Aside0 (w'.heap[gb228]? = some (.cells #[(.slice A1_0 l1_0.length c1_0), (.slice A1_1 l1_1.length c1_1)] 42 (0, 0))) ∧ Aside0 (Below w.heap.size w w'))
   case atStart => exact ⟨(0), fj, H', ⟨Nat.le_refl _⟩, ⟨by refine bx ?_; exact BK227.out⟩, ⟨by refine bx ?_; exact BK228.out⟩, ⟨bl⟩⟩
   case round =>
    clear H'
    try clear c1
    try clear c2
    try clear p2
    try clear c6
    try clear c6b0
    try clear c6b1
    try clear c6b2
    try clear c7
    try clear c10
    try clear c13
    try clear hcz11_0 hcz11_1
    try clear hcz12_0 hcz12_1
    try clear hcz8_0 hcz8_1
    try clear hcz9_0 hcz9_1
    try clear hfz11_0 hfz11_1
    try clear hfz12_0 hfz12_1
    try clear hfz8_0 hfz8_1
    try clear hfz9_0 hfz9_1
    try clear p2
    obtain ⟨x5_2, rfl, HA, HK2, BK227, BK228, HB⟩ := hrel
    cases gk with
    | zero => exact absurd HA.out (by simp [spinnakerref13_Same.l0])
    | succ k2 =>
     have H := HA.out
     clear HA
     simp only [spinnakerref13_Same.l0] at H
     by_cases c14 : x5_2 < (l0_0.length : Int)
     ·rw [if_pos c14] at H
      have c14b0 := decide_eq_true c14
      clear c14
      by_cases c15 : 0 ≤ x5_2
      rotate_left
      ·rw [if_neg c15] at H
       exact absurd H (by simp)
      rw [if_pos c15] at H
      have c15b0 := decide_eq_true c15
      clear c15
      by_cases c16 : x5_2 < (l1_0.length : Int)
      rotate_left
      ·rw [if_neg c16] at H
       exact absurd H (by simp)
      rw [if_pos c16] at H
      have c16b0 := decide_eq_true c16
      clear c16
      by_cases c17 : ((rd_L5 l0_0 x5_2).length : Int) = ((rd_L5 l1_0 x5_2).length : Int)
      rotate_left
      ·rw [if_neg c17] at H
       have c17b0 : (((rd_L5 l0_0 x5_2).length : Int) == ((rd_L5 l1_0 x5_2).length : Int)) = false := beq_eq_false_iff_ne.mpr c17
       have c17b1 : (((rd_L5 l0_0 x5_2).length : Int) != ((rd_L5 l1_0 x5_2).length : Int)) = true := bne_iff_ne.mpr c17
       have c17b2 : ((rd_L5 l0_0 x5_2).length == (rd_L5 l1_0 x5_2).length) = false := by first | simpa using c17 | (simp at c17 ⊢; omega)
       obtain rfl := Option.some.inj H
       have hnb36 := NB227_228.out
       have hnc36 := NB228_227.out
       obtain ⟨hcz37_0, hcz37_1, hfz37_0, hfz37_1⟩ := cz2 (w := wr) BK227.out
       have p229 : 0 ≤ (x5_2 : Int) := od
       have q229 : x5_2 < (l0_0.length : Int) := od
       obtain ⟨ad229, A229_0, c229_0, e229, hx229_0, hl229_0, hi229_0⟩ := at_L5 HR0_0.out x5_2 p229 q229
       cases e229
       replace hx229_0 := cb HB.out hx229_0
       have HR229_0 := Aside0.mk hi229_0
       have HC229_0 := Aside0.mk hl229_0
       clear hi229_0 hl229_0
       replace p229 := eq_true p229
       replace q229 := eq_true q229
       obtain ⟨hcz38_0, hcz38_1, hfz38_0, hfz38_1⟩ := cz2 (w := wr) BK228.out
       have p230 : 0 ≤ (x5_2 : Int) := od
       have q230 : x5_2 < (l1_0.length : Int) := od
       obtain ⟨ad230, A230_0, c230_0, e230, hx230_0, hl230_0, hi230_0⟩ := at_L5 HR1_0.out x5_2 p230 q230
       cases e230
       replace hx230_0 := cb HB.out hx230_0
       have HR230_0 := Aside0.mk hi230_0
       have HC230_0 := Aside0.mk hl230_0
       clear hi230_0 hl230_0
       replace p230 := eq_true p230
       replace q230 := eq_true q230
       go_wp2
       repeat (go_quiet (fail); try go_wp2)
       go_ret
       exact ⟨fi, bl⟩
      rw [if_pos c17] at H
      have c17b0 : (((rd_L5 l0_0 x5_2).length : Int) == ((rd_L5 l1_0 x5_2).length : Int)) = true := beq_iff_eq.mpr c17
      have c17b1 : (((rd_L5 l0_0 x5_2).length : Int) != ((rd_L5 l1_0 x5_2).length : Int)) = false := bne_eq_false_iff_eq.mpr c17
      have c17b2 : ((rd_L5 l0_0 x5_2).length == (rd_L5 l1_0 x5_2).length) = true := by first | simpa using c17 | (simp at c17 ⊢; omega)
      clear c17
      have H' := Aside0.mk H
      clear H
      have hnb18 := NB227_228.out
      have hnc18 := NB228_227.out
      obtain ⟨hcz19_0, hcz19_1, hfz19_0, hfz19_1⟩ := cz2 (w := wr) BK227.out
      have p229 : 0 ≤ (x5_2 : Int) := od
      have q229 : x5_2 < (l0_0.length : Int) := od
      obtain ⟨ad229, A229_0, c229_0, e229, hx229_0, hl229_0, hi229_0⟩ := at_L5 HR0_0.out x5_2 p229 q229
      cases e229
      replace hx229_0 := cb HB.out hx229_0
      have HR229_0 := Aside0.mk hi229_0
      have HC229_0 := Aside0.mk hl229_0
      clear hi229_0 hl229_0
      replace p229 := eq_true p229
      replace q229 := eq_true q229
      obtain ⟨hcz20_0, hcz20_1, hfz20_0, hfz20_1⟩ := cz2 (w := wr) BK228.out
      have p230 : 0 ≤ (x5_2 : Int) := od
      have q230 : x5_2 < (l1_0.length : Int) := od
      obtain ⟨ad230, A230_0, c230_0, e230, hx230_0, hl230_0, hi230_0⟩ := at_L5 HR1_0.out x5_2 p230 q230
      cases e230
      replace hx230_0 := cb HB.out hx230_0
      have HR230_0 := Aside0.mk hi230_0
      have HC230_0 := Aside0.mk hl230_0
      clear hi230_0 hl230_0
      replace p230 := eq_true p230
      replace q230 := eq_true q230
      go_wp2
      repeat (go_quiet (fail); try go_wp2)
      go_loopg [6] k2 (fun kq v6 w' => ∃ (x6_3 : Int), v6 = .int .i64 x6_3 ∧ Aside0 (spinnakerref13_Same.l1 kq x5_2 x6_3 l0_0 l0_1 l1_0 l1_1 = some r) ∧ Aside0 (kq ≤ k2) ∧ Aside0 (w'.heap[gb227]? = some (.cells #[(.slice (some ad229) l0_0.length c0_0), (.slice A0_1 l0_1.length c0_1)] 42 (0, 0))) ∧ Aside0 (w'.heap[gb228]? = some (.cells #[(.slice (some ad230) l1_0.length c1_0), (.slice A1_1 l1_1.length c1_1)] 42 (0, 0))) ∧ Aside0 (Below w.heap.size w w'))
      case atStart => exact ⟨(0), fj, H', ⟨Nat.le_refl _⟩, ⟨by refine bx ?_; exact BK227.out⟩, ⟨by refine bx ?_; exact BK228.out⟩, ⟨bl⟩⟩
      case round =>
       clear H'
       try clear c1
       try clear c2
       try clear p2
       try clear q2
       try clear hx2
       try clear c6
       try clear c6b0
       try clear c6b1
       try clear c6b2
       try clear c7
       try clear c10
       try clear c13
       try clear c14
       try clear c14b0
       try clear c15
       try clear c15b0
       try clear c16
       try clear c16b0
       try clear c17
       try clear c17b0
       try clear c17b1
       try clear c17b2
       try clear c18
       try clear c20
       try clear hcz11_0 hcz11_1
       try clear hcz12_0 hcz12_1
       try clear hcz19_0 hcz19_1
       try clear hcz20_0 hcz20_1
       try clear hcz8_0 hcz8_1
       try clear hcz9_0 hcz9_1
       try clear hfz11_0 hfz11_1
       try clear hfz12_0 hfz12_1
       try clear hfz19_0 hfz19_1
       try clear hfz20_0 hfz20_1
       try clear hfz8_0 hfz8_1
       try clear hfz9_0 hfz9_1
       try clear hx229_0
       try clear hx230_0
       try clear p2
       try clear p229
       try clear p230
       try clear q229
       try clear q230
       obtain ⟨x6_3, rfl, HA, HK3, BK227, BK228, HB⟩ := hrel
       cases gk with
       | zero => exact absurd HA.out (by simp [spinnakerref13_Same.l1])
       | succ k3 =>
        have H := HA.out
        clear HA
        simp only [spinnakerref13_Same.l1] at H
        by_cases c21 : 0 ≤ x5_2
        rotate_left
        ·rw [if_neg c21] at H
         exact absurd H (by simp)
        rw [if_pos c21] at H
        have c21b0 := decide_eq_true c21
        clear c21
        by_cases c22 : x5_2 < (l0_0.length : Int)
        rotate_left
        ·rw [if_neg c22] at H
         exact absurd H (by simp)
        rw [if_pos c22] at H
        have c22b0 := decide_eq_true c22
        clear c22
        by_cases c23 : x6_3 < ((rd_L5 l0_0 x5_2).length : Int)
        rotate_left
        ·rw [if_neg c23] at H
         have c23b0 := decide_eq_false c23
         clear c23
         have H' := Aside0.mk H
         clear H
         have hnb34 := NB227_228.out
         have hnc34 := NB228_227.out
         obtain ⟨hcz35_0, hcz35_1, hfz35_0, hfz35_1⟩ := cz2 (w := wr) BK227.out
         have p231 : 0 ≤ (x5_2 : Int) := od
         have q231 : x5_2 < (l0_0.length : Int) := od
         obtain ⟨ad231, A231_0, c231_0, e231, hx231_0, hl231_0, hi231_0⟩ := at_L5 HR0_0.out x5_2 p231 q231
         obtain rfl : ad229 = ad231 := (by injection e231)
         replace hx231_0 := cb HB.out hx231_0
         have HR231_0 := Aside0.mk hi231_0
         have HC231_0 := Aside0.mk hl231_0
         clear hi231_0 hl231_0
         replace p231 := eq_true p231
         replace q231 := eq_true q231
         go_wp2
         repeat (go_quiet (fail); try go_wp2)
         go_roundg k3
         case measure => have := HJ2.out; have := HK2.out; have := HK3.out; omega
         case rel => exact ⟨(wrap64 (x5_2 + 1)), fj, H', ⟨by have := HJ2.out; have := HK2.out; have := HK3.out; omega⟩, ⟨by refine bx ?_; exact BK227.out⟩, ⟨by refine bx ?_; exact BK228.out⟩, ⟨bl⟩⟩
        rw [if_pos c23] at H
        have c23b0 := decide_eq_true c23
        clear c23
        by_cases c24 : 0 ≤ x6_3
        rotate_left
        ·rw [if_neg c24] at H
         exact absurd H (by simp)
        rw [if_pos c24] at H
        have c24b0 := decide_eq_true c24
        clear c24
        by_cases c25 : x5_2 < (l1_0.length : Int)
        rotate_left
        ·rw [if_neg c25] at H
         exact absurd H (by simp)
        rw [if_pos c25] at H
        have c25b0 := decide_eq_true c25
        clear c25
        by_cases c26 : x6_3 < ((rd_L5 l1_0 x5_2).length : Int)
        rotate_left
        ·rw [if_neg c26] at H
         exact absurd H (by simp)
        rw [if_pos c26] at H
        have c26b0 := decide_eq_true c26
        clear c26
        by_cases c27 : (!(((rd_T75 (rd_L5 l0_0 x5_2) x6_3).f0) == ((rd_T75 (rd_L5 l1_0 x5_2) x6_3).f0)) || (!(((rd_T75 (rd_L5 l0_0 x5_2) x6_3).f1) == ((rd_T75 (rd_L5 l1_0 x5_2) x6_3).f1)) || ((!(((rd_T75 (rd_L5 l0_0 x5_2) x6_3).f2.f0) == ((rd_T75 (rd_L5 l1_0 x5_2) x6_3).f2.f0)) || (!(((rd_T75 (rd_L5 l0_0 x5_2) x6_3).f2.f1) == ((rd_T75 (rd_L5 l1_0 x5_2) x6_3).f2.f1)))) || (!(((rd_T75 (rd_L5 l0_0 x5_2) x6_3).f3) == ((rd_T75 (rd_L5 l1_0 x5_2) x6_3).f3)) || (!(((rd_T75 (rd_L5 l0_0 x5_2) x6_3).f4) == ((rd_T75 (rd_L5 l1_0 x5_2) x6_3).f4))))))) = true
        ·rw [if_pos c27] at H
         have c27b0 : (!(((rd_T75 (rd_L5 l0_0 x5_2) x6_3).f0) == ((rd_T75 (rd_L5 l1_0 x5_2) x6_3).f0)) || (!(((rd_T75 (rd_L5 l0_0 x5_2) x6_3).f1) == ((rd_T75 (rd_L5 l1_0 x5_2) x6_3).f1)) || ((!(((rd_T75 (rd_L5 l0_0 x5_2) x6_3).f2.f0) == ((rd_T75 (rd_L5 l1_0 x5_2) x6_3).f2.f0)) || (!(((rd_T75 (rd_L5 l0_0 x5_2) x6_3).f2.f1) == ((rd_T75 (rd_L5 l1_0 x5_2) x6_3).f2.f1)))) || (!(((rd_T75 (rd_L5 l0_0 x5_2) x6_3).f3) == ((rd_T75 (rd_L5 l1_0 x5_2) x6_3).f3)) || (!(((rd_T75 (rd_L5 l0_0 x5_2) x6_3).f4) == ((rd_T75 (rd_L5 l1_0 x5_2) x6_3).f4))))))) = true := c27
         clear c27
         obtain rfl := Option.some.inj H
         have hnb28 := NB227_228.out
         have hnc28 := NB228_227.out
         obtain ⟨hcz29_0, hcz29_1, hfz29_0, hfz29_1⟩ := cz2 (w := wr) BK227.out
         have p231 : 0 ≤ (x5_2 : Int) := od
         have q231 : x5_2 < (l0_0.length : Int) := od
         obtain ⟨ad231, A231_0, c231_0, e231, hx231_0, hl231_0, hi231_0⟩ := at_L5 HR0_0.out x5_2 p231 q231
         obtain rfl : ad229 = ad231 := (by injection e231)
         replace hx231_0 := cb HB.out hx231_0
         have HR231_0 := Aside0.mk hi231_0
         have HC231_0 := Aside0.mk hl231_0
         clear hi231_0 hl231_0
         replace p231 := eq_true p231
         replace q231 := eq_true q231
         have p232 : 0 ≤ (x5_2 : Int) := od
         have q232 : x5_2 < (l0_0.length : Int) := od
         obtain ⟨ad232, A232_0, c232_0, e232, hx232_0, hl232_0, hi232_0⟩ := at_L5 HR0_0.out x5_2 p232 q232
         obtain rfl : ad229 = ad232 := (by injection e232)
         replace hx232_0 := cb HB.out hx232_0
         have HR232_0 := Aside0.mk hi232_0
         have HC232_0 := Aside0.mk hl232_0
         clear hi232_0 hl232_0
         replace p232 := eq_true p232
         replace q232 := eq_true q232
         have ea_ := Option.some.inj (hx231_0.symm.trans hx232_0)
         injection ea_ with ea_ en_ ec_
         subst ea_
         subst ec_
         clear en_
         have p233 : 0 ≤ (x6_3 : Int) := od
         have q233 : x6_3 < ((rd_L5 l0_0 x5_2).length : Int) := od
         obtain ⟨ad233, e233, hx233_0, hx233_1, hx233_2, hx233_3, hx233_4, hx233_5⟩ := at_T75 HR232_0.out x6_3 p233 q233
         cases e233
         replace hx233_0 := cb HB.out hx233_0
         replace hx233_1 := cb HB.out hx233_1
         replace hx233_2 := cb HB.out hx233_2
         replace hx233_3 := cb HB.out hx233_3
         replace hx233_4 := cb HB.out hx233_4
         replace hx233_5 := cb HB.out hx233_5
         replace p233 := eq_true p233
         replace q233 := eq_true q233
         obtain ⟨hcz30_0, hcz30_1, hfz30_0, hfz30_1⟩ := cz2 (w := wr) BK228.out
         have p234 : 0 ≤ (x5_2 : Int) := od
         have q234 : x5_2 < (l1_0.length : Int) := od
         obtain ⟨ad234, A234_0, c234_0, e234, hx234_0, hl234_0, hi234_0⟩ := at_L5 HR1_0.out x5_2 p234 q234
         obtain rfl : ad230 = ad234 := (by injection e234)
         replace hx234_0 := cb HB.out hx234_0
         have HR234_0 := Aside0.mk hi234_0
         have HC234_0 := Aside0.mk hl234_0
         clear hi234_0 hl234_0
         replace p234 := eq_true p234
         replace q234 := eq_true q234
         have p235 : 0 ≤ (x6_3 : Int) := od
         have q235 : x6_3 < ((rd_L5 l1_0 x5_2).length : Int) := od
         obtain ⟨ad235, e235, hx235_0, hx235_1, hx235_2, hx235_3, hx235_4, hx235_5⟩ := at_T75 HR234_0.out x6_3 p235 q235
         cases e235
         replace hx235_0 := cb HB.out hx235_0
         replace hx235_1 := cb HB.out hx235_1
         replace hx235_2 := cb HB.out hx235_2
         replace hx235_3 := cb HB.out hx235_3
         replace hx235_4 := cb HB.out hx235_4
         replace hx235_5 := cb HB.out hx235_5
         replace p235 := eq_true p235
         replace q235 := eq_true q235
         go_wp2
         repeat (go_quiet (fail); try go_wp2)
         go_ret
         exact ⟨fi, bl⟩
        rw [if_neg c27] at H
        have c27b0 : (!(((rd_T75 (rd_L5 l0_0 x5_2) x6_3).f0) == ((rd_T75 (rd_L5 l1_0 x5_2) x6_3).f0)) || (!(((rd_T75 (rd_L5 l0_0 x5_2) x6_3).f1) == ((rd_T75 (rd_L5 l1_0 x5_2) x6_3).f1)) || ((!(((rd_T75 (rd_L5 l0_0 x5_2) x6_3).f2.f0) == ((rd_T75 (rd_L5 l1_0 x5_2) x6_3).f2.f0)) || (!(((rd_T75 (rd_L5 l0_0 x5_2) x6_3).f2.f1) == ((rd_T75 (rd_L5 l1_0 x5_2) x6_3).f2.f1)))) || (!(((rd_T75 (rd_L5 l0_0 x5_2) x6_3).f3) == ((rd_T75 (rd_L5 l1_0 x5_2) x6_3).f3)) || (!(((rd_T75 (rd_L5 l0_0 x5_2) x6_3).f4) == ((rd_T75 (rd_L5 l1_0 x5_2) x6_3).f4))))))) = false := by simpa using c27
        clear c27
        have H' := Aside0.mk H
        clear H
        have hnb31 := NB227_228.out
        have hnc31 := NB228_227.out
        obtain ⟨hcz32_0, hcz32_1, hfz32_0, hfz32_1⟩ := cz2 (w := wr) BK227.out
        have p231 : 0 ≤ (x5_2 : Int) := od
        have q231 : x5_2 < (l0_0.length : Int) := od
        obtain ⟨ad231, A231_0, c231_0, e231, hx231_0, hl231_0, hi231_0⟩ := at_L5 HR0_0.out x5_2 p231 q231
        obtain rfl : ad229 = ad231 := (by injection e231)
        replace hx231_0 := cb HB.out hx231_0
        have HR231_0 := Aside0.mk hi231_0
        have HC231_0 := Aside0.mk hl231_0
        clear hi231_0 hl231_0
        replace p231 := eq_true p231
        replace q231 := eq_true q231
        have p232 : 0 ≤ (x5_2 : Int) := od
        have q232 : x5_2 < (l0_0.length : Int) := od
        obtain ⟨ad232, A232_0, c232_0, e232, hx232_0, hl232_0, hi232_0⟩ := at_L5 HR0_0.out x5_2 p232 q232
        obtain rfl : ad229 = ad232 := (by injection e232)
        replace hx232_0 := cb HB.out hx232_0
        have HR232_0 := Aside0.mk hi232_0
        have HC232_0 := Aside0.mk hl232_0
        clear hi232_0 hl232_0
        replace p232 := eq_true p232
        replace q232 := eq_true q232
        have ea_ := Option.some.inj (hx231_0.symm.trans hx232_0)
        injection ea_ with ea_ en_ ec_
        subst ea_
        subst ec_
        clear en_
        have p233 : 0 ≤ (x6_3 : Int) := od
        have q233 : x6_3 < ((rd_L5 l0_0 x5_2).length : Int) := od
        obtain ⟨ad233, e233, hx233_0, hx233_1, hx233_2, hx233_3, hx233_4, hx233_5⟩ := at_T75 HR232_0.out x6_3 p233 q233
        cases e233
        replace hx233_0 := cb HB.out hx233_0
        replace hx233_1 := cb HB.out hx233_1
        replace hx233_2 := cb HB.out hx233_2
        replace hx233_3 := cb HB.out hx233_3
        replace hx233_4 := cb HB.out hx233_4
        replace hx233_5 := cb HB.out hx233_5
        replace p233 := eq_true p233
        replace q233 := eq_true q233
        obtain ⟨hcz33_0, hcz33_1, hfz33_0, hfz33_1⟩ := cz2 (w := wr) BK228.out
        have p234 : 0 ≤ (x5_2 : Int) := od
        have q234 : x5_2 < (l1_0.length : Int) := od
        obtain ⟨ad234, A234_0, c234_0, e234, hx234_0, hl234_0, hi234_0⟩ := at_L5 HR1_0.out x5_2 p234 q234
        obtain rfl : ad230 = ad234 := (by injection e234)
        replace hx234_0 := cb HB.out hx234_0
        have HR234_0 := Aside0.mk hi234_0
        have HC234_0 := Aside0.mk hl234_0
        clear hi234_0 hl234_0
        replace p234 := eq_true p234
        replace q234 := eq_true q234
        have p235 : 0 ≤ (x6_3 : Int) := od
        have q235 : x6_3 < ((rd_L5 l1_0 x5_2).length : Int) := od
        obtain ⟨ad235, e235, hx235_0, hx235_1, hx235_2, hx235_3, hx235_4, hx235_5⟩ := at_T75 HR234_0.out x6_3 p235 q235
        cases e235
        replace hx235_0 := cb HB.out hx235_0
        replace hx235_1 := cb HB.out hx235_1
        replace hx235_2 := cb HB.out hx235_2
        replace hx235_3 := cb HB.out hx235_3
        replace hx235_4 := cb HB.out hx235_4
        replace hx235_5 := cb HB.out hx235_5
        replace p235 := eq_true p235
        replace q235 := eq_true q235
        go_wp2
        repeat (go_quiet (fail); try go_wp2)
        go_roundg k3
        case measure => have := HJ2.out; have := HK2.out; have := HK3.out; omega
        case rel => exact ⟨(wrap64 (x6_3 + 1)), fj, H', ⟨by have := HJ2.out; have := HK2.out; have := HK3.out; omega⟩, ⟨by refine bx ?_; exact BK227.out⟩, ⟨by refine bx ?_; exact BK228.out⟩, ⟨bl⟩⟩
     rw [if_neg c14] at H
     have c14b0 := decide_eq_false c14
     clear c14
     have H' := Aside0.mk H
     clear H
     have hnb39 := NB227_228.out
     have hnc39 := NB228_227.out
     obtain ⟨hcz40_0, hcz40_1, hfz40_0, hfz40_1⟩ := cz2 (w := wr) BK227.out
     go_wp2
     repeat (go_quiet (fail); try go_wp2)
     go_loopg [7] k2 (fun kq v7 w' => ∃ (x7_3 : Int), v7 = .int .i64 x7_3 ∧ Aside0 (spinnakerref13_Same.l2 kq x7_3 l0_0 l0_1 l1_0 l1_1 = some r) ∧ Aside0 (kq ≤ k2) ∧ Aside0 (w'.heap[gb227]? = some (.cells #[(.slice A0_0 l0_0.length c0_0), (.slice A0_1 l0_1.length c0_1)] 42 (0, 0))) ∧ Aside0 (w'.heap[gb228]? = some (.cells #[(.slice A1_0 l1_0.length c1_0), (.slice A1_1 l1_1.length c1_1)] 42 (0, 0))) ∧ Aside0 (Below w.heap.size w w'))
     case atStart => exact ⟨(0), fj, H', ⟨Nat.le_refl _⟩, ⟨by refine bx ?_; exact BK227.out⟩, ⟨by refine bx ?_; exact BK228.out⟩, ⟨bl⟩⟩
     case round =>
      clear H'
      try clear c1
      try clear c2
      try clear p2
      try clear q2
      try clear hx2
      try clear c3
      try clear c6
      try clear c6b0
      try clear c6b1
      try clear c6b2
      try clear p6
      try clear c7
      try clear c10
      try clear c13
      try clear c14
      try clear c14b0
      try clear c15
      try clear c15b0
      try clear c16
      try clear c16b0
      try clear c17
      try clear c17b0
      try clear c17b1
      try clear c17b2
      try clear c18
      try clear c20
      try clear c21
      try clear c21b0
      try clear c22
      try clear c22b0
      try clear p22
      try clear q22
      try clear hx22
      try clear c23
      try clear c23b0
      try clear p23
      try clear q23
      try clear hx23
      try clear c24
      try clear c24b0
      try clear c25
      try clear c25b0
      try clear c26
      try clear c26b0
      try clear c27
      try clear c27b0
      try clear c28
      try clear c31
      try clear c34
      try clear c36
      try clear c39
      try clear hcz11_0 hcz11_1
      try clear hcz12_0 hcz12_1
      try clear hcz19_0 hcz19_1
      try clear hcz20_0 hcz20_1
      try clear hcz29_0 hcz29_1
      try clear hcz30_0 hcz30_1
      try clear hcz32_0 hcz32_1
      try clear hcz33_0 hcz33_1
      try clear hcz35_0 hcz35_1
      try clear hcz37_0 hcz37_1
      try clear hcz38_0 hcz38_1
      try clear hcz40_0 hcz40_1
      try clear hcz8_0 hcz8_1
      try clear hcz9_0 hcz9_1
      try clear hfz11_0 hfz11_1
      try clear hfz12_0 hfz12_1
      try clear hfz19_0 hfz19_1
      try clear hfz20_0 hfz20_1
      try clear hfz29_0 hfz29_1
      try clear hfz30_0 hfz30_1
      try clear hfz32_0 hfz32_1
      try clear hfz33_0 hfz33_1
      try clear hfz35_0 hfz35_1
      try clear hfz37_0 hfz37_1
      try clear hfz38_0 hfz38_1
      try clear hfz40_0 hfz40_1
      try clear hfz8_0 hfz8_1
      try clear hfz9_0 hfz9_1
      try clear hx229_0
      try clear hx230_0
      try clear hx231_0
      try clear hx232_0
      try clear hx233_0
      try clear hx233_1
      try clear hx233_2
      try clear hx233_3
      try clear hx233_4
      try clear hx233_5
      try clear hx234_0
      try clear hx235_0
      try clear hx235_1
      try clear hx235_2
      try clear hx235_3
      try clear hx235_4
      try clear hx235_5
      try clear p2
      try clear p229
      try clear p230
      try clear p231
      try clear p232
      try clear p233
      try clear p234
      try clear p235
      try clear q2
      try clear q229
      try clear q230
      try clear q231
      try clear q232
      try clear q233
      try clear q234
      try clear q235
      obtain ⟨x7_3, rfl, HA, HK3, BK227, BK228, HB⟩ := hrel
      cases gk with
      | zero => exact absurd HA.out (by simp [spinnakerref13_Same.l2])
      | succ k3 =>
       have H := HA.out
       clear HA
       simp only [spinnakerref13_Same.l2] at H
       by_cases c41 : x7_3 < (l0_1.length : Int)
       rotate_left
       ·rw [if_neg c41] at H
        have c41b0 := decide_eq_false c41
        clear c41
        obtain rfl := Option.some.inj H
        have hnb56 := NB227_228.out
        have hnc56 := NB228_227.out
        obtain ⟨hcz57_0, hcz57_1, hfz57_0, hfz57_1⟩ := cz2 (w := wr) BK227.out
        go_wp2
        repeat (go_quiet (fail); try go_wp2)
        go_ret
        exact ⟨fi, bl⟩
       rw [if_pos c41] at H
       have c41b0 := decide_eq_true c41
       clear c41
       by_cases c42 : 0 ≤ x7_3
       rotate_left
       ·rw [if_neg c42] at H
        exact absurd H (by simp)
       rw [if_pos c42] at H
       have c42b0 := decide_eq_true c42
       clear c42
       by_cases c43 : x7_3 < (l1_1.length : Int)
       rotate_left
       ·rw [if_neg c43] at H
        exact absurd H (by simp)
       rw [if_pos c43] at H
       have c43b0 := decide_eq_true c43
       clear c43
       by_cases c44 : ((rd_T70 l0_1 x7_3).f0) = ((rd_T70 l1_1 x7_3).f0)
       rotate_left
       ·rw [if_neg c44] at H
        have c44b0 : (((rd_T70 l0_1 x7_3).f0) == ((rd_T70 l1_1 x7_3).f0)) = false := beq_eq_false_iff_ne.mpr c44
        have c44b1 : (((rd_T70 l0_1 x7_3).f0) != ((rd_T70 l1_1 x7_3).f0)) = true := bne_iff_ne.mpr c44
        obtain rfl := Option.some.inj H
        have hnb53 := NB227_228.out
        have hnc53 := NB228_227.out
        obtain ⟨hcz54_0, hcz54_1, hfz54_0, hfz54_1⟩ := cz2 (w := wr) BK227.out
        have p236 : 0 ≤ (x7_3 : Int) := od
        have q236 : x7_3 < (l0_1.length : Int) := od
        obtain ⟨ad236, A236_1, c236_1, e236, hx236_0, hx236_1, hl236_1, hi236_1⟩ := at_T70 HR0_1.out x7_3 p236 q236
        cases e236
        replace hx236_0 := cb HB.out hx236_0
        replace hx236_1 := cb HB.out hx236_1
        have HR236_1 := Aside0.mk hi236_1
        have HC236_1 := Aside0.mk hl236_1
        clear hi236_1 hl236_1
        replace p236 := eq_true p236
        replace q236 := eq_true q236
        obtain ⟨hcz55_0, hcz55_1, hfz55_0, hfz55_1⟩ := cz2 (w := wr) BK228.out
        have p237 : 0 ≤ (x7_3 : Int) := od
        have q237 : x7_3 < (l1_1.length : Int) := od
        obtain ⟨ad237, A237_1, c237_1, e237, hx237_0, hx237_1, hl237_1, hi237_1⟩ := at_T70 HR1_1.out x7_3 p237 q237
        cases e237
        replace hx237_0 := cb HB.out hx237_0
        replace hx237_1 := cb HB.out hx237_1
        have HR237_1 := Aside0.mk hi237_1
        have HC237_1 := Aside0.mk hl237_1
        clear hi237_1 hl237_1
        replace p237 := eq_true p237
        replace q237 := eq_true q237
        go_wp2
        repeat (go_quiet (fail); try go_wp2)
        go_ret
        exact ⟨fi, bl⟩
       rw [if_pos c44] at H
       have c44b0 : (((rd_T70 l0_1 x7_3).f0) == ((rd_T70 l1_1 x7_3).f0)) = true := beq_iff_eq.mpr c44
       have c44b1 : (((rd_T70 l0_1 x7_3).f0) != ((rd_T70 l1_1 x7_3).f0)) = false := bne_eq_false_iff_eq.mpr c44
       clear c44
       replace H := be H
       obtain ⟨t240, A45, H⟩ := H
       by_cases c46 : t240 = true
       rotate_left
       ·replace c46 := Bool.eq_false_iff.mpr c46
        subst c46
        have H1 : (some false) = some r := by rw [if_neg (show ¬ (false = true) by decide)] at H; exact H
        clear H
        have H := H1
        clear H1
        obtain rfl := Option.some.inj H
        have hnb50 := NB227_228.out
        have hnc50 := NB228_227.out
        obtain ⟨hcz51_0, hcz51_1, hfz51_0, hfz51_1⟩ := cz2 (w := wr) BK227.out
        have p236 : 0 ≤ (x7_3 : Int) := od
        have q236 : x7_3 < (l0_1.length : Int) := od
        obtain ⟨ad236, A236_1, c236_1, e236, hx236_0, hx236_1, hl236_1, hi236_1⟩ := at_T70 HR0_1.out x7_3 p236 q236
        cases e236
        replace hx236_0 := cb HB.out hx236_0
        replace hx236_1 := cb HB.out hx236_1
        have HR236_1 := Aside0.mk hi236_1
        have HC236_1 := Aside0.mk hl236_1
        clear hi236_1 hl236_1
        replace p236 := eq_true p236
        replace q236 := eq_true q236
        obtain ⟨hcz52_0, hcz52_1, hfz52_0, hfz52_1⟩ := cz2 (w := wr) BK228.out
        have p237 : 0 ≤ (x7_3 : Int) := od
        have q237 : x7_3 < (l1_1.length : Int) := od
        obtain ⟨ad237, A237_1, c237_1, e237, hx237_0, hx237_1, hl237_1, hi237_1⟩ := at_T70 HR1_1.out x7_3 p237 q237
        cases e237
        replace hx237_0 := cb HB.out hx237_0
        replace hx237_1 := cb HB.out hx237_1
        have HR237_1 := Aside0.mk hi237_1
        have HC237_1 := Aside0.mk hl237_1
        clear hi237_1 hl237_1
        replace p237 := eq_true p237
        replace q237 := eq_true q237
        have p238 : 0 ≤ (x7_3 : Int) := od
        have q238 : x7_3 < (l0_1.length : Int) := od
        obtain ⟨ad238, A238_1, c238_1, e238, hx238_0, hx238_1, hl238_1, hi238_1⟩ := at_T70 HR0_1.out x7_3 p238 q238
        obtain rfl : ad236 = ad238 := (by injection e238)
        replace hx238_0 := cb HB.out hx238_0
        replace hx238_1 := cb HB.out hx238_1
        have HR238_1 := Aside0.mk hi238_1
        have HC238_1 := Aside0.mk hl238_1
        clear hi238_1 hl238_1
        replace p238 := eq_true p238
        replace q238 := eq_true q238
        have ea_ := Option.some.inj (hx236_1.symm.trans hx238_1)
        injection ea_ with ea_ en_ ec_
        subst ea_
        subst ec_
        clear en_
        have p239 : 0 ≤ (x7_3 : Int) := od
        have q239 : x7_3 < (l1_1.length : Int) := od
        obtain ⟨ad239, A239_1, c239_1, e239, hx239_0, hx239_1, hl239_1, hi239_1⟩ := at_T70 HR1_1.out x7_3 p239 q239
        obtain rfl : ad237 = ad239 := (by injection e239)
        replace hx239_0 := cb HB.out hx239_0
        replace hx239_1 := cb HB.out hx239_1
        have HR239_1 := Aside0.mk hi239_1
        have HC239_1 := Aside0.mk hl239_1
        clear hi239_1 hl239_1
        replace p239 := eq_true p239
        replace q239 := eq_true q239
        have ea_ := Option.some.inj (hx237_1.symm.trans hx239_1)
        injection ea_ with ea_ en_ ec_
        subst ea_
        subst ec_
        clear en_
        go_wp2_with (first | (go_at_call 43; (with_reducible refine (spinnakerref13_Refs.calls k3 _ _ ((rd_T70 l0_1 x7_3).f1) _ _ ((rd_T70 l1_1 x7_3).f1) false _ ?side1 ?side2 ?side3 ?side4 A45.out).mono ?_); (case side1 => repeat (first | exact (Kd.C_below HR238_1.out HB.out) | (with_reducible refine Kd.C_alloc ?_ _) | (with_reducible refine Kd.C_drewN ?_ _) | (with_reducible refine Kd.C_drew ?_))); (case side2 => exact HC238_1.out); (case side3 => repeat (first | exact (Kd.C_below HR239_1.out HB.out) | (with_reducible refine Kd.C_alloc ?_ _) | (with_reducible refine Kd.C_drewN ?_ _) | (with_reducible refine Kd.C_drew ?_))); (case side4 => exact HC239_1.out); rintro e w' ⟨rfl, ⟨nd, rfl⟩⟩; (try first | exact ⟨rfl, _, World.drewN_drewN _ _ _⟩ | exact ⟨rfl, _, Eq.trans (World.drewN_drewN _ _ _) (congrArg (World.drewN _) (Nat.add_assoc _ _ _))⟩)))
        repeat (go_quiet (first | (go_at_call 43; (with_reducible refine (spinnakerref13_Refs.calls k3 _ _ ((rd_T70 l0_1 x7_3).f1) _ _ ((rd_T70 l1_1 x7_3).f1) false _ ?side1 ?side2 ?side3 ?side4 A45.out).mono ?_); (case side1 => repeat (first | exact (Kd.C_below HR238_1.out HB.out) | (with_reducible refine Kd.C_alloc ?_ _) | (with_reducible refine Kd.C_drewN ?_ _) | (with_reducible refine Kd.C_drew ?_))); (case side2 => exact HC238_1.out); (case side3 => repeat (first | exact (Kd.C_below HR239_1.out HB.out) | (with_reducible refine Kd.C_alloc ?_ _) | (with_reducible refine Kd.C_drewN ?_ _) | (with_reducible refine Kd.C_drew ?_))); (case side4 => exact HC239_1.out); rintro e w' ⟨rfl, ⟨nd, rfl⟩⟩; (try first | exact ⟨rfl, _, World.drewN_drewN _ _ _⟩ | exact ⟨rfl, _, Eq.trans (World.drewN_drewN _ _ _) (congrArg (World.drewN _) (Nat.add_assoc _ _ _))⟩))); try go_wp2_with (first | (go_at_call 43; (with_reducible refine (spinnakerref13_Refs.calls k3 _ _ ((rd_T70 l0_1 x7_3).f1) _ _ ((rd_T70 l1_1 x7_3).f1) false _ ?side1 ?side2 ?side3 ?side4 A45.out).mono ?_); (case side1 => repeat (first | exact (Kd.C_below HR238_1.out HB.out) | (with_reducible refine Kd.C_alloc ?_ _) | (with_reducible refine Kd.C_drewN ?_ _) | (with_reducible refine Kd.C_drew ?_))); (case side2 => exact HC238_1.out); (case side3 => repeat (first | exact (Kd.C_below HR239_1.out HB.out) | (with_reducible refine Kd.C_alloc ?_ _) | (with_reducible refine Kd.C_drewN ?_ _) | (with_reducible refine Kd.C_drew ?_))); (case side4 => exact HC239_1.out); rintro e w' ⟨rfl, ⟨nd, rfl⟩⟩; (try first | exact ⟨rfl, _, World.drewN_drewN _ _ _⟩ | exact ⟨rfl, _, Eq.trans (World.drewN_drewN _ _ _) (congrArg (World.drewN _) (Nat.add_assoc _ _ _))⟩))))
        go_ret
        exact ⟨fi, bl⟩
       subst c46
       have H1 : (spinnakerref13_Same.l2 k3 (wrap64 (x7_3 + 1)) l0_0 l0_1 l1_0 l1_1) = some r := by rw [if_pos rfl] at H; exact H
       clear H
       have H := H1
       clear H1
       have H' := Aside0.mk H
       clear H
       have hnb47 := NB227_228.out
       have hnc47 := NB228_227.out
       obtain ⟨hcz48_0, hcz48_1, hfz48_0, hfz48_1⟩ := cz2 (w := wr) BK227.out
       have p236 : 0 ≤ (x7_3 : Int) := od
       have q236 : x7_3 < (l0_1.length : Int) := od
       obtain ⟨ad236, A236_1, c236_1, e236, hx236_0, hx236_1, hl236_1, hi236_1⟩ := at_T70 HR0_1.out x7_3 p236 q236
       cases e236
       replace hx236_0 := cb HB.out hx236_0
       replace hx236_1 := cb HB.out hx236_1
       have HR236_1 := Aside0.mk hi236_1
       have HC236_1 := Aside0.mk hl236_1
       clear hi236_1 hl236_1
       replace p236 := eq_true p236
       replace q236 := eq_true q236
       obtain ⟨hcz49_0, hcz49_1, hfz49_0, hfz49_1⟩ := cz2 (w := wr) BK228.out
       have p237 : 0 ≤ (x7_3 : Int) := od
       have q237 : x7_3 < (l1_1.length : Int) := od
       obtain ⟨ad237, A237_1, c237_1, e237, hx237_0, hx237_1, hl237_1, hi237_1⟩ := at_T70 HR1_1.out x7_3 p237 q237
       cases e237
       replace hx237_0 := cb HB.out hx237_0
       replace hx237_1 := cb HB.out hx237_1
       have HR237_1 := Aside0.mk hi237_1
       have HC237_1 := Aside0.mk hl237_1
       clear hi237_1 hl237_1
       replace p237 := eq_true p237
       replace q237 := eq_true q237
       have p238 : 0 ≤ (x7_3 : Int) := od
       have q238 : x7_3 < (l0_1.length : Int) := od
       obtain ⟨ad238, A238_1, c238_1, e238, hx238_0, hx238_1, hl238_1, hi238_1⟩ := at_T70 HR0_1.out x7_3 p238 q238
       obtain rfl : ad236 = ad238 := (by injection e238)
       replace hx238_0 := cb HB.out hx238_0
       replace hx238_1 := cb HB.out hx238_1
       have HR238_1 := Aside0.mk hi238_1
       have HC238_1 := Aside0.mk hl238_1
       clear hi238_1 hl238_1
       replace p238 := eq_true p238
       replace q238 := eq_true q238
       have ea_ := Option.some.inj (hx236_1.symm.trans hx238_1)
       injection ea_ with ea_ en_ ec_
       subst ea_
       subst ec_
       clear en_
       have p239 : 0 ≤ (x7_3 : Int) := od
       have q239 : x7_3 < (l1_1.length : Int) := od
       obtain ⟨ad239, A239_1, c239_1, e239, hx239_0, hx239_1, hl239_1, hi239_1⟩ := at_T70 HR1_1.out x7_3 p239 q239
       obtain rfl : ad237 = ad239 := (by injection e239)
       replace hx239_0 := cb HB.out hx239_0
       replace hx239_1 := cb HB.out hx239_1
       have HR239_1 := Aside0.mk hi239_1
       have HC239_1 := Aside0.mk hl239_1
       clear hi239_1 hl239_1
       replace p239 := eq_true p239
       replace q239 := eq_true q239
       have ea_ := Option.some.inj (hx237_1.symm.trans hx239_1)
       injection ea_ with ea_ en_ ec_
       subst ea_
       subst ec_
       clear en_
       go_wp2_with (first | (go_at_call 43; (with_reducible refine (spinnakerref13_Refs.calls k3 _ _ ((rd_T70 l0_1 x7_3).f1) _ _ ((rd_T70 l1_1 x7_3).f1) true _ ?side1 ?side2 ?side3 ?side4 A45.out).mono ?_); (case side1 => repeat (first | exact (Kd.C_below HR238_1.out HB.out) | (with_reducible refine Kd.C_alloc ?_ _) | (with_reducible refine Kd.C_drewN ?_ _) | (with_reducible refine Kd.C_drew ?_))); (case side2 => exact HC238_1.out); (case side3 => repeat (first | exact (Kd.C_below HR239_1.out HB.out) | (with_reducible refine Kd.C_alloc ?_ _) | (with_reducible refine Kd.C_drewN ?_ _) | (with_reducible refine Kd.C_drew ?_))); (case side4 => exact HC239_1.out); rintro e w' ⟨rfl, ⟨nd, rfl⟩⟩; (try first | exact ⟨rfl, _, World.drewN_drewN _ _ _⟩ | exact ⟨rfl, _, Eq.trans (World.drewN_drewN _ _ _) (congrArg (World.drewN _) (Nat.add_assoc _ _ _))⟩)))
       repeat (go_quiet (first | (go_at_call 43; (with_reducible refine (spinnakerref13_Refs.calls k3 _ _ ((rd_T70 l0_1 x7_3).f1) _ _ ((rd_T70 l1_1 x7_3).f1) true _ ?side1 ?side2 ?side3 ?side4 A45.out).mono ?_); (case side1 => repeat (first | exact (Kd.C_below HR238_1.out HB.out) | (with_reducible refine Kd.C_alloc ?_ _) | (with_reducible refine Kd.C_drewN ?_ _) | (with_reducible refine Kd.C_drew ?_))); (case side2 => exact HC238_1.out); (case side3 => repeat (first | exact (Kd.C_below HR239_1.out HB.out) | (with_reducible refine Kd.C_alloc ?_ _) | (with_reducible refine Kd.C_drewN ?_ _) | (with_reducible refine Kd.C_drew ?_))); (case side4 => exact HC239_1.out); rintro e w' ⟨rfl, ⟨nd, rfl⟩⟩; (try first | exact ⟨rfl, _, World.drewN_drewN _ _ _⟩ | exact ⟨rfl, _, Eq.trans (World.drewN_drewN _ _ _) (congrArg (World.drewN _) (Nat.add_assoc _ _ _))⟩))); try go_wp2_with (first | (go_at_call 43; (with_reducible refine (spinnakerref13_Refs.calls k3 _ _ ((rd_T70 l0_1 x7_3).f1) _ _ ((rd_T70 l1_1 x7_3).f1) true _ ?side1 ?side2 ?side3 ?side4 A45.out).mono ?_); (case side1 => repeat (first | exact (Kd.C_below HR238_1.out HB.out) | (with_reducible refine Kd.C_alloc ?_ _) | (with_reducible refine Kd.C_drewN ?_ _) | (with_reducible refine Kd.C_drew ?_))); (case side2 => exact HC238_1.out); (case side3 => repeat (first | exact (Kd.C_below HR239_1.out HB.out) | (with_reducible refine Kd.C_alloc ?_ _) | (with_reducible refine Kd.C_drewN ?_ _) | (with_reducible refine Kd.C_drew ?_))); (case side4 => exact HC239_1.out); rintro e w' ⟨rfl, ⟨nd, rfl⟩⟩; (try first | exact ⟨rfl, _, World.drewN_drewN _ _ _⟩ | exact ⟨rfl, _, Eq.trans (World.drewN_drewN _ _ _) (congrArg (World.drewN _) (Nat.add_assoc _ _ _))⟩))))
       go_roundg k3
       case measure => have := HJ2.out; have := HK2.out; have := HK3.out; omega
       case rel => exact ⟨(wrap64 (x7_3 + 1)), fj, H', ⟨by have := HJ2.out; have := HK2.out; have := HK3.out; omega⟩, ⟨by refine bx ?_; exact BK227.out⟩, ⟨by refine bx ?_; exact BK228.out⟩, ⟨bl⟩⟩

end Go.Proofs.Ytfpphaflbmlpeaa.GCandDecodes
