-- Written by wip/stub.py of this repo.
import Derived.Test.YtfpphaflbmlpeaaGCandChecksx0
import Derived.Test.YtfpphaflbmlpeaaGCandChecksx2
import Derived.Test.YtfpphaflbmlpeaaGCandChecksx8
namespace Go.Proofs.Ytfpphaflbmlpeaa.GCandChecks
open Go.RowKit Go.Proofs.YtfpphaflbmlpeaaW.PrintWords Go.Proofs.YtfpphaflbmlpeaaW.PrintLast Go.Proofs.YtfpphaflbmlpeaaW.PrintMore
attribute [local go_sem] max2_int min2_int max_two min_two max_three min_three max_four min_four   -- for this text's walks alone
set_option linter.unusedVariables false
set_option linter.unusedSimpArgs false

attribute [local go_sem high] eqA75
/-! ### spinnakerref13_Same: function 20 -/
mutual
def spinnakerref13_Same.j0 : Nat → Bool → List (List (S75)) → List (S70) → List (List (S75)) → List (S70) → Option (Bool)
  | 0, _, _, _, _, _ => none
  | k + 1, x23, x231000, x231001, x232000, x232001 => if x23 = true then (some false) else (spinnakerref13_Same.l0 k 0 x231000 x231001 x232000 x232001)
def spinnakerref13_Same.l0 : Nat → Int → List (List (S75)) → List (S70) → List (List (S75)) → List (S70) → Option (Bool)
  | 0, _, _, _, _, _ => none
  | k + 1, x5, x231000, x231001, x232000, x232001 => if x5 < (x231000.length : Int) then (if 0 ≤ x5 then (if x5 < (x232000.length : Int) then (if ((rd_L5 x231000 x5).length : Int) = ((rd_L5 x232000 x5).length : Int) then (spinnakerref13_Same.l1 k x5 0 x231000 x231001 x232000 x232001) else (some false)) else (none)) else (none)) else (spinnakerref13_Same.l2 k 0 x231000 x231001 x232000 x232001)
def spinnakerref13_Same.l1 : Nat → Int → Int → List (List (S75)) → List (S70) → List (List (S75)) → List (S70) → Option (Bool)
  | 0, _, _, _, _, _, _ => none
  | k + 1, x5, x6, x231000, x231001, x232000, x232001 => if 0 ≤ x5 then (if x5 < (x231000.length : Int) then (if x6 < ((rd_L5 x231000 x5).length : Int) then (if 0 ≤ x6 then (if x5 < (x232000.length : Int) then (if x6 < ((rd_L5 x232000 x5).length : Int) then (if (!(((rd_T75 (rd_L5 x231000 x5) x6).f0) == ((rd_T75 (rd_L5 x232000 x5) x6).f0)) || (!(((rd_T75 (rd_L5 x231000 x5) x6).f1) == ((rd_T75 (rd_L5 x232000 x5) x6).f1)) || ((!(((rd_T75 (rd_L5 x231000 x5) x6).f2.f0) == ((rd_T75 (rd_L5 x232000 x5) x6).f2.f0)) || (!(((rd_T75 (rd_L5 x231000 x5) x6).f2.f1) == ((rd_T75 (rd_L5 x232000 x5) x6).f2.f1)))) || (!(((rd_T75 (rd_L5 x231000 x5) x6).f3) == ((rd_T75 (rd_L5 x232000 x5) x6).f3)) || (!(((rd_T75 (rd_L5 x231000 x5) x6).f4) == ((rd_T75 (rd_L5 x232000 x5) x6).f4))))))) = true then (some false) else (spinnakerref13_Same.l1 k x5 (wrap64 (x6 + 1)) x231000 x231001 x232000 x232001)) else (none)) else (none)) else (none)) else (spinnakerref13_Same.l0 k (wrap64 (x5 + 1)) x231000 x231001 x232000 x232001)) else (none)) else (none)
def spinnakerref13_Same.l2 : Nat → Int → List (List (S75)) → List (S70) → List (List (S75)) → List (S70) → Option (Bool)
  | 0, _, _, _, _, _ => none
  | k + 1, x7, x231000, x231001, x232000, x232001 => if x7 < (x231001.length : Int) then (if 0 ≤ x7 then (if x7 < (x232001.length : Int) then (if ((rd_T70 x231001 x7).f0) = ((rd_T70 x232001 x7).f0) then ((spinnakerref13_Refs.f k ((rd_T70 x231001 x7).f1) ((rd_T70 x232001 x7).f1)).bind fun t243 => (if t243 = true then (spinnakerref13_Same.l2 k (wrap64 (x7 + 1)) x231000 x231001 x232000 x232001) else (some false))) else (some false)) else (none)) else (none)) else (some true)
end
def spinnakerref13_Same.f (k : Nat) (l0_0 : List (List (S75))) (l0_1 : List (S70)) (l1_0 : List (List (S75))) (l1_1 : List (S70)) : Option (Bool) := if (l0_0.length : Int) = (l1_0.length : Int) then (spinnakerref13_Same.j0 k ((l0_1.length : Int) != (l1_1.length : Int)) l0_0 l0_1 l1_0 l1_1) else (spinnakerref13_Same.j0 k true l0_0 l0_1 l1_0 l1_1)
theorem spinnakerref13_Same.mono_l : ∀ k, (∀ y0 y1 y2 y3 y4, LeO (spinnakerref13_Same.j0 k y0 y1 y2 y3 y4) (spinnakerref13_Same.j0 (k + 1) y0 y1 y2 y3 y4)) ∧ (∀ y0 y1 y2 y3 y4, LeO (spinnakerref13_Same.l0 k y0 y1 y2 y3 y4) (spinnakerref13_Same.l0 (k + 1) y0 y1 y2 y3 y4)) ∧ (∀ y0 y1 y2 y3 y4 y5, LeO (spinnakerref13_Same.l1 k y0 y1 y2 y3 y4 y5) (spinnakerref13_Same.l1 (k + 1) y0 y1 y2 y3 y4 y5)) ∧ (∀ y0 y1 y2 y3 y4, LeO (spinnakerref13_Same.l2 k y0 y1 y2 y3 y4) (spinnakerref13_Same.l2 (k + 1) y0 y1 y2 y3 y4))
 | 0 => ⟨fun _ _ _ _ _ r h => by simp [spinnakerref13_Same.j0] at h, fun _ _ _ _ _ r h => by simp [spinnakerref13_Same.l0] at h, fun _ _ _ _ _ _ r h => by simp [spinnakerref13_Same.l1] at h, fun _ _ _ _ _ r h => by simp [spinnakerref13_Same.l2] at h⟩
 | k + 1 => by
  obtain ⟨ih0, ih1, ih2, ih3⟩ := spinnakerref13_Same.mono_l k
  refine ⟨?_, ?_, ?_, ?_⟩
  all_goals (intros; (first | unfold spinnakerref13_Same.j0 | unfold spinnakerref13_Same.l0 | unfold spinnakerref13_Same.l1 | unfold spinnakerref13_Same.l2); repeat' first | (with_reducible first | exact ih0 _ _ _ _ _ | exact ih1 _ _ _ _ _ | exact ih2 _ _ _ _ _ _ | exact ih3 _ _ _ _ _ | exact spinnakerref13_Refs.mono _ _ _ | exact LeO.refl _ | exact LeO.none _ | refine LeO.ite ?_ ?_ | refine LeO.bind ?_ (fun _ => ?_)) | exact ih0 _ _ _ _ _ | exact ih1 _ _ _ _ _ | exact ih2 _ _ _ _ _ _ | exact ih3 _ _ _ _ _ | exact spinnakerref13_Refs.mono _ _ _ | exact LeO.none _ | refine LeO.ite ?_ ?_ | refine LeO.bind ?_ (fun _ => ?_))
theorem spinnakerref13_Same.mono : ∀ a0 a1 a2 a3 k, LeO (spinnakerref13_Same.f k a0 a1 a2 a3) (spinnakerref13_Same.f (k + 1) a0 a1 a2 a3) := by
 intro a0 a1 a2 a3 k
 obtain ⟨ih0, ih1, ih2, ih3⟩ := spinnakerref13_Same.mono_l k
 unfold spinnakerref13_Same.f
 repeat' first | (with_reducible first | exact ih0 _ _ _ _ _ | exact ih1 _ _ _ _ _ | exact ih2 _ _ _ _ _ _ | exact ih3 _ _ _ _ _ | exact spinnakerref13_Refs.mono _ _ _ | exact LeO.refl _ | exact LeO.none _ | refine LeO.ite ?_ ?_ | refine LeO.bind ?_ (fun _ => ?_)) | exact ih0 _ _ _ _ _ | exact ih1 _ _ _ _ _ | exact ih2 _ _ _ _ _ _ | exact ih3 _ _ _ _ _ | exact spinnakerref13_Refs.mono _ _ _ | exact LeO.none _ | refine LeO.ite ?_ ?_ | refine LeO.bind ?_ (fun _ => ?_)
set_option maxHeartbeats 8000000 in
set_option maxRecDepth 100000 in
theorem spinnakerref13_Same.calls (k : Nat) (A0_0 : Option Addr) (c0_0 : Nat) (l0_0 : List (List (S75))) (A0_1 : Option Addr) (c0_1 : Nat) (l0_1 : List (S70)) (A1_0 : Option Addr) (c1_0 : Nat) (l1_0 : List (List (S75))) (A1_1 : Option Addr) (c1_1 : Nat) (l1_1 : List (S70)) (r : Bool) (w : World) (hr0_0 : Kd.C (Kd.slice 75 k75) w A0_0 l0_0.length l0_0) (hc0_0 : l0_0.length ≤ c0_0) (hr0_1 : Kd.C k70 w A0_1 l0_1.length l0_1) (hc0_1 : l0_1.length ≤ c0_1) (hr1_0 : Kd.C (Kd.slice 75 k75) w A1_0 l1_0.length l1_0) (hc1_0 : l1_0.length ≤ c1_0) (hr1_1 : Kd.C k70 w A1_1 l1_1.length l1_1) (hc1_1 : l1_1.length ≤ c1_1) (h : spinnakerref13_Same.f k l0_0 l0_1 l1_0 l1_1 = some r) :
  Calls Try.prog 20 #[.agg #[.slice A0_0 l0_0.length c0_0, .slice A0_1 l0_1.length c0_1], .agg #[.slice A1_0 l1_0.length c1_0, .slice A1_1 l1_1.length c1_1]] w fun e w' => e = .returned (.bool r) ∧ Below w.heap.size w w' := by
 have hu42 := Try.underlying42
 have hu75 := Try.underlying75
 have HR0_0 := Aside0.mk hr0_0
 have HC0_0 := Aside0.mk hc0_0
 clear hr0_0 hc0_0
 have HR0_1 := Aside0.mk hr0_1
 have HC0_1 := Aside0.mk hc0_1
 clear hr0_1 hc0_1
 have HR1_0 := Aside0.mk hr1_0
 have HC1_0 := Aside0.mk hc1_0
 clear hr1_0 hc1_0
 have HR1_1 := Aside0.mk hr1_1
 have HC1_1 := Aside0.mk hc1_1
 clear hr1_1 hc1_1
 have HB := Aside0.mk (Below.refl w.heap.size w)
 have H : (if (l0_0.length : Int) = (l1_0.length : Int) then (spinnakerref13_Same.j0 k ((l0_1.length : Int) != (l1_1.length : Int)) l0_0 l0_1 l1_0 l1_1) else (spinnakerref13_Same.j0 k true l0_0 l0_1 l1_0 l1_1)) = some r := h
 clear h
 have HC3 := Aside0.mk H
 clear H
 go_enter Try.func20, Try.ntmps20
 go_upto_region 1 with (first | ((with_reducible refine gate_dst (N := 2) rfl ?_); (try (refine gate_guard (by rfl) ?_; dsimp only)); refine bv 2 #[.slice A0_0 l0_0.length c0_0, .slice A0_1 l0_1.length c0_1] 42 ?_; intro gb230 hg w4 hbox hb; obtain ⟨n0_, GW230⟩ := nb (w := w) hg hb; clear HB; have HB := n0_; have BK230 := Aside0.mk hbox; have GE230 := GW230; clear n0_ hb hbox hg) | ((with_reducible refine gate_dst (N := 3) rfl ?_); (try (refine gate_guard (by rfl) ?_; dsimp only)); refine bv 3 #[.slice A1_0 l1_0.length c1_0, .slice A1_1 l1_1.length c1_1] 42 ?_; intro gb231 hg w5 hbox hb; have n0_ := Aside0.mk (blk_below (g := gb230) (o := .cells #[.slice A0_0 l0_0.length c0_0, .slice A0_1 l0_1.length c0_1] 42 (0, 0)) (bk BK230.out) hb); have n1_ := Aside0.mk (below_step bl hb); have n2_ := Aside0.mk (hbox); have n3_ := Aside0.mk ((by rw [hg]; exact (below_size bl) : w.heap.size ≤ gb231)); have n4_ := Aside0.mk ((by rw [hg]; exact (below_size bl) : w.heap.size ≤ gb231)); have n5_ := Aside0.mk ((nl hg (bk BK230.out) : gb230 ≠ gb231)); have n6_ := Aside0.mk ((ng hg (bk BK230.out) : gb231 ≠ gb230)); clear BK230; clear HB; have BK230 := n0_; have HB := n1_; have BK231 := n2_; have GW231 := n3_; have GE231 := n4_; have NB230_231 := n5_; have NB231_230 := n6_; clear n0_ n1_ n2_ n3_ n4_ n5_ n6_; clear hb hbox hg))
 repeat (go_quiet (first | ((with_reducible refine gate_dst (N := 2) rfl ?_); (try (refine gate_guard (by rfl) ?_; dsimp only)); refine bv 2 #[.slice A0_0 l0_0.length c0_0, .slice A0_1 l0_1.length c0_1] 42 ?_; intro gb230 hg w4 hbox hb; obtain ⟨n0_, GW230⟩ := nb (w := w) hg hb; clear HB; have HB := n0_; have BK230 := Aside0.mk hbox; have GE230 := GW230; clear n0_ hb hbox hg) | ((with_reducible refine gate_dst (N := 3) rfl ?_); (try (refine gate_guard (by rfl) ?_; dsimp only)); refine bv 3 #[.slice A1_0 l1_0.length c1_0, .slice A1_1 l1_1.length c1_1] 42 ?_; intro gb231 hg w5 hbox hb; have n0_ := Aside0.mk (blk_below (g := gb230) (o := .cells #[.slice A0_0 l0_0.length c0_0, .slice A0_1 l0_1.length c0_1] 42 (0, 0)) (bk BK230.out) hb); have n1_ := Aside0.mk (below_step bl hb); have n2_ := Aside0.mk (hbox); have n3_ := Aside0.mk ((by rw [hg]; exact (below_size bl) : w.heap.size ≤ gb231)); have n4_ := Aside0.mk ((by rw [hg]; exact (below_size bl) : w.heap.size ≤ gb231)); have n5_ := Aside0.mk ((nl hg (bk BK230.out) : gb230 ≠ gb231)); have n6_ := Aside0.mk ((ng hg (bk BK230.out) : gb231 ≠ gb230)); clear BK230; clear HB; have BK230 := n0_; have HB := n1_; have BK231 := n2_; have GW231 := n3_; have GE231 := n4_; have NB230_231 := n5_; have NB231_230 := n6_; clear n0_ n1_ n2_ n3_ n4_ n5_ n6_; clear hb hbox hg)); go_upto_region 1 with (first | ((with_reducible refine gate_dst (N := 2) rfl ?_); (try (refine gate_guard (by rfl) ?_; dsimp only)); refine bv 2 #[.slice A0_0 l0_0.length c0_0, .slice A0_1 l0_1.length c0_1] 42 ?_; intro gb230 hg w4 hbox hb; obtain ⟨n0_, GW230⟩ := nb (w := w) hg hb; clear HB; have HB := n0_; have BK230 := Aside0.mk hbox; have GE230 := GW230; clear n0_ hb hbox hg) | ((with_reducible refine gate_dst (N := 3) rfl ?_); (try (refine gate_guard (by rfl) ?_; dsimp only)); refine bv 3 #[.slice A1_0 l1_0.length c1_0, .slice A1_1 l1_1.length c1_1] 42 ?_; intro gb231 hg w5 hbox hb; have n0_ := Aside0.mk (blk_below (g := gb230) (o := .cells #[.slice A0_0 l0_0.length c0_0, .slice A0_1 l0_1.length c0_1] 42 (0, 0)) (bk BK230.out) hb); have n1_ := Aside0.mk (below_step bl hb); have n2_ := Aside0.mk (hbox); have n3_ := Aside0.mk ((by rw [hg]; exact (below_size bl) : w.heap.size ≤ gb231)); have n4_ := Aside0.mk ((by rw [hg]; exact (below_size bl) : w.heap.size ≤ gb231)); have n5_ := Aside0.mk ((nl hg (bk BK230.out) : gb230 ≠ gb231)); have n6_ := Aside0.mk ((ng hg (bk BK230.out) : gb231 ≠ gb230)); clear BK230; clear HB; have BK230 := n0_; have HB := n1_; have BK231 := n2_; have GW231 := n3_; have GE231 := n4_; have NB230_231 := n5_; have NB231_230 := n6_; clear n0_ n1_ n2_ n3_ n4_ n5_ n6_; clear hb hbox hg)))
 (try simp only [Act.put, List.setIfInBounds_toArray, List.set_cons_zero, List.set_cons_succ])
 go_cut [23] (fun v23 wc => ∃ (kq : Nat) (x23_2 : Bool), v23 = .bool x23_2 ∧ Aside0 (spinnakerref13_Same.j0 kq x23_2 l0_0 l0_1 l1_0 l1_1 = some r) ∧ Aside0 (kq ≤ k) ∧ Aside0 (wc.heap[gb230]? = some (.cells #[(.slice A0_0 l0_0.length c0_0), (.slice A0_1 l0_1.length c0_1)] 42 (0, 0))) ∧ Aside0 (wc.heap[gb231]? = some (.cells #[(.slice A1_0 l1_0.length c1_0), (.slice A1_1 l1_1.length c1_1)] 42 (0, 0))) ∧ Aside0 (Below w.heap.size w wc))
 case first =>
  have H := HC3.out
  clear HC3
  by_cases c6 : (l0_0.length : Int) = (l1_0.length : Int)
  rotate_left
  ·rw [if_neg c6] at H
   have c6b0 : ((l0_0.length : Int) == (l1_0.length : Int)) = false := beq_eq_false_iff_ne.mpr c6
   have c6b1 : ((l0_0.length : Int) != (l1_0.length : Int)) = true := bne_iff_ne.mpr c6
   have c6b2 : (l0_0.length == l1_0.length) = false := by first | simpa using c6 | (simp at c6 ⊢; omega)
   (first | rw [c6b0] | (simp only [i64_w, i32_w]; rw [c6b0]) | skip)
   have H' := Aside0.mk H
   clear H
   have hnb10 := NB230_231.out
   have hnc10 := NB231_230.out
   obtain ⟨hcz11_0, hcz11_1, hfz11_0, hfz11_1⟩ := cz2 (w := w5) BK230.out
   obtain ⟨hcz12_0, hcz12_1, hfz12_0, hfz12_1⟩ := cz2 (w := w5) BK231.out
   go_wp2
   repeat (go_quiet (fail); try go_wp2)
   go_meet
   case rel => exact ⟨_, (true), fj, H', ⟨by first | omega | exact Nat.le_refl _⟩, ⟨by refine bx ?_; exact BK230.out⟩, ⟨by refine bx ?_; exact BK231.out⟩, ⟨bl⟩⟩
  rw [if_pos c6] at H
  have c6b0 : ((l0_0.length : Int) == (l1_0.length : Int)) = true := beq_iff_eq.mpr c6
  have c6b1 : ((l0_0.length : Int) != (l1_0.length : Int)) = false := bne_eq_false_iff_eq.mpr c6
  have c6b2 : (l0_0.length == l1_0.length) = true := by first | simpa using c6 | (simp at c6 ⊢; omega)
  clear c6
  (first | rw [c6b0] | (simp only [i64_w, i32_w]; rw [c6b0]) | skip)
  have H' := Aside0.mk H
  clear H
  have hnb7 := NB230_231.out
  have hnc7 := NB231_230.out
  obtain ⟨hcz8_0, hcz8_1, hfz8_0, hfz8_1⟩ := cz2 (w := w5) BK230.out
  obtain ⟨hcz9_0, hcz9_1, hfz9_0, hfz9_1⟩ := cz2 (w := w5) BK231.out
  go_wp2
  repeat (go_quiet (fail); try go_wp2)
  go_meet
  case rel => exact ⟨_, (((l0_1.length : Int) != (l1_1.length : Int))), fj, H', ⟨by first | omega | exact Nat.le_refl _⟩, ⟨by refine bx ?_; exact BK230.out⟩, ⟨by refine bx ?_; exact BK231.out⟩, ⟨bl⟩⟩
 case rest =>
  clear HC3
  try clear c1
  try clear c2
  try clear p2
  try clear c6
  try clear c6b0
  try clear c6b1
  try clear c6b2
  try clear c7
  try clear c10
  try clear hcz11_0 hcz11_1
  try clear hcz12_0 hcz12_1
  try clear hcz8_0 hcz8_1
  try clear hcz9_0 hcz9_1
  try clear hfz11_0 hfz11_1
  try clear hfz12_0 hfz12_1
  try clear hfz8_0 hfz8_1
  try clear hfz9_0 hfz9_1
  obtain ⟨kq, x23_2, rfl, HA, HJ2, BK230, BK231, HB⟩ := hcut
  cases kq with
  | zero => exact absurd HA.out (by simp [spinnakerref13_Same.j0])
  | succ kj2 =>
   have H := HA.out
   clear HA
   simp only [spinnakerref13_Same.j0] at H
   by_cases c13 : x23_2 = true
   ·subst c13
    have H1 : (some false) = some r := by rw [if_pos rfl] at H; exact H
    clear H
    have H := H1
    clear H1
    obtain rfl := Option.some.inj H
    go_wp2
    repeat (go_quiet (fail); try go_wp2)
    go_ret
    exact ⟨fi, bl⟩
   replace c13 := Bool.eq_false_iff.mpr c13
   subst c13
   have H1 : (spinnakerref13_Same.l0 kj2 0 l0_0 l0_1 l1_0 l1_1) = some r := by rw [if_neg (show ¬ (false = true) by decide)] at H; exact H
   clear H
   have H := H1
   clear H1
   have H' := Aside0.mk H
   clear H
   go_wp2
   repeat (go_quiet (fail); try go_wp2)
   go_loopg [5] kj2 (fun kq v5 w' => ∃ (x5_2 : Int), v5 = .int .i64 x5_2 ∧ Aside0 (spinnakerref13_Same.l0 kq x5_2 l0_0 l0_1 l1_0 l1_1 = some r) ∧ Aside0 (kq ≤ kj2) ∧ Aside0 (w'.heap[gb230]? = some (.cells #[(.slice A0_0 l0_0.length c0_0), (.slice A0_1 l0_1.length c0_1)] 42 (0, 0))) ∧ Aside0 (w'.heap[gb231]? = some (.cells #[(.slice A1_0 l1_0.length c1_0), (.slice A1_1 l1_1.length c1_1)] 42 (0, 0))) ∧ Aside0 (Below w.heap.size w w'))
   case atStart => exact ⟨(0), fj, H', ⟨Nat.le_refl _⟩, ⟨by refine bx ?_; exact BK230.out⟩, ⟨by refine bx ?_; exact BK231.out⟩, ⟨bl⟩⟩
   case round =>
    clear H'
    try clear c1
    try clear c2
    try clear p2
    try clear c6
    try clear c6b0
    try clear c6b1
    try clear c6b2
    try clear c7
    try clear c10
    try clear c13
    try clear hcz11_0 hcz11_1
    try clear hcz12_0 hcz12_1
    try clear hcz8_0 hcz8_1
    try clear hcz9_0 hcz9_1
    try clear hfz11_0 hfz11_1
    try clear hfz12_0 hfz12_1
    try clear hfz8_0 hfz8_1
    try clear hfz9_0 hfz9_1
    try clear p2
    obtain ⟨x5_2, rfl, HA, HK2, BK230, BK231, HB⟩ := hrel
    cases gk with
    | zero => exact absurd HA.out (by simp [spinnakerref13_Same.l0])
    | succ k2 =>
     have H := HA.out
     clear HA
     simp only [spinnakerref13_Same.l0] at H
     by_cases c14 : x5_2 < (l0_0.length : Int)
     ·rw [if_pos c14] at H
      have c14b0 := decide_eq_true c14
      clear c14
      by_cases c15 : 0 ≤ x5_2
      rotate_left
      ·rw [if_neg c15] at H
       exact absurd H (by simp)
      rw [if_pos c15] at H
      have c15b0 := decide_eq_true c15
      clear c15
      by_cases c16 : x5_2 < (l1_0.length : Int)
      rotate_left
      ·rw [if_neg c16] at H
       exact absurd H (by simp)
      rw [if_pos c16] at H
      have c16b0 := decide_eq_true c16
      clear c16
      by_cases c17 : ((rd_L5 l0_0 x5_2).length : Int) = ((rd_L5 l1_0 x5_2).length : Int)
      rotate_left
      ·rw [if_neg c17] at H
       have c17b0 : (((rd_L5 l0_0 x5_2).length : Int) == ((rd_L5 l1_0 x5_2).length : Int)) = false := beq_eq_false_iff_ne.mpr c17
       have c17b1 : (((rd_L5 l0_0 x5_2).length : Int) != ((rd_L5 l1_0 x5_2).length : Int)) = true := bne_iff_ne.mpr c17
       have c17b2 : ((rd_L5 l0_0 x5_2).length == (rd_L5 l1_0 x5_2).length) = false := by first | simpa using c17 | (simp at c17 ⊢; omega)
       obtain rfl := Option.some.inj H
       have hnb36 := NB230_231.out
       have hnc36 := NB231_230.out
       obtain ⟨hcz37_0, hcz37_1, hfz37_0, hfz37_1⟩ := cz2 (w := wr) BK230.out
       have p232 : 0 ≤ (x5_2 : Int) := od
       have q232 : x5_2 < (l0_0.length : Int) := od
       obtain ⟨ad232, A232_0, c232_0, e232, hx232_0, hl232_0, hi232_0⟩ := at_L5 HR0_0.out x5_2 p232 q232
       cases e232
       replace hx232_0 := cb HB.out hx232_0
       have HR232_0 := Aside0.mk hi232_0
       have HC232_0 := Aside0.mk hl232_0
       clear hi232_0 hl232_0
       replace p232 := eq_true p232
       replace q232 := eq_true q232
       obtain ⟨hcz38_0, hcz38_1, hfz38_0, hfz38_1⟩ := cz2 (w := wr) BK231.out
       have p233 : 0 ≤ (x5_2 : Int) := od
       have q233 : x5_2 < (l1_0.length : Int) := od
       obtain ⟨ad233, A233_0, c233_0, e233, hx233_0, hl233_0, hi233_0⟩ := at_L5 HR1_0.out x5_2 p233 q233
       cases e233
       replace hx233_0 := cb HB.out hx233_0
       have HR233_0 := Aside0.mk hi233_0
       have HC233_0 := Aside0.mk hl233_0
       clear hi233_0 hl233_0
       replace p233 := eq_true p233
       replace q233 := eq_true q233
       go_wp2
       repeat (go_quiet (fail); try go_wp2)
       go_ret
       exact ⟨fi, bl⟩
      rw [if_pos c17] at H
      have c17b0 : (((rd_L5 l0_0 x5_2).length : Int) == ((rd_L5 l1_0 x5_2).length : Int)) = true := beq_iff_eq.mpr c17
      have c17b1 : (((rd_L5 l0_0 x5_2).length : Int) != ((rd_L5 l1_0 x5_2).length : Int)) = false := bne_eq_false_iff_eq.mpr c17
      have c17b2 : ((rd_L5 l0_0 x5_2).length == (rd_L5 l1_0 x5_2).length) = true := by first | simpa using c17 | (simp at c17 ⊢; omega)
      clear c17
      have H' := Aside0.mk H
      clear H
      have hnb18 := NB230_231.out
      have hnc18 := NB231_230.out
      obtain ⟨hcz19_0, hcz19_1, hfz19_0, hfz19_1⟩ := cz2 (w := wr) BK230.out
      have p232 : 0 ≤ (x5_2 : Int) := od
      have q232 : x5_2 < (l0_0.length : Int) := od
      obtain ⟨ad232, A232_0, c232_0, e232, hx232_0, hl232_0, hi232_0⟩ := at_L5 HR0_0.out x5_2 p232 q232
      cases e232
      replace hx232_0 := cb HB.out hx232_0
      have HR232_0 := Aside0.mk hi232_0
      have HC232_0 := Aside0.mk hl232_0
      clear hi232_0 hl232_0
      replace p232 := eq_true p232
      replace q232 := eq_true q232
      obtain ⟨hcz20_0, hcz20_1, hfz20_0, hfz20_1⟩ := cz2 (w := wr) BK231.out
      have p233 : 0 ≤ (x5_2 : Int) := od
      have q233 : x5_2 < (l1_0.length : Int) := od
      obtain ⟨ad233, A233_0, c233_0, e233, hx233_0, hl233_0, hi233_0⟩ := at_L5 HR1_0.out x5_2 p233 q233
      cases e233
      replace hx233_0 := cb HB.out hx233_0
      have HR233_0 := Aside0.mk hi233_0
      have HC233_0 := Aside0.mk hl233_0
      clear hi233_0 hl233_0
      replace p233 := eq_true p233
      replace q233 := eq_true q233
      go_wp2
      repeat (go_quiet (fail); try go_wp2)
      go_loopg [6] k2 (fun kq v6 w' => ∃ (x6_3 : Int), v6 = .int .i64 x6_3 ∧ Aside0 (spinnakerref13_Same.l1 kq x5_2 x6_3 l0_0 l0_1 l1_0 l1_1 = some r) ∧ Aside0 (kq ≤ k2) ∧ Aside0 (w'.heap[gb230]? = some (.cells #[(.slice (some ad232) l0_0.length c0_0), (.slice A0_1 l0_1.length c0_1)] 42 (0, 0))) ∧ Aside0 (w'.heap[gb231]? = some (.cells #[(.slice (some ad233) l1_0.length c1_0), (.slice A1_1 l1_1.length c1_1)] 42 (0, 0))) ∧ Aside0 (Below w.heap.size w w'))
      case atStart => exact ⟨(0), fj, H', ⟨Nat.le_refl _⟩, ⟨by refine bx ?_; exact BK230.out⟩, ⟨by refine bx ?_; exact BK231.out⟩, ⟨bl⟩⟩
      case round =>
       clear H'
       try clear c1
       try clear c2
       try clear p2
       try clear q2
       try clear hx2
       try clear c6
       try clear c6b0
       try clear c6b1
       try clear c6b2
       try clear c7
       try clear c10
       try clear c13
       try clear c14
       try clear c14b0
       try clear c15
       try clear c15b0
       try clear c16
       try clear c16b0
       try clear c17
       try clear c17b0
       try clear c17b1
       try clear c17b2
       try clear c18
       try clear c20
       try clear hcz11_0 hcz11_1
       try clear hcz12_0 hcz12_1
       try clear hcz19_0 hcz19_1
       try clear hcz20_0 hcz20_1
       try clear hcz8_0 hcz8_1
       try clear hcz9_0 hcz9_1
       try clear hfz11_0 hfz11_1
       try clear hfz12_0 hfz12_1
       try clear hfz19_0 hfz19_1
       try clear hfz20_0 hfz20_1
       try clear hfz8_0 hfz8_1
       try clear hfz9_0 hfz9_1
       try clear hx232_0
       try clear hx233_0
       try clear p2
       try clear p232
       try clear p233
       try clear q232
       try clear q233
       obtain ⟨x6_3, rfl, HA, HK3, BK230, BK231, HB⟩ := hrel
       cases gk with
       | zero => exact absurd HA.out (by simp [spinnakerref13_Same.l1])
       | succ k3 =>
        have H := HA.out
        clear HA
        simp only [spinnakerref13_Same.l1] at H
        by_cases c21 : 0 ≤ x5_2
        rotate_left
        ·rw [if_neg c21] at H
         exact absurd H (by simp)
        rw [if_pos c21] at H
        have c21b0 := decide_eq_true c21
        clear c21
        by_cases c22 : x5_2 < (l0_0.length : Int)
        rotate_left
        ·rw [if_neg c22] at H
         exact absurd H (by simp)
        rw [if_pos c22] at H
        have c22b0 := decide_eq_true c22
        clear c22
        by_cases c23 : x6_3 < ((rd_L5 l0_0 x5_2).length : Int)
        rotate_left
        ·rw [if_neg c23] at H
         have c23b0 := decide_eq_false c23
         clear c23
         have H' := Aside0.mk H
         clear H
         have hnb34 := NB230_231.out
         have hnc34 := NB231_230.out
         obtain ⟨hcz35_0, hcz35_1, hfz35_0, hfz35_1⟩ := cz2 (w := wr) BK230.out
         have p234 : 0 ≤ (x5_2 : Int) := od
         have q234 : x5_2 < (l0_0.length : Int) := od
         obtain ⟨ad234, A234_0, c234_0, e234, hx234_0, hl234_0, hi234_0⟩ := at_L5 HR0_0.out x5_2 p234 q234
         obtain rfl : ad232 = ad234 := (by injection e234)
         replace hx234_0 := cb HB.out hx234_0
         have HR234_0 := Aside0.mk hi234_0
         have HC234_0 := Aside0.mk hl234_0
         clear hi234_0 hl234_0
         replace p234 := eq_true p234
         replace q234 := eq_true q234
         go_wp2
         repeat (go_quiet (fail); try go_wp2)
         go_roundg k3
         case measure => have := HJ2.out; have := HK2.out; have := HK3.out; omega
         case rel => exact ⟨(wrap64 (x5_2 + 1)), fj, H', ⟨by have := HJ2.out; have := HK2.out; have := HK3.out; omega⟩, ⟨by refine bx ?_; exact BK230.out⟩, ⟨by refine bx ?_; exact BK231.out⟩, ⟨bl⟩⟩
        rw [if_pos c23] at H
        have c23b0 := decide_eq_true c23
        clear c23
        by_cases c24 : 0 ≤ x6_3
        rotate_left
        ·rw [if_neg c24] at H
         exact absurd H (by simp)
        rw [if_pos c24] at H
        have c24b0 := decide_eq_true c24
        clear c24
        by_cases c25 : x5_2 < (l1_0.length : Int)
        rotate_left
        ·rw [if_neg c25] at H
         exact absurd H (by simp)
        rw [if_pos c25] at H
        have c25b0 := decide_eq_true c25
        clear c25
        by_cases c26 : x6_3 < ((rd_L5 l1_0 x5_2).length : Int)
        rotate_left
        ·rw [if_neg c26] at H
         exact absurd H (by simp)
        rw [if_pos c26] at H
        have c26b0 := decide_eq_true c26
        clear c26
        by_cases c27 : (!(((rd_T75 (rd_L5 l0_0 x5_2) x6_3).f0) == ((rd_T75 (rd_L5 l1_0 x5_2) x6_3).f0)) || (!(((rd_T75 (rd_L5 l0_0 x5_2) x6_3).f1) == ((rd_T75 (rd_L5 l1_0 x5_2) x6_3).f1)) || ((!(((rd_T75 (rd_L5 l0_0 x5_2) x6_3).f2.f0) == ((rd_T75 (rd_L5 l1_0 x5_2) x6_3).f2.f0)) || (!(((rd_T75 (rd_L5 l0_0 x5_2) x6_3).f2.f1) == ((rd_T75 (rd_L5 l1_0 x5_2) x6_3).f2.f1)))) || (!(((rd_T75 (rd_L5 l0_0 x5_2) x6_3).f3) == ((rd_T75 (rd_L5 l1_0 x5_2) x6_3).f3)) || (!(((rd_T75 (rd_L5 l0_0 x5_2) x6_3).f4) == ((rd_T75 (rd_L5 l1_0 x5_2) x6_3).f4))))))) = true
        ·rw [if_pos c27] at H
         have c27b0 : (!(((rd_T75 (rd_L5 l0_0 x5_2) x6_3).f0) == ((rd_T75 (rd_L5 l1_0 x5_2) x6_3).f0)) || (!(((rd_T75 (rd_L5 l0_0 x5_2) x6_3).f1) == ((rd_T75 (rd_L5 l1_0 x5_2) x6_3).f1)) || ((!(((rd_T75 (rd_L5 l0_0 x5_2) x6_3).f2.f0) == ((rd_T75 (rd_L5 l1_0 x5_2) x6_3).f2.f0)) || (!(((rd_T75 (rd_L5 l0_0 x5_2) x6_3).f2.f1) == ((rd_T75 (rd_L5 l1_0 x5_2) x6_3).f2.f1)))) || (!(((rd_T75 (rd_L5 l0_0 x5_2) x6_3).f3) == ((rd_T75 (rd_L5 l1_0 x5_2) x6_3).f3)) || (!(((rd_T75 (rd_L5 l0_0 x5_2) x6_3).f4) == ((rd_T75 (rd_L5 l1_0 x5_2) x6_3).f4))))))) = true := c27
         clear c27
         obtain rfl := Option.some.inj H
         have hnb28 := NB230_231.out
         have hnc28 := NB231_230.out
         obtain ⟨hcz29_0, hcz29_1, hfz29_0, hfz29_1⟩ := cz2 (w := wr) BK230.out
         have p234 : 0 ≤ (x5_2 : Int) := od
         have q234 : x5_2 < (l0_0.length : Int) := od
         obtain ⟨ad234, A234_0, c234_0, e234, hx234_0, hl234_0, hi234_0⟩ := at_L5 HR0_0.out x5_2 p234 q234
         obtain rfl : ad232 = ad234 := (by injection e234)
         replace hx234_0 := cb HB.out hx234_0
         have HR234_0 := Aside0.mk hi234_0
         have HC234_0 := Aside0.mk hl234_0
         clear hi234_0 hl234_0
         replace p234 := eq_true p234
         replace q234 := eq_true q234
         have p235 : 0 ≤ (x5_2 : Int) := od
         have q235 : x5_2 < (l0_0.length : Int) := od
         obtain ⟨ad235, A235_0, c235_0, e235, hx235_0, hl235_0, hi235_0⟩ := at_L5 HR0_0.out x5_2 p235 q235
         obtain rfl : ad232 = ad235 := (by injection e235)
         replace hx235_0 := cb HB.out hx235_0
         have HR235_0 := Aside0.mk hi235_0
         have HC235_0 := Aside0.mk hl235_0
         clear hi235_0 hl235_0
         replace p235 := eq_true p235
         replace q235 := eq_true q235
         have ea_ := Option.some.inj (hx234_0.symm.trans hx235_0)
         injection ea_ with ea_ en_ ec_
         subst ea_
         subst ec_
         clear en_
         have p236 : 0 ≤ (x6_3 : Int) := od
         have q236 : x6_3 < ((rd_L5 l0_0 x5_2).length : Int) := od
         obtain ⟨ad236, e236, hx236_0, hx236_1, hx236_2, hx236_3, hx236_4, hx236_5⟩ := at_T75 HR235_0.out x6_3 p236 q236
         cases e236
         replace hx236_0 := cb HB.out hx236_0
         replace hx236_1 := cb HB.out hx236_1
         replace hx236_2 := cb HB.out hx236_2
         replace hx236_3 := cb HB.out hx236_3
         replace hx236_4 := cb HB.out hx236_4
         replace hx236_5 := cb HB.out hx236_5
         replace p236 := eq_true p236
         replace q236 := eq_true q236
         obtain ⟨hcz30_0, hcz30_1, hfz30_0, hfz30_1⟩ := cz2 (w := wr) BK231.out
         have p237 : 0 ≤ (x5_2 : Int) := od
         have q237 : x5_2 < (l1_0.length : Int) := od
         obtain ⟨ad237, A237_0, c237_0, e237, hx237_0, hl237_0, hi237_0⟩ := at_L5 HR1_0.out x5_2 p237 q237
         obtain rfl : ad233 = ad237 := (by injection e237)
         replace hx237_0 := cb HB.out hx237_0
         have HR237_0 := Aside0.mk hi237_0
         have HC237_0 := Aside0.mk hl237_0
         clear hi237_0 hl237_0
         replace p237 := eq_true p237
         replace q237 := eq_true q237
         have p238 : 0 ≤ (x6_3 : Int) := od
         have q238 : x6_3 < ((rd_L5 l1_0 x5_2).length : Int) := od
         obtain ⟨ad238, e238, hx238_0, hx238_1, hx238_2, hx238_3, hx238_4, hx238_5⟩ := at_T75 HR237_0.out x6_3 p238 q238
         cases e238
         replace hx238_0 := cb HB.out hx238_0
         replace hx238_1 := cb HB.out hx238_1
         replace hx238_2 := cb HB.out hx238_2
         replace hx238_3 := cb HB.out hx238_3
         replace hx238_4 := cb HB.out hx238_4
         replace hx238_5 := cb HB.out hx238_5
         replace p238 := eq_true p238
         replace q238 := eq_true q238
         go_wp2
         repeat (go_quiet (fail); try go_wp2)
         go_ret
         exact ⟨fi, bl⟩
        rw [if_neg c27] at H
        have c27b0 : (!(((rd_T75 (rd_L5 l0_0 x5_2) x6_3).f0) == ((rd_T75 (rd_L5 l1_0 x5_2) x6_3).f0)) || (!(((rd_T75 (rd_L5 l0_0 x5_2) x6_3).f1) == ((rd_T75 (rd_L5 l1_0 x5_2) x6_3).f1)) || ((!(((rd_T75 (rd_L5 l0_0 x5_2) x6_3).f2.f0) == ((rd_T75 (rd_L5 l1_0 x5_2) x6_3).f2.f0)) || (!(((rd_T75 (rd_L5 l0_0 x5_2) x6_3).f2.f1) == ((rd_T75 (rd_L5 l1_0 x5_2) x6_3).f2.f1)))) || (!(((rd_T75 (rd_L5 l0_0 x5_2) x6_3).f3) == ((rd_T75 (rd_L5 l1_0 x5_2) x6_3).f3)) || (!(((rd_T75 (rd_L5 l0_0 x5_2) x6_3).f4) == ((rd_T75 (rd_L5 l1_0 x5_2) x6_3).f4))))))) = false := by simpa using c27
        clear c27
        have H' := Aside0.mk H
        clear H
        have hnb31 := NB230_231.out
        have hnc31 := NB231_230.out
        obtain ⟨hcz32_0, hcz32_1, hfz32_0, hfz32_1⟩ := cz2 (w := wr) BK230.out
        have p234 : 0 ≤ (x5_2 : Int) := od
        have q234 : x5_2 < (l0_0.length : Int) := od
        obtain ⟨ad234, A234_0, c234_0, e234, hx234_0, hl234_0, hi234_0⟩ := at_L5 HR0_0.out x5_2 p234 q234
        obtain rfl : ad232 = ad234 := (by injection e234)
        replace hx234_0 := cb HB.out hx234_0
        have HR234_0 := Aside0.mk hi234_0
        have HC234_0 := Aside0.mk hl234_0
        clear hi234_0 hl234_0
        replace p234 := eq_true p234
        replace q234 := eq_true q234
        have p235 : 0 ≤ (x5_2 : Int) := od
        have q235 : x5_2 < (l0_0.length : Int) := od
        obtain ⟨ad235, A235_0, c235_0, e235, hx235_0, hl235_0, hi235_0⟩ := at_L5 HR0_0.out x5_2 p235 q235
        obtain rfl : ad232 = ad235 := (by injection e235)
        replace hx235_0 := cb HB.out hx235_0
        have HR235_0 := Aside0.mk hi235_0
        have HC235_0 := Aside0.mk hl235_0
        clear hi235_0 hl235_0
        replace p235 := eq_true p235
        replace q235 := eq_true q235
        have ea_ := Option.some.inj (hx234_0.symm.trans hx235_0)
        injection ea_ with ea_ en_ ec_
        subst ea_
        subst ec_
        clear en_
        have p236 : 0 ≤ (x6_3 : Int) := od
        have q236 : x6_3 < ((rd_L5 l0_0 x5_2).length : Int) := od
        obtain ⟨ad236, e236, hx236_0, hx236_1, hx236_2, hx236_3, hx236_4, hx236_5⟩ := at_T75 HR235_0.out x6_3 p236 q236
        cases e236
        replace hx236_0 := cb HB.out hx236_0
        replace hx236_1 := cb HB.out hx236_1
        replace hx236_2 := cb HB.out hx236_2
        replace hx236_3 := cb HB.out hx236_3
        replace hx236_4 := cb HB.out hx236_4
        replace hx236_5 := cb HB.out hx236_5
        replace p236 := eq_true p236
        replace q236 := eq_true q236
        obtain ⟨hcz33_0, hcz33_1, hfz33_0, hfz33_1⟩ := cz2 (w := wr) BK231.out
        have p237 : 0 ≤ (x5_2 : Int) := od
        have q237 : x5_2 < (l1_0.length : Int) := od
        obtain ⟨ad237, A237_0, c237_0, e237, hx237_0, hl237_0, hi237_0⟩ := at_L5 HR1_0.out x5_2 p237 q237
        obtain rfl : ad233 = ad237 := (by injection e237)
        replace hx237_0 := cb HB.out hx237_0
        have HR237_0 := Aside0.mk hi237_0
        have HC237_0 := Aside0.mk hl237_0
        clear hi237_0 hl237_0
        replace p237 := eq_true p237
        replace q237 := eq_true q237
        have p238 : 0 ≤ (x6_3 : Int) := od
        have q238 : x6_3 < ((rd_L5 l1_0 x5_2).length : Int) := od
        obtain ⟨ad238, e238, hx238_0, hx238_1, hx238_2, hx238_3, hx238_4, hx238_5⟩ := at_T75 HR237_0.out x6_3 p238 q238
        cases e238
        replace hx238_0 := cb HB.out hx238_0
        replace hx238_1 := cb HB.out hx238_1
        replace hx238_2 := cb HB.out hx238_2
        replace hx238_3 := cb HB.out hx238_3
        replace hx238_4 := cb HB.out hx238_4
        replace hx238_5 := cb HB.out hx238_5
        replace p238 := eq_true p238
        replace q238 := eq_true q238
        go_wp2
        repeat (go_quiet (fail); try go_wp2)
        go_roundg k3
        case measure => have := HJ2.out; have := HK2.out; have := HK3.out; omega
        case rel => exact ⟨(wrap64 (x6_3 + 1)), fj, H', ⟨by have := HJ2.out; have := HK2.out; have := HK3.out; omega⟩, ⟨by refine bx ?_; exact BK230.out⟩, ⟨by refine bx ?_; exact BK231.out⟩, ⟨bl⟩⟩
     rw [if_neg c14] at H
     have c14b0 := decide_eq_false c14
     clear c14
     have H' := Aside0.mk H
     clear H
     have hnb39 := NB230_231.out
     have hnc39 := NB231_230.out
     obtain ⟨hcz40_0, hcz40_1, hfz40_0, hfz40_1⟩ := cz2 (w := wr) BK230.out
     go_wp2
     repeat (go_quiet (fail); try go_wp2)
     go_loopg [7] k2 (fun kq v7 w' => ∃ (x7_3 : Int), v7 = .int .i64 x7_3 ∧ Aside0 (spinnakerref13_Same.l2 kq x7_3 l0_0 l0_1 l1_0 l1_1 = some r) ∧ Aside0 (kq ≤ k2) ∧ Aside0 (w'.heap[gb230]? = some (.cells #[(.slice A0_0 l0_0.length c0_0), (.slice A0_1 l0_1.length c0_1)] 42 (0, 0))) ∧ Aside0 (w'.heap[gb231]? = some (.cells #[(.slice A1_0 l1_0.length c1_0), (.slice A1_1 l1_1.length c1_1)] 42 (0, 0))) ∧ Aside0 (Below w.heap.size w w'))
     case atStart => exact ⟨(0), fj, H', ⟨Nat.le_refl _⟩, ⟨by refine bx ?_; exact BK230.out⟩, ⟨by refine bx ?_; exact BK231.out⟩, ⟨bl⟩⟩
     case round =>
      clear H'
      try clear c1
      try clear c2
      try clear p2
      try clear q2
      try clear hx2
      try clear c3
      try clear c6
      try clear c6b0
      try clear c6b1
      try clear c6b2
      try clear p6
      try clear c7
      try clear c10
      try clear c13
      try clear c14
      try clear c14b0
      try clear c15
      try clear c15b0
      try clear c16
      try clear c16b0
      try clear c17
      try clear c17b0
      try clear c17b1
      try clear c17b2
      try clear c18
      try clear c20
      try clear c21
      try clear c21b0
      try clear c22
      try clear c22b0
      try clear c23
      try clear c23b0
      try clear p23
      try clear q23
      try clear hx23
      try clear c24
      try clear c24b0
      try clear c25
      try clear c25b0
      try clear c26
      try clear c26b0
      try clear c27
      try clear c27b0
      try clear c28
      try clear c31
      try clear c34
      try clear c36
      try clear c39
      try clear hcz11_0 hcz11_1
      try clear hcz12_0 hcz12_1
      try clear hcz19_0 hcz19_1
      try clear hcz20_0 hcz20_1
      try clear hcz29_0 hcz29_1
      try clear hcz30_0 hcz30_1
      try clear hcz32_0 hcz32_1
      try clear hcz33_0 hcz33_1
      try clear hcz35_0 hcz35_1
      try clear hcz37_0 hcz37_1
      try clear hcz38_0 hcz38_1
      try clear hcz40_0 hcz40_1
      try clear hcz8_0 hcz8_1
      try clear hcz9_0 hcz9_1
      try clear hfz11_0 hfz11_1
      try clear hfz12_0 hfz12_1
      try clear hfz19_0 hfz19_1
      try clear hfz20_0 hfz20_1
      try clear hfz29_0 hfz29_1
      try clear hfz30_0 hfz30_1
      try clear hfz32_0 hfz32_1
      try clear hfz33_0 hfz33_1
      try clear hfz35_0 hfz35_1
      try clear hfz37_0 hfz37_1
      try clear hfz38_0 hfz38_1
      try clear hfz40_0 hfz40_1
      try clear hfz8_0 hfz8_1
      try clear hfz9_0 hfz9_1
      try clear hx232_0
      try clear hx233_0
      try clear hx234_0
      try clear hx235_0
      try clear hx236_0
      try clear hx236_1
      try clear hx236_2
      try clear hx236_3
      try clear hx236_4
      try clear hx236_5
      try clear hx237_0
      try clear hx238_0
      try clear hx238_1
      try clear hx238_2
      try clear hx238_3
      try clear hx238_4
      try clear hx238_5
      try clear p2
      try clear p232
      try clear p233
      try clear p234
      try clear p235
      try clear p236
      try clear p237
      try clear p238
      try clear q2
      try clear q232
      try clear q233
      try clear q234
      try clear q235
      try clear q236
      try clear q237
      try clear q238
      obtain ⟨x7_3, rfl, HA, HK3, BK230, BK231, HB⟩ := hrel
      cases gk with
      | zero => exact absurd HA.out (by simp [spinnakerref13_Same.l2])
      | succ k3 =>
       have H := HA.out
       clear HA
       simp only [spinnakerref13_Same.l2] at H
       by_cases c41 : x7_3 < (l0_1.length : Int)
       rotate_left
       ·rw [if_neg c41] at H
        have c41b0 := decide_eq_false c41
        clear c41
        obtain rfl := Option.some.inj H
        have hnb56 := NB230_231.out
        have hnc56 := NB231_230.out
        obtain ⟨hcz57_0, hcz57_1, hfz57_0, hfz57_1⟩ := cz2 (w := wr) BK230.out
        go_wp2
        repeat (go_quiet (fail); try go_wp2)
        go_ret
        exact ⟨fi, bl⟩
       rw [if_pos c41] at H
       have c41b0 := decide_eq_true c41
       clear c41
       by_cases c42 : 0 ≤ x7_3
       rotate_left
       ·rw [if_neg c42] at H
        exact absurd H (by simp)
       rw [if_pos c42] at H
       have c42b0 := decide_eq_true c42
       clear c42
       by_cases c43 : x7_3 < (l1_1.length : Int)
       rotate_left
       ·rw [if_neg c43] at H
        exact absurd H (by simp)
       rw [if_pos c43] at H
       have c43b0 := decide_eq_true c43
       clear c43
       by_cases c44 : ((rd_T70 l0_1 x7_3).f0) = ((rd_T70 l1_1 x7_3).f0)
       rotate_left
       ·rw [if_neg c44] at H
        have c44b0 : (((rd_T70 l0_1 x7_3).f0) == ((rd_T70 l1_1 x7_3).f0)) = false := beq_eq_false_iff_ne.mpr c44
        have c44b1 : (((rd_T70 l0_1 x7_3).f0) != ((rd_T70 l1_1 x7_3).f0)) = true := bne_iff_ne.mpr c44
        obtain rfl := Option.some.inj H
        have hnb53 := NB230_231.out
        have hnc53 := NB231_230.out
        obtain ⟨hcz54_0, hcz54_1, hfz54_0, hfz54_1⟩ := cz2 (w := wr) BK230.out
        have p239 : 0 ≤ (x7_3 : Int) := od
        have q239 : x7_3 < (l0_1.length : Int) := od
        obtain ⟨ad239, A239_1, c239_1, e239, hx239_0, hx239_1, hl239_1, hi239_1⟩ := at_T70 HR0_1.out x7_3 p239 q239
        cases e239
        replace hx239_0 := cb HB.out hx239_0
        replace hx239_1 := cb HB.out hx239_1
        have HR239_1 := Aside0.mk hi239_1
        have HC239_1 := Aside0.mk hl239_1
        clear hi239_1 hl239_1
        replace p239 := eq_true p239
        replace q239 := eq_true q239
        obtain ⟨hcz55_0, hcz55_1, hfz55_0, hfz55_1⟩ := cz2 (w := wr) BK231.out
        have p240 : 0 ≤ (x7_3 : Int) := od
        have q240 : x7_3 < (l1_1.length : Int) := od
        obtain ⟨ad240, A240_1, c240_1, e240, hx240_0, hx240_1, hl240_1, hi240_1⟩ := at_T70 HR1_1.out x7_3 p240 q240
        cases e240
        replace hx240_0 := cb HB.out hx240_0
        replace hx240_1 := cb HB.out hx240_1
        have HR240_1 := Aside0.mk hi240_1
        have HC240_1 := Aside0.mk hl240_1
        clear hi240_1 hl240_1
        replace p240 := eq_true p240
        replace q240 := eq_true q240
        go_wp2
        repeat (go_quiet (fail); try go_wp2)
        go_ret
        exact ⟨fi, bl⟩
       rw [if_pos c44] at H
       have c44b0 : (((rd_T70 l0_1 x7_3).f0) == ((rd_T70 l1_1 x7_3).f0)) = true := beq_iff_eq.mpr c44
       have c44b1 : (((rd_T70 l0_1 x7_3).f0) != ((rd_T70 l1_1 x7_3).f0)) = false := bne_eq_false_iff_eq.mpr c44
       clear c44
       replace H := be H
       obtain ⟨t243, A45, H⟩ := H
       by_cases c46 : t243 = true
       rotate_left
       ·replace c46 := Bool.eq_false_iff.mpr c46
        subst c46
        have H1 : (some false) = some r := by rw [if_neg (show ¬ (false = true) by decide)] at H; exact H
        clear H
        have H := H1
        clear H1
        obtain rfl := Option.some.inj H
        have hnb50 := NB230_231.out
        have hnc50 := NB231_230.out
        obtain ⟨hcz51_0, hcz51_1, hfz51_0, hfz51_1⟩ := cz2 (w := wr) BK230.out
        have p239 : 0 ≤ (x7_3 : Int) := od
        have q239 : x7_3 < (l0_1.length : Int) := od
        obtain ⟨ad239, A239_1, c239_1, e239, hx239_0, hx239_1, hl239_1, hi239_1⟩ := at_T70 HR0_1.out x7_3 p239 q239
        cases e239
        replace hx239_0 := cb HB.out hx239_0
        replace hx239_1 := cb HB.out hx239_1
        have HR239_1 := Aside0.mk hi239_1
        have HC239_1 := Aside0.mk hl239_1
        clear hi239_1 hl239_1
        replace p239 := eq_true p239
        replace q239 := eq_true q239
        obtain ⟨hcz52_0, hcz52_1, hfz52_0, hfz52_1⟩ := cz2 (w := wr) BK231.out
        have p240 : 0 ≤ (x7_3 : Int) := od
        have q240 : x7_3 < (l1_1.length : Int) := od
        obtain ⟨ad240, A240_1, c240_1, e240, hx240_0, hx240_1, hl240_1, hi240_1⟩ := at_T70 HR1_1.out x7_3 p240 q240
        cases e240
        replace hx240_0 := cb HB.out hx240_0
        replace hx240_1 := cb HB.out hx240_1
        have HR240_1 := Aside0.mk hi240_1
        have HC240_1 := Aside0.mk hl240_1
        clear hi240_1 hl240_1
        replace p240 := eq_true p240
        replace q240 := eq_true q240
        have p241 : 0 ≤ (x7_3 : Int) := od
        have q241 : x7_3 < (l0_1.length : Int) := od
        obtain ⟨ad241, A241_1, c241_1, e241, hx241_0, hx241_1, hl241_1, hi241_1⟩ := at_T70 HR0_1.out x7_3 p241 q241
        obtain rfl : ad239 = ad241 := (by injection e241)
        replace hx241_0 := cb HB.out hx241_0
        replace hx241_1 := cb HB.out hx241_1
        have HR241_1 := Aside0.mk hi241_1
        have HC241_1 := Aside0.mk hl241_1
        clear hi241_1 hl241_1
        replace p241 := eq_true p241
        replace q241 := eq_true q241
        have ea_ := Option.some.inj (hx239_1.symm.trans hx241_1)
        injection ea_ with ea_ en_ ec_
        subst ea_
        subst ec_
        clear en_
        have p242 : 0 ≤ (x7_3 : Int) := od
        have q242 : x7_3 < (l1_1.length : Int) := od
        obtain ⟨ad242, A242_1, c242_1, e242, hx242_0, hx242_1, hl242_1, hi242_1⟩ := at_T70 HR1_1.out x7_3 p242 q242
        obtain rfl : ad240 = ad242 := (by injection e242)
        replace hx242_0 := cb HB.out hx242_0
        replace hx242_1 := cb HB.out hx242_1
        have HR242_1 := Aside0.mk hi242_1
        have HC242_1 := Aside0.mk hl242_1
        clear hi242_1 hl242_1
        replace p242 := eq_true p242
        replace q242 := eq_true q242
        have ea_ := Option.some.inj (hx240_1.symm.trans hx242_1)
        injection ea_ with ea_ en_ ec_
        subst ea_
        subst ec_
        clear en_
        go_wp2_with (first | (go_at_call 43; (with_reducible refine (spinnakerref13_Refs.calls k3 _ _ ((rd_T70 l0_1 x7_3).f1) _ _ ((rd_T70 l1_1 x7_3).f1) false _ ?side1 ?side2 ?side3 ?side4 A45.out).mono ?_); (case side1 => repeat (first | exact (Kd.C_below HR241_1.out HB.out) | (with_reducible refine Kd.C_alloc ?_ _) | (with_reducible refine Kd.C_drewN ?_ _) | (with_reducible refine Kd.C_drew ?_))); (case side2 => exact HC241_1.out); (case side3 => repeat (first | exact (Kd.C_below HR242_1.out HB.out) | (with_reducible refine Kd.C_alloc ?_ _) | (with_reducible refine Kd.C_drewN ?_ _) | (with_reducible refine Kd.C_drew ?_))); (case side4 => exact HC242_1.out); rintro e w' ⟨rfl, ⟨nd, rfl⟩⟩; (try first | exact ⟨rfl, _, World.drewN_drewN _ _ _⟩ | exact ⟨rfl, _, Eq.trans (World.drewN_drewN _ _ _) (congrArg (World.drewN _) (Nat.add_assoc _ _ _))⟩)))
        repeat (go_quiet (first | (go_at_call 43; (with_reducible refine (spinnakerref13_Refs.calls k3 _ _ ((rd_T70 l0_1 x7_3).f1) _ _ ((rd_T70 l1_1 x7_3).f1) false _ ?side1 ?side2 ?side3 ?side4 A45.out).mono ?_); (case side1 => repeat (first | exact (Kd.C_below HR241_1.out HB.out) | (with_reducible refine Kd.C_alloc ?_ _) | (with_reducible refine Kd.C_drewN ?_ _) | (with_reducible refine Kd.C_drew ?_))); (case side2 => exact HC241_1.out); (case side3 => repeat (first | exact (Kd.C_below HR242_1.out HB.out) | (with_reducible refine Kd.C_alloc ?_ _) | (with_reducible refine Kd.C_drewN ?_ _) | (with_reducible refine Kd.C_drew ?_))); (case side4 => exact HC242_1.out); rintro e w' ⟨rfl, ⟨nd, rfl⟩⟩; (try first | exact ⟨rfl, _, World.drewN_drewN _ _ _⟩ | exact ⟨rfl, _, Eq.trans (World.drewN_drewN _ _ _) (congrArg (World.drewN _) (Nat.add_assoc _ _ _))⟩))); try go_wp2_with (first | (go_at_call 43; (with_reducible refine (spinnakerref13_Refs.calls k3 _ _ ((rd_T70 l0_1 x7_3).f1) _ _ ((rd_T70 l1_1 x7_3).f1) false _ ?side1 ?side2 ?side3 ?side4 A45.out).mono ?_); (case side1 => repeat (first | exact (Kd.C_below HR241_1.out HB.out) | (with_reducible refine Kd.C_alloc ?_ _) | (with_reducible refine Kd.C_drewN ?_ _) | (with_reducible refine Kd.C_drew ?_))); (case side2 => exact HC241_1.out); (case side3 => repeat (first | exact (Kd.C_below HR242_1.out HB.out) | (with_reducible refine Kd.C_alloc ?_ _) | (with_reducible refine Kd.C_drewN ?_ _) | (with_reducible refine Kd.C_drew ?_))); (case side4 => exact HC242_1.out); rintro e w' ⟨rfl, ⟨nd, rfl⟩⟩; (try first | exact ⟨rfl, _, World.drewN_drewN _ _ _⟩ | exact ⟨rfl, _, Eq.trans (World.drewN_drewN _ _ _) (congrArg (World.drewN _) (Nat.add_assoc _ _ _))⟩))))
        go_ret
        exact ⟨fi, bl⟩
       subst c46
       have H1 : (spinnakerref13_Same.l2 k3 (wrap64 (x7_3 + 1)) l0_0 l0_1 l1_0 l1_1) = some r := by rw [if_pos rfl] at H; exact H
       clear H
       have H := H1
       clear H1
       have H' := Aside0.mk H
       clear H
       have hnb47 := NB230_231.out
       have hnc47 := NB231_230.out
       obtain ⟨hcz48_0, hcz48_1, hfz48_0, hfz48_1⟩ := cz2 (w := wr) BK230.out
       have p239 : 0 ≤ (x7_3 : Int) := od
       have q239 : x7_3 < (l0_1.length : Int) := od
       obtain ⟨ad239, A239_1, c239_1, e239, hx239_0, hx239_1, hl239_1, hi239_1⟩ := at_T70 HR0_1.out x7_3 p239 q239
       cases e239
       replace hx239_0 := cb HB.out hx239_0
       replace hx239_1 := cb HB.out hx239_1
       have HR239_1 := Aside0.mk hi239_1
       have HC239_1 := Aside0.mk hl239_1
       clear hi239_1 hl239_1
       replace p239 := eq_true p239
       replace q239 := eq_true q239
       obtain ⟨hcz49_0, hcz49_1, hfz49_0, hfz49_1⟩ := cz2 (w := wr) BK231.out
       have p240 : 0 ≤ (x7_3 : Int) := od
       have q240 : x7_3 < (l1_1.length : Int) := od
       obtain ⟨ad240, A240_1, c240_1, e240, hx240_0, hx240_1, hl240_1, hi240_1⟩ := at_T70 HR1_1.out x7_3 p240 q240
       cases e240
       replace hx240_0 := cb HB.out hx240_0
       replace hx240_1 := cb HB.out hx240_1
       have HR240_1 := Aside0.mk hi240_1
       have HC240_1 := Aside0.mk hl240_1
       clear hi240_1 hl240_1
       replace p240 := eq_true p240
       replace q240 := eq_true q240
       have p241 : 0 ≤ (x7_3 : Int) := od
       have q241 : x7_3 < (l0_1.length : Int) := od
       obtain ⟨ad241, A241_1, c241_1, e241, hx241_0, hx241_1, hl241_1, hi241_1⟩ := at_T70 HR0_1.out x7_3 p241 q241
       obtain rfl : ad239 = ad241 := (by injection e241)
       replace hx241_0 := cb HB.out hx241_0
       replace hx241_1 := cb HB.out hx241_1
       have HR241_1 := Aside0.mk hi241_1
       have HC241_1 := Aside0.mk hl241_1
       clear hi241_1 hl241_1
       replace p241 := eq_true p241
       replace q241 := eq_true q241
       have ea_ := Option.some.inj (hx239_1.symm.trans hx241_1)
       injection ea_ with ea_ en_ ec_
       subst ea_
       subst ec_
       clear en_
       have p242 : 0 ≤ (x7_3 : Int) := od
       have q242 : x7_3 < (l1_1.length : Int) := od
       obtain ⟨ad242, A242_1, c242_1, e242, hx242_0, hx242_1, hl242_1, hi242_1⟩ := at_T70 HR1_1.out x7_3 p242 q242
       obtain rfl : ad240 = ad242 := (by injection e242)
       replace hx242_0 := cb HB.out hx242_0
       replace hx242_1 := cb HB.out hx242_1
       have HR242_1 := Aside0.mk hi242_1
       have HC242_1 := Aside0.mk hl242_1
       clear hi242_1 hl242_1
       replace p242 := eq_true p242
       replace q242 := eq_true q242
       have ea_ := Option.some.inj (hx240_1.symm.trans hx242_1)
       injection ea_ with ea_ en_ ec_
       subst ea_
       subst ec_
       clear en_
       go_wp2_with (first | (go_at_call 43; (with_reducible refine (spinnakerref13_Refs.calls k3 _ _ ((rd_T70 l0_1 x7_3).f1) _ _ ((rd_T70 l1_1 x7_3).f1) true _ ?side1 ?side2 ?side3 ?side4 A45.out).mono ?_); (case side1 => repeat (first | exact (Kd.C_below HR241_1.out HB.out) | (with_reducible refine Kd.C_alloc ?_ _) | (with_reducible refine Kd.C_drewN ?_ _) | (with_reducible refine Kd.C_drew ?_))); (case side2 => exact HC241_1.out); (case side3 => repeat (first | exact (Kd.C_below HR242_1.out HB.out) | (with_reducible refine Kd.C_alloc ?_ _) | (with_reducible refine Kd.C_drewN ?_ _) | (with_reducible refine Kd.C_drew ?_))); (case side4 => exact HC242_1.out); rintro e w' ⟨rfl, ⟨nd, rfl⟩⟩; (try first | exact ⟨rfl, _, World.drewN_drewN _ _ _⟩ | exact ⟨rfl, _, Eq.trans (World.drewN_drewN _ _ _) (congrArg (World.drewN _) (Nat.add_assoc _ _ _))⟩)))
       repeat (go_quiet (first | (go_at_call 43; (with_reducible refine (spinnakerref13_Refs.calls k3 _ _ ((rd_T70 l0_1 x7_3).f1) _ _ ((rd_T70 l1_1 x7_3).f1) true _ ?side1 ?side2 ?side3 ?side4 A45.out).mono ?_); (case side1 => repeat (first | exact (Kd.C_below HR241_1.out HB.out) | (with_reducible refine Kd.C_alloc ?_ _) | (with_reducible refine Kd.C_drewN ?_ _) | (with_reducible refine Kd.C_drew ?_))); (case side2 => exact HC241_1.out); (case side3 => repeat (first | exact (Kd.C_below HR242_1.out HB.out) | (with_reducible refine Kd.C_alloc ?_ _) | (with_reducible refine Kd.C_drewN ?_ _) | (with_reducible refine Kd.C_drew ?_))); (case side4 => exact HC242_1.out); rintro e w' ⟨rfl, ⟨nd, rfl⟩⟩; (try first | exact ⟨rfl, _, World.drewN_drewN _ _ _⟩ | exact ⟨rfl, _, Eq.trans (World.drewN_drewN _ _ _) (congrArg (World.drewN _) (Nat.add_assoc _ _ _))⟩))); try go_wp2_with (first | (go_at_call 43; (with_reducible refine (spinnakerref13_Refs.calls k3 _ _ ((rd_T70 l0_1 x7_3).f1) _ _ ((rd_T70 l1_1 x7_3).f1) true _ ?side1 ?side2 ?side3 ?side4 A45.out).mono ?_); (case side1 => repeat (first | exact (Kd.C_below HR241_1.out HB.out) | (with_reducible refine Kd.C_alloc ?_ _) | (with_reducible refine Kd.C_drewN ?_ _) | (with_reducible refine Kd.C_drew ?_))); (case side2 => exact HC241_1.out); (case side3 => repeat (first | exact (Kd.C_below HR242_1.out HB.out) | (with_reducible refine Kd.C_alloc ?_ _) | (with_reducible refine Kd.C_drewN ?_ _) | (with_reducible refine Kd.C_drew ?_))); (case side4 => exact HC242_1.out); rintro e w' ⟨rfl, ⟨nd, rfl⟩⟩; (try first | exact ⟨rfl, _, World.drewN_drewN _ _ _⟩ | exact ⟨rfl, _, Eq.trans (World.drewN_drewN _ _ _) (congrArg (World.drewN _) (Nat.add_assoc _ _ _))⟩))))
       go_roundg k3
       case measure => have := HJ2.out; have := HK2.out; have := HK3.out; omega
       case rel => exact ⟨(wrap64 (x7_3 + 1)), fj, H', ⟨by have := HJ2.out; have := HK2.out; have := HK3.out; omega⟩, ⟨by refine bx ?_; exact BK230.out⟩, ⟨by refine bx ?_; exact BK231.out⟩, ⟨bl⟩⟩

end Go.Proofs.Ytfpphaflbmlpeaa.GCandChecks
