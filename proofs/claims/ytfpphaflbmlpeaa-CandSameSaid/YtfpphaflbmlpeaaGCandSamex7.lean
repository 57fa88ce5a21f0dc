-- Written by wip/stub.py of this repo.
import Derived.Test.YtfpphaflbmlpeaaGCandSamex0
import Derived.Test.YtfpphaflbmlpeaaGCandSamex6
namespace Go.Proofs.Ytfpphaflbmlpeaa.GCandSame
open Go.RowKit Go.Proofs.YtfpphaflbmlpeaaW.PrintWords Go.Proofs.YtfpphaflbmlpeaaW.PrintLast Go.Proofs.YtfpphaflbmlpeaaW.PrintMore
attribute [local go_sem] max2_int min2_int max_two min_two max_three min_three max_four min_four   -- for this text's walks alone
set_option linter.unusedVariables false
set_option linter.unusedSimpArgs false

/-! ### cand_Encode: function 23 -/
mutual
def cand_Encode.l0 : Nat → List Int → List (List (S75)) → Int → Int → List (List (S75)) → List (S70) → Option (List Int × Int)
  | 0, _, _, _, _, _, _ => none
  | k + 1, x5, x25, x26, x27, x139000, x139001 => if x27 < x26 then (if 0 ≤ x27 then (if x27 < (x25.length : Int) then ((cand_writer_put.f k x5 (([((rd_L4 x25 x27).length : Int)] : List Int))).bind fun t150 => (cand_Encode.l1 k t150 x25 x26 x27 (rd_L4 x25 x27) ((rd_L4 x25 x27).length : Int) 0 x139000 x139001)) else (none)) else (none)) else ((cand_writer_put.f k x5 (([(x139001.length : Int)] : List Int))).bind fun t165 => (cand_Encode.l2 k t165 x139001 (x139001.length : Int) 0))
def cand_Encode.l1 : Nat → List Int → List (List (S75)) → Int → Int → List (S75) → Int → Int → List (List (S75)) → List (S70) → Option (List Int × Int)
  | 0, _, _, _, _, _, _, _, _, _ => none
  | k + 1, x5, x25, x26, x27, x35, x36, x37, x139000, x139001 => if x37 < x36 then (if 0 ≤ x37 then (if x37 < (x35.length : Int) then ((cand_flag.f ((rd_T75 x35 x37).f0) ((rd_T75 x35 x37).f1) ((rd_T75 x35 x37).f2.f0) ((rd_T75 x35 x37).f2.f1) ((rd_T75 x35 x37).f3) ((rd_T75 x35 x37).f4)).bind fun t155 => ((cand_writer_put.f k x5 (([(rd_T75 x35 x37).f0, (rd_T75 x35 x37).f1, (rd_T75 x35 x37).f2.f0, (rd_T75 x35 x37).f2.f1, t155] : List Int))).bind fun t159 => (cand_Encode.l1 k t159 x25 x26 x27 x35 x36 (wrap64 (x37 + 1)) x139000 x139001))) else (none)) else (none)) else (cand_Encode.l0 k x5 x25 x26 (wrap64 (x27 + 1)) x139000 x139001)
def cand_Encode.l2 : Nat → List Int → List (S70) → Int → Int → Option (List Int × Int)
  | 0, _, _, _, _ => none
  | k + 1, x5, x63, x64, x65 => if x65 < x64 then (if 0 ≤ x65 then (if x65 < (x63.length : Int) then ((cand_writer_put.f k x5 (([(rd_T70 x63 x65).f0, (((rd_T70 x63 x65).f1).length : Int)] : List Int))).bind fun t173 => (cand_Encode.l3 k t173 x63 x64 x65 ((rd_T70 x63 x65).f1) (((rd_T70 x63 x65).f1).length : Int) 0)) else (none)) else (none)) else (some (x5, 0))
def cand_Encode.l3 : Nat → List Int → List (S70) → Int → Int → List (S73) → Int → Int → Option (List Int × Int)
  | 0, _, _, _, _, _, _, _ => none
  | k + 1, x5, x63, x64, x65, x77, x78, x79 => if x79 < x78 then (if 0 ≤ x79 then (if x79 < (x77.length : Int) then ((cand_writer_put.f k x5 (([(rd_T73 x77 x79).f0, (rd_T73 x77 x79).f1] : List Int))).bind fun t181 => (cand_Encode.l3 k t181 x63 x64 x65 x77 x78 (wrap64 (x79 + 1)))) else (none)) else (none)) else (cand_Encode.l2 k x5 x63 x64 (wrap64 (x65 + 1)))
end
def cand_Encode.f (k : Nat) (l0_0 : List (List (S75))) (l0_1 : List (S70)) : Option (List Int × Int) := (cand_Check.f k l0_0 l0_1).bind fun t139 => (if t139 = 0 then ((cand_writer_put.f k ([] : List Int) (([(l0_0.length : Int)] : List Int))).bind fun t143 => (cand_Encode.l0 k t143 l0_0 (l0_0.length : Int) 0 l0_0 l0_1)) else (some (([] : List Int), t139)))
theorem cand_Encode.mono_l : ∀ k, (∀ y0 y1 y2 y3 y4 y5, LeO (cand_Encode.l0 k y0 y1 y2 y3 y4 y5) (cand_Encode.l0 (k + 1) y0 y1 y2 y3 y4 y5)) ∧ (∀ y0 y1 y2 y3 y4 y5 y6 y7 y8, LeO (cand_Encode.l1 k y0 y1 y2 y3 y4 y5 y6 y7 y8) (cand_Encode.l1 (k + 1) y0 y1 y2 y3 y4 y5 y6 y7 y8)) ∧ (∀ y0 y1 y2 y3, LeO (cand_Encode.l2 k y0 y1 y2 y3) (cand_Encode.l2 (k + 1) y0 y1 y2 y3)) ∧ (∀ y0 y1 y2 y3 y4 y5 y6, LeO (cand_Encode.l3 k y0 y1 y2 y3 y4 y5 y6) (cand_Encode.l3 (k + 1) y0 y1 y2 y3 y4 y5 y6))
 | 0 => ⟨fun _ _ _ _ _ _ r h => by simp [cand_Encode.l0] at h, fun _ _ _ _ _ _ _ _ _ r h => by simp [cand_Encode.l1] at h, fun _ _ _ _ r h => by simp [cand_Encode.l2] at h, fun _ _ _ _ _ _ _ r h => by simp [cand_Encode.l3] at h⟩
 | k + 1 => by
  obtain ⟨ih0, ih1, ih2, ih3⟩ := cand_Encode.mono_l k
  refine ⟨?_, ?_, ?_, ?_⟩
  all_goals (intros; (first | unfold cand_Encode.l0 | unfold cand_Encode.l1 | unfold cand_Encode.l2 | unfold cand_Encode.l3); repeat' first | (with_reducible first | exact ih0 _ _ _ _ _ _ | exact ih1 _ _ _ _ _ _ _ _ _ | exact ih2 _ _ _ _ | exact ih3 _ _ _ _ _ _ _ | exact cand_Check.mono _ _ _ | exact cand_writer_put.mono _ _ _ | exact LeO.refl _ | exact LeO.none _ | refine LeO.ite ?_ ?_ | refine LeO.bind ?_ (fun _ => ?_)) | exact ih0 _ _ _ _ _ _ | exact ih1 _ _ _ _ _ _ _ _ _ | exact ih2 _ _ _ _ | exact ih3 _ _ _ _ _ _ _ | exact cand_Check.mono _ _ _ | exact cand_writer_put.mono _ _ _ | exact LeO.none _ | refine LeO.ite ?_ ?_ | refine LeO.bind ?_ (fun _ => ?_))
theorem cand_Encode.mono : ∀ a0 a1 k, LeO (cand_Encode.f k a0 a1) (cand_Encode.f (k + 1) a0 a1) := by
 intro a0 a1 k
 obtain ⟨ih0, ih1, ih2, ih3⟩ := cand_Encode.mono_l k
 unfold cand_Encode.f
 repeat' first | (with_reducible first | exact ih0 _ _ _ _ _ _ | exact ih1 _ _ _ _ _ _ _ _ _ | exact ih2 _ _ _ _ | exact ih3 _ _ _ _ _ _ _ | exact cand_Check.mono _ _ _ | exact cand_writer_put.mono _ _ _ | exact LeO.refl _ | exact LeO.none _ | refine LeO.ite ?_ ?_ | refine LeO.bind ?_ (fun _ => ?_)) | exact ih0 _ _ _ _ _ _ | exact ih1 _ _ _ _ _ _ _ _ _ | exact ih2 _ _ _ _ | exact ih3 _ _ _ _ _ _ _ | exact cand_Check.mono _ _ _ | exact cand_writer_put.mono _ _ _ | exact LeO.none _ | refine LeO.ite ?_ ?_ | refine LeO.bind ?_ (fun _ => ?_)
def cand_Encode.T13 : Bool × List (List Nat × List Nat) := (true, [([], []), ([0], [0]), ([], []), ([2], [2]), ([], []), ([4], [4]), ([5], [5]), ([], []), ([7], [7]), ([8], [8]), ([], []), ([10], [10]), ([1, 3, 6, 9, 11], [1, 3, 6, 9, 11]), ([12, 11], [12])])
def cand_Encode.B13 : List Nat := [0, 1, 0, 4, 0, 16, 48, 0, 128, 384, 0, 1024, 4095, 8191]
theorem cand_Encode.tab13 : rtab .any (opsOf Try.f23 13) = cand_Encode.T13 := by kernel_rfl
theorem cand_Encode.bits13 : waitsOk cand_Encode.T13.2 cand_Encode.B13 = true := by kernel_rfl
set_option maxHeartbeats 8000000 in
set_option maxRecDepth 100000 in
theorem cand_Encode.calls (k : Nat) (A0_0 : Option Addr) (c0_0 : Nat) (l0_0 : List (List (S75))) (A0_1 : Option Addr) (c0_1 : Nat) (l0_1 : List (S70)) (r1 : List Int) (r2 : Int) (w : World) (hr0_0 : Kd.C (Kd.slice 75 k75) w A0_0 l0_0.length l0_0) (hc0_0 : l0_0.length ≤ c0_0) (hr0_1 : Kd.C k70 w A0_1 l0_1.length l0_1) (hc0_1 : l0_1.length ≤ c0_1) (h : cand_Encode.f k l0_0 l0_1 = some (r1, r2)) :
  Calls Try.prog 23 #[.agg #[.slice A0_0 l0_0.length c0_0, .slice A0_1 l0_1.length c0_1]] w fun e w' => ∃ v0_ : Value, e = .returned (.tuple #[v0_, .int .i64 r2]) ∧ Kd.R (Kd.int .u8) 5 w' w.heap.size (fun _ => True) v0_ r1 ∧ Below w.heap.size w w' := by
 have hu42 := Try.underlying42
 have hu75 := Try.underlying75
 have hu70 := Try.underlying70
 have hu73 := Try.underlying73
 have hu85 := Try.underlying85
 have HR0_0 := Aside0.mk hr0_0
 have HC0_0 := Aside0.mk hc0_0
 clear hr0_0 hc0_0
 have HR0_1 := Aside0.mk hr0_1
 have HC0_1 := Aside0.mk hc0_1
 clear hr0_1 hc0_1
 have HB := Aside0.mk (Below.refl w.heap.size w)
 have H : ((cand_Check.f k l0_0 l0_1).bind fun t139 => (if t139 = 0 then ((cand_writer_put.f k ([] : List Int) (([(l0_0.length : Int)] : List Int))).bind fun t143 => (cand_Encode.l0 k t143 l0_0 (l0_0.length : Int) 0 l0_0 l0_1)) else (some (([] : List Int), t139)))) = some (r1, r2) := h
 clear h
 replace H := be H
 obtain ⟨t139, A2, H⟩ := H
 by_cases c3 : t139 = 0
 ·rw [if_pos c3] at H
  obtain ⟨c3b0, c3b1⟩ := eqs c3
  clear c3
  obtain ⟨y140, hy140⟩ : ∃ y_ : List Int, y_ = (([(l0_0.length : Int)] : List Int)) := ⟨_, rfl⟩
  replace H : ((cand_writer_put.f k ([] : List Int) y140).bind fun t143 => (cand_Encode.l0 k t143 l0_0 (l0_0.length : Int) 0 l0_0 l0_1)) = some (r1, r2) := by first | (rw [hy140]; with_reducible exact H) | (have H2_ := (Option.bind_some _ _).symm.trans H; rw [hy140]; with_reducible exact H2_) | (have H2_ := (Option.bind_some _ _).symm.trans H; with_reducible exact H2_) | with_reducible exact H | (rw [hy140]; exact H) | exact H
  have Ny140 := Aside0.mk hy140
  clear hy140
  replace H := be H
  obtain ⟨t143, A4, H⟩ := H
  have H' := Aside0.mk H
  clear H
  go_enter Try.func23, Try.ntmps23
  go_wp2_with (first | ((with_reducible refine gate_dst (N := 1) rfl ?_); refine box_event ?hg (N := 1) ?hd (cs := #[.slice A0_0 l0_0.length c0_0, .slice A0_1 l0_1.length c0_1]) (t := 42) ?hr ?_; (case hd => rfl); (case hg => rfl); (case hr => first | (go_simp; done) | (go_simp; rfl)); intro gb138 hg w5 hbox hb; obtain ⟨n0_, GW138⟩ := nb (w := w) hg hb; clear HB; have HB := n0_; have BK138 := Aside0.mk hbox; have GE138 := GW138; clear n0_ hb hbox hg; obtain ⟨hcz6_0, hcz6_1, hfz6_0, hfz6_1⟩ := cz2 (w := w5) BK138.out) | ((with_reducible refine gate_callee (f := 24) rfl ?_); refine goesL_ (some 15) rfl rfl Try.func24 (by kernel_rfl) rfl #[.agg #[.slice A0_0 l0_0.length c0_0, .slice A0_1 l0_1.length c0_1]] rfl ga ?_; (with_reducible refine (cand_Check.calls k _ _ l0_0 _ _ l0_1 t139 _ ?side1 ?side2 ?side3 ?side4 A2.out).mono ?_); (case side1 => repeat (first | exact (Kd.C_below HR0_0.out HB.out) | (with_reducible refine Kd.C_alloc ?_ _) | (with_reducible refine Kd.C_drewN ?_ _) | (with_reducible refine Kd.C_drew ?_))); (case side2 => exact HC0_0.out); (case side3 => repeat (first | exact (Kd.C_below HR0_1.out HB.out) | (with_reducible refine Kd.C_alloc ?_ _) | (with_reducible refine Kd.C_drewN ?_ _) | (with_reducible refine Kd.C_drew ?_))); (case side4 => exact HC0_1.out); rintro e w7 ⟨rfl, hb⟩; refine ⟨_, rfl, ?_⟩; have n0_ := Aside0.mk (blk_below (g := gb138) (o := .cells #[.slice A0_0 l0_0.length c0_0, .slice A0_1 l0_1.length c0_1] 42 (0, 0)) (bk BK138.out) hb); have n1_ := Aside0.mk (below_step bl hb); clear BK138; clear HB; have BK138 := n0_; have HB := n1_; clear n0_ n1_; (try clear hb); obtain ⟨hcz8_0, hcz8_1, hfz8_0, hfz8_1⟩ := cz2 (w := w7) BK138.out) | ((with_reducible refine gate_dst (N := 5) rfl ?_); refine box_event ?hg (N := 5) ?hd (cs := #[.slice none 0 0]) (t := 85) ?hr ?_; (case hd => rfl); (case hg => rfl); (case hr => first | (go_simp; done) | (go_simp; rfl)); intro gbw hg ww hbox hb; have n0_ := Aside0.mk (blk_below (g := gb138) (o := .cells #[.slice A0_0 l0_0.length c0_0, .slice A0_1 l0_1.length c0_1] 42 (0, 0)) (bk BK138.out) hb); have n1_ := Aside0.mk (below_step bl hb); have n3_ := Aside0.mk ((by rw [hg]; exact (below_size bl)) : w.heap.size ≤ gbw); have GH := Aside0.mk hbox; clear BK138; clear HB; have BK138 := n0_; have HB := n1_; have GHE := n3_; clear n0_ n1_ n3_; clear hb hbox hg; have hcw0 : ww.cell? ⟨gb138, 0, none⟩ = some (.slice A0_0 l0_0.length c0_0) := (blk_cell BK138.out 0).trans rfl; have hfw0 := blk_frozen BK138.out 0; have hcw1 : ww.cell? ⟨gb138, 1, none⟩ = some (.slice A0_1 l0_1.length c0_1) := (blk_cell BK138.out 1).trans rfl; have hfw1 := blk_frozen BK138.out 1) | ((with_reducible refine gate_dst (N := 22) rfl ?_); refine Kd.R_lit (Kd.int .i64) _ 3 ?hg (N := 22) ?hd (xs := ([(l0_0.length : Int)] : List Int)) (inner := [.int .i64 (l0_0.length : Int)]) (ok := fun _ => True) (okp := fun _ => True) ?hr ?hp (fun _ hk => hk) trivial (Below.refl _ _) (Nat.le_refl _) (by simp) ?_; (case hd => rfl); (case hg => rfl); (case hr => first | (go_simp; done) | (go_simp; rfl)); (case hp => exact (Reps.one (show Kd.M (Kd.int .i64) _ _ _ (l0_0.length : Int) [.int .i64 (l0_0.length : Int)] from rfl) (Reps.none _ _))); intro v141 w9 ho10 hb hg_ hnew_; have ngh_ := Aside0.mk (blk_below (g := gbw) (o := .cells #[.slice none 0 0] 85 (0, 0)) (by with_reducible repeat (first | exact GH.out | refine ghs ?_ (Aside0.out (by assumption)) | refine blk_drewN ?_ _ | refine blk_drew ?_ | refine blk_alloc ?_ _)) hb); clear GH; have GH := ngh_; clear ngh_; clear hg_ hnew_; (first | rw [← Ny140.out] at ho10 | (simp only [Int.reduceToNat] at ho10; rw [← Ny140.out] at ho10)); have n0_ := Aside0.mk (Kd.R_lower ho10 (below_size bl)); have n1_ := Aside0.mk (blk_below (g := gb138) (o := .cells #[.slice A0_0 l0_0.length c0_0, .slice A0_1 l0_1.length c0_1] 42 (0, 0)) (bk BK138.out) hb); have n2_ := Aside0.mk (below_step bl hb); clear BK138; clear HB; have HO142 := n0_; have BK138 := n1_; have HB := n2_; clear n0_ n1_ n2_; clear hb ho10; obtain ⟨Ao11, co11, eo11⟩ := Kd.R_slice HO142.out; subst eo11) | ((with_reducible refine gate_callee (f := 48) rfl ?_); refine goesL_ (some 23) rfl rfl Try.func48 (by kernel_rfl) rfl #[.pointer (some ⟨gbw, 0, none⟩), .slice Ao11 y140.length co11] rfl ga ?_; (refine (cand_writer_put.calls k (fun k_ => some k_ = (.slice none 0 0 : Value).ownBlock) (.slice none 0 0) gbw ([] : List Int) _ _ y140 t143 w _ ?side1 ?side2 ?side3 ?side4 ?side5 ?side6 A4.out).mono ?_); (case side1 => repeat (first | (with_reducible first | exact HB.out | apply below_alloc | apply pw_below_drewN | apply below_drew1 | refine below_set ?_ GE138.out) | exact HB.out)); (case side2 => exact Kd.R_nil _ _ _ _ _); (case side3 => exact Kd.C_kept_own (Kd.R_types (HO142.out) GH.out (by decide)) (fun k_ hk_ hs_ => hs_.elim (fun hs_ => (fun e_ => by simp [Value.ownBlock] at e_) hs_) hk_.2)); (case side4 => exact (Kd.R_reads' HO142.out).2.1); (case side5 => exact (by with_reducible repeat (first | exact GH.out | refine ghs ?_ (Aside0.out (by assumption)) | refine blk_drewN ?_ _ | refine blk_drew ?_ | refine blk_alloc ?_ _))); (case side6 => exact GHE.out); rintro e w12 ⟨rfl, v144, ho0, gh_, hb, hkp⟩; refine ⟨_, rfl, ?_⟩; have ngh_ := Aside0.mk gh_; clear gh_; have n0_ := Aside0.mk (blk_kept (bk BK138.out) hkp (fun hs_ => hs_.elim (fun hs_ => (fun e_ => by simp [Value.ownBlock] at e_) hs_) (fun e_ => blk_ne BK138.out GH.out (by decide) e_))); have n1_ := Aside0.mk (Kd.R_mono (ok' := fun k_ => True) (Kd.R_keptB (Kd.R_types (HO142.out) GH.out (by decide)) hkp (fun k_ hk_ hs_ => hs_.elim (fun hs_ => (fun e_ => by simp [Value.ownBlock] at e_) hs_) hk_.2)) (fun k_ hk_ => trivial)); have n2_ := Aside0.mk (Kd.R_mono (ok' := fun k_ => True) ho0 (fun k_ hk_ => trivial)); have n3_ := Aside0.mk (hb); clear BK138; clear GH; have GH := ngh_; clear ngh_; clear HO142; clear HB; have BK138 := n0_; have HO142 := n1_; have HO145 := n2_; have HB := n3_; clear n0_ n1_ n2_ n3_; (try clear hb); (try clear hkp); (try clear ho0); obtain ⟨hcz13_0, hcz13_1, hfz13_0, hfz13_1⟩ := cz2 (w := w12) BK138.out))
  go_loopg [27] k (fun kq v27 w' => ∃ (x5_1 : List Int) (x27_1 : Int) (v5 : Value), v27 = .int .i64 x27_1 ∧ Aside0 (cand_Encode.l0 kq x5_1 l0_0 (l0_0.length : Int) x27_1 l0_0 l0_1 = some (r1, r2)) ∧ Aside0 (kq ≤ k) ∧ Aside0 (Kd.R (Kd.int .u8) 5 w' w.heap.size (fun _ => True) v5 x5_1) ∧ Aside0 (w'.heap[gbw]? = some (.cells #[v5] 85 (0, 0))) ∧ Aside0 (w'.heap[gb138]? = some (.cells #[(.slice A0_0 l0_0.length c0_0), (.slice A0_1 l0_1.length c0_1)] 42 (0, 0))) ∧ Aside0 (Below w.heap.size w w'))
  case atStart => exact ⟨(t143), (0), v144, fj, H', ⟨Nat.le_refl _⟩, ⟨by (with_reducible repeat (first | apply Kd.R_alloc | apply Kd.R_drewN | apply Kd.R_drew)); exact HO145.out⟩, ⟨(by with_reducible repeat (first | exact GH.out | refine ghs ?_ (Aside0.out (by assumption)) | refine blk_drewN ?_ _ | refine blk_drew ?_ | refine blk_alloc ?_ _))⟩, ⟨by refine bx ?_; exact BK138.out⟩, ⟨bl⟩⟩
  case round =>
   clear H'
   try clear c2
   try clear p2
   try clear c3
   try clear c3b0
   try clear c3b1
   try clear c4
   try clear hcz13_0 hcz13_1
   try clear hcz6_0 hcz6_1
   try clear hcz8_0 hcz8_1
   try clear hfz13_0 hfz13_1
   try clear hfz6_0 hfz6_1
   try clear hfz8_0 hfz8_1
   obtain ⟨x5_1, x27_1, u5, rfl, HA, HK1, HO_5, GH, BK138, HB⟩ := hrel
   cases gk with
   | zero => exact absurd HA.out (by simp [cand_Encode.l0])
   | succ k1 =>
    have H := HA.out
    clear HA
    simp only [cand_Encode.l0] at H
    by_cases c14 : x27_1 < (l0_0.length : Int)
    ·rw [if_pos c14] at H
     have c14b0 := decide_eq_true c14
     clear c14
     by_cases c15 : 0 ≤ x27_1
     ·rw [if_pos c15] at H
      have c15b0 := decide_eq_true c15
      clear c15
      by_cases c16 : x27_1 < (l0_0.length : Int)
      ·rw [if_pos c16] at H
       have c16b0 := decide_eq_true c16
       clear c16
       obtain ⟨y147, hy147⟩ : ∃ y_ : List Int, y_ = (([((rd_L4 l0_0 x27_1).length : Int)] : List Int)) := ⟨_, rfl⟩
       replace H : ((cand_writer_put.f k1 x5_1 y147).bind fun t150 => (cand_Encode.l1 k1 t150 l0_0 (l0_0.length : Int) x27_1 (rd_L4 l0_0 x27_1) ((rd_L4 l0_0 x27_1).length : Int) 0 l0_0 l0_1)) = some (r1, r2) := by first | (rw [hy147]; with_reducible exact H) | (have H2_ := (Option.bind_some _ _).symm.trans H; rw [hy147]; with_reducible exact H2_) | (have H2_ := (Option.bind_some _ _).symm.trans H; with_reducible exact H2_) | with_reducible exact H | (rw [hy147]; exact H) | exact H
       have Ny147 := Aside0.mk hy147
       clear hy147
       replace H := be H
       obtain ⟨t150, A17, H⟩ := H
       have H' := Aside0.mk H
       clear H
       have p146 : 0 ≤ (x27_1 : Int) := of_decide_eq_true (by first | (with_reducible assumption) | assumption)
       have q146 : x27_1 < (l0_0.length : Int) := of_decide_eq_true (by first | (with_reducible assumption) | assumption)
       obtain ⟨ad146, A146_0, c146_0, e146, hx146_0, hl146_0, hi146_0⟩ := at_L4 HR0_0.out x27_1 p146 q146
       cases e146
       replace hx146_0 := (HB.out.cell (World.block_lt_of_cell? w _ hx146_0)).trans hx146_0
       have HR146_0 := Aside0.mk hi146_0
       have HC146_0 := Aside0.mk hl146_0
       clear hi146_0 hl146_0
       replace p146 := eq_true p146
       replace q146 := eq_true q146
       go_wp2_with (first | ((with_reducible refine gate_dst (N := 33) rfl ?_); refine Kd.R_lit (Kd.int .i64) _ 3 ?hg (N := 33) ?hd (xs := ([((rd_L4 l0_0 x27_1).length : Int)] : List Int)) (inner := [.int .i64 ((rd_L4 l0_0 x27_1).length : Int)]) (ok := fun _ => True) (okp := fun _ => True) ?hr ?hp (fun _ hk => hk) trivial (Below.refl _ _) (Nat.le_refl _) (by simp) ?_; (case hd => rfl); (case hg => rfl); (case hr => first | (go_simp; done) | (go_simp; rfl)); (case hp => exact (Reps.one (show Kd.M (Kd.int .i64) _ _ _ ((rd_L4 l0_0 x27_1).length : Int) [.int .i64 ((rd_L4 l0_0 x27_1).length : Int)] from rfl) (Reps.none _ _))); intro v148 w18 ho19 hb hg_ hnew_; have ngh_ := Aside0.mk (blk_below (g := gbw) (o := .cells #[u5] 85 (0, 0)) (by with_reducible repeat (first | exact GH.out | refine ghs ?_ (Aside0.out (by assumption)) | refine blk_drewN ?_ _ | refine blk_drew ?_ | refine blk_alloc ?_ _)) hb); clear GH; have GH := ngh_; clear ngh_; clear hg_ hnew_; (first | rw [← Ny147.out] at ho19 | (simp only [Int.reduceToNat] at ho19; rw [← Ny147.out] at ho19)); have n0_ := Aside0.mk (Kd.R_below (by (with_reducible repeat (first | apply Kd.R_alloc | apply Kd.R_drewN | apply Kd.R_drew)); exact HO_5.out) hb); have n1_ := Aside0.mk (Kd.R_lower ho19 (below_size bl)); have n2_ := Aside0.mk (blk_below (g := gb138) (o := .cells #[.slice (some ad146) l0_0.length c0_0, .slice A0_1 l0_1.length c0_1] 42 (0, 0)) (bk BK138.out) hb); have n3_ := Aside0.mk (below_step bl hb); clear HO_5; clear BK138; clear HB; have HO_5 := n0_; have HO149 := n1_; have BK138 := n2_; have HB := n3_; clear n0_ n1_ n2_ n3_; clear hb ho19; obtain ⟨Ao20, co20, eo20⟩ := Kd.R_slice HO_5.out; subst eo20; obtain ⟨Ao21, co21, eo21⟩ := Kd.R_slice HO149.out; subst eo21) | ((with_reducible refine gate_callee (f := 48) rfl ?_); refine goesL_ (some 34) rfl rfl Try.func48 (by kernel_rfl) rfl #[.pointer (some ⟨gbw, 0, none⟩), .slice Ao21 y147.length co21] rfl ga ?_; (with_reducible refine (cand_writer_put.calls k1 (fun k_ => some k_ = (.slice Ao20 x5_1.length co20 : Value).ownBlock) (.slice Ao20 x5_1.length co20) gbw x5_1 _ _ y147 t150 w _ ?side1 ?side2 ?side3 ?side4 ?side5 ?side6 A17.out).mono ?_); (case side1 => repeat (first | (with_reducible first | exact HB.out | apply below_alloc | apply pw_below_drewN | apply below_drew1 | refine below_set ?_ GE138.out) | exact HB.out)); (case side2 => exact Kd.R_tight rfl HO_5.out); (case side3 => exact Kd.C_kept_own (Kd.R_types ((Kd.R_apart' HO149.out (Kd.R_typed HO_5.out) (by decide))) GH.out (by decide)) (fun k_ hk_ hs_ => hs_.elim (fun hs_ => (hk_.1.2) hs_) hk_.2)); (case side4 => exact (Kd.R_reads' HO149.out).2.1); (case side5 => exact (by with_reducible repeat (first | exact GH.out | refine ghs ?_ (Aside0.out (by assumption)) | refine blk_drewN ?_ _ | refine blk_drew ?_ | refine blk_alloc ?_ _))); (case side6 => exact GHE.out); rintro e w22 ⟨rfl, v151, ho0, gh_, hb, hkp⟩; refine ⟨_, rfl, ?_⟩; have ngh_ := Aside0.mk gh_; clear gh_; have n0_ := Aside0.mk (blk_kept (bk BK138.out) hkp (fun hs_ => hs_.elim (fun hs_ => (fun e_ => (Kd.R_ne HO_5.out BK138.out (by decide)) e_) hs_) (fun e_ => blk_ne BK138.out GH.out (by decide) e_))); have n1_ := Aside0.mk (Kd.R_mono (ok' := fun k_ => True) (Kd.R_keptB (Kd.R_types ((Kd.R_apart' HO149.out (Kd.R_typed HO_5.out) (by decide))) GH.out (by decide)) hkp (fun k_ hk_ hs_ => hs_.elim (fun hs_ => (hk_.1.2) hs_) hk_.2)) (fun k_ hk_ => trivial)); have n2_ := Aside0.mk (Kd.R_mono (ok' := fun k_ => True) ho0 (fun k_ hk_ => trivial)); have n3_ := Aside0.mk (hb); clear BK138; clear HO149; clear GH; have GH := ngh_; clear ngh_; clear HB; clear HO_5; have BK138 := n0_; have HO149 := n1_; have HO152 := n2_; have HB := n3_; clear n0_ n1_ n2_ n3_; (try clear hb); (try clear hkp); (try clear ho0)))
       go_loopg [37] k1 (fun kq v37 w' => ∃ (x5_2 : List Int) (x37_2 : Int) (v5 : Value), v37 = .int .i64 x37_2 ∧ Aside0 (cand_Encode.l1 kq x5_2 l0_0 (l0_0.length : Int) x27_1 (rd_L4 l0_0 x27_1) ((rd_L4 l0_0 x27_1).length : Int) x37_2 l0_0 l0_1 = some (r1, r2)) ∧ Aside0 (kq ≤ k1) ∧ Aside0 (Kd.R (Kd.int .u8) 5 w' w.heap.size (fun _ => True) v5 x5_2) ∧ Aside0 (w'.heap[gbw]? = some (.cells #[v5] 85 (0, 0))) ∧ Aside0 (w'.heap[gb138]? = some (.cells #[(.slice (some ad146) l0_0.length c0_0), (.slice A0_1 l0_1.length c0_1)] 42 (0, 0))) ∧ Aside0 (Below w.heap.size w w'))
       case atStart => exact ⟨(t150), (0), v151, fj, H', ⟨Nat.le_refl _⟩, ⟨by (with_reducible repeat (first | apply Kd.R_alloc | apply Kd.R_drewN | apply Kd.R_drew)); exact HO152.out⟩, ⟨(by with_reducible repeat (first | exact GH.out | refine ghs ?_ (Aside0.out (by assumption)) | refine blk_drewN ?_ _ | refine blk_drew ?_ | refine blk_alloc ?_ _))⟩, ⟨by refine bx ?_; exact BK138.out⟩, ⟨bl⟩⟩
       case round =>
        clear H'
        try clear c1
        try clear p1
        try clear q1
        try clear hx1
        try clear c2
        try clear p2
        try clear c3
        try clear c3b0
        try clear c3b1
        try clear c4
        try clear c14
        try clear c14b0
        try clear p14
        try clear q14
        try clear hx14
        try clear c15
        try clear c15b0
        try clear c16
        try clear c16b0
        try clear hcz13_0 hcz13_1
        try clear hcz6_0 hcz6_1
        try clear hcz8_0 hcz8_1
        try clear hfz13_0 hfz13_1
        try clear hfz6_0 hfz6_1
        try clear hfz8_0 hfz8_1
        try clear hx146_0
        try clear p146
        try clear p2
        try clear q146
        obtain ⟨x5_2, x37_2, u5, rfl, HA, HK2, HO_5, GH, BK138, HB⟩ := hrel
        cases gk with
        | zero => exact absurd HA.out (by simp [cand_Encode.l1])
        | succ k2 =>
         have H := HA.out
         clear HA
         simp only [cand_Encode.l1] at H
         by_cases c23 : x37_2 < ((rd_L4 l0_0 x27_1).length : Int)
         ·rw [if_pos c23] at H
          have c23b0 := decide_eq_true c23
          clear c23
          by_cases c24 : 0 ≤ x37_2
          ·rw [if_pos c24] at H
           have c24b0 := decide_eq_true c24
           clear c24
           by_cases c25 : x37_2 < ((rd_L4 l0_0 x27_1).length : Int)
           ·rw [if_pos c25] at H
            have c25b0 := decide_eq_true c25
            clear c25
            replace H := be H
            obtain ⟨t155, A26, H⟩ := H
            obtain ⟨y156, hy156⟩ : ∃ y_ : List Int, y_ = (([(rd_T75 (rd_L4 l0_0 x27_1) x37_2).f0, (rd_T75 (rd_L4 l0_0 x27_1) x37_2).f1, (rd_T75 (rd_L4 l0_0 x27_1) x37_2).f2.f0, (rd_T75 (rd_L4 l0_0 x27_1) x37_2).f2.f1, t155] : List Int)) := ⟨_, rfl⟩
            replace H : ((cand_writer_put.f k2 x5_2 y156).bind fun t159 => (cand_Encode.l1 k2 t159 l0_0 (l0_0.length : Int) x27_1 (rd_L4 l0_0 x27_1) ((rd_L4 l0_0 x27_1).length : Int) (wrap64 (x37_2 + 1)) l0_0 l0_1)) = some (r1, r2) := by first | (rw [hy156]; with_reducible exact H) | (have H2_ := (Option.bind_some _ _).symm.trans H; rw [hy156]; with_reducible exact H2_) | (have H2_ := (Option.bind_some _ _).symm.trans H; with_reducible exact H2_) | with_reducible exact H | (rw [hy156]; exact H) | exact H
            have Ny156 := Aside0.mk hy156
            clear hy156
            replace H := be H
            obtain ⟨t159, A27, H⟩ := H
            have H' := Aside0.mk H
            clear H
            have p153 : 0 ≤ (x37_2 : Int) := of_decide_eq_true (by first | (with_reducible assumption) | assumption)
            have q153 : x37_2 < ((rd_L4 l0_0 x27_1).length : Int) := of_decide_eq_true (by first | (with_reducible assumption) | assumption)
            obtain ⟨ad153, e153, hx153_0, hx153_1, hx153_2, hx153_3, hx153_4, hx153_5⟩ := at_T75 HR146_0.out x37_2 p153 q153
            cases e153
            replace hx153_0 := (HB.out.cell (World.block_lt_of_cell? w _ hx153_0)).trans hx153_0
            replace hx153_1 := (HB.out.cell (World.block_lt_of_cell? w _ hx153_1)).trans hx153_1
            replace hx153_2 := (HB.out.cell (World.block_lt_of_cell? w _ hx153_2)).trans hx153_2
            replace hx153_3 := (HB.out.cell (World.block_lt_of_cell? w _ hx153_3)).trans hx153_3
            replace hx153_4 := (HB.out.cell (World.block_lt_of_cell? w _ hx153_4)).trans hx153_4
            replace hx153_5 := (HB.out.cell (World.block_lt_of_cell? w _ hx153_5)).trans hx153_5
            replace p153 := eq_true p153
            replace q153 := eq_true q153
            try go_wp2_with (first | ((with_reducible refine gate_dst (N := 9) rfl ?_); refine box_event ?hg (N := 9) ?hd (cs := #[.int .i64 0, .int .i64 0, .int .i64 0, .int .i64 0, .bool false, .bool false]) (t := 75) ?hr ?_; (case hd => rfl); (case hg => rfl); (case hr => first | (go_simp; done) | (go_simp; rfl)); intro gb154 hg w28 hbox hb; have NW154 := Aside0.mk ((by rw [hg]; exact Nat.ne_of_lt (blk_lt (g := gbw) (o := .cells #[u5] 85 (0, 0)) (by with_reducible repeat (first | exact GH.out | refine ghs ?_ (Aside0.out (by assumption)) | refine blk_drewN ?_ _ | refine blk_drew ?_ | refine blk_alloc ?_ _)))) : gbw ≠ gb154); have ngh_ := Aside0.mk (blk_below (g := gbw) (o := .cells #[u5] 85 (0, 0)) (by with_reducible repeat (first | exact GH.out | refine ghs ?_ (Aside0.out (by assumption)) | refine blk_drewN ?_ _ | refine blk_drew ?_ | refine blk_alloc ?_ _)) hb); clear GH; have GH := ngh_; clear ngh_; have n0_ := Aside0.mk (Kd.R_below (by (with_reducible repeat (first | apply Kd.R_alloc | apply Kd.R_drewN | apply Kd.R_drew)); exact HO_5.out) hb); have n1_ := Aside0.mk (blk_below (g := gb138) (o := .cells #[.slice (some ad146) l0_0.length c0_0, .slice A0_1 l0_1.length c0_1] 42 (0, 0)) (bk BK138.out) hb); have n2_ := Aside0.mk (below_step bl hb); have n3_ := Aside0.mk (hbox); have n4_ := Aside0.mk ((by rw [hg]; exact (below_size bl) : w.heap.size ≤ gb154)); have n5_ := Aside0.mk ((by rw [hg]; exact (below_size bl) : w.heap.size ≤ gb154)); have n6_ := Aside0.mk ((by rw [hg]; exact Nat.ne_of_lt (blk_lt (g := gb138) (o := .cells #[.slice (some ad146) l0_0.length c0_0, .slice A0_1 l0_1.length c0_1] 42 (0, 0)) (bk BK138.out)) : gb138 ≠ gb154)); have n7_ := Aside0.mk ((by rw [hg]; exact Nat.ne_of_gt (blk_lt (g := gb138) (o := .cells #[.slice (some ad146) l0_0.length c0_0, .slice A0_1 l0_1.length c0_1] 42 (0, 0)) (bk BK138.out)) : gb154 ≠ gb138)); clear HO_5; clear BK138; clear HB; have HO_5 := n0_; have BK138 := n1_; have HB := n2_; have BK154 := n3_; have GW154 := n4_; have GE154 := n5_; have NB138_154 := n6_; have NB154_138 := n7_; clear n0_ n1_ n2_ n3_ n4_ n5_ n6_ n7_; clear hb hbox hg; have hnb29 := NB154_138.out; have hnc29 := NB138_154.out; have hcz30_0 : w28.cell? ⟨gb154, 0, none⟩ = some (.int .i64 0) := (blk_cell BK154.out 0).trans rfl; have hcz30_1 : w28.cell? ⟨gb154, 1, none⟩ = some (.int .i64 0) := (blk_cell BK154.out 1).trans rfl; have hcz30_2 : w28.cell? ⟨gb154, 2, none⟩ = some (.int .i64 0) := (blk_cell BK154.out 2).trans rfl; have hcz30_3 : w28.cell? ⟨gb154, 3, none⟩ = some (.int .i64 0) := (blk_cell BK154.out 3).trans rfl; have hcz30_4 : w28.cell? ⟨gb154, 4, none⟩ = some (.bool false) := (blk_cell BK154.out 4).trans rfl; have hcz30_5 : w28.cell? ⟨gb154, 5, none⟩ = some (.bool false) := (blk_cell BK154.out 5).trans rfl; have hfz30_0 := blk_frozen BK154.out 0; have hfz30_1 := blk_frozen BK154.out 1; have hfz30_2 := blk_frozen BK154.out 2; have hfz30_3 := blk_frozen BK154.out 3; have hfz30_4 := blk_frozen BK154.out 4; have hfz30_5 := blk_frozen BK154.out 5))
            have n0_ : Aside0 (Kd.R (Kd.int .u8) 5 ((((((w28.setCell ⟨gb154, 0, none⟩ (.int .i64 ((rd_T75 (rd_L4 l0_0 x27_1) x37_2).f0))).setCell ⟨gb154, 1, none⟩ (.int .i64 ((rd_T75 (rd_L4 l0_0 x27_1) x37_2).f1))).setCell ⟨gb154, 2, none⟩ (.int .i64 ((rd_T75 (rd_L4 l0_0 x27_1) x37_2).f2.f0))).setCell ⟨gb154, 3, none⟩ (.int .i64 ((rd_T75 (rd_L4 l0_0 x27_1) x37_2).f2.f1))).setCell ⟨gb154, 4, none⟩ (.bool ((rd_T75 (rd_L4 l0_0 x27_1) x37_2).f3))).setCell ⟨gb154, 5, none⟩ (.bool ((rd_T75 (rd_L4 l0_0 x27_1) x37_2).f4))) w.heap.size (fun _ => True) u5 x5_2) := ⟨by (with_reducible repeat (first | apply Kd.R_alloc | apply Kd.R_drewN | apply Kd.R_drew)); exact Kd.R_mono (Kd.R_far (p := ⟨gb154, 5, none⟩) (Kd.R_far (p := ⟨gb154, 4, none⟩) (Kd.R_far (p := ⟨gb154, 3, none⟩) (Kd.R_far (p := ⟨gb154, 2, none⟩) (Kd.R_far (p := ⟨gb154, 1, none⟩) (Kd.R_far (p := ⟨gb154, 0, none⟩) (Kd.R_types HO_5.out BK154.out (by decide)) (fun _ hk => hk.2) (.int .i64 ((rd_T75 (rd_L4 l0_0 x27_1) x37_2).f0))) (fun _ hk => hk.2) (.int .i64 ((rd_T75 (rd_L4 l0_0 x27_1) x37_2).f1))) (fun _ hk => hk.2) (.int .i64 ((rd_T75 (rd_L4 l0_0 x27_1) x37_2).f2.f0))) (fun _ hk => hk.2) (.int .i64 ((rd_T75 (rd_L4 l0_0 x27_1) x37_2).f2.f1))) (fun _ hk => hk.2) (.bool ((rd_T75 (rd_L4 l0_0 x27_1) x37_2).f3))) (fun _ hk => hk.2) (.bool ((rd_T75 (rd_L4 l0_0 x27_1) x37_2).f4))) (fun _ hk => trivial)⟩
            have n1_ : Aside0 (((((((w28.setCell ⟨gb154, 0, none⟩ (.int .i64 ((rd_T75 (rd_L4 l0_0 x27_1) x37_2).f0))).setCell ⟨gb154, 1, none⟩ (.int .i64 ((rd_T75 (rd_L4 l0_0 x27_1) x37_2).f1))).setCell ⟨gb154, 2, none⟩ (.int .i64 ((rd_T75 (rd_L4 l0_0 x27_1) x37_2).f2.f0))).setCell ⟨gb154, 3, none⟩ (.int .i64 ((rd_T75 (rd_L4 l0_0 x27_1) x37_2).f2.f1))).setCell ⟨gb154, 4, none⟩ (.bool ((rd_T75 (rd_L4 l0_0 x27_1) x37_2).f3))).setCell ⟨gb154, 5, none⟩ (.bool ((rd_T75 (rd_L4 l0_0 x27_1) x37_2).f4))).heap[gb138]? = some (.cells #[.slice (some ad146) l0_0.length c0_0, .slice A0_1 l0_1.length c0_1] 42 (0, 0))) := ⟨by refine bx ?_; refine blk_far ?_ NB138_154.out _; refine bx ?_; refine blk_far ?_ NB138_154.out _; refine bx ?_; refine blk_far ?_ NB138_154.out _; refine bx ?_; refine blk_far ?_ NB138_154.out _; refine bx ?_; refine blk_far ?_ NB138_154.out _; refine bx ?_; refine blk_far ?_ NB138_154.out _; refine bx ?_; exact BK138.out⟩
            have n2_ : Aside0 (((((((w28.setCell ⟨gb154, 0, none⟩ (.int .i64 ((rd_T75 (rd_L4 l0_0 x27_1) x37_2).f0))).setCell ⟨gb154, 1, none⟩ (.int .i64 ((rd_T75 (rd_L4 l0_0 x27_1) x37_2).f1))).setCell ⟨gb154, 2, none⟩ (.int .i64 ((rd_T75 (rd_L4 l0_0 x27_1) x37_2).f2.f0))).setCell ⟨gb154, 3, none⟩ (.int .i64 ((rd_T75 (rd_L4 l0_0 x27_1) x37_2).f2.f1))).setCell ⟨gb154, 4, none⟩ (.bool ((rd_T75 (rd_L4 l0_0 x27_1) x37_2).f3))).setCell ⟨gb154, 5, none⟩ (.bool ((rd_T75 (rd_L4 l0_0 x27_1) x37_2).f4))).heap[gb154]? = some (.cells #[.int .i64 ((rd_T75 (rd_L4 l0_0 x27_1) x37_2).f0), .int .i64 ((rd_T75 (rd_L4 l0_0 x27_1) x37_2).f1), .int .i64 ((rd_T75 (rd_L4 l0_0 x27_1) x37_2).f2.f0), .int .i64 ((rd_T75 (rd_L4 l0_0 x27_1) x37_2).f2.f1), .bool ((rd_T75 (rd_L4 l0_0 x27_1) x37_2).f3), .bool ((rd_T75 (rd_L4 l0_0 x27_1) x37_2).f4)] 75 (0, 0))) := ⟨by refine bx ?_; refine blk_put (cs := #[.int .i64 ((rd_T75 (rd_L4 l0_0 x27_1) x37_2).f0), .int .i64 ((rd_T75 (rd_L4 l0_0 x27_1) x37_2).f1), .int .i64 ((rd_T75 (rd_L4 l0_0 x27_1) x37_2).f2.f0), .int .i64 ((rd_T75 (rd_L4 l0_0 x27_1) x37_2).f2.f1), .bool ((rd_T75 (rd_L4 l0_0 x27_1) x37_2).f3), .bool false]) ?_ 5 _ rfl; refine bx ?_; refine blk_put (cs := #[.int .i64 ((rd_T75 (rd_L4 l0_0 x27_1) x37_2).f0), .int .i64 ((rd_T75 (rd_L4 l0_0 x27_1) x37_2).f1), .int .i64 ((rd_T75 (rd_L4 l0_0 x27_1) x37_2).f2.f0), .int .i64 ((rd_T75 (rd_L4 l0_0 x27_1) x37_2).f2.f1), .bool false, .bool false]) ?_ 4 _ rfl; refine bx ?_; refine blk_put (cs := #[.int .i64 ((rd_T75 (rd_L4 l0_0 x27_1) x37_2).f0), .int .i64 ((rd_T75 (rd_L4 l0_0 x27_1) x37_2).f1), .int .i64 ((rd_T75 (rd_L4 l0_0 x27_1) x37_2).f2.f0), .int .i64 0, .bool false, .bool false]) ?_ 3 _ rfl; refine bx ?_; refine blk_put (cs := #[.int .i64 ((rd_T75 (rd_L4 l0_0 x27_1) x37_2).f0), .int .i64 ((rd_T75 (rd_L4 l0_0 x27_1) x37_2).f1), .int .i64 0, .int .i64 0, .bool false, .bool false]) ?_ 2 _ rfl; refine bx ?_; refine blk_put (cs := #[.int .i64 ((rd_T75 (rd_L4 l0_0 x27_1) x37_2).f0), .int .i64 0, .int .i64 0, .int .i64 0, .bool false, .bool false]) ?_ 1 _ rfl; refine bx ?_; refine blk_put (cs := #[.int .i64 0, .int .i64 0, .int .i64 0, .int .i64 0, .bool false, .bool false]) ?_ 0 _ rfl; refine bx ?_; exact BK154.out⟩
            have n3_ : Aside0 (Below w.heap.size w ((((((w28.setCell ⟨gb154, 0, none⟩ (.int .i64 ((rd_T75 (rd_L4 l0_0 x27_1) x37_2).f0))).setCell ⟨gb154, 1, none⟩ (.int .i64 ((rd_T75 (rd_L4 l0_0 x27_1) x37_2).f1))).setCell ⟨gb154, 2, none⟩ (.int .i64 ((rd_T75 (rd_L4 l0_0 x27_1) x37_2).f2.f0))).setCell ⟨gb154, 3, none⟩ (.int .i64 ((rd_T75 (rd_L4 l0_0 x27_1) x37_2).f2.f1))).setCell ⟨gb154, 4, none⟩ (.bool ((rd_T75 (rd_L4 l0_0 x27_1) x37_2).f3))).setCell ⟨gb154, 5, none⟩ (.bool ((rd_T75 (rd_L4 l0_0 x27_1) x37_2).f4)))) := ⟨bl⟩
            have ngh_ : Aside0 (((((((w28.setCell ⟨gb154, 0, none⟩ (.int .i64 ((rd_T75 (rd_L4 l0_0 x27_1) x37_2).f0))).setCell ⟨gb154, 1, none⟩ (.int .i64 ((rd_T75 (rd_L4 l0_0 x27_1) x37_2).f1))).setCell ⟨gb154, 2, none⟩ (.int .i64 ((rd_T75 (rd_L4 l0_0 x27_1) x37_2).f2.f0))).setCell ⟨gb154, 3, none⟩ (.int .i64 ((rd_T75 (rd_L4 l0_0 x27_1) x37_2).f2.f1))).setCell ⟨gb154, 4, none⟩ (.bool ((rd_T75 (rd_L4 l0_0 x27_1) x37_2).f3))).setCell ⟨gb154, 5, none⟩ (.bool ((rd_T75 (rd_L4 l0_0 x27_1) x37_2).f4))).heap[gbw]? = some (.cells #[u5] 85 (0, 0))) := ⟨(by with_reducible repeat (first | exact GH.out | refine ghs ?_ (Aside0.out (by assumption)) | refine blk_drewN ?_ _ | refine blk_drew ?_ | refine blk_alloc ?_ _))⟩
            clear GH
            (try clear HO_5)
            (try clear BK138)
            (try clear BK154)
            (try clear HB)
            generalize ((((((w28.setCell ⟨gb154, 0, none⟩ (.int .i64 ((rd_T75 (rd_L4 l0_0 x27_1) x37_2).f0))).setCell ⟨gb154, 1, none⟩ (.int .i64 ((rd_T75 (rd_L4 l0_0 x27_1) x37_2).f1))).setCell ⟨gb154, 2, none⟩ (.int .i64 ((rd_T75 (rd_L4 l0_0 x27_1) x37_2).f2.f0))).setCell ⟨gb154, 3, none⟩ (.int .i64 ((rd_T75 (rd_L4 l0_0 x27_1) x37_2).f2.f1))).setCell ⟨gb154, 4, none⟩ (.bool ((rd_T75 (rd_L4 l0_0 x27_1) x37_2).f3))).setCell ⟨gb154, 5, none⟩ (.bool ((rd_T75 (rd_L4 l0_0 x27_1) x37_2).f4))) = w31 at n0_ n1_ n2_ n3_ ngh_ ⊢
            have GH := ngh_
            clear ngh_
            have HO_5 := n0_
            have BK138 := n1_
            have BK154 := n2_
            have HB := n3_
            clear n0_ n1_ n2_ n3_
            have ngh_ := Aside0.mk (blk_drew GH.out)
            clear GH
            have GH := ngh_
            clear ngh_
            have n0_ := Aside0.mk (Kd.R_drew HO_5.out)
            have n1_ := Aside0.mk (blk_drew BK138.out)
            have n2_ := Aside0.mk (blk_drew BK154.out)
            have n3_ := Aside0.mk (below_drew1 HB.out)
            clear HO_5
            clear BK138
            clear BK154
            clear HB
            have HO_5 := n0_
            have BK138 := n1_
            have BK154 := n2_
            have HB := n3_
            clear n0_ n1_ n2_ n3_
            refine start_ (n := 14) (S := fun w' => w'.cell? ⟨gb154, 0, none⟩ = some (.int .i64 ((rd_T75 (rd_L4 l0_0 x27_1) x37_2).f0)) ∧ w'.cell? ⟨gb154, 1, none⟩ = some (.int .i64 ((rd_T75 (rd_L4 l0_0 x27_1) x37_2).f1)) ∧ w'.cell? ⟨gb154, 2, none⟩ = some (.int .i64 ((rd_T75 (rd_L4 l0_0 x27_1) x37_2).f2.f0)) ∧ w'.cell? ⟨gb154, 3, none⟩ = some (.int .i64 ((rd_T75 (rd_L4 l0_0 x27_1) x37_2).f2.f1)) ∧ w'.cell? ⟨gb154, 4, none⟩ = some (.bool ((rd_T75 (rd_L4 l0_0 x27_1) x37_2).f3)) ∧ w'.cell? ⟨gb154, 5, none⟩ = some (.bool ((rd_T75 (rd_L4 l0_0 x27_1) x37_2).f4))) (ds := []) (fl 14 0) (by kernel_rfl) rfl rfl ⟨(blk_cell BK154.out 0).trans rfl, (blk_cell BK154.out 1).trans rfl, (blk_cell BK154.out 2).trans rfl, (blk_cell BK154.out 3).trans rfl, (blk_cell BK154.out 4).trans rfl, (blk_cell BK154.out 5).trans rfl⟩ (fun hHeld => ?_); refine with_tabW cand_Encode.tab13 cand_Encode.bits13 (fun HT_ HW_ => ?_)
            generalize w31.drew = w32 at HO_5 GH BK138 BK154 HB hHeld ⊢
            refine pq 0 (some 41) ?_ (fl 14 1) HT_.out rfl rfl ?_ ?_ ?_ ?_
            rotate_left
            ·intro w'
             go_simp
             with_reducible rfl
            rotate_left
            ·refine pt ?_
             rfl
            refine pq 2 (some 43) ?_ #[true, false, true, false, false, false, false, false, false, false, false, false, false, false] HT_.out rfl rfl ?_ ?_ ?_ ?_
            rotate_left
            ·intro w'
             go_simp
             with_reducible rfl
            rotate_left
            ·refine pt ?_
             rfl
            refine pq 4 (some 45) ?_ #[true, false, true, false, true, false, false, false, false, false, false, false, false, false] HT_.out rfl rfl ?_ ?_ ?_ ?_
            rotate_left
            ·intro w'
             go_simp
             with_reducible rfl
            rotate_left
            ·refine pt ?_
             rfl
            refine pq 5 (some 46) ?_ #[true, false, true, false, true, true, false, false, false, false, false, false, false, false] HT_.out rfl rfl ?_ ?_ ?_ ?_
            rotate_left
            ·intro w'
             go_simp
             with_reducible rfl
            rotate_left
            ·refine pt ?_
             rfl
            refine pq 7 (some 48) ?_ #[true, false, true, false, true, true, false, true, false, false, false, false, false, false] HT_.out rfl rfl ?_ ?_ ?_ ?_
            rotate_left
            ·intro w'
             go_simp
             with_reducible rfl
            rotate_left
            ·refine pt ?_
             rfl
            refine pq 8 (some 49) ?_ #[true, false, true, false, true, true, false, true, true, false, false, false, false, false] HT_.out rfl rfl ?_ ?_ ?_ ?_
            rotate_left
            ·intro w'
             go_simp
             with_reducible rfl
            rotate_left
            ·refine pt ?_
             rfl
            refine pk 1 (some 42) ?_ #[true, true, true, false, true, true, false, true, true, false, false, false, false, false] HT_.out HW_.out rfl rfl ?_ hHeld ?_ ?_ ?_
            rotate_left
            ·rintro w' ⟨s0, s1, s2, s3, s4, s5⟩
             go_simp
             with_reducible rfl
            rotate_left
            ·refine pt ?_
             rfl
            refine pk 3 (some 44) ?_ #[true, true, true, true, true, true, false, true, true, false, false, false, false, false] HT_.out HW_.out rfl rfl ?_ hHeld ?_ ?_ ?_
            rotate_left
            ·rintro w' ⟨s0, s1, s2, s3, s4, s5⟩
             go_simp
             with_reducible rfl
            rotate_left
            ·refine pt ?_
             rfl
            refine pk 6 (some 47) ?_ (fl 14 9) HT_.out HW_.out rfl rfl ?_ hHeld ?_ ?_ ?_
            rotate_left
            ·rintro w' ⟨s0, s1, s2, s3, s4, s5⟩
             go_simp
             with_reducible rfl
            rotate_left
            ·refine pt ?_
             rfl
            refine pk 9 (some 50) ?_ (fl 14 10) HT_.out HW_.out rfl rfl ?_ hHeld ?_ ?_ ?_
            rotate_left
            ·rintro w' ⟨s0, s1, s2, s3, s4, s5⟩
             go_simp
             with_reducible rfl
            rotate_left
            ·refine pt ?_
             rfl
            refine pk 10 (some 51) ?_ (fl 14 11) HT_.out HW_.out rfl rfl ?_ hHeld ?_ ?_ ?_
            rotate_left
            ·rintro w' ⟨s0, s1, s2, s3, s4, s5⟩
             go_simp
             with_reducible rfl
            rotate_left
            ·refine pt ?_
             rfl
            refine one_ (i := 11) (N := some 52) (fl 14 12) rfl rfl (one_of HT_.out (by kernel_rfl)) (by decide) (fun K hK => ?_)
            refine goes_ Try.func49 (by kernel_rfl) rfl #[.agg #[.int .i64 ((rd_T75 (rd_L4 l0_0 x27_1) x37_2).f0), .int .i64 ((rd_T75 (rd_L4 l0_0 x27_1) x37_2).f1), .int .i64 ((rd_T75 (rd_L4 l0_0 x27_1) x37_2).f2.f0), .int .i64 ((rd_T75 (rd_L4 l0_0 x27_1) x37_2).f2.f1), .bool ((rd_T75 (rd_L4 l0_0 x27_1) x37_2).f3), .bool ((rd_T75 (rd_L4 l0_0 x27_1) x37_2).f4)]] (by rfl) rfl rfl ga ?_
            with_reducible refine (cand_flag.calls ((rd_T75 (rd_L4 l0_0 x27_1) x37_2).f0) ((rd_T75 (rd_L4 l0_0 x27_1) x37_2).f1) ((rd_T75 (rd_L4 l0_0 x27_1) x37_2).f2.f0) ((rd_T75 (rd_L4 l0_0 x27_1) x37_2).f2.f1) ((rd_T75 (rd_L4 l0_0 x27_1) x37_2).f3) ((rd_T75 (rd_L4 l0_0 x27_1) x37_2).f4) t155 _ A26.out).mono ?_
            rintro e w33 ⟨rfl, hb⟩
            refine ⟨_, rfl, ?_⟩
            have ngh_ := Aside0.mk (blk_below (g := gbw) (o := .cells #[u5] 85 (0, 0)) (by with_reducible repeat (first | exact GH.out | refine ghs ?_ (Aside0.out (by assumption)) | refine blk_drewN ?_ _ | refine blk_drew ?_ | refine blk_alloc ?_ _)) hb)
            clear GH
            have GH := ngh_
            clear ngh_
            have n0_ := Aside0.mk (Kd.R_below (by (with_reducible repeat (first | apply Kd.R_alloc | apply Kd.R_drewN | apply Kd.R_drew)); exact HO_5.out) hb)
            have n1_ := Aside0.mk (blk_below (g := gb138) (o := .cells #[.slice (some ad146) l0_0.length c0_0, .slice A0_1 l0_1.length c0_1] 42 (0, 0)) (bk BK138.out) hb)
            have n2_ := Aside0.mk (blk_below (g := gb154) (o := .cells #[.int .i64 ((rd_T75 (rd_L4 l0_0 x27_1) x37_2).f0), .int .i64 ((rd_T75 (rd_L4 l0_0 x27_1) x37_2).f1), .int .i64 ((rd_T75 (rd_L4 l0_0 x27_1) x37_2).f2.f0), .int .i64 ((rd_T75 (rd_L4 l0_0 x27_1) x37_2).f2.f1), .bool ((rd_T75 (rd_L4 l0_0 x27_1) x37_2).f3), .bool ((rd_T75 (rd_L4 l0_0 x27_1) x37_2).f4)] 75 (0, 0)) (bk BK154.out) hb)
            have n3_ := Aside0.mk (below_step bl hb)
            clear HO_5
            clear BK138
            clear BK154
            clear HB
            have HO_5 := n0_
            have BK138 := n1_
            have BK154 := n2_
            have HB := n3_
            clear n0_ n1_ n2_ n3_
            (try clear hb)
            (try clear hb2)
            (try clear hk)
            (try clear hi)
            refine hK.out _ _ ⟨(blk_cell BK154.out 0).trans rfl, (blk_cell BK154.out 1).trans rfl, (blk_cell BK154.out 2).trans rfl, (blk_cell BK154.out 3).trans rfl, (blk_cell BK154.out 4).trans rfl, (blk_cell BK154.out 5).trans rfl⟩ (fun hHeld => ?_)
            clear hK K
            refine norm_ (a' := ?_) ?_ ?_
            rotate_left
            ·show Act.put _ (some 52) _ = _
             refine pt ?_
             rfl
            refine one_ (i := 12) (N := some 53) (fl 14 13) rfl rfl (one_of HT_.out (by kernel_rfl)) (by decide) (fun K hK => ?_)
            refine Kd.R_lit_step (Kd.int .i64) _ 3 ?hg (N := 53) ?hd (xs := ([(rd_T75 (rd_L4 l0_0 x27_1) x37_2).f0, (rd_T75 (rd_L4 l0_0 x27_1) x37_2).f1, (rd_T75 (rd_L4 l0_0 x27_1) x37_2).f2.f0, (rd_T75 (rd_L4 l0_0 x27_1) x37_2).f2.f1, t155] : List Int)) (inner := [.int .i64 ((rd_T75 (rd_L4 l0_0 x27_1) x37_2).f0), .int .i64 ((rd_T75 (rd_L4 l0_0 x27_1) x37_2).f1), .int .i64 ((rd_T75 (rd_L4 l0_0 x27_1) x37_2).f2.f0), .int .i64 ((rd_T75 (rd_L4 l0_0 x27_1) x37_2).f2.f1), .int .i64 t155]) (ok := fun _ => True) (okp := fun _ => True) ?hr ?hp (fun _ hk => hk) trivial (Below.refl _ _) (Nat.le_refl _) (by simp) ?_; (case hd => rfl); (case hg => rfl); (case hr => first | (go_simp; done) | (go_simp; rfl)); (case hp => exact (Reps.one (show Kd.M (Kd.int .i64) _ _ _ ((rd_T75 (rd_L4 l0_0 x27_1) x37_2).f0) [.int .i64 ((rd_T75 (rd_L4 l0_0 x27_1) x37_2).f0)] from rfl) (Reps.one (show Kd.M (Kd.int .i64) _ _ _ ((rd_T75 (rd_L4 l0_0 x27_1) x37_2).f1) [.int .i64 ((rd_T75 (rd_L4 l0_0 x27_1) x37_2).f1)] from rfl) (Reps.one (show Kd.M (Kd.int .i64) _ _ _ ((rd_T75 (rd_L4 l0_0 x27_1) x37_2).f2.f0) [.int .i64 ((rd_T75 (rd_L4 l0_0 x27_1) x37_2).f2.f0)] from rfl) (Reps.one (show Kd.M (Kd.int .i64) _ _ _ ((rd_T75 (rd_L4 l0_0 x27_1) x37_2).f2.f1) [.int .i64 ((rd_T75 (rd_L4 l0_0 x27_1) x37_2).f2.f1)] from rfl) (Reps.one (show Kd.M (Kd.int .i64) _ _ _ t155 [.int .i64 t155] from rfl) (Reps.none _ _)))))))
            intro v157 w34 ho35 hb hg_ hnew_
            have ngh_ := Aside0.mk (blk_below (g := gbw) (o := .cells #[u5] 85 (0, 0)) (by with_reducible repeat (first | exact GH.out | refine ghs ?_ (Aside0.out (by assumption)) | refine blk_drewN ?_ _ | refine blk_drew ?_ | refine blk_alloc ?_ _)) hb)
            clear GH
            have GH := ngh_
            clear ngh_
            clear hg_ hnew_
            (first | rw [← Ny156.out] at ho35 | (simp only [Int.reduceToNat] at ho35; rw [← Ny156.out] at ho35))
            have n0_ := Aside0.mk (Kd.R_below (by (with_reducible repeat (first | apply Kd.R_alloc | apply Kd.R_drewN | apply Kd.R_drew)); exact HO_5.out) hb)
            have n1_ := Aside0.mk (Kd.R_lower ho35 (below_size bl))
            have n2_ := Aside0.mk (blk_below (g := gb138) (o := .cells #[.slice (some ad146) l0_0.length c0_0, .slice A0_1 l0_1.length c0_1] 42 (0, 0)) (bk BK138.out) hb)
            have n3_ := Aside0.mk (blk_below (g := gb154) (o := .cells #[.int .i64 ((rd_T75 (rd_L4 l0_0 x27_1) x37_2).f0), .int .i64 ((rd_T75 (rd_L4 l0_0 x27_1) x37_2).f1), .int .i64 ((rd_T75 (rd_L4 l0_0 x27_1) x37_2).f2.f0), .int .i64 ((rd_T75 (rd_L4 l0_0 x27_1) x37_2).f2.f1), .bool ((rd_T75 (rd_L4 l0_0 x27_1) x37_2).f3), .bool ((rd_T75 (rd_L4 l0_0 x27_1) x37_2).f4)] 75 (0, 0)) (bk BK154.out) hb)
            have n4_ := Aside0.mk (below_step bl hb)
            clear HO_5
            clear BK138
            clear BK154
            clear HB
            have HO_5 := n0_
            have HO158 := n1_
            have BK138 := n2_
            have BK154 := n3_
            have HB := n4_
            clear n0_ n1_ n2_ n3_ n4_
            clear hb ho35
            obtain ⟨Ao36, co36, eo36⟩ := Kd.R_slice HO_5.out
            (first | subst eo36 | (injection eo36 with f1_ f2_ f3_; have f4_ := f1_.symm; have f5_ := f3_.symm; clear f1_ f2_ f3_; subst f4_; subst f5_))
            obtain ⟨Ao37, co37, eo37⟩ := Kd.R_slice HO158.out
            (first | subst eo37 | (injection eo37 with f1_ f2_ f3_; have f4_ := f1_.symm; have f5_ := f3_.symm; clear f1_ f2_ f3_; subst f4_; subst f5_))
            refine hK.out _ _ ⟨(blk_cell BK154.out 0).trans rfl, (blk_cell BK154.out 1).trans rfl, (blk_cell BK154.out 2).trans rfl, (blk_cell BK154.out 3).trans rfl, (blk_cell BK154.out 4).trans rfl, (blk_cell BK154.out 5).trans rfl⟩ (fun hHeld => ?_)
            clear hK K
            refine norm_ (a' := ?_) ?_ ?_
            rotate_left
            ·show Act.put _ (some 53) _ = _
             refine pt ?_
             rfl
            refine one_ (i := 13) (N := some 54) (fl 14 14) rfl rfl (one_of HT_.out (by kernel_rfl)) (by decide) (fun K hK => ?_)
            refine goes_ Try.func48 (by kernel_rfl) rfl #[.pointer (some ⟨gbw, 0, none⟩), .slice Ao37 y156.length co37] (by rfl) rfl rfl ga ?_
            with_reducible refine (cand_writer_put.calls k2 (fun k_ => some k_ = (.slice Ao36 x5_2.length co36 : Value).ownBlock) (.slice Ao36 x5_2.length co36) gbw x5_2 _ _ y156 t159 w _ ?side1 ?side2 ?side3 ?side4 ?side5 ?side6 A27.out).mono ?_
            (case side1 => repeat (first | (with_reducible first | exact HB.out | apply below_alloc | apply pw_below_drewN | apply below_drew1 | refine below_set ?_ GE138.out | refine below_set ?_ GE154.out) | exact HB.out))
            (case side2 => exact Kd.R_tight rfl HO_5.out)
            (case side3 => exact Kd.C_kept_own (Kd.R_types ((Kd.R_apart' HO158.out (Kd.R_typed HO_5.out) (by decide))) GH.out (by decide)) (fun k_ hk_ hs_ => hs_.elim (fun hs_ => (hk_.1.2) hs_) hk_.2))
            (case side4 => exact (Kd.R_reads' HO158.out).2.1); (case side5 => exact (by with_reducible repeat (first | exact GH.out | refine ghs ?_ (Aside0.out (by assumption)) | refine blk_drewN ?_ _ | refine blk_drew ?_ | refine blk_alloc ?_ _))); (case side6 => exact GHE.out)
            rintro e w38 ⟨rfl, v160, ho0, gh_, hb, hkp⟩
            refine ⟨_, rfl, ?_⟩
            have ngh_ := Aside0.mk gh_
            clear gh_
            have n0_ := Aside0.mk (blk_kept (bk BK138.out) hkp (fun hs_ => hs_.elim (fun hs_ => (fun e_ => (Kd.R_ne HO_5.out BK138.out (by decide)) e_) hs_) (fun e_ => blk_ne BK138.out GH.out (by decide) e_)))
            have n1_ := Aside0.mk (blk_kept (bk BK154.out) hkp (fun hs_ => hs_.elim (fun hs_ => (fun e_ => (Kd.R_ne HO_5.out BK154.out (by decide)) e_) hs_) (fun e_ => blk_ne BK154.out GH.out (by decide) e_)))
            have n2_ := Aside0.mk (Kd.R_mono (ok' := fun k_ => True) (Kd.R_keptB (Kd.R_types ((Kd.R_apart' HO158.out (Kd.R_typed HO_5.out) (by decide))) GH.out (by decide)) hkp (fun k_ hk_ hs_ => hs_.elim (fun hs_ => (hk_.1.2) hs_) hk_.2)) (fun k_ hk_ => trivial))
            have n3_ := Aside0.mk (Kd.R_mono (ok' := fun k_ => True) ho0 (fun k_ hk_ => trivial))
            have n4_ := Aside0.mk (hb)
            clear BK138
            clear BK154
            clear HO158
            clear GH
            have GH := ngh_
            clear ngh_
            clear HB
            clear HO_5
            have BK138 := n0_
            have BK154 := n1_
            have HO158 := n2_
            have HO161 := n3_
            have HB := n4_
            clear n0_ n1_ n2_ n3_ n4_
            (try clear hb)
            (try clear hkp)
            (try clear ho0)
            refine hK.out _ _ ⟨(blk_cell BK154.out 0).trans rfl, (blk_cell BK154.out 1).trans rfl, (blk_cell BK154.out 2).trans rfl, (blk_cell BK154.out 3).trans rfl, (blk_cell BK154.out 4).trans rfl, (blk_cell BK154.out 5).trans rfl⟩ (fun hHeld => ?_)
            clear hK K
            refine norm_ (a' := ?_) ?_ ?_
            rotate_left
            ·show Act.put _ (some 54) _ = _
             refine pt ?_
             rfl
            refine done_ (done_of HT_.out (by kernel_rfl)) ?_
            try go_wp2
            go_roundg k2
            case measure => have := HK1.out; have := HK2.out; omega
            case rel => exact ⟨(t159), (wrap64 (x37_2 + 1)), v160, fj, H', ⟨by have := HK1.out; have := HK2.out; omega⟩, ⟨by (with_reducible repeat (first | apply Kd.R_alloc | apply Kd.R_drewN | apply Kd.R_drew)); exact HO161.out⟩, ⟨(by with_reducible repeat (first | exact GH.out | refine ghs ?_ (Aside0.out (by assumption)) | refine blk_drewN ?_ _ | refine blk_drew ?_ | refine blk_alloc ?_ _))⟩, ⟨by refine bx ?_; exact BK138.out⟩, ⟨bl⟩⟩
           ·rw [if_neg c25] at H
            exact absurd H (by simp)
          ·rw [if_neg c24] at H
           exact absurd H (by simp)
         ·rw [if_neg c23] at H
          have c23b0 := decide_eq_false c23
          clear c23
          have H' := Aside0.mk H
          clear H
          go_wp2
          go_roundg k2
          case measure => have := HK1.out; have := HK2.out; omega
          case rel => exact ⟨(x5_2), (wrap64 (x27_1 + 1)), u5, fj, H', ⟨by have := HK1.out; have := HK2.out; omega⟩, ⟨by (with_reducible repeat (first | apply Kd.R_alloc | apply Kd.R_drewN | apply Kd.R_drew)); exact HO_5.out⟩, ⟨(by with_reducible repeat (first | exact GH.out | refine ghs ?_ (Aside0.out (by assumption)) | refine blk_drewN ?_ _ | refine blk_drew ?_ | refine blk_alloc ?_ _))⟩, ⟨by refine bx ?_; exact BK138.out⟩, ⟨bl⟩⟩
      ·rw [if_neg c16] at H
       exact absurd H (by simp)
     ·rw [if_neg c15] at H
      exact absurd H (by simp)
    ·rw [if_neg c14] at H
     have c14b0 := decide_eq_false c14
     clear c14
     obtain ⟨y162, hy162⟩ : ∃ y_ : List Int, y_ = (([(l0_1.length : Int)] : List Int)) := ⟨_, rfl⟩
     replace H : ((cand_writer_put.f k1 x5_1 y162).bind fun t165 => (cand_Encode.l2 k1 t165 l0_1 (l0_1.length : Int) 0)) = some (r1, r2) := by first | (rw [hy162]; with_reducible exact H) | (have H2_ := (Option.bind_some _ _).symm.trans H; rw [hy162]; with_reducible exact H2_) | (have H2_ := (Option.bind_some _ _).symm.trans H; with_reducible exact H2_) | with_reducible exact H | (rw [hy162]; exact H) | exact H
     have Ny162 := Aside0.mk hy162
     clear hy162
     replace H := be H
     obtain ⟨t165, A39, H⟩ := H
     have H' := Aside0.mk H
     clear H
     obtain ⟨hcz40_0, hcz40_1, hfz40_0, hfz40_1⟩ := cz2 (w := wr) BK138.out
     go_wp2_with (first | ((with_reducible refine gate_dst (N := 60) rfl ?_); refine Kd.R_lit (Kd.int .i64) _ 3 ?hg (N := 60) ?hd (xs := ([(l0_1.length : Int)] : List Int)) (inner := [.int .i64 (l0_1.length : Int)]) (ok := fun _ => True) (okp := fun _ => True) ?hr ?hp (fun _ hk => hk) trivial (Below.refl _ _) (Nat.le_refl _) (by simp) ?_; (case hd => rfl); (case hg => rfl); (case hr => first | (go_simp; done) | (go_simp; rfl)); (case hp => exact (Reps.one (show Kd.M (Kd.int .i64) _ _ _ (l0_1.length : Int) [.int .i64 (l0_1.length : Int)] from rfl) (Reps.none _ _))); intro v163 w41 ho42 hb hg_ hnew_; have ngh_ := Aside0.mk (blk_below (g := gbw) (o := .cells #[u5] 85 (0, 0)) (by with_reducible repeat (first | exact GH.out | refine ghs ?_ (Aside0.out (by assumption)) | refine blk_drewN ?_ _ | refine blk_drew ?_ | refine blk_alloc ?_ _)) hb); clear GH; have GH := ngh_; clear ngh_; clear hg_ hnew_; (first | rw [← Ny162.out] at ho42 | (simp only [Int.reduceToNat] at ho42; rw [← Ny162.out] at ho42)); have n0_ := Aside0.mk (Kd.R_below (by (with_reducible repeat (first | apply Kd.R_alloc | apply Kd.R_drewN | apply Kd.R_drew)); exact HO_5.out) hb); have n1_ := Aside0.mk (Kd.R_lower ho42 (below_size bl)); have n2_ := Aside0.mk (blk_below (g := gb138) (o := .cells #[.slice A0_0 l0_0.length c0_0, .slice A0_1 l0_1.length c0_1] 42 (0, 0)) (bk BK138.out) hb); have n3_ := Aside0.mk (below_step bl hb); clear HO_5; clear BK138; clear HB; have HO_5 := n0_; have HO164 := n1_; have BK138 := n2_; have HB := n3_; clear n0_ n1_ n2_ n3_; clear hb ho42; obtain ⟨Ao43, co43, eo43⟩ := Kd.R_slice HO_5.out; subst eo43; obtain ⟨Ao44, co44, eo44⟩ := Kd.R_slice HO164.out; subst eo44) | ((with_reducible refine gate_callee (f := 48) rfl ?_); refine goesL_ (some 61) rfl rfl Try.func48 (by kernel_rfl) rfl #[.pointer (some ⟨gbw, 0, none⟩), .slice Ao44 y162.length co44] rfl ga ?_; (with_reducible refine (cand_writer_put.calls k1 (fun k_ => some k_ = (.slice Ao43 x5_1.length co43 : Value).ownBlock) (.slice Ao43 x5_1.length co43) gbw x5_1 _ _ y162 t165 w _ ?side1 ?side2 ?side3 ?side4 ?side5 ?side6 A39.out).mono ?_); (case side1 => repeat (first | (with_reducible first | exact HB.out | apply below_alloc | apply pw_below_drewN | apply below_drew1 | refine below_set ?_ GE138.out) | exact HB.out)); (case side2 => exact Kd.R_tight rfl HO_5.out); (case side3 => exact Kd.C_kept_own (Kd.R_types ((Kd.R_apart' HO164.out (Kd.R_typed HO_5.out) (by decide))) GH.out (by decide)) (fun k_ hk_ hs_ => hs_.elim (fun hs_ => (hk_.1.2) hs_) hk_.2)); (case side4 => exact (Kd.R_reads' HO164.out).2.1); (case side5 => exact (by with_reducible repeat (first | exact GH.out | refine ghs ?_ (Aside0.out (by assumption)) | refine blk_drewN ?_ _ | refine blk_drew ?_ | refine blk_alloc ?_ _))); (case side6 => exact GHE.out); rintro e w45 ⟨rfl, v166, ho0, gh_, hb, hkp⟩; refine ⟨_, rfl, ?_⟩; have ngh_ := Aside0.mk gh_; clear gh_; have n0_ := Aside0.mk (blk_kept (bk BK138.out) hkp (fun hs_ => hs_.elim (fun hs_ => (fun e_ => (Kd.R_ne HO_5.out BK138.out (by decide)) e_) hs_) (fun e_ => blk_ne BK138.out GH.out (by decide) e_))); have n1_ := Aside0.mk (Kd.R_mono (ok' := fun k_ => True) (Kd.R_keptB (Kd.R_types ((Kd.R_apart' HO164.out (Kd.R_typed HO_5.out) (by decide))) GH.out (by decide)) hkp (fun k_ hk_ hs_ => hs_.elim (fun hs_ => (hk_.1.2) hs_) hk_.2)) (fun k_ hk_ => trivial)); have n2_ := Aside0.mk (Kd.R_mono (ok' := fun k_ => True) ho0 (fun k_ hk_ => trivial)); have n3_ := Aside0.mk (hb); clear BK138; clear HO164; clear GH; have GH := ngh_; clear ngh_; clear HB; clear HO_5; have BK138 := n0_; have HO164 := n1_; have HO167 := n2_; have HB := n3_; clear n0_ n1_ n2_ n3_; (try clear hb); (try clear hkp); (try clear ho0); obtain ⟨hcz46_0, hcz46_1, hfz46_0, hfz46_1⟩ := cz2 (w := w45) BK138.out))
     go_loopg [65] k1 (fun kq v65 w' => ∃ (x5_2 : List Int) (x65_2 : Int) (v5 : Value), v65 = .int .i64 x65_2 ∧ Aside0 (cand_Encode.l2 kq x5_2 l0_1 (l0_1.length : Int) x65_2 = some (r1, r2)) ∧ Aside0 (kq ≤ k1) ∧ Aside0 (Kd.R (Kd.int .u8) 5 w' w.heap.size (fun _ => True) v5 x5_2) ∧ Aside0 (w'.heap[gbw]? = some (.cells #[v5] 85 (0, 0))) ∧ Aside0 (w'.heap[gb138]? = some (.cells #[(.slice A0_0 l0_0.length c0_0), (.slice A0_1 l0_1.length c0_1)] 42 (0, 0))) ∧ Aside0 (Below w.heap.size w w'))
     case atStart => exact ⟨(t165), (0), v166, fj, H', ⟨Nat.le_refl _⟩, ⟨by (with_reducible repeat (first | apply Kd.R_alloc | apply Kd.R_drewN | apply Kd.R_drew)); exact HO167.out⟩, ⟨(by with_reducible repeat (first | exact GH.out | refine ghs ?_ (Aside0.out (by assumption)) | refine blk_drewN ?_ _ | refine blk_drew ?_ | refine blk_alloc ?_ _))⟩, ⟨by refine bx ?_; exact BK138.out⟩, ⟨bl⟩⟩
     case round =>
      clear H'
      try clear c1
      try clear p1
      try clear q1
      try clear hx1
      try clear c2
      try clear p2
      try clear c3
      try clear c3b0
      try clear c3b1
      try clear c4
      try clear p6
      try clear c14
      try clear c14b0
      try clear p14
      try clear q14
      try clear hx14
      try clear c15
      try clear c15b0
      try clear p15
      try clear q15
      try clear hx15
      try clear c16
      try clear c16b0
      try clear c23
      try clear c23b0
      try clear c24
      try clear c24b0
      try clear c25
      try clear c25b0
      try clear c29
      try clear hcz13_0 hcz13_1
      try clear hcz30_0 hcz30_1 hcz30_2 hcz30_3 hcz30_4 hcz30_5
      try clear hcz40_0 hcz40_1
      try clear hcz46_0 hcz46_1
      try clear hcz6_0 hcz6_1
      try clear hcz8_0 hcz8_1
      try clear hfz13_0 hfz13_1
      try clear hfz30_0 hfz30_1 hfz30_2 hfz30_3 hfz30_4 hfz30_5
      try clear hfz40_0 hfz40_1
      try clear hfz46_0 hfz46_1
      try clear hfz6_0 hfz6_1
      try clear hfz8_0 hfz8_1
      try clear hx146_0
      try clear hx153_0
      try clear hx153_1
      try clear hx153_2
      try clear hx153_3
      try clear hx153_4
      try clear hx153_5
      try clear p1
      try clear p14
      try clear p146
      try clear p153
      try clear p2
      try clear q1
      try clear q14
      try clear q146
      try clear q153
      obtain ⟨x5_2, x65_2, u5, rfl, HA, HK2, HO_5, GH, BK138, HB⟩ := hrel
      cases gk with
      | zero => exact absurd HA.out (by simp [cand_Encode.l2])
      | succ k2 =>
       have H := HA.out
       clear HA
       simp only [cand_Encode.l2] at H
       by_cases c47 : x65_2 < (l0_1.length : Int)
       ·rw [if_pos c47] at H
        have c47b0 := decide_eq_true c47
        clear c47
        by_cases c48 : 0 ≤ x65_2
        ·rw [if_pos c48] at H
         have c48b0 := decide_eq_true c48
         clear c48
         by_cases c49 : x65_2 < (l0_1.length : Int)
         ·rw [if_pos c49] at H
          have c49b0 := decide_eq_true c49
          clear c49
          obtain ⟨y170, hy170⟩ : ∃ y_ : List Int, y_ = (([(rd_T70 l0_1 x65_2).f0, (((rd_T70 l0_1 x65_2).f1).length : Int)] : List Int)) := ⟨_, rfl⟩
          replace H : ((cand_writer_put.f k2 x5_2 y170).bind fun t173 => (cand_Encode.l3 k2 t173 l0_1 (l0_1.length : Int) x65_2 ((rd_T70 l0_1 x65_2).f1) (((rd_T70 l0_1 x65_2).f1).length : Int) 0)) = some (r1, r2) := by first | (rw [hy170]; with_reducible exact H) | (have H2_ := (Option.bind_some _ _).symm.trans H; rw [hy170]; with_reducible exact H2_) | (have H2_ := (Option.bind_some _ _).symm.trans H; with_reducible exact H2_) | with_reducible exact H | (rw [hy170]; exact H) | exact H
          have Ny170 := Aside0.mk hy170
          clear hy170
          replace H := be H
          obtain ⟨t173, A50, H⟩ := H
          have H' := Aside0.mk H
          clear H
          have p168 : 0 ≤ (x65_2 : Int) := of_decide_eq_true (by first | (with_reducible assumption) | assumption)
          have q168 : x65_2 < (l0_1.length : Int) := of_decide_eq_true (by first | (with_reducible assumption) | assumption)
          obtain ⟨ad168, A168_1, c168_1, e168, hx168_0, hx168_1, hl168_1, hi168_1⟩ := at_T70 HR0_1.out x65_2 p168 q168
          cases e168
          replace hx168_0 := (HB.out.cell (World.block_lt_of_cell? w _ hx168_0)).trans hx168_0
          replace hx168_1 := (HB.out.cell (World.block_lt_of_cell? w _ hx168_1)).trans hx168_1
          have HR168_1 := Aside0.mk hi168_1
          have HC168_1 := Aside0.mk hl168_1
          clear hi168_1 hl168_1
          replace p168 := eq_true p168
          replace q168 := eq_true q168
          go_wp2_with (first | ((with_reducible refine gate_dst (N := 11) rfl ?_); refine box_event ?hg (N := 11) ?hd (cs := #[.int .i64 0, .slice none 0 0]) (t := 70) ?hr ?_; (case hd => rfl); (case hg => rfl); (case hr => first | (go_simp; done) | (go_simp; rfl)); intro gb169 hg w51 hbox hb; have NW169 := Aside0.mk ((by rw [hg]; exact Nat.ne_of_lt (blk_lt (g := gbw) (o := .cells #[u5] 85 (0, 0)) (by with_reducible repeat (first | exact GH.out | refine ghs ?_ (Aside0.out (by assumption)) | refine blk_drewN ?_ _ | refine blk_drew ?_ | refine blk_alloc ?_ _)))) : gbw ≠ gb169); have ngh_ := Aside0.mk (blk_below (g := gbw) (o := .cells #[u5] 85 (0, 0)) (by with_reducible repeat (first | exact GH.out | refine ghs ?_ (Aside0.out (by assumption)) | refine blk_drewN ?_ _ | refine blk_drew ?_ | refine blk_alloc ?_ _)) hb); clear GH; have GH := ngh_; clear ngh_; have n0_ := Aside0.mk (Kd.R_below (by (with_reducible repeat (first | apply Kd.R_alloc | apply Kd.R_drewN | apply Kd.R_drew)); exact HO_5.out) hb); have n1_ := Aside0.mk (blk_below (g := gb138) (o := .cells #[.slice A0_0 l0_0.length c0_0, .slice (some ad168) l0_1.length c0_1] 42 (0, 0)) (bk BK138.out) hb); have n2_ := Aside0.mk (below_step bl hb); have n3_ := Aside0.mk (hbox); have n4_ := Aside0.mk ((by rw [hg]; exact (below_size bl) : w.heap.size ≤ gb169)); have n5_ := Aside0.mk ((by rw [hg]; exact (below_size bl) : w.heap.size ≤ gb169)); have n6_ := Aside0.mk ((by rw [hg]; exact Nat.ne_of_lt (blk_lt (g := gb138) (o := .cells #[.slice A0_0 l0_0.length c0_0, .slice (some ad168) l0_1.length c0_1] 42 (0, 0)) (bk BK138.out)) : gb138 ≠ gb169)); have n7_ := Aside0.mk ((by rw [hg]; exact Nat.ne_of_gt (blk_lt (g := gb138) (o := .cells #[.slice A0_0 l0_0.length c0_0, .slice (some ad168) l0_1.length c0_1] 42 (0, 0)) (bk BK138.out)) : gb169 ≠ gb138)); clear HO_5; clear BK138; clear HB; have HO_5 := n0_; have BK138 := n1_; have HB := n2_; have BK169 := n3_; have GW169 := n4_; have GE169 := n5_; have NB138_169 := n6_; have NB169_138 := n7_; clear n0_ n1_ n2_ n3_ n4_ n5_ n6_ n7_; clear hb hbox hg; have hnb52 := NB169_138.out; have hnc52 := NB138_169.out; obtain ⟨hcz53_0, hcz53_1, hfz53_0, hfz53_1⟩ := cz2 (w := w51) BK169.out) | ((with_reducible refine gate_dst (N := 74) rfl ?_); refine Kd.R_lit (Kd.int .i64) _ 3 ?hg (N := 74) ?hd (xs := ([(rd_T70 l0_1 x65_2).f0, (((rd_T70 l0_1 x65_2).f1).length : Int)] : List Int)) (inner := [.int .i64 ((rd_T70 l0_1 x65_2).f0), .int .i64 (((rd_T70 l0_1 x65_2).f1).length : Int)]) (ok := fun _ => True) (okp := fun _ => True) ?hr ?hp (fun _ hk => hk) trivial (Below.refl _ _) (Nat.le_refl _) (by simp) ?_; (case hd => rfl); (case hg => rfl); (case hr => first | (go_simp; done) | (go_simp; rfl)); (case hp => exact (Reps.one (show Kd.M (Kd.int .i64) _ _ _ ((rd_T70 l0_1 x65_2).f0) [.int .i64 ((rd_T70 l0_1 x65_2).f0)] from rfl) (Reps.one (show Kd.M (Kd.int .i64) _ _ _ (((rd_T70 l0_1 x65_2).f1).length : Int) [.int .i64 (((rd_T70 l0_1 x65_2).f1).length : Int)] from rfl) (Reps.none _ _)))); intro v171 w54 ho55 hb hg_ hnew_; have ngh_ := Aside0.mk (blk_below (g := gbw) (o := .cells #[u5] 85 (0, 0)) (by with_reducible repeat (first | exact GH.out | refine ghs ?_ (Aside0.out (by assumption)) | refine blk_drewN ?_ _ | refine blk_drew ?_ | refine blk_alloc ?_ _)) hb); clear GH; have GH := ngh_; clear ngh_; clear hg_ hnew_; (first | rw [← Ny170.out] at ho55 | (simp only [Int.reduceToNat] at ho55; rw [← Ny170.out] at ho55)); have n0_ := Aside0.mk (Kd.R_below (by (with_reducible repeat (first | apply Kd.R_alloc | apply Kd.R_drewN | apply Kd.R_drew)); exact (Kd.R_mono (Kd.R_far (p := ⟨gb169, 1, none⟩) (Kd.R_far (p := ⟨gb169, 0, none⟩) (Kd.R_types HO_5.out BK169.out (by decide)) (fun _ hk => hk.2) (.int .i64 ((rd_T70 l0_1 x65_2).f0))) (fun _ hk => hk.2) (.slice A168_1 ((rd_T70 l0_1 x65_2).f1).length c168_1)) (fun _ h_ => h_.1))) hb); have n1_ := Aside0.mk (Kd.R_lower ho55 (below_size bl)); have n2_ := Aside0.mk (blk_below (g := gb138) (o := .cells #[.slice A0_0 l0_0.length c0_0, .slice (some ad168) l0_1.length c0_1] 42 (0, 0)) (by refine bx ?_; refine blk_far ?_ NB138_169.out _; refine bx ?_; refine blk_far ?_ NB138_169.out _; refine bx ?_; exact BK138.out) hb); have n3_ := Aside0.mk (blk_below (g := gb169) (o := .cells #[.int .i64 ((rd_T70 l0_1 x65_2).f0), .slice A168_1 ((rd_T70 l0_1 x65_2).f1).length c168_1] 70 (0, 0)) (by refine bx ?_; refine blk_put (cs := #[.int .i64 ((rd_T70 l0_1 x65_2).f0), .slice none 0 0]) ?_ 1 _ rfl; refine bx ?_; refine blk_put (cs := #[.int .i64 0, .slice none 0 0]) ?_ 0 _ rfl; refine bx ?_; exact BK169.out) hb); have n4_ := Aside0.mk (below_step bl hb); clear HO_5; clear BK138; clear BK169; clear HB; have HO_5 := n0_; have HO172 := n1_; have BK138 := n2_; have BK169 := n3_; have HB := n4_; clear n0_ n1_ n2_ n3_ n4_; clear hb ho55; obtain ⟨Ao56, co56, eo56⟩ := Kd.R_slice HO_5.out; subst eo56; obtain ⟨Ao57, co57, eo57⟩ := Kd.R_slice HO172.out; subst eo57) | ((with_reducible refine gate_callee (f := 48) rfl ?_); refine goesL_ (some 75) rfl rfl Try.func48 (by kernel_rfl) rfl #[.pointer (some ⟨gbw, 0, none⟩), .slice Ao57 y170.length co57] rfl ga ?_; (with_reducible refine (cand_writer_put.calls k2 (fun k_ => some k_ = (.slice Ao56 x5_2.length co56 : Value).ownBlock) (.slice Ao56 x5_2.length co56) gbw x5_2 _ _ y170 t173 w _ ?side1 ?side2 ?side3 ?side4 ?side5 ?side6 A50.out).mono ?_); (case side1 => repeat (first | (with_reducible first | exact HB.out | apply below_alloc | apply pw_below_drewN | apply below_drew1 | refine below_set ?_ GE138.out | refine below_set ?_ GE169.out) | exact HB.out)); (case side2 => exact Kd.R_tight rfl HO_5.out); (case side3 => exact Kd.C_kept_own (Kd.R_types ((Kd.R_apart' HO172.out (Kd.R_typed HO_5.out) (by decide))) GH.out (by decide)) (fun k_ hk_ hs_ => hs_.elim (fun hs_ => (hk_.1.2) hs_) hk_.2)); (case side4 => exact (Kd.R_reads' HO172.out).2.1); (case side5 => exact (by with_reducible repeat (first | exact GH.out | refine ghs ?_ (Aside0.out (by assumption)) | refine blk_drewN ?_ _ | refine blk_drew ?_ | refine blk_alloc ?_ _))); (case side6 => exact GHE.out); rintro e w58 ⟨rfl, v174, ho0, gh_, hb, hkp⟩; refine ⟨_, rfl, ?_⟩; have ngh_ := Aside0.mk gh_; clear gh_; have n0_ := Aside0.mk (blk_kept (bk BK138.out) hkp (fun hs_ => hs_.elim (fun hs_ => (fun e_ => (Kd.R_ne HO_5.out BK138.out (by decide)) e_) hs_) (fun e_ => blk_ne BK138.out GH.out (by decide) e_))); have n1_ := Aside0.mk (blk_kept (bk BK169.out) hkp (fun hs_ => hs_.elim (fun hs_ => (fun e_ => (Kd.R_ne HO_5.out BK169.out (by decide)) e_) hs_) (fun e_ => blk_ne BK169.out GH.out (by decide) e_))); have n2_ := Aside0.mk (Kd.R_mono (ok' := fun k_ => True) (Kd.R_keptB (Kd.R_types ((Kd.R_apart' HO172.out (Kd.R_typed HO_5.out) (by decide))) GH.out (by decide)) hkp (fun k_ hk_ hs_ => hs_.elim (fun hs_ => (hk_.1.2) hs_) hk_.2)) (fun k_ hk_ => trivial)); have n3_ := Aside0.mk (Kd.R_mono (ok' := fun k_ => True) ho0 (fun k_ hk_ => trivial)); have n4_ := Aside0.mk (hb); clear BK138; clear BK169; clear HO172; clear GH; have GH := ngh_; clear ngh_; clear HB; clear HO_5; have BK138 := n0_; have BK169 := n1_; have HO172 := n2_; have HO175 := n3_; have HB := n4_; clear n0_ n1_ n2_ n3_ n4_; (try clear hb); (try clear hkp); (try clear ho0); obtain ⟨hcz59_0, hcz59_1, hfz59_0, hfz59_1⟩ := cz2 (w := w58) BK169.out))
          go_loopg [79] k2 (fun kq v79 w' => ∃ (x5_3 : List Int) (x79_3 : Int) (v5 : Value), v79 = .int .i64 x79_3 ∧ Aside0 (cand_Encode.l3 kq x5_3 l0_1 (l0_1.length : Int) x65_2 ((rd_T70 l0_1 x65_2).f1) (((rd_T70 l0_1 x65_2).f1).length : Int) x79_3 = some (r1, r2)) ∧ Aside0 (kq ≤ k2) ∧ Aside0 (Kd.R (Kd.int .u8) 5 w' w.heap.size (fun _ => True) v5 x5_3) ∧ Aside0 (w'.heap[gbw]? = some (.cells #[v5] 85 (0, 0))) ∧ Aside0 (w'.heap[gb138]? = some (.cells #[(.slice A0_0 l0_0.length c0_0), (.slice (some ad168) l0_1.length c0_1)] 42 (0, 0))) ∧ Aside0 (w'.heap[gb169]? = some (.cells #[.int .i64 ((rd_T70 l0_1 x65_2).f0), (.slice A168_1 ((rd_T70 l0_1 x65_2).f1).length c168_1)] 70 (0, 0))) ∧ Aside0 (Below w.heap.size w w'))
          case atStart => exact ⟨(t173), (0), v174, fj, H', ⟨Nat.le_refl _⟩, ⟨by (with_reducible repeat (first | apply Kd.R_alloc | apply Kd.R_drewN | apply Kd.R_drew)); exact HO175.out⟩, ⟨(by with_reducible repeat (first | exact GH.out | refine ghs ?_ (Aside0.out (by assumption)) | refine blk_drewN ?_ _ | refine blk_drew ?_ | refine blk_alloc ?_ _))⟩, ⟨by refine bx ?_; exact BK138.out⟩, ⟨by refine bx ?_; exact BK169.out⟩, ⟨bl⟩⟩
          case round =>
           clear H'
           try clear c1
           try clear p1
           try clear q1
           try clear hx1
           try clear c2
           try clear p2
           try clear c3
           try clear c3b0
           try clear c3b1
           try clear c4
           try clear c5
           try clear p6
           try clear c14
           try clear c14b0
           try clear p14
           try clear q14
           try clear hx14
           try clear c15
           try clear c15b0
           try clear p15
           try clear q15
           try clear hx15
           try clear c16
           try clear c16b0
           try clear p16
           try clear q16
           try clear hx16
           try clear c23
           try clear c23b0
           try clear c24
           try clear c24b0
           try clear c25
           try clear c25b0
           try clear c29
           try clear c47
           try clear c47b0
           try clear c48
           try clear c48b0
           try clear c49
           try clear c49b0
           try clear c52
           try clear hcz13_0 hcz13_1
           try clear hcz30_0 hcz30_1 hcz30_2 hcz30_3 hcz30_4 hcz30_5
           try clear hcz40_0 hcz40_1
           try clear hcz46_0 hcz46_1
           try clear hcz53_0 hcz53_1
           try clear hcz59_0 hcz59_1
           try clear hcz6_0 hcz6_1
           try clear hcz8_0 hcz8_1
           try clear hfz13_0 hfz13_1
           try clear hfz30_0 hfz30_1 hfz30_2 hfz30_3 hfz30_4 hfz30_5
           try clear hfz40_0 hfz40_1
           try clear hfz46_0 hfz46_1
           try clear hfz53_0 hfz53_1
           try clear hfz59_0 hfz59_1
           try clear hfz6_0 hfz6_1
           try clear hfz8_0 hfz8_1
           try clear hx146_0
           try clear hx153_0
           try clear hx153_1
           try clear hx153_2
           try clear hx153_3
           try clear hx153_4
           try clear hx153_5
           try clear hx168_0
           try clear hx168_1
           try clear p1
           try clear p14
           try clear p146
           try clear p15
           try clear p153
           try clear p168
           try clear p2
           try clear p6
           try clear q1
           try clear q14
           try clear q146
           try clear q15
           try clear q153
           try clear q168
           obtain ⟨x5_3, x79_3, u5, rfl, HA, HK3, HO_5, GH, BK138, BK169, HB⟩ := hrel
           cases gk with
           | zero => exact absurd HA.out (by simp [cand_Encode.l3])
           | succ k3 =>
            have H := HA.out
            clear HA
            simp only [cand_Encode.l3] at H
            by_cases c60 : x79_3 < (((rd_T70 l0_1 x65_2).f1).length : Int)
            ·rw [if_pos c60] at H
             have c60b0 := decide_eq_true c60
             clear c60
             by_cases c61 : 0 ≤ x79_3
             ·rw [if_pos c61] at H
              have c61b0 := decide_eq_true c61
              clear c61
              by_cases c62 : x79_3 < (((rd_T70 l0_1 x65_2).f1).length : Int)
              ·rw [if_pos c62] at H
               have c62b0 := decide_eq_true c62
               clear c62
               obtain ⟨y178, hy178⟩ : ∃ y_ : List Int, y_ = (([(rd_T73 ((rd_T70 l0_1 x65_2).f1) x79_3).f0, (rd_T73 ((rd_T70 l0_1 x65_2).f1) x79_3).f1] : List Int)) := ⟨_, rfl⟩
               replace H : ((cand_writer_put.f k3 x5_3 y178).bind fun t181 => (cand_Encode.l3 k3 t181 l0_1 (l0_1.length : Int) x65_2 ((rd_T70 l0_1 x65_2).f1) (((rd_T70 l0_1 x65_2).f1).length : Int) (wrap64 (x79_3 + 1)))) = some (r1, r2) := by first | (rw [hy178]; with_reducible exact H) | (have H2_ := (Option.bind_some _ _).symm.trans H; rw [hy178]; with_reducible exact H2_) | (have H2_ := (Option.bind_some _ _).symm.trans H; with_reducible exact H2_) | with_reducible exact H | (rw [hy178]; exact H) | exact H
               have Ny178 := Aside0.mk hy178
               clear hy178
               replace H := be H
               obtain ⟨t181, A63, H⟩ := H
               have H' := Aside0.mk H
               clear H
               have p176 : 0 ≤ (x79_3 : Int) := of_decide_eq_true (by first | (with_reducible assumption) | assumption)
               have q176 : x79_3 < (((rd_T70 l0_1 x65_2).f1).length : Int) := of_decide_eq_true (by first | (with_reducible assumption) | assumption)
               obtain ⟨ad176, e176, hx176_0, hx176_1⟩ := at_T73 HR168_1.out x79_3 p176 q176
               cases e176
               replace hx176_0 := (HB.out.cell (World.block_lt_of_cell? w _ hx176_0)).trans hx176_0
               replace hx176_1 := (HB.out.cell (World.block_lt_of_cell? w _ hx176_1)).trans hx176_1
               replace p176 := eq_true p176
               replace q176 := eq_true q176
               go_wp2_with (first | ((with_reducible refine gate_dst (N := 13) rfl ?_); refine box_event ?hg (N := 13) ?hd (cs := #[.int .i64 0, .int .i64 0]) (t := 73) ?hr ?_; (case hd => rfl); (case hg => rfl); (case hr => first | (go_simp; done) | (go_simp; rfl)); intro gb177 hg w64 hbox hb; have NW177 := Aside0.mk ((by rw [hg]; exact Nat.ne_of_lt (blk_lt (g := gbw) (o := .cells #[u5] 85 (0, 0)) (by with_reducible repeat (first | exact GH.out | refine ghs ?_ (Aside0.out (by assumption)) | refine blk_drewN ?_ _ | refine blk_drew ?_ | refine blk_alloc ?_ _)))) : gbw ≠ gb177); have ngh_ := Aside0.mk (blk_below (g := gbw) (o := .cells #[u5] 85 (0, 0)) (by with_reducible repeat (first | exact GH.out | refine ghs ?_ (Aside0.out (by assumption)) | refine blk_drewN ?_ _ | refine blk_drew ?_ | refine blk_alloc ?_ _)) hb); clear GH; have GH := ngh_; clear ngh_; have n0_ := Aside0.mk (Kd.R_below (by (with_reducible repeat (first | apply Kd.R_alloc | apply Kd.R_drewN | apply Kd.R_drew)); exact HO_5.out) hb); have n1_ := Aside0.mk (blk_below (g := gb138) (o := .cells #[.slice A0_0 l0_0.length c0_0, .slice (some ad168) l0_1.length c0_1] 42 (0, 0)) (bk BK138.out) hb); have n2_ := Aside0.mk (blk_below (g := gb169) (o := .cells #[.int .i64 ((rd_T70 l0_1 x65_2).f0), .slice (some ad176) ((rd_T70 l0_1 x65_2).f1).length c168_1] 70 (0, 0)) (bk BK169.out) hb); have n3_ := Aside0.mk (below_step bl hb); have n4_ := Aside0.mk (hbox); have n5_ := Aside0.mk ((by rw [hg]; exact (below_size bl) : w.heap.size ≤ gb177)); have n6_ := Aside0.mk ((by rw [hg]; exact (below_size bl) : w.heap.size ≤ gb177)); have n7_ := Aside0.mk ((by rw [hg]; exact Nat.ne_of_lt (blk_lt (g := gb138) (o := .cells #[.slice A0_0 l0_0.length c0_0, .slice (some ad168) l0_1.length c0_1] 42 (0, 0)) (bk BK138.out)) : gb138 ≠ gb177)); have n8_ := Aside0.mk ((by rw [hg]; exact Nat.ne_of_gt (blk_lt (g := gb138) (o := .cells #[.slice A0_0 l0_0.length c0_0, .slice (some ad168) l0_1.length c0_1] 42 (0, 0)) (bk BK138.out)) : gb177 ≠ gb138)); have n9_ := Aside0.mk ((by rw [hg]; exact Nat.ne_of_lt (blk_lt (g := gb169) (o := .cells #[.int .i64 ((rd_T70 l0_1 x65_2).f0), .slice (some ad176) ((rd_T70 l0_1 x65_2).f1).length c168_1] 70 (0, 0)) (bk BK169.out)) : gb169 ≠ gb177)); have n10_ := Aside0.mk ((by rw [hg]; exact Nat.ne_of_gt (blk_lt (g := gb169) (o := .cells #[.int .i64 ((rd_T70 l0_1 x65_2).f0), .slice (some ad176) ((rd_T70 l0_1 x65_2).f1).length c168_1] 70 (0, 0)) (bk BK169.out)) : gb177 ≠ gb169)); clear HO_5; clear BK138; clear BK169; clear HB; have HO_5 := n0_; have BK138 := n1_; have BK169 := n2_; have HB := n3_; have BK177 := n4_; have GW177 := n5_; have GE177 := n6_; have NB138_177 := n7_; have NB177_138 := n8_; have NB169_177 := n9_; have NB177_169 := n10_; clear n0_ n1_ n2_ n3_ n4_ n5_ n6_ n7_ n8_ n9_ n10_; clear hb hbox hg; have hnb65 := NB177_138.out; have hnc65 := NB138_177.out; have hnb66 := NB177_169.out; have hnc66 := NB169_177.out; obtain ⟨hcz67_0, hcz67_1, hfz67_0, hfz67_1⟩ := cz2 (w := w64) BK177.out) | ((with_reducible refine gate_dst (N := 87) rfl ?_); refine Kd.R_lit (Kd.int .i64) _ 3 ?hg (N := 87) ?hd (xs := ([(rd_T73 ((rd_T70 l0_1 x65_2).f1) x79_3).f0, (rd_T73 ((rd_T70 l0_1 x65_2).f1) x79_3).f1] : List Int)) (inner := [.int .i64 ((rd_T73 ((rd_T70 l0_1 x65_2).f1) x79_3).f0), .int .i64 ((rd_T73 ((rd_T70 l0_1 x65_2).f1) x79_3).f1)]) (ok := fun _ => True) (okp := fun _ => True) ?hr ?hp (fun _ hk => hk) trivial (Below.refl _ _) (Nat.le_refl _) (by simp) ?_; (case hd => rfl); (case hg => rfl); (case hr => first | (go_simp; done) | (go_simp; rfl)); (case hp => exact (Reps.one (show Kd.M (Kd.int .i64) _ _ _ ((rd_T73 ((rd_T70 l0_1 x65_2).f1) x79_3).f0) [.int .i64 ((rd_T73 ((rd_T70 l0_1 x65_2).f1) x79_3).f0)] from rfl) (Reps.one (show Kd.M (Kd.int .i64) _ _ _ ((rd_T73 ((rd_T70 l0_1 x65_2).f1) x79_3).f1) [.int .i64 ((rd_T73 ((rd_T70 l0_1 x65_2).f1) x79_3).f1)] from rfl) (Reps.none _ _)))); intro v179 w68 ho69 hb hg_ hnew_; have ngh_ := Aside0.mk (blk_below (g := gbw) (o := .cells #[u5] 85 (0, 0)) (by with_reducible repeat (first | exact GH.out | refine ghs ?_ (Aside0.out (by assumption)) | refine blk_drewN ?_ _ | refine blk_drew ?_ | refine blk_alloc ?_ _)) hb); clear GH; have GH := ngh_; clear ngh_; clear hg_ hnew_; (first | rw [← Ny178.out] at ho69 | (simp only [Int.reduceToNat] at ho69; rw [← Ny178.out] at ho69)); have n0_ := Aside0.mk (Kd.R_below (by (with_reducible repeat (first | apply Kd.R_alloc | apply Kd.R_drewN | apply Kd.R_drew)); exact (Kd.R_mono (Kd.R_far (p := ⟨gb177, 1, none⟩) (Kd.R_far (p := ⟨gb177, 0, none⟩) (Kd.R_types HO_5.out BK177.out (by decide)) (fun _ hk => hk.2) (.int .i64 ((rd_T73 ((rd_T70 l0_1 x65_2).f1) x79_3).f0))) (fun _ hk => hk.2) (.int .i64 ((rd_T73 ((rd_T70 l0_1 x65_2).f1) x79_3).f1))) (fun _ h_ => h_.1))) hb); have n1_ := Aside0.mk (Kd.R_lower ho69 (below_size bl)); have n2_ := Aside0.mk (blk_below (g := gb138) (o := .cells #[.slice A0_0 l0_0.length c0_0, .slice (some ad168) l0_1.length c0_1] 42 (0, 0)) (by refine bx ?_; refine blk_far ?_ NB138_177.out _; refine bx ?_; refine blk_far ?_ NB138_177.out _; refine bx ?_; exact BK138.out) hb); have n3_ := Aside0.mk (blk_below (g := gb169) (o := .cells #[.int .i64 ((rd_T70 l0_1 x65_2).f0), .slice (some ad176) ((rd_T70 l0_1 x65_2).f1).length c168_1] 70 (0, 0)) (by refine bx ?_; refine blk_far ?_ NB169_177.out _; refine bx ?_; refine blk_far ?_ NB169_177.out _; refine bx ?_; exact BK169.out) hb); have n4_ := Aside0.mk (blk_below (g := gb177) (o := .cells #[.int .i64 ((rd_T73 ((rd_T70 l0_1 x65_2).f1) x79_3).f0), .int .i64 ((rd_T73 ((rd_T70 l0_1 x65_2).f1) x79_3).f1)] 73 (0, 0)) (by refine bx ?_; refine blk_put (cs := #[.int .i64 ((rd_T73 ((rd_T70 l0_1 x65_2).f1) x79_3).f0), .int .i64 0]) ?_ 1 _ rfl; refine bx ?_; refine blk_put (cs := #[.int .i64 0, .int .i64 0]) ?_ 0 _ rfl; refine bx ?_; exact BK177.out) hb); have n5_ := Aside0.mk (below_step bl hb); clear HO_5; clear BK138; clear BK169; clear BK177; clear HB; have HO_5 := n0_; have HO180 := n1_; have BK138 := n2_; have BK169 := n3_; have BK177 := n4_; have HB := n5_; clear n0_ n1_ n2_ n3_ n4_ n5_; clear hb ho69; obtain ⟨Ao70, co70, eo70⟩ := Kd.R_slice HO_5.out; subst eo70; obtain ⟨Ao71, co71, eo71⟩ := Kd.R_slice HO180.out; subst eo71) | ((with_reducible refine gate_callee (f := 48) rfl ?_); refine goesL_ (some 88) rfl rfl Try.func48 (by kernel_rfl) rfl #[.pointer (some ⟨gbw, 0, none⟩), .slice Ao71 y178.length co71] rfl ga ?_; (with_reducible refine (cand_writer_put.calls k3 (fun k_ => some k_ = (.slice Ao70 x5_3.length co70 : Value).ownBlock) (.slice Ao70 x5_3.length co70) gbw x5_3 _ _ y178 t181 w _ ?side1 ?side2 ?side3 ?side4 ?side5 ?side6 A63.out).mono ?_); (case side1 => repeat (first | (with_reducible first | exact HB.out | apply below_alloc | apply pw_below_drewN | apply below_drew1 | refine below_set ?_ GE138.out | refine below_set ?_ GE169.out | refine below_set ?_ GE177.out) | exact HB.out)); (case side2 => exact Kd.R_tight rfl HO_5.out); (case side3 => exact Kd.C_kept_own (Kd.R_types ((Kd.R_apart' HO180.out (Kd.R_typed HO_5.out) (by decide))) GH.out (by decide)) (fun k_ hk_ hs_ => hs_.elim (fun hs_ => (hk_.1.2) hs_) hk_.2)); (case side4 => exact (Kd.R_reads' HO180.out).2.1); (case side5 => exact (by with_reducible repeat (first | exact GH.out | refine ghs ?_ (Aside0.out (by assumption)) | refine blk_drewN ?_ _ | refine blk_drew ?_ | refine blk_alloc ?_ _))); (case side6 => exact GHE.out); rintro e w72 ⟨rfl, v182, ho0, gh_, hb, hkp⟩; refine ⟨_, rfl, ?_⟩; have ngh_ := Aside0.mk gh_; clear gh_; have n0_ := Aside0.mk (blk_kept (bk BK138.out) hkp (fun hs_ => hs_.elim (fun hs_ => (fun e_ => (Kd.R_ne HO_5.out BK138.out (by decide)) e_) hs_) (fun e_ => blk_ne BK138.out GH.out (by decide) e_))); have n1_ := Aside0.mk (blk_kept (bk BK169.out) hkp (fun hs_ => hs_.elim (fun hs_ => (fun e_ => (Kd.R_ne HO_5.out BK169.out (by decide)) e_) hs_) (fun e_ => blk_ne BK169.out GH.out (by decide) e_))); have n2_ := Aside0.mk (blk_kept (bk BK177.out) hkp (fun hs_ => hs_.elim (fun hs_ => (fun e_ => (Kd.R_ne HO_5.out BK177.out (by decide)) e_) hs_) (fun e_ => blk_ne BK177.out GH.out (by decide) e_))); have n3_ := Aside0.mk (Kd.R_mono (ok' := fun k_ => True) (Kd.R_keptB (Kd.R_types ((Kd.R_apart' HO180.out (Kd.R_typed HO_5.out) (by decide))) GH.out (by decide)) hkp (fun k_ hk_ hs_ => hs_.elim (fun hs_ => (hk_.1.2) hs_) hk_.2)) (fun k_ hk_ => trivial)); have n4_ := Aside0.mk (Kd.R_mono (ok' := fun k_ => True) ho0 (fun k_ hk_ => trivial)); have n5_ := Aside0.mk (hb); clear BK138; clear BK169; clear BK177; clear HO180; clear GH; have GH := ngh_; clear ngh_; clear HB; clear HO_5; have BK138 := n0_; have BK169 := n1_; have BK177 := n2_; have HO180 := n3_; have HO183 := n4_; have HB := n5_; clear n0_ n1_ n2_ n3_ n4_ n5_; (try clear hb); (try clear hkp); (try clear ho0)))
               go_roundg k3
               case measure => have := HK1.out; have := HK2.out; have := HK3.out; omega
               case rel => exact ⟨(t181), (wrap64 (x79_3 + 1)), v182, fj, H', ⟨by have := HK1.out; have := HK2.out; have := HK3.out; omega⟩, ⟨by (with_reducible repeat (first | apply Kd.R_alloc | apply Kd.R_drewN | apply Kd.R_drew)); exact HO183.out⟩, ⟨(by with_reducible repeat (first | exact GH.out | refine ghs ?_ (Aside0.out (by assumption)) | refine blk_drewN ?_ _ | refine blk_drew ?_ | refine blk_alloc ?_ _))⟩, ⟨by refine bx ?_; exact BK138.out⟩, ⟨by refine bx ?_; exact BK169.out⟩, ⟨bl⟩⟩
              ·rw [if_neg c62] at H
               exact absurd H (by simp)
             ·rw [if_neg c61] at H
              exact absurd H (by simp)
            ·rw [if_neg c60] at H
             have c60b0 := decide_eq_false c60
             clear c60
             have H' := Aside0.mk H
             clear H
             go_wp2
             go_roundg k3
             case measure => have := HK1.out; have := HK2.out; have := HK3.out; omega
             case rel => exact ⟨(x5_3), (wrap64 (x65_2 + 1)), u5, fj, H', ⟨by have := HK1.out; have := HK2.out; have := HK3.out; omega⟩, ⟨by (with_reducible repeat (first | apply Kd.R_alloc | apply Kd.R_drewN | apply Kd.R_drew)); exact HO_5.out⟩, ⟨(by with_reducible repeat (first | exact GH.out | refine ghs ?_ (Aside0.out (by assumption)) | refine blk_drewN ?_ _ | refine blk_drew ?_ | refine blk_alloc ?_ _))⟩, ⟨by refine bx ?_; exact BK138.out⟩, ⟨bl⟩⟩
         ·rw [if_neg c49] at H
          exact absurd H (by simp)
        ·rw [if_neg c48] at H
         exact absurd H (by simp)
       ·rw [if_neg c47] at H
        have c47b0 := decide_eq_false c47
        clear c47
        simp only [Option.some.injEq, Prod.mk.injEq] at H
        obtain ⟨rfl, rfl⟩ := H
        have hcw := (blk_cell GH.out 0).trans (rfl : _ = some u5)
        have hfw := blk_frozen GH.out 0
        go_wp2
        go_ret2
        exact ⟨_, fi, by (with_reducible repeat (first | apply Kd.R_alloc | apply Kd.R_drewN | apply Kd.R_drew)); exact HO_5.out, bl⟩
 ·rw [if_neg c3] at H
  have c3b0 : (t139 == 0) = false := beq_eq_false_iff_ne.mpr c3
  have c3b1 : (t139 != 0) = true := bne_iff_ne.mpr c3
  simp only [Option.some.injEq, Prod.mk.injEq] at H
  obtain ⟨rfl, rfl⟩ := H
  go_enter Try.func23, Try.ntmps23
  go_wp2_with (first | ((with_reducible refine gate_dst (N := 1) rfl ?_); refine box_event ?hg (N := 1) ?hd (cs := #[.slice A0_0 l0_0.length c0_0, .slice A0_1 l0_1.length c0_1]) (t := 42) ?hr ?_; (case hd => rfl); (case hg => rfl); (case hr => first | (go_simp; done) | (go_simp; rfl)); intro gb138 hg w73 hbox hb; obtain ⟨n0_, GW138⟩ := nb (w := w) hg hb; clear HB; have HB := n0_; have BK138 := Aside0.mk hbox; have GE138 := GW138; clear n0_ hb hbox hg; obtain ⟨hcz74_0, hcz74_1, hfz74_0, hfz74_1⟩ := cz2 (w := w73) BK138.out) | ((with_reducible refine gate_callee (f := 24) rfl ?_); refine goesL_ (some 15) rfl rfl Try.func24 (by kernel_rfl) rfl #[.agg #[.slice A0_0 l0_0.length c0_0, .slice A0_1 l0_1.length c0_1]] rfl ga ?_; (with_reducible refine (cand_Check.calls k _ _ l0_0 _ _ l0_1 t139 _ ?side1 ?side2 ?side3 ?side4 A2.out).mono ?_); (case side1 => repeat (first | exact (Kd.C_below HR0_0.out HB.out) | (with_reducible refine Kd.C_alloc ?_ _) | (with_reducible refine Kd.C_drewN ?_ _) | (with_reducible refine Kd.C_drew ?_))); (case side2 => exact HC0_0.out); (case side3 => repeat (first | exact (Kd.C_below HR0_1.out HB.out) | (with_reducible refine Kd.C_alloc ?_ _) | (with_reducible refine Kd.C_drewN ?_ _) | (with_reducible refine Kd.C_drew ?_))); (case side4 => exact HC0_1.out); rintro e w75 ⟨rfl, hb⟩; refine ⟨_, rfl, ?_⟩; have n0_ := Aside0.mk (blk_below (g := gb138) (o := .cells #[.slice A0_0 l0_0.length c0_0, .slice A0_1 l0_1.length c0_1] 42 (0, 0)) (bk BK138.out) hb); have n1_ := Aside0.mk (below_step bl hb); clear BK138; clear HB; have BK138 := n0_; have HB := n1_; clear n0_ n1_; (try clear hb)))
  go_ret2
  exact ⟨_, fi, by first | exact Kd.R_nil _ _ _ _ _ | exact Kd.N_nil _ _ _ _ _ | exact Kd.V_nil _ _ _ _ _ | exact Kd.Q_nil _ _ _ _ _ | exact Kd.S_nil _ _ _ _ _, bl⟩

end Go.Proofs.Ytfpphaflbmlpeaa.GCandSame
