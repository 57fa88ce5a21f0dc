-- Written by wip/stub.py of this repo.
import Derived.Test.YtfpphaflbmlpeaaGCandChecksx0
import Derived.Test.YtfpphaflbmlpeaaGCandChecksx5
import Derived.Test.YtfpphaflbmlpeaaGCandChecksx6
namespace Go.Proofs.Ytfpphaflbmlpeaa.GCandChecks
open Go.RowKit Go.Proofs.YtfpphaflbmlpeaaW.PrintWords Go.Proofs.YtfpphaflbmlpeaaW.PrintLast Go.Proofs.YtfpphaflbmlpeaaW.PrintMore
attribute [local go_sem] max2_int min2_int max_two min_two max_three min_three max_four min_four   -- for this text's walks alone
set_option linter.unusedVariables false
set_option linter.unusedSimpArgs false

/-! ### cand_Encode: function 23 -/
mutual
def cand_Encode.l0 : Nat → List Int → List (List (S75)) → Int → Int → List (List (S75)) → List (S70) → Option (List Int × Int)
  | 0, _, _, _, _, _, _ => none
  | k + 1, x5, x25, x26, x27, x141000, x141001 => if x27 < x26 then (if 0 ≤ x27 then (if x27 < (x25.length : Int) then ((cand_writer_put.f k x5 (([((rd_L5 x25 x27).length : Int)] : List Int))).bind fun t152 => (cand_Encode.l1 k t152 x25 x26 x27 (rd_L5 x25 x27) ((rd_L5 x25 x27).length : Int) 0 x141000 x141001)) else (none)) else (none)) else ((cand_writer_put.f k x5 (([(x141001.length : Int)] : List Int))).bind fun t167 => (cand_Encode.l2 k t167 x141001 (x141001.length : Int) 0))
def cand_Encode.l1 : Nat → List Int → List (List (S75)) → Int → Int → List (S75) → Int → Int → List (List (S75)) → List (S70) → Option (List Int × Int)
  | 0, _, _, _, _, _, _, _, _, _ => none
  | k + 1, x5, x25, x26, x27, x35, x36, x37, x141000, x141001 => if x37 < x36 then (if 0 ≤ x37 then (if x37 < (x35.length : Int) then ((cand_flag.f ((rd_T75 x35 x37).f0) ((rd_T75 x35 x37).f1) ((rd_T75 x35 x37).f2.f0) ((rd_T75 x35 x37).f2.f1) ((rd_T75 x35 x37).f3) ((rd_T75 x35 x37).f4)).bind fun t157 => ((cand_writer_put.f k x5 (([(rd_T75 x35 x37).f0, (rd_T75 x35 x37).f1, (rd_T75 x35 x37).f2.f0, (rd_T75 x35 x37).f2.f1, t157] : List Int))).bind fun t161 => (cand_Encode.l1 k t161 x25 x26 x27 x35 x36 (wrap64 (x37 + 1)) x141000 x141001))) else (none)) else (none)) else (cand_Encode.l0 k x5 x25 x26 (wrap64 (x27 + 1)) x141000 x141001)
def cand_Encode.l2 : Nat → List Int → List (S70) → Int → Int → Option (List Int × Int)
  | 0, _, _, _, _ => none
  | k + 1, x5, x63, x64, x65 => if x65 < x64 then (if 0 ≤ x65 then (if x65 < (x63.length : Int) then ((cand_writer_put.f k x5 (([(rd_T70 x63 x65).f0, (((rd_T70 x63 x65).f1).length : Int)] : List Int))).bind fun t175 => (cand_Encode.l3 k t175 x63 x64 x65 ((rd_T70 x63 x65).f1) (((rd_T70 x63 x65).f1).length : Int) 0)) else (none)) else (none)) else (some (x5, 0))
def cand_Encode.l3 : Nat → List Int → List (S70) → Int → Int → List (S73) → Int → Int → Option (List Int × Int)
  | 0, _, _, _, _, _, _, _ => none
  | k + 1, x5, x63, x64, x65, x77, x78, x79 => if x79 < x78 then (if 0 ≤ x79 then (if x79 < (x77.length : Int) then ((cand_writer_put.f k x5 (([(rd_T73 x77 x79).f0, (rd_T73 x77 x79).f1] : List Int))).bind fun t183 => (cand_Encode.l3 k t183 x63 x64 x65 x77 x78 (wrap64 (x79 + 1)))) else (none)) else (none)) else (cand_Encode.l2 k x5 x63 x64 (wrap64 (x65 + 1)))
end
def cand_Encode.f (k : Nat) (l0_0 : List (List (S75))) (l0_1 : List (S70)) : Option (List Int × Int) := (cand_Check.f k l0_0 l0_1).bind fun t141 => (if t141 = 0 then ((cand_writer_put.f k ([] : List Int) (([(l0_0.length : Int)] : List Int))).bind fun t145 => (cand_Encode.l0 k t145 l0_0 (l0_0.length : Int) 0 l0_0 l0_1)) else (some (([] : List Int), t141)))
theorem cand_Encode.mono_l : ∀ k, (∀ y0 y1 y2 y3 y4 y5, LeO (cand_Encode.l0 k y0 y1 y2 y3 y4 y5) (cand_Encode.l0 (k + 1) y0 y1 y2 y3 y4 y5)) ∧ (∀ y0 y1 y2 y3 y4 y5 y6 y7 y8, LeO (cand_Encode.l1 k y0 y1 y2 y3 y4 y5 y6 y7 y8) (cand_Encode.l1 (k + 1) y0 y1 y2 y3 y4 y5 y6 y7 y8)) ∧ (∀ y0 y1 y2 y3, LeO (cand_Encode.l2 k y0 y1 y2 y3) (cand_Encode.l2 (k + 1) y0 y1 y2 y3)) ∧ (∀ y0 y1 y2 y3 y4 y5 y6, LeO (cand_Encode.l3 k y0 y1 y2 y3 y4 y5 y6) (cand_Encode.l3 (k + 1) y0 y1 y2 y3 y4 y5 y6))
 | 0 => ⟨fun _ _ _ _ _ _ r h => by simp [cand_Encode.l0] at h, fun _ _ _ _ _ _ _ _ _ r h => by simp [cand_Encode.l1] at h, fun _ _ _ _ r h => by simp [cand_Encode.l2] at h, fun _ _ _ _ _ _ _ r h => by simp [cand_Encode.l3] at h⟩
 | k + 1 => by
  obtain ⟨ih0, ih1, ih2, ih3⟩ := cand_Encode.mono_l k
  refine ⟨?_, ?_, ?_, ?_⟩
  all_goals (intros; (first | unfold cand_Encode.l0 | unfold cand_Encode.l1 | unfold cand_Encode.l2 | unfold cand_Encode.l3); repeat' first | (with_reducible first | exact ih0 _ _ _ _ _ _ | exact ih1 _ _ _ _ _ _ _ _ _ | exact ih2 _ _ _ _ | exact ih3 _ _ _ _ _ _ _ | exact cand_Check.mono _ _ _ | exact cand_writer_put.mono _ _ _ | exact LeO.refl _ | exact LeO.none _ | refine LeO.ite ?_ ?_ | refine LeO.bind ?_ (fun _ => ?_)) | exact ih0 _ _ _ _ _ _ | exact ih1 _ _ _ _ _ _ _ _ _ | exact ih2 _ _ _ _ | exact ih3 _ _ _ _ _ _ _ | exact cand_Check.mono _ _ _ | exact cand_writer_put.mono _ _ _ | exact LeO.none _ | refine LeO.ite ?_ ?_ | refine LeO.bind ?_ (fun _ => ?_))
theorem cand_Encode.mono : ∀ a0 a1 k, LeO (cand_Encode.f k a0 a1) (cand_Encode.f (k + 1) a0 a1) := by
 intro a0 a1 k
 obtain ⟨ih0, ih1, ih2, ih3⟩ := cand_Encode.mono_l k
 unfold cand_Encode.f
 repeat' first | (with_reducible first | exact ih0 _ _ _ _ _ _ | exact ih1 _ _ _ _ _ _ _ _ _ | exact ih2 _ _ _ _ | exact ih3 _ _ _ _ _ _ _ | exact cand_Check.mono _ _ _ | exact cand_writer_put.mono _ _ _ | exact LeO.refl _ | exact LeO.none _ | refine LeO.ite ?_ ?_ | refine LeO.bind ?_ (fun _ => ?_)) | exact ih0 _ _ _ _ _ _ | exact ih1 _ _ _ _ _ _ _ _ _ | exact ih2 _ _ _ _ | exact ih3 _ _ _ _ _ _ _ | exact cand_Check.mono _ _ _ | exact cand_writer_put.mono _ _ _ | exact LeO.none _ | refine LeO.ite ?_ ?_ | refine LeO.bind ?_ (fun _ => ?_)
def cand_Encode.T13 : Bool × List (List Nat × List Nat) := (true, [([], []), ([0], [0]), ([], []), ([2], [2]), ([], []), ([4], [4]), ([5], [5]), ([], []), ([7], [7]), ([8], [8]), ([], []), ([10], [10]), ([1, 3, 6, 9, 11], [1, 3, 6, 9, 11]), ([12, 11], [12])])
def cand_Encode.B13 : List Nat := [0, 1, 0, 4, 0, 16, 48, 0, 128, 384, 0, 1024, 4095, 8191]
theorem cand_Encode.tab13 : rtab .any (opsOf Try.f23 13) = cand_Encode.T13 := by kernel_rfl
theorem cand_Encode.bits13 : waitsOk cand_Encode.T13.2 cand_Encode.B13 = true := by kernel_rfl
set_option maxHeartbeats 8000000 in
set_option maxRecDepth 100000 in
theorem cand_Encode.calls (k : Nat) (A0_0 : Option Addr) (c0_0 : Nat) (l0_0 : List (List (S75))) (A0_1 : Option Addr) (c0_1 : Nat) (l0_1 : List (S70)) (r1 : List Int) (r2 : Int) (w : World) (hr0_0 : Kd.C (Kd.slice 75 k75) w A0_0 l0_0.length l0_0) (hc0_0 : l0_0.length ≤ c0_0) (hr0_1 : Kd.C k70 w A0_1 l0_1.length l0_1) (hc0_1 : l0_1.length ≤ c0_1) (h : cand_Encode.f k l0_0 l0_1 = some (r1, r2)) :
  Calls Try.prog 23 #[.agg #[.slice A0_0 l0_0.length c0_0, .slice A0_1 l0_1.length c0_1]] w fun e w' => ∃ v0_ : Value, e = .returned (.tuple #[v0_, .int .i64 r2]) ∧ Kd.R (Kd.int .u8) 5 w' w.heap.size (fun _ => True) v0_ r1 ∧ Below w.heap.size w w' := by
 have hu42 := Try.underlying42
 have hu75 := Try.underlying75
 have hu70 := Try.underlying70
 have hu73 := Try.underlying73
 have hu85 := Try.underlying85
 have HR0_0 := Aside0.mk hr0_0
 have HC0_0 := Aside0.mk hc0_0
 clear hr0_0 hc0_0
 have HR0_1 := Aside0.mk hr0_1
 have HC0_1 := Aside0.mk hc0_1
 clear hr0_1 hc0_1
 have HB := Aside0.mk (Below.refl w.heap.size w)
 have H : ((cand_Check.f k l0_0 l0_1).bind fun t141 => (if t141 = 0 then ((cand_writer_put.f k ([] : List Int) (([(l0_0.length : Int)] : List Int))).bind fun t145 => (cand_Encode.l0 k t145 l0_0 (l0_0.length : Int) 0 l0_0 l0_1)) else (some (([] : List Int), t141)))) = some (r1, r2) := h
 clear h
 replace H := be H
 obtain ⟨t141, A2, H⟩ := H
 by_cases c3 : t141 = 0
 rotate_left
 ·rw [if_neg c3] at H
  have c3b0 : (t141 == 0) = false := beq_eq_false_iff_ne.mpr c3
  have c3b1 : (t141 != 0) = true := bne_iff_ne.mpr c3
  simp only [Option.some.injEq, Prod.mk.injEq] at H
  obtain ⟨rfl, rfl⟩ := H
  go_enter Try.func23, Try.ntmps23
  go_wp2_with (first | ((with_reducible refine gate_dst (N := 1) rfl ?_); refine bv 1 #[.slice A0_0 l0_0.length c0_0, .slice A0_1 l0_1.length c0_1] 42 ?_; intro gb140 hg w73 hbox hb; obtain ⟨n0_, GW140⟩ := nb (w := w) hg hb; clear HB; have HB := n0_; have BK140 := Aside0.mk hbox; have GE140 := GW140; clear n0_ hb hbox hg; obtain ⟨hcz74_0, hcz74_1, hfz74_0, hfz74_1⟩ := cz2 (w := w73) BK140.out) | ((with_reducible refine gate_callee (f := 24) rfl ?_); refine goesL_ (some 15) rfl rfl Try.func24 (by kernel_rfl) rfl #[.agg #[.slice A0_0 l0_0.length c0_0, .slice A0_1 l0_1.length c0_1]] rfl ga ?_; (with_reducible refine (cand_Check.calls k _ _ l0_0 _ _ l0_1 t141 _ ?side1 ?side2 ?side3 ?side4 A2.out).mono ?_); (case side1 => repeat (first | exact (Kd.C_below HR0_0.out HB.out) | (with_reducible refine Kd.C_alloc ?_ _) | (with_reducible refine Kd.C_drewN ?_ _) | (with_reducible refine Kd.C_drew ?_))); (case side2 => exact HC0_0.out); (case side3 => repeat (first | exact (Kd.C_below HR0_1.out HB.out) | (with_reducible refine Kd.C_alloc ?_ _) | (with_reducible refine Kd.C_drewN ?_ _) | (with_reducible refine Kd.C_drew ?_))); (case side4 => exact HC0_1.out); rintro e w75 ⟨rfl, hb⟩; refine ⟨_, rfl, ?_⟩; have n0_ := Aside0.mk (blk_below (g := gb140) (o := .cells #[.slice A0_0 l0_0.length c0_0, .slice A0_1 l0_1.length c0_1] 42 (0, 0)) (bk BK140.out) hb); have n1_ := Aside0.mk (below_step bl hb); clear BK140; clear HB; have BK140 := n0_; have HB := n1_; clear n0_ n1_; (try clear hb)))
  go_ret2
  exact ⟨_, fi, by first | exact Kd.R_nil _ _ _ _ _ | exact Kd.N_nil _ _ _ _ _ | exact Kd.V_nil _ _ _ _ _ | exact Kd.Q_nil _ _ _ _ _ | exact Kd.S_nil _ _ _ _ _, bl⟩
 rw [if_pos c3] at H
 obtain ⟨c3b0, c3b1⟩ := eqs c3
 clear c3
 obtain ⟨y142, hy142⟩ : ∃ y_ : List Int, y_ = (([(l0_0.length : Int)] : List Int)) := ⟨_, rfl⟩
 replace H : ((cand_writer_put.f k ([] : List Int) y142).bind fun t145 => (cand_Encode.l0 k t145 l0_0 (l0_0.length : Int) 0 l0_0 l0_1)) = some (r1, r2) := by first | (rw [hy142]; with_reducible exact H) | (have H2_ := (Option.bind_some _ _).symm.trans H; rw [hy142]; with_reducible exact H2_) | (have H2_ := (Option.bind_some _ _).symm.trans H; with_reducible exact H2_) | with_reducible exact H | (rw [hy142]; exact H) | exact H
 have Ny142 := Aside0.mk hy142
 clear hy142
 replace H := be H
 obtain ⟨t145, A4, H⟩ := H
 have H' := Aside0.mk H
 clear H
 go_enter Try.func23, Try.ntmps23
 go_wp2_with (first | ((with_reducible refine gate_dst (N := 1) rfl ?_); refine bv 1 #[.slice A0_0 l0_0.length c0_0, .slice A0_1 l0_1.length c0_1] 42 ?_; intro gb140 hg w5 hbox hb; obtain ⟨n0_, GW140⟩ := nb (w := w) hg hb; clear HB; have HB := n0_; have BK140 := Aside0.mk hbox; have GE140 := GW140; clear n0_ hb hbox hg; obtain ⟨hcz6_0, hcz6_1, hfz6_0, hfz6_1⟩ := cz2 (w := w5) BK140.out) | ((with_reducible refine gate_callee (f := 24) rfl ?_); refine goesL_ (some 15) rfl rfl Try.func24 (by kernel_rfl) rfl #[.agg #[.slice A0_0 l0_0.length c0_0, .slice A0_1 l0_1.length c0_1]] rfl ga ?_; (with_reducible refine (cand_Check.calls k _ _ l0_0 _ _ l0_1 t141 _ ?side1 ?side2 ?side3 ?side4 A2.out).mono ?_); (case side1 => repeat (first | exact (Kd.C_below HR0_0.out HB.out) | (with_reducible refine Kd.C_alloc ?_ _) | (with_reducible refine Kd.C_drewN ?_ _) | (with_reducible refine Kd.C_drew ?_))); (case side2 => exact HC0_0.out); (case side3 => repeat (first | exact (Kd.C_below HR0_1.out HB.out) | (with_reducible refine Kd.C_alloc ?_ _) | (with_reducible refine Kd.C_drewN ?_ _) | (with_reducible refine Kd.C_drew ?_))); (case side4 => exact HC0_1.out); rintro e w7 ⟨rfl, hb⟩; refine ⟨_, rfl, ?_⟩; have n0_ := Aside0.mk (blk_below (g := gb140) (o := .cells #[.slice A0_0 l0_0.length c0_0, .slice A0_1 l0_1.length c0_1] 42 (0, 0)) (bk BK140.out) hb); have n1_ := Aside0.mk (below_step bl hb); clear BK140; clear HB; have BK140 := n0_; have HB := n1_; clear n0_ n1_; (try clear hb); obtain ⟨hcz8_0, hcz8_1, hfz8_0, hfz8_1⟩ := cz2 (w := w7) BK140.out) | ((with_reducible refine gate_dst (N := 5) rfl ?_); refine bv 5 #[.slice none 0 0] 85 ?_; intro gbw hg ww hbox hb; have n0_ := Aside0.mk (blk_below (g := gb140) (o := .cells #[.slice A0_0 l0_0.length c0_0, .slice A0_1 l0_1.length c0_1] 42 (0, 0)) (bk BK140.out) hb); have n1_ := Aside0.mk (below_step bl hb); have n3_ := Aside0.mk ((by rw [hg]; exact (below_size bl)) : w.heap.size ≤ gbw); have GH := Aside0.mk hbox; clear BK140; clear HB; have BK140 := n0_; have HB := n1_; have GHE := n3_; clear n0_ n1_ n3_; clear hb hbox hg; have hcw0 : ww.cell? ⟨gb140, 0, none⟩ = some (.slice A0_0 l0_0.length c0_0) := (blk_cell BK140.out 0).trans rfl; have hfw0 := blk_frozen BK140.out 0; have hcw1 : ww.cell? ⟨gb140, 1, none⟩ = some (.slice A0_1 l0_1.length c0_1) := (blk_cell BK140.out 1).trans rfl; have hfw1 := blk_frozen BK140.out 1) | ((with_reducible refine gate_dst (N := 22) rfl ?_); refine Kd.R_lit (Kd.int .i64) _ 3 ?hg (N := 22) ?hd (xs := ([(l0_0.length : Int)] : List Int)) (inner := [.int .i64 (l0_0.length : Int)]) (ok := fun _ => True) (okp := fun _ => True) ?hr ?hp (fun _ hk => hk) trivial (Below.refl _ _) (Nat.le_refl _) (by simp) ?_; (case hd => rfl); (case hg => rfl); (case hr => first | (go_simp; done) | (go_simp; rfl)); (case hp => exact (Reps.one (show Kd.M (Kd.int .i64) _ _ _ (l0_0.length : Int) [.int .i64 (l0_0.length : Int)] from rfl) (Reps.none _ _))); intro v143 w9 ho10 hb hg_ hnew_; have ngh_ := Aside0.mk (blk_below (g := gbw) (o := .cells #[.slice none 0 0] 85 (0, 0)) (by with_reducible repeat (first | exact GH.out | refine ghs ?_ (Aside0.out (by assumption)) | refine blk_drewN ?_ _ | refine blk_drew ?_ | refine blk_alloc ?_ _)) hb); clear GH; have GH := ngh_; clear ngh_; clear hg_ hnew_; (first | rw [← Ny142.out] at ho10 | (simp only [Int.reduceToNat] at ho10; rw [← Ny142.out] at ho10)); have n0_ := Aside0.mk (Kd.R_lower ho10 (below_size bl)); have n1_ := Aside0.mk (blk_below (g := gb140) (o := .cells #[.slice A0_0 l0_0.length c0_0, .slice A0_1 l0_1.length c0_1] 42 (0, 0)) (bk BK140.out) hb); have n2_ := Aside0.mk (below_step bl hb); clear BK140; clear HB; have HO144 := n0_; have BK140 := n1_; have HB := n2_; clear n0_ n1_ n2_; clear hb ho10; obtain ⟨Ao11, co11, eo11⟩ := Kd.R_slice HO144.out; subst eo11) | ((with_reducible refine gate_callee (f := 48) rfl ?_); refine goesL_ (some 23) rfl rfl Try.func48 (by kernel_rfl) rfl #[.pointer (some ⟨gbw, 0, none⟩), .slice Ao11 y142.length co11] rfl ga ?_; (refine (cand_writer_put.calls k (fun k_ => some k_ = (.slice none 0 0 : Value).ownBlock) (.slice none 0 0) gbw ([] : List Int) _ _ y142 t145 w _ ?side1 ?side2 ?side3 ?side4 ?side5 ?side6 A4.out).mono ?_); (case side1 => repeat (first | (with_reducible first | exact HB.out | apply below_alloc | apply pw_below_drewN | apply below_drew1 | refine below_set ?_ GE140.out) | exact HB.out)); (case side2 => exact Kd.R_nil _ _ _ _ _); (case side3 => exact Kd.C_kept_own (Kd.R_types (HO144.out) GH.out (by decide)) (fun k_ hk_ hs_ => hs_.elim (fun hs_ => (fun e_ => by simp [Value.ownBlock] at e_) hs_) hk_.2)); (case side4 => exact (Kd.R_reads' HO144.out).2.1); (case side5 => exact (by with_reducible repeat (first | exact GH.out | refine ghs ?_ (Aside0.out (by assumption)) | refine blk_drewN ?_ _ | refine blk_drew ?_ | refine blk_alloc ?_ _))); (case side6 => exact GHE.out); rintro e w12 ⟨rfl, v146, ho0, gh_, hb, hkp⟩; refine ⟨_, rfl, ?_⟩; have ngh_ := Aside0.mk gh_; clear gh_; have n0_ := Aside0.mk (blk_kept (bk BK140.out) hkp (fun hs_ => hs_.elim (fun hs_ => (fun e_ => by simp [Value.ownBlock] at e_) hs_) (fun e_ => blk_ne BK140.out GH.out (by decide) e_))); have n1_ := Aside0.mk (Kd.R_mono (ok' := fun k_ => True) (Kd.R_keptB (Kd.R_types (HO144.out) GH.out (by decide)) hkp (fun k_ hk_ hs_ => hs_.elim (fun hs_ => (fun e_ => by simp [Value.ownBlock] at e_) hs_) hk_.2)) (fun k_ hk_ => trivial)); have n2_ := Aside0.mk (Kd.R_mono (ok' := fun k_ => True) ho0 (fun k_ hk_ => trivial)); have n3_ := Aside0.mk (hb); clear BK140; clear GH; have GH := ngh_; clear ngh_; clear HO144; clear HB; have BK140 := n0_; have HO144 := n1_; have HO147 := n2_; have HB := n3_; clear n0_ n1_ n2_ n3_; (try clear hb); (try clear hkp); (try clear ho0); obtain ⟨hcz13_0, hcz13_1, hfz13_0, hfz13_1⟩ := cz2 (w := w12) BK140.out))
 go_loopg [27] k (fun kq v27 w' => ∃ (x5_1 : List Int) (x27_1 : Int) (v5 : Value), v27 = .int .i64 x27_1 ∧ Aside0 (cand_Encode.l0 kq x5_1 l0_0 (l0_0.length : Int) x27_1 l0_0 l0_1 = some (r1, r2)) ∧ Aside0 (kq ≤ k) ∧ Aside0 (Kd.R (Kd.int .u8) 5 w' w.heap.size (fun _ => True) v5 x5_1) ∧ Aside0 (w'.heap[gbw]? = some (.cells #[v5] 85 (0, 0))) ∧ Aside0 (w'.heap[gb140]? = some (.cells #[(.slice A0_0 l0_0.length c0_0), (.slice A0_1 l0_1.length c0_1)] 42 (0, 0))) ∧ Aside0 (Below w.heap.size w w'))
 case atStart => exact ⟨(t145), (0), v146, fj, H', ⟨Nat.le_refl _⟩, ⟨by (with_reducible repeat (first | apply Kd.R_alloc | apply Kd.R_drewN | apply Kd.R_drew)); exact HO147.out⟩, ⟨(by with_reducible repeat (first | exact GH.out | refine ghs ?_ (Aside0.out (by assumption)) | refine blk_drewN ?_ _ | refine blk_drew ?_ | refine blk_alloc ?_ _))⟩, ⟨by refine bx ?_; exact BK140.out⟩, ⟨bl⟩⟩
 case round =>
  clear H'
  try clear c2
  try clear p2
  try clear c3
  try clear c3b0
  try clear c3b1
  try clear c4
  try clear hcz13_0 hcz13_1
  try clear hcz6_0 hcz6_1
  try clear hcz8_0 hcz8_1
  try clear hfz13_0 hfz13_1
  try clear hfz6_0 hfz6_1
  try clear hfz8_0 hfz8_1
  obtain ⟨x5_1, x27_1, u5, rfl, HA, HK1, HO_5, GH, BK140, HB⟩ := hrel
  cases gk with
  | zero => exact absurd HA.out (by simp [cand_Encode.l0])
  | succ k1 =>
   have H := HA.out
   clear HA
   simp only [cand_Encode.l0] at H
   by_cases c14 : x27_1 < (l0_0.length : Int)
   rotate_left
   ·rw [if_neg c14] at H
    have c14b0 := decide_eq_false c14
    clear c14
    obtain ⟨y164, hy164⟩ : ∃ y_ : List Int, y_ = (([(l0_1.length : Int)] : List Int)) := ⟨_, rfl⟩
    replace H : ((cand_writer_put.f k1 x5_1 y164).bind fun t167 => (cand_Encode.l2 k1 t167 l0_1 (l0_1.length : Int) 0)) = some (r1, r2) := by first | (rw [hy164]; with_reducible exact H) | (have H2_ := (Option.bind_some _ _).symm.trans H; rw [hy164]; with_reducible exact H2_) | (have H2_ := (Option.bind_some _ _).symm.trans H; with_reducible exact H2_) | with_reducible exact H | (rw [hy164]; exact H) | exact H
    have Ny164 := Aside0.mk hy164
    clear hy164
    replace H := be H
    obtain ⟨t167, A39, H⟩ := H
    have H' := Aside0.mk H
    clear H
    obtain ⟨hcz40_0, hcz40_1, hfz40_0, hfz40_1⟩ := cz2 (w := wr) BK140.out
    go_wp2_with (first | ((with_reducible refine gate_dst (N := 60) rfl ?_); refine Kd.R_lit (Kd.int .i64) _ 3 ?hg (N := 60) ?hd (xs := ([(l0_1.length : Int)] : List Int)) (inner := [.int .i64 (l0_1.length : Int)]) (ok := fun _ => True) (okp := fun _ => True) ?hr ?hp (fun _ hk => hk) trivial (Below.refl _ _) (Nat.le_refl _) (by simp) ?_; (case hd => rfl); (case hg => rfl); (case hr => first | (go_simp; done) | (go_simp; rfl)); (case hp => exact (Reps.one (show Kd.M (Kd.int .i64) _ _ _ (l0_1.length : Int) [.int .i64 (l0_1.length : Int)] from rfl) (Reps.none _ _))); intro v165 w41 ho42 hb hg_ hnew_; have ngh_ := Aside0.mk (blk_below (g := gbw) (o := .cells #[u5] 85 (0, 0)) (by with_reducible repeat (first | exact GH.out | refine ghs ?_ (Aside0.out (by assumption)) | refine blk_drewN ?_ _ | refine blk_drew ?_ | refine blk_alloc ?_ _)) hb); clear GH; have GH := ngh_; clear ngh_; clear hg_ hnew_; (first | rw [← Ny164.out] at ho42 | (simp only [Int.reduceToNat] at ho42; rw [← Ny164.out] at ho42)); have n0_ := Aside0.mk (Kd.R_below (by (with_reducible repeat (first | apply Kd.R_alloc | apply Kd.R_drewN | apply Kd.R_drew)); exact HO_5.out) hb); have n1_ := Aside0.mk (Kd.R_lower ho42 (below_size bl)); have n2_ := Aside0.mk (blk_below (g := gb140) (o := .cells #[.slice A0_0 l0_0.length c0_0, .slice A0_1 l0_1.length c0_1] 42 (0, 0)) (bk BK140.out) hb); have n3_ := Aside0.mk (below_step bl hb); clear HO_5; clear BK140; clear HB; have HO_5 := n0_; have HO166 := n1_; have BK140 := n2_; have HB := n3_; clear n0_ n1_ n2_ n3_; clear hb ho42; obtain ⟨Ao43, co43, eo43⟩ := Kd.R_slice HO_5.out; subst eo43; obtain ⟨Ao44, co44, eo44⟩ := Kd.R_slice HO166.out; subst eo44) | ((with_reducible refine gate_callee (f := 48) rfl ?_); refine goesL_ (some 61) rfl rfl Try.func48 (by kernel_rfl) rfl #[.pointer (some ⟨gbw, 0, none⟩), .slice Ao44 y164.length co44] rfl ga ?_; (with_reducible refine (cand_writer_put.calls k1 (fun k_ => some k_ = (.slice Ao43 x5_1.length co43 : Value).ownBlock) (.slice Ao43 x5_1.length co43) gbw x5_1 _ _ y164 t167 w _ ?side1 ?side2 ?side3 ?side4 ?side5 ?side6 A39.out).mono ?_); (case side1 => repeat (first | (with_reducible first | exact HB.out | apply below_alloc | apply pw_below_drewN | apply below_drew1 | refine below_set ?_ GE140.out) | exact HB.out)); (case side2 => exact Kd.R_tight rfl HO_5.out); (case side3 => exact Kd.C_kept_own (Kd.R_types ((Kd.R_apart' HO166.out (Kd.R_typed HO_5.out) (by decide))) GH.out (by decide)) (fun k_ hk_ hs_ => hs_.elim (fun hs_ => (hk_.1.2) hs_) hk_.2)); (case side4 => exact (Kd.R_reads' HO166.out).2.1); (case side5 => exact (by with_reducible repeat (first | exact GH.out | refine ghs ?_ (Aside0.out (by assumption)) | refine blk_drewN ?_ _ | refine blk_drew ?_ | refine blk_alloc ?_ _))); (case side6 => exact GHE.out); rintro e w45 ⟨rfl, v168, ho0, gh_, hb, hkp⟩; refine ⟨_, rfl, ?_⟩; have ngh_ := Aside0.mk gh_; clear gh_; have n0_ := Aside0.mk (blk_kept (bk BK140.out) hkp (fun hs_ => hs_.elim (fun hs_ => (fun e_ => (Kd.R_ne HO_5.out BK140.out (by decide)) e_) hs_) (fun e_ => blk_ne BK140.out GH.out (by decide) e_))); have n1_ := Aside0.mk (Kd.R_mono (ok' := fun k_ => True) (Kd.R_keptB (Kd.R_types ((Kd.R_apart' HO166.out (Kd.R_typed HO_5.out) (by decide))) GH.out (by decide)) hkp (fun k_ hk_ hs_ => hs_.elim (fun hs_ => (hk_.1.2) hs_) hk_.2)) (fun k_ hk_ => trivial)); have n2_ := Aside0.mk (Kd.R_mono (ok' := fun k_ => True) ho0 (fun k_ hk_ => trivial)); have n3_ := Aside0.mk (hb); clear BK140; clear HO166; clear GH; have GH := ngh_; clear ngh_; clear HB; clear HO_5; have BK140 := n0_; have HO166 := n1_; have HO169 := n2_; have HB := n3_; clear n0_ n1_ n2_ n3_; (try clear hb); (try clear hkp); (try clear ho0); obtain ⟨hcz46_0, hcz46_1, hfz46_0, hfz46_1⟩ := cz2 (w := w45) BK140.out))
    go_loopg [65] k1 (fun kq v65 w' => ∃ (x5_2 : List Int) (x65_2 : Int) (v5 : Value), v65 = .int .i64 x65_2 ∧ Aside0 (cand_Encode.l2 kq x5_2 l0_1 (l0_1.length : Int) x65_2 = some (r1, r2)) ∧ Aside0 (kq ≤ k1) ∧ Aside0 (Kd.R (Kd.int .u8) 5 w' w.heap.size (fun _ => True) v5 x5_2) ∧ Aside0 (w'.heap[gbw]? = some (.cells #[v5] 85 (0, 0))) ∧ Aside0 (w'.heap[gb140]? = some (.cells #[(.slice A0_0 l0_0.length c0_0), (.slice A0_1 l0_1.length c0_1)] 42 (0, 0))) ∧ Aside0 (Below w.heap.size w w'))
    case atStart => exact ⟨(t167), (0), v168, fj, H', ⟨Nat.le_refl _⟩, ⟨by (with_reducible repeat (first | apply Kd.R_alloc | apply Kd.R_drewN | apply Kd.R_drew)); exact HO169.out⟩, ⟨(by with_reducible repeat (first | exact GH.out | refine ghs ?_ (Aside0.out (by assumption)) | refine blk_drewN ?_ _ | refine blk_drew ?_ | refine blk_alloc ?_ _))⟩, ⟨by refine bx ?_; exact BK140.out⟩, ⟨bl⟩⟩
    case round =>
     clear H'
     try clear c1
     try clear p1
     try clear q1
     try clear hx1
     try clear c2
     try clear p2
     try clear c3
     try clear c3b0
     try clear c3b1
     try clear c4
     try clear p6
     try clear c14
     try clear c14b0
     try clear p14
     try clear q14
     try clear hx14
     try clear c15
     try clear c15b0
     try clear p15
     try clear q15
     try clear hx15
     try clear c16
     try clear c16b0
     try clear c23
     try clear c23b0
     try clear c24
     try clear c24b0
     try clear c25
     try clear c25b0
     try clear c29
     try clear hcz13_0 hcz13_1
     try clear hcz30_0 hcz30_1 hcz30_2 hcz30_3 hcz30_4 hcz30_5
     try clear hcz40_0 hcz40_1
     try clear hcz46_0 hcz46_1
     try clear hcz6_0 hcz6_1
     try clear hcz8_0 hcz8_1
     try clear hfz13_0 hfz13_1
     try clear hfz30_0 hfz30_1 hfz30_2 hfz30_3 hfz30_4 hfz30_5
     try clear hfz40_0 hfz40_1
     try clear hfz46_0 hfz46_1
     try clear hfz6_0 hfz6_1
     try clear hfz8_0 hfz8_1
     try clear hx148_0
     try clear hx155_0
     try clear hx155_1
     try clear hx155_2
     try clear hx155_3
     try clear hx155_4
     try clear hx155_5
     try clear p1
     try clear p14
     try clear p148
     try clear p155
     try clear p2
     try clear q1
     try clear q14
     try clear q148
     try clear q155
     obtain ⟨x5_2, x65_2, u5, rfl, HA, HK2, HO_5, GH, BK140, HB⟩ := hrel
     cases gk with
     | zero => exact absurd HA.out (by simp [cand_Encode.l2])
     | succ k2 =>
      have H := HA.out
      clear HA
      simp only [cand_Encode.l2] at H
      by_cases c47 : x65_2 < (l0_1.length : Int)
      rotate_left
      ·rw [if_neg c47] at H
       have c47b0 := decide_eq_false c47
       clear c47
       simp only [Option.some.injEq, Prod.mk.injEq] at H
       obtain ⟨rfl, rfl⟩ := H
       have hcw := (blk_cell GH.out 0).trans (rfl : _ = some u5)
       have hfw := blk_frozen GH.out 0
       go_wp2
       go_ret2
       exact ⟨_, fi, by (with_reducible repeat (first | apply Kd.R_alloc | apply Kd.R_drewN | apply Kd.R_drew)); exact HO_5.out, bl⟩
      rw [if_pos c47] at H
      have c47b0 := decide_eq_true c47
      clear c47
      by_cases c48 : 0 ≤ x65_2
      rotate_left
      ·rw [if_neg c48] at H
       exact absurd H (by simp)
      rw [if_pos c48] at H
      have c48b0 := decide_eq_true c48
      clear c48
      by_cases c49 : x65_2 < (l0_1.length : Int)
      rotate_left
      ·rw [if_neg c49] at H
       exact absurd H (by simp)
      rw [if_pos c49] at H
      have c49b0 := decide_eq_true c49
      clear c49
      obtain ⟨y172, hy172⟩ : ∃ y_ : List Int, y_ = (([(rd_T70 l0_1 x65_2).f0, (((rd_T70 l0_1 x65_2).f1).length : Int)] : List Int)) := ⟨_, rfl⟩
      replace H : ((cand_writer_put.f k2 x5_2 y172).bind fun t175 => (cand_Encode.l3 k2 t175 l0_1 (l0_1.length : Int) x65_2 ((rd_T70 l0_1 x65_2).f1) (((rd_T70 l0_1 x65_2).f1).length : Int) 0)) = some (r1, r2) := by first | (rw [hy172]; with_reducible exact H) | (have H2_ := (Option.bind_some _ _).symm.trans H; rw [hy172]; with_reducible exact H2_) | (have H2_ := (Option.bind_some _ _).symm.trans H; with_reducible exact H2_) | with_reducible exact H | (rw [hy172]; exact H) | exact H
      have Ny172 := Aside0.mk hy172
      clear hy172
      replace H := be H
      obtain ⟨t175, A50, H⟩ := H
      have H' := Aside0.mk H
      clear H
      have p170 : 0 ≤ (x65_2 : Int) := od
      have q170 : x65_2 < (l0_1.length : Int) := od
      obtain ⟨ad170, A170_1, c170_1, e170, hx170_0, hx170_1, hl170_1, hi170_1⟩ := at_T70 HR0_1.out x65_2 p170 q170
      cases e170
      replace hx170_0 := cb HB.out hx170_0
      replace hx170_1 := cb HB.out hx170_1
      have HR170_1 := Aside0.mk hi170_1
      have HC170_1 := Aside0.mk hl170_1
      clear hi170_1 hl170_1
      replace p170 := eq_true p170
      replace q170 := eq_true q170
      go_wp2_with (first | ((with_reducible refine gate_dst (N := 11) rfl ?_); refine bv 11 #[.int .i64 0, .slice none 0 0] 70 ?_; intro gb171 hg w51 hbox hb; have NW171 := Aside0.mk ((by rw [hg]; exact Nat.ne_of_lt (blk_lt (g := gbw) (o := .cells #[u5] 85 (0, 0)) (by with_reducible repeat (first | exact GH.out | refine ghs ?_ (Aside0.out (by assumption)) | refine blk_drewN ?_ _ | refine blk_drew ?_ | refine blk_alloc ?_ _)))) : gbw ≠ gb171); have ngh_ := Aside0.mk (blk_below (g := gbw) (o := .cells #[u5] 85 (0, 0)) (by with_reducible repeat (first | exact GH.out | refine ghs ?_ (Aside0.out (by assumption)) | refine blk_drewN ?_ _ | refine blk_drew ?_ | refine blk_alloc ?_ _)) hb); clear GH; have GH := ngh_; clear ngh_; have n0_ := Aside0.mk (Kd.R_below (by (with_reducible repeat (first | apply Kd.R_alloc | apply Kd.R_drewN | apply Kd.R_drew)); exact HO_5.out) hb); have n1_ := Aside0.mk (blk_below (g := gb140) (o := .cells #[.slice A0_0 l0_0.length c0_0, .slice (some ad170) l0_1.length c0_1] 42 (0, 0)) (bk BK140.out) hb); have n2_ := Aside0.mk (below_step bl hb); have n3_ := Aside0.mk (hbox); have n4_ := Aside0.mk ((by rw [hg]; exact (below_size bl) : w.heap.size ≤ gb171)); have n5_ := Aside0.mk ((by rw [hg]; exact (below_size bl) : w.heap.size ≤ gb171)); have n6_ := Aside0.mk ((nl hg (bk BK140.out) : gb140 ≠ gb171)); have n7_ := Aside0.mk ((ng hg (bk BK140.out) : gb171 ≠ gb140)); clear HO_5; clear BK140; clear HB; have HO_5 := n0_; have BK140 := n1_; have HB := n2_; have BK171 := n3_; have GW171 := n4_; have GE171 := n5_; have NB140_171 := n6_; have NB171_140 := n7_; clear n0_ n1_ n2_ n3_ n4_ n5_ n6_ n7_; clear hb hbox hg; have hnb52 := NB171_140.out; have hnc52 := NB140_171.out; obtain ⟨hcz53_0, hcz53_1, hfz53_0, hfz53_1⟩ := cz2 (w := w51) BK171.out) | ((with_reducible refine gate_dst (N := 74) rfl ?_); refine Kd.R_lit (Kd.int .i64) _ 3 ?hg (N := 74) ?hd (xs := ([(rd_T70 l0_1 x65_2).f0, (((rd_T70 l0_1 x65_2).f1).length : Int)] : List Int)) (inner := [.int .i64 ((rd_T70 l0_1 x65_2).f0), .int .i64 (((rd_T70 l0_1 x65_2).f1).length : Int)]) (ok := fun _ => True) (okp := fun _ => True) ?hr ?hp (fun _ hk => hk) trivial (Below.refl _ _) (Nat.le_refl _) (by simp) ?_; (case hd => rfl); (case hg => rfl); (case hr => first | (go_simp; done) | (go_simp; rfl)); (case hp => exact (Reps.one (show Kd.M (Kd.int .i64) _ _ _ ((rd_T70 l0_1 x65_2).f0) [.int .i64 ((rd_T70 l0_1 x65_2).f0)] from rfl) (Reps.one (show Kd.M (Kd.int .i64) _ _ _ (((rd_T70 l0_1 x65_2).f1).length : Int) [.int .i64 (((rd_T70 l0_1 x65_2).f1).length : Int)] from rfl) (Reps.none _ _)))); intro v173 w54 ho55 hb hg_ hnew_; have ngh_ := Aside0.mk (blk_below (g := gbw) (o := .cells #[u5] 85 (0, 0)) (by with_reducible repeat (first | exact GH.out | refine ghs ?_ (Aside0.out (by assumption)) | refine blk_drewN ?_ _ | refine blk_drew ?_ | refine blk_alloc ?_ _)) hb); clear GH; have GH := ngh_; clear ngh_; clear hg_ hnew_; (first | rw [← Ny172.out] at ho55 | (simp only [Int.reduceToNat] at ho55; rw [← Ny172.out] at ho55)); have n0_ := Aside0.mk (Kd.R_below (by (with_reducible repeat (first | apply Kd.R_alloc | apply Kd.R_drewN | apply Kd.R_drew)); exact (Kd.R_mono (Kd.R_far (p := ⟨gb171, 1, none⟩) (Kd.R_far (p := ⟨gb171, 0, none⟩) (Kd.R_types HO_5.out BK171.out (by decide)) (fun _ hk => hk.2) (.int .i64 ((rd_T70 l0_1 x65_2).f0))) (fun _ hk => hk.2) (.slice A170_1 ((rd_T70 l0_1 x65_2).f1).length c170_1)) (fun _ h_ => h_.1))) hb); have n1_ := Aside0.mk (Kd.R_lower ho55 (below_size bl)); have n2_ := Aside0.mk (blk_below (g := gb140) (o := .cells #[.slice A0_0 l0_0.length c0_0, .slice (some ad170) l0_1.length c0_1] 42 (0, 0)) (by refine bx ?_; refine blk_far ?_ NB140_171.out _; refine bx ?_; refine blk_far ?_ NB140_171.out _; refine bx ?_; exact BK140.out) hb); have n3_ := Aside0.mk (blk_below (g := gb171) (o := .cells #[.int .i64 ((rd_T70 l0_1 x65_2).f0), .slice A170_1 ((rd_T70 l0_1 x65_2).f1).length c170_1] 70 (0, 0)) (by refine bx ?_; refine blk_put (cs := #[.int .i64 ((rd_T70 l0_1 x65_2).f0), .slice none 0 0]) ?_ 1 _ rfl; refine bx ?_; refine blk_put (cs := #[.int .i64 0, .slice none 0 0]) ?_ 0 _ rfl; refine bx ?_; exact BK171.out) hb); have n4_ := Aside0.mk (below_step bl hb); clear HO_5; clear BK140; clear BK171; clear HB; have HO_5 := n0_; have HO174 := n1_; have BK140 := n2_; have BK171 := n3_; have HB := n4_; clear n0_ n1_ n2_ n3_ n4_; clear hb ho55; obtain ⟨Ao56, co56, eo56⟩ := Kd.R_slice HO_5.out; subst eo56; obtain ⟨Ao57, co57, eo57⟩ := Kd.R_slice HO174.out; subst eo57) | ((with_reducible refine gate_callee (f := 48) rfl ?_); refine goesL_ (some 75) rfl rfl Try.func48 (by kernel_rfl) rfl #[.pointer (some ⟨gbw, 0, none⟩), .slice Ao57 y172.length co57] rfl ga ?_; (with_reducible refine (cand_writer_put.calls k2 (fun k_ => some k_ = (.slice Ao56 x5_2.length co56 : Value).ownBlock) (.slice Ao56 x5_2.length co56) gbw x5_2 _ _ y172 t175 w _ ?side1 ?side2 ?side3 ?side4 ?side5 ?side6 A50.out).mono ?_); (case side1 => repeat (first | (with_reducible first | exact HB.out | apply below_alloc | apply pw_below_drewN | apply below_drew1 | refine below_set ?_ GE140.out | refine below_set ?_ GE171.out) | exact HB.out)); (case side2 => exact Kd.R_tight rfl HO_5.out); (case side3 => exact Kd.C_kept_own (Kd.R_types ((Kd.R_apart' HO174.out (Kd.R_typed HO_5.out) (by decide))) GH.out (by decide)) (fun k_ hk_ hs_ => hs_.elim (fun hs_ => (hk_.1.2) hs_) hk_.2)); (case side4 => exact (Kd.R_reads' HO174.out).2.1); (case side5 => exact (by with_reducible repeat (first | exact GH.out | refine ghs ?_ (Aside0.out (by assumption)) | refine blk_drewN ?_ _ | refine blk_drew ?_ | refine blk_alloc ?_ _))); (case side6 => exact GHE.out); rintro e w58 ⟨rfl, v176, ho0, gh_, hb, hkp⟩; refine ⟨_, rfl, ?_⟩; have ngh_ := Aside0.mk gh_; clear gh_; have n0_ := Aside0.mk (blk_kept (bk BK140.out) hkp (fun hs_ => hs_.elim (fun hs_ => (fun e_ => (Kd.R_ne HO_5.out BK140.out (by decide)) e_) hs_) (fun e_ => blk_ne BK140.out GH.out (by decide) e_))); have n1_ := Aside0.mk (blk_kept (bk BK171.out) hkp (fun hs_ => hs_.elim (fun hs_ => (fun e_ => (Kd.R_ne HO_5.out BK171.out (by decide)) e_) hs_) (fun e_ => blk_ne BK171.out GH.out (by decide) e_))); have n2_ := Aside0.mk (Kd.R_mono (ok' := fun k_ => True) (Kd.R_keptB (Kd.R_types ((Kd.R_apart' HO174.out (Kd.R_typed HO_5.out) (by decide))) GH.out (by decide)) hkp (fun k_ hk_ hs_ => hs_.elim (fun hs_ => (hk_.1.2) hs_) hk_.2)) (fun k_ hk_ => trivial)); have n3_ := Aside0.mk (Kd.R_mono (ok' := fun k_ => True) ho0 (fun k_ hk_ => trivial)); have n4_ := Aside0.mk (hb); clear BK140; clear BK171; clear HO174; clear GH; have GH := ngh_; clear ngh_; clear HB; clear HO_5; have BK140 := n0_; have BK171 := n1_; have HO174 := n2_; have HO177 := n3_; have HB := n4_; clear n0_ n1_ n2_ n3_ n4_; (try clear hb); (try clear hkp); (try clear ho0); obtain ⟨hcz59_0, hcz59_1, hfz59_0, hfz59_1⟩ := cz2 (w := w58) BK171.out))
      go_loopg [79] k2 (fun kq v79 w' => ∃ (x5_3 : List Int) (x79_3 : Int) (v5 : Value), v79 = .int .i64 x79_3 ∧ Aside0 (cand_Encode.l3 kq x5_3 l0_1 (l0_1.length : Int) x65_2 ((rd_T70 l0_1 x65_2).f1) (((rd_T70 l0_1 x65_2).f1).length : Int) x79_3 = some (r1, r2)) ∧ Aside0 (kq ≤ k2) ∧ Aside0 (Kd.R (Kd.int .u8) 5 w' w.heap.size (fun _ => True) v5 x5_3) ∧ Aside0 (w'.heap[gbw]? = some (.cells #[v5] 85 (0, 0))) ∧ Aside0 (w'.heap[gb140]? = some (.cells #[(.slice A0_0 l0_0.length c0_0), (.slice (some ad170) l0_1.length c0_1)] 42 (0, 0))) ∧ Aside0 (w'.heap[gb171]? = some (.cells #[.int .i64 ((rd_T70 l0_1 x65_2).f0), (.slice A170_1 ((rd_T70 l0_1 x65_2).f1).length c170_1)] 70 (0, 0))) ∧ Aside0 (Below w.heap.size w w'))
      case atStart => exact ⟨(t175), (0), v176, fj, H', ⟨Nat.le_refl _⟩, ⟨by (with_reducible repeat (first | apply Kd.R_alloc | apply Kd.R_drewN | apply Kd.R_drew)); exact HO177.out⟩, ⟨(by with_reducible repeat (first | exact GH.out | refine ghs ?_ (Aside0.out (by assumption)) | refine blk_drewN ?_ _ | refine blk_drew ?_ | refine blk_alloc ?_ _))⟩, ⟨by refine bx ?_; exact BK140.out⟩, ⟨by refine bx ?_; exact BK171.out⟩, ⟨bl⟩⟩
      case round =>
       clear H'
       try clear c1
       try clear p1
       try clear q1
       try clear hx1
       try clear c2
       try clear p2
       try clear c3
       try clear c3b0
       try clear c3b1
       try clear c4
       try clear c5
       try clear p6
       try clear c14
       try clear c14b0
       try clear p14
       try clear q14
       try clear hx14
       try clear c15
       try clear c15b0
       try clear p15
       try clear q15
       try clear hx15
       try clear c16
       try clear c16b0
       try clear c17
       try clear p17
       try clear q17
       try clear hx17
       try clear c23
       try clear c23b0
       try clear c24
       try clear c24b0
       try clear c25
       try clear c25b0
       try clear c29
       try clear c47
       try clear c47b0
       try clear c48
       try clear c48b0
       try clear c49
       try clear c49b0
       try clear c52
       try clear hcz13_0 hcz13_1
       try clear hcz30_0 hcz30_1 hcz30_2 hcz30_3 hcz30_4 hcz30_5
       try clear hcz40_0 hcz40_1
       try clear hcz46_0 hcz46_1
       try clear hcz53_0 hcz53_1
       try clear hcz59_0 hcz59_1
       try clear hcz6_0 hcz6_1
       try clear hcz8_0 hcz8_1
       try clear hfz13_0 hfz13_1
       try clear hfz30_0 hfz30_1 hfz30_2 hfz30_3 hfz30_4 hfz30_5
       try clear hfz40_0 hfz40_1
       try clear hfz46_0 hfz46_1
       try clear hfz53_0 hfz53_1
       try clear hfz59_0 hfz59_1
       try clear hfz6_0 hfz6_1
       try clear hfz8_0 hfz8_1
       try clear hx148_0
       try clear hx155_0
       try clear hx155_1
       try clear hx155_2
       try clear hx155_3
       try clear hx155_4
       try clear hx155_5
       try clear hx170_0
       try clear hx170_1
       try clear p1
       try clear p14
       try clear p148
       try clear p15
       try clear p155
       try clear p170
       try clear p2
       try clear p6
       try clear q1
       try clear q14
       try clear q148
       try clear q15
       try clear q155
       try clear q170
       obtain ⟨x5_3, x79_3, u5, rfl, HA, HK3, HO_5, GH, BK140, BK171, HB⟩ := hrel
       cases gk with
       | zero => exact absurd HA.out (by simp [cand_Encode.l3])
       | succ k3 =>
        have H := HA.out
        clear HA
        simp only [cand_Encode.l3] at H
        by_cases c60 : x79_3 < (((rd_T70 l0_1 x65_2).f1).length : Int)
        rotate_left
        ·rw [if_neg c60] at H
         have c60b0 := decide_eq_false c60
         clear c60
         have H' := Aside0.mk H
         clear H
         go_wp2
         go_roundg k3
         case measure => have := HK1.out; have := HK2.out; have := HK3.out; omega
         case rel => exact ⟨(x5_3), (wrap64 (x65_2 + 1)), u5, fj, H', ⟨by have := HK1.out; have := HK2.out; have := HK3.out; omega⟩, ⟨by (with_reducible repeat (first | apply Kd.R_alloc | apply Kd.R_drewN | apply Kd.R_drew)); exact HO_5.out⟩, ⟨(by with_reducible repeat (first | exact GH.out | refine ghs ?_ (Aside0.out (by assumption)) | refine blk_drewN ?_ _ | refine blk_drew ?_ | refine blk_alloc ?_ _))⟩, ⟨by refine bx ?_; exact BK140.out⟩, ⟨bl⟩⟩
        rw [if_pos c60] at H
        have c60b0 := decide_eq_true c60
        clear c60
        by_cases c61 : 0 ≤ x79_3
        rotate_left
        ·rw [if_neg c61] at H
         exact absurd H (by simp)
        rw [if_pos c61] at H
        have c61b0 := decide_eq_true c61
        clear c61
        by_cases c62 : x79_3 < (((rd_T70 l0_1 x65_2).f1).length : Int)
        rotate_left
        ·rw [if_neg c62] at H
         exact absurd H (by simp)
        rw [if_pos c62] at H
        have c62b0 := decide_eq_true c62
        clear c62
        obtain ⟨y180, hy180⟩ : ∃ y_ : List Int, y_ = (([(rd_T73 ((rd_T70 l0_1 x65_2).f1) x79_3).f0, (rd_T73 ((rd_T70 l0_1 x65_2).f1) x79_3).f1] : List Int)) := ⟨_, rfl⟩
        replace H : ((cand_writer_put.f k3 x5_3 y180).bind fun t183 => (cand_Encode.l3 k3 t183 l0_1 (l0_1.length : Int) x65_2 ((rd_T70 l0_1 x65_2).f1) (((rd_T70 l0_1 x65_2).f1).length : Int) (wrap64 (x79_3 + 1)))) = some (r1, r2) := by first | (rw [hy180]; with_reducible exact H) | (have H2_ := (Option.bind_some _ _).symm.trans H; rw [hy180]; with_reducible exact H2_) | (have H2_ := (Option.bind_some _ _).symm.trans H; with_reducible exact H2_) | with_reducible exact H | (rw [hy180]; exact H) | exact H
        have Ny180 := Aside0.mk hy180
        clear hy180
        replace H := be H
        obtain ⟨t183, A63, H⟩ := H
        have H' := Aside0.mk H
        clear H
        have p178 : 0 ≤ (x79_3 : Int) := od
        have q178 : x79_3 < (((rd_T70 l0_1 x65_2).f1).length : Int) := od
        obtain ⟨ad178, e178, hx178_0, hx178_1⟩ := at_T73 HR170_1.out x79_3 p178 q178
        cases e178
        replace hx178_0 := cb HB.out hx178_0
        replace hx178_1 := cb HB.out hx178_1
        replace p178 := eq_true p178
        replace q178 := eq_true q178
        go_wp2_with (first | ((with_reducible refine gate_dst (N := 13) rfl ?_); refine bv 13 #[.int .i64 0, .int .i64 0] 73 ?_; intro gb179 hg w64 hbox hb; have NW179 := Aside0.mk ((by rw [hg]; exact Nat.ne_of_lt (blk_lt (g := gbw) (o := .cells #[u5] 85 (0, 0)) (by with_reducible repeat (first | exact GH.out | refine ghs ?_ (Aside0.out (by assumption)) | refine blk_drewN ?_ _ | refine blk_drew ?_ | refine blk_alloc ?_ _)))) : gbw ≠ gb179); have ngh_ := Aside0.mk (blk_below (g := gbw) (o := .cells #[u5] 85 (0, 0)) (by with_reducible repeat (first | exact GH.out | refine ghs ?_ (Aside0.out (by assumption)) | refine blk_drewN ?_ _ | refine blk_drew ?_ | refine blk_alloc ?_ _)) hb); clear GH; have GH := ngh_; clear ngh_; have n0_ := Aside0.mk (Kd.R_below (by (with_reducible repeat (first | apply Kd.R_alloc | apply Kd.R_drewN | apply Kd.R_drew)); exact HO_5.out) hb); have n1_ := Aside0.mk (blk_below (g := gb140) (o := .cells #[.slice A0_0 l0_0.length c0_0, .slice (some ad170) l0_1.length c0_1] 42 (0, 0)) (bk BK140.out) hb); have n2_ := Aside0.mk (blk_below (g := gb171) (o := .cells #[.int .i64 ((rd_T70 l0_1 x65_2).f0), .slice (some ad178) ((rd_T70 l0_1 x65_2).f1).length c170_1] 70 (0, 0)) (bk BK171.out) hb); have n3_ := Aside0.mk (below_step bl hb); have n4_ := Aside0.mk (hbox); have n5_ := Aside0.mk ((by rw [hg]; exact (below_size bl) : w.heap.size ≤ gb179)); have n6_ := Aside0.mk ((by rw [hg]; exact (below_size bl) : w.heap.size ≤ gb179)); have n7_ := Aside0.mk ((nl hg (bk BK140.out) : gb140 ≠ gb179)); have n8_ := Aside0.mk ((ng hg (bk BK140.out) : gb179 ≠ gb140)); have n9_ := Aside0.mk ((nl hg (bk BK171.out) : gb171 ≠ gb179)); have n10_ := Aside0.mk ((ng hg (bk BK171.out) : gb179 ≠ gb171)); clear HO_5; clear BK140; clear BK171; clear HB; have HO_5 := n0_; have BK140 := n1_; have BK171 := n2_; have HB := n3_; have BK179 := n4_; have GW179 := n5_; have GE179 := n6_; have NB140_179 := n7_; have NB179_140 := n8_; have NB171_179 := n9_; have NB179_171 := n10_; clear n0_ n1_ n2_ n3_ n4_ n5_ n6_ n7_ n8_ n9_ n10_; clear hb hbox hg; have hnb65 := NB179_140.out; have hnc65 := NB140_179.out; have hnb66 := NB179_171.out; have hnc66 := NB171_179.out; obtain ⟨hcz67_0, hcz67_1, hfz67_0, hfz67_1⟩ := cz2 (w := w64) BK179.out) | ((with_reducible refine gate_dst (N := 87) rfl ?_); refine Kd.R_lit (Kd.int .i64) _ 3 ?hg (N := 87) ?hd (xs := ([(rd_T73 ((rd_T70 l0_1 x65_2).f1) x79_3).f0, (rd_T73 ((rd_T70 l0_1 x65_2).f1) x79_3).f1] : List Int)) (inner := [.int .i64 ((rd_T73 ((rd_T70 l0_1 x65_2).f1) x79_3).f0), .int .i64 ((rd_T73 ((rd_T70 l0_1 x65_2).f1) x79_3).f1)]) (ok := fun _ => True) (okp := fun _ => True) ?hr ?hp (fun _ hk => hk) trivial (Below.refl _ _) (Nat.le_refl _) (by simp) ?_; (case hd => rfl); (case hg => rfl); (case hr => first | (go_simp; done) | (go_simp; rfl)); (case hp => exact (Reps.one (show Kd.M (Kd.int .i64) _ _ _ ((rd_T73 ((rd_T70 l0_1 x65_2).f1) x79_3).f0) [.int .i64 ((rd_T73 ((rd_T70 l0_1 x65_2).f1) x79_3).f0)] from rfl) (Reps.one (show Kd.M (Kd.int .i64) _ _ _ ((rd_T73 ((rd_T70 l0_1 x65_2).f1) x79_3).f1) [.int .i64 ((rd_T73 ((rd_T70 l0_1 x65_2).f1) x79_3).f1)] from rfl) (Reps.none _ _)))); intro v181 w68 ho69 hb hg_ hnew_; have ngh_ := Aside0.mk (blk_below (g := gbw) (o := .cells #[u5] 85 (0, 0)) (by with_reducible repeat (first | exact GH.out | refine ghs ?_ (Aside0.out (by assumption)) | refine blk_drewN ?_ _ | refine blk_drew ?_ | refine blk_alloc ?_ _)) hb); clear GH; have GH := ngh_; clear ngh_; clear hg_ hnew_; (first | rw [← Ny180.out] at ho69 | (simp only [Int.reduceToNat] at ho69; rw [← Ny180.out] at ho69)); have n0_ := Aside0.mk (Kd.R_below (by (with_reducible repeat (first | apply Kd.R_alloc | apply Kd.R_drewN | apply Kd.R_drew)); exact (Kd.R_mono (Kd.R_far (p := ⟨gb179, 1, none⟩) (Kd.R_far (p := ⟨gb179, 0, none⟩) (Kd.R_types HO_5.out BK179.out (by decide)) (fun _ hk => hk.2) (.int .i64 ((rd_T73 ((rd_T70 l0_1 x65_2).f1) x79_3).f0))) (fun _ hk => hk.2) (.int .i64 ((rd_T73 ((rd_T70 l0_1 x65_2).f1) x79_3).f1))) (fun _ h_ => h_.1))) hb); have n1_ := Aside0.mk (Kd.R_lower ho69 (below_size bl)); have n2_ := Aside0.mk (blk_below (g := gb140) (o := .cells #[.slice A0_0 l0_0.length c0_0, .slice (some ad170) l0_1.length c0_1] 42 (0, 0)) (by refine bx ?_; refine blk_far ?_ NB140_179.out _; refine bx ?_; refine blk_far ?_ NB140_179.out _; refine bx ?_; exact BK140.out) hb); have n3_ := Aside0.mk (blk_below (g := gb171) (o := .cells #[.int .i64 ((rd_T70 l0_1 x65_2).f0), .slice (some ad178) ((rd_T70 l0_1 x65_2).f1).length c170_1] 70 (0, 0)) (by refine bx ?_; refine blk_far ?_ NB171_179.out _; refine bx ?_; refine blk_far ?_ NB171_179.out _; refine bx ?_; exact BK171.out) hb); have n4_ := Aside0.mk (blk_below (g := gb179) (o := .cells #[.int .i64 ((rd_T73 ((rd_T70 l0_1 x65_2).f1) x79_3).f0), .int .i64 ((rd_T73 ((rd_T70 l0_1 x65_2).f1) x79_3).f1)] 73 (0, 0)) (by refine bx ?_; refine blk_put (cs := #[.int .i64 ((rd_T73 ((rd_T70 l0_1 x65_2).f1) x79_3).f0), .int .i64 0]) ?_ 1 _ rfl; refine bx ?_; refine blk_put (cs := #[.int .i64 0, .int .i64 0]) ?_ 0 _ rfl; refine bx ?_; exact BK179.out) hb); have n5_ := Aside0.mk (below_step bl hb); clear HO_5; clear BK140; clear BK171; clear BK179; clear HB; have HO_5 := n0_; have HO182 := n1_; have BK140 := n2_; have BK171 := n3_; have BK179 := n4_; have HB := n5_; clear n0_ n1_ n2_ n3_ n4_ n5_; clear hb ho69; obtain ⟨Ao70, co70, eo70⟩ := Kd.R_slice HO_5.out; subst eo70; obtain ⟨Ao71, co71, eo71⟩ := Kd.R_slice HO182.out; subst eo71) | ((with_reducible refine gate_callee (f := 48) rfl ?_); refine goesL_ (some 88) rfl rfl Try.func48 (by kernel_rfl) rfl #[.pointer (some ⟨gbw, 0, none⟩), .slice Ao71 y180.length co71] rfl ga ?_; (with_reducible refine (cand_writer_put.calls k3 (fun k_ => some k_ = (.slice Ao70 x5_3.length co70 : Value).ownBlock) (.slice Ao70 x5_3.length co70) gbw x5_3 _ _ y180 t183 w _ ?side1 ?side2 ?side3 ?side4 ?side5 ?side6 A63.out).mono ?_); (case side1 => repeat (first | (with_reducible first | exact HB.out | apply below_alloc | apply pw_below_drewN | apply below_drew1 | refine below_set ?_ GE140.out | refine below_set ?_ GE171.out | refine below_set ?_ GE179.out) | exact HB.out)); (case side2 => exact Kd.R_tight rfl HO_5.out); (case side3 => exact Kd.C_kept_own (Kd.R_types ((Kd.R_apart' HO182.out (Kd.R_typed HO_5.out) (by decide))) GH.out (by decide)) (fun k_ hk_ hs_ => hs_.elim (fun hs_ => (hk_.1.2) hs_) hk_.2)); (case side4 => exact (Kd.R_reads' HO182.out).2.1); (case side5 => exact (by with_reducible repeat (first | exact GH.out | refine ghs ?_ (Aside0.out (by assumption)) | refine blk_drewN ?_ _ | refine blk_drew ?_ | refine blk_alloc ?_ _))); (case side6 => exact GHE.out); rintro e w72 ⟨rfl, v184, ho0, gh_, hb, hkp⟩; refine ⟨_, rfl, ?_⟩; have ngh_ := Aside0.mk gh_; clear gh_; have n0_ := Aside0.mk (blk_kept (bk BK140.out) hkp (fun hs_ => hs_.elim (fun hs_ => (fun e_ => (Kd.R_ne HO_5.out BK140.out (by decide)) e_) hs_) (fun e_ => blk_ne BK140.out GH.out (by decide) e_))); have n1_ := Aside0.mk (blk_kept (bk BK171.out) hkp (fun hs_ => hs_.elim (fun hs_ => (fun e_ => (Kd.R_ne HO_5.out BK171.out (by decide)) e_) hs_) (fun e_ => blk_ne BK171.out GH.out (by decide) e_))); have n2_ := Aside0.mk (blk_kept (bk BK179.out) hkp (fun hs_ => hs_.elim (fun hs_ => (fun e_ => (Kd.R_ne HO_5.out BK179.out (by decide)) e_) hs_) (fun e_ => blk_ne BK179.out GH.out (by decide) e_))); have n3_ := Aside0.mk (Kd.R_mono (ok' := fun k_ => True) (Kd.R_keptB (Kd.R_types ((Kd.R_apart' HO182.out (Kd.R_typed HO_5.out) (by decide))) GH.out (by decide)) hkp (fun k_ hk_ hs_ => hs_.elim (fun hs_ => (hk_.1.2) hs_) hk_.2)) (fun k_ hk_ => trivial)); have n4_ := Aside0.mk (Kd.R_mono (ok' := fun k_ => True) ho0 (fun k_ hk_ => trivial)); have n5_ := Aside0.mk (hb); clear BK140; clear BK171; clear BK179; clear HO182; clear GH; have GH := ngh_; clear ngh_; clear HB; clear HO_5; have BK140 := n0_; have BK171 := n1_; have BK179 := n2_; have HO182 := n3_; have HO185 := n4_; have HB := n5_; clear n0_ n1_ n2_ n3_ n4_ n5_; (try clear hb); (try clear hkp); (try clear ho0)))
        go_roundg k3
        case measure => have := HK1.out; have := HK2.out; have := HK3.out; omega
        case rel => exact ⟨(t183), (wrap64 (x79_3 + 1)), v184, fj, H', ⟨by have := HK1.out; have := HK2.out; have := HK3.out; omega⟩, ⟨by (with_reducible repeat (first | apply Kd.R_alloc | apply Kd.R_drewN | apply Kd.R_drew)); exact HO185.out⟩, ⟨(by with_reducible repeat (first | exact GH.out | refine ghs ?_ (Aside0.out (by assumption)) | refine blk_drewN ?_ _ | refine blk_drew ?_ | refine blk_alloc ?_ _))⟩, ⟨by refine bx ?_; exact BK140.out⟩, ⟨by refine bx ?_; exact BK171.out⟩, ⟨bl⟩⟩
   rw [if_pos c14] at H
   have c14b0 := decide_eq_true c14
   clear c14
   by_cases c15 : 0 ≤ x27_1
   rotate_left
   ·rw [if_neg c15] at H
    exact absurd H (by simp)
   rw [if_pos c15] at H
   have c15b0 := decide_eq_true c15
   clear c15
   by_cases c16 : x27_1 < (l0_0.length : Int)
   rotate_left
   ·rw [if_neg c16] at H
    exact absurd H (by simp)
   rw [if_pos c16] at H
   have c16b0 := decide_eq_true c16
   clear c16
   obtain ⟨y149, hy149⟩ : ∃ y_ : List Int, y_ = (([((rd_L5 l0_0 x27_1).length : Int)] : List Int)) := ⟨_, rfl⟩
   replace H : ((cand_writer_put.f k1 x5_1 y149).bind fun t152 => (cand_Encode.l1 k1 t152 l0_0 (l0_0.length : Int) x27_1 (rd_L5 l0_0 x27_1) ((rd_L5 l0_0 x27_1).length : Int) 0 l0_0 l0_1)) = some (r1, r2) := by first | (rw [hy149]; with_reducible exact H) | (have H2_ := (Option.bind_some _ _).symm.trans H; rw [hy149]; with_reducible exact H2_) | (have H2_ := (Option.bind_some _ _).symm.trans H; with_reducible exact H2_) | with_reducible exact H | (rw [hy149]; exact H) | exact H
   have Ny149 := Aside0.mk hy149
   clear hy149
   replace H := be H
   obtain ⟨t152, A17, H⟩ := H
   have H' := Aside0.mk H
   clear H
   have p148 : 0 ≤ (x27_1 : Int) := od
   have q148 : x27_1 < (l0_0.length : Int) := od
   obtain ⟨ad148, A148_0, c148_0, e148, hx148_0, hl148_0, hi148_0⟩ := at_L5 HR0_0.out x27_1 p148 q148
   cases e148
   replace hx148_0 := cb HB.out hx148_0
   have HR148_0 := Aside0.mk hi148_0
   have HC148_0 := Aside0.mk hl148_0
   clear hi148_0 hl148_0
   replace p148 := eq_true p148
   replace q148 := eq_true q148
   go_wp2_with (first | ((with_reducible refine gate_dst (N := 33) rfl ?_); refine Kd.R_lit (Kd.int .i64) _ 3 ?hg (N := 33) ?hd (xs := ([((rd_L5 l0_0 x27_1).length : Int)] : List Int)) (inner := [.int .i64 ((rd_L5 l0_0 x27_1).length : Int)]) (ok := fun _ => True) (okp := fun _ => True) ?hr ?hp (fun _ hk => hk) trivial (Below.refl _ _) (Nat.le_refl _) (by simp) ?_; (case hd => rfl); (case hg => rfl); (case hr => first | (go_simp; done) | (go_simp; rfl)); (case hp => exact (Reps.one (show Kd.M (Kd.int .i64) _ _ _ ((rd_L5 l0_0 x27_1).length : Int) [.int .i64 ((rd_L5 l0_0 x27_1).length : Int)] from rfl) (Reps.none _ _))); intro v150 w18 ho19 hb hg_ hnew_; have ngh_ := Aside0.mk (blk_below (g := gbw) (o := .cells #[u5] 85 (0, 0)) (by with_reducible repeat (first | exact GH.out | refine ghs ?_ (Aside0.out (by assumption)) | refine blk_drewN ?_ _ | refine blk_drew ?_ | refine blk_alloc ?_ _)) hb); clear GH; have GH := ngh_; clear ngh_; clear hg_ hnew_; (first | rw [← Ny149.out] at ho19 | (simp only [Int.reduceToNat] at ho19; rw [← Ny149.out] at ho19)); have n0_ := Aside0.mk (Kd.R_below (by (with_reducible repeat (first | apply Kd.R_alloc | apply Kd.R_drewN | apply Kd.R_drew)); exact HO_5.out) hb); have n1_ := Aside0.mk (Kd.R_lower ho19 (below_size bl)); have n2_ := Aside0.mk (blk_below (g := gb140) (o := .cells #[.slice (some ad148) l0_0.length c0_0, .slice A0_1 l0_1.length c0_1] 42 (0, 0)) (bk BK140.out) hb); have n3_ := Aside0.mk (below_step bl hb); clear HO_5; clear BK140; clear HB; have HO_5 := n0_; have HO151 := n1_; have BK140 := n2_; have HB := n3_; clear n0_ n1_ n2_ n3_; clear hb ho19; obtain ⟨Ao20, co20, eo20⟩ := Kd.R_slice HO_5.out; subst eo20; obtain ⟨Ao21, co21, eo21⟩ := Kd.R_slice HO151.out; subst eo21) | ((with_reducible refine gate_callee (f := 48) rfl ?_); refine goesL_ (some 34) rfl rfl Try.func48 (by kernel_rfl) rfl #[.pointer (some ⟨gbw, 0, none⟩), .slice Ao21 y149.length co21] rfl ga ?_; (with_reducible refine (cand_writer_put.calls k1 (fun k_ => some k_ = (.slice Ao20 x5_1.length co20 : Value).ownBlock) (.slice Ao20 x5_1.length co20) gbw x5_1 _ _ y149 t152 w _ ?side1 ?side2 ?side3 ?side4 ?side5 ?side6 A17.out).mono ?_); (case side1 => repeat (first | (with_reducible first | exact HB.out | apply below_alloc | apply pw_below_drewN | apply below_drew1 | refine below_set ?_ GE140.out) | exact HB.out)); (case side2 => exact Kd.R_tight rfl HO_5.out); (case side3 => exact Kd.C_kept_own (Kd.R_types ((Kd.R_apart' HO151.out (Kd.R_typed HO_5.out) (by decide))) GH.out (by decide)) (fun k_ hk_ hs_ => hs_.elim (fun hs_ => (hk_.1.2) hs_) hk_.2)); (case side4 => exact (Kd.R_reads' HO151.out).2.1); (case side5 => exact (by with_reducible repeat (first | exact GH.out | refine ghs ?_ (Aside0.out (by assumption)) | refine blk_drewN ?_ _ | refine blk_drew ?_ | refine blk_alloc ?_ _))); (case side6 => exact GHE.out); rintro e w22 ⟨rfl, v153, ho0, gh_, hb, hkp⟩; refine ⟨_, rfl, ?_⟩; have ngh_ := Aside0.mk gh_; clear gh_; have n0_ := Aside0.mk (blk_kept (bk BK140.out) hkp (fun hs_ => hs_.elim (fun hs_ => (fun e_ => (Kd.R_ne HO_5.out BK140.out (by decide)) e_) hs_) (fun e_ => blk_ne BK140.out GH.out (by decide) e_))); have n1_ := Aside0.mk (Kd.R_mono (ok' := fun k_ => True) (Kd.R_keptB (Kd.R_types ((Kd.R_apart' HO151.out (Kd.R_typed HO_5.out) (by decide))) GH.out (by decide)) hkp (fun k_ hk_ hs_ => hs_.elim (fun hs_ => (hk_.1.2) hs_) hk_.2)) (fun k_ hk_ => trivial)); have n2_ := Aside0.mk (Kd.R_mono (ok' := fun k_ => True) ho0 (fun k_ hk_ => trivial)); have n3_ := Aside0.mk (hb); clear BK140; clear HO151; clear GH; have GH := ngh_; clear ngh_; clear HB; clear HO_5; have BK140 := n0_; have HO151 := n1_; have HO154 := n2_; have HB := n3_; clear n0_ n1_ n2_ n3_; (try clear hb); (try clear hkp); (try clear ho0)))
   go_loopg [37] k1 (fun kq v37 w' => ∃ (x5_2 : List Int) (x37_2 : Int) (v5 : Value), v37 = .int .i64 x37_2 ∧ Aside0 (cand_Encode.l1 kq x5_2 l0_0 (l0_0.length : Int) x27_1 (rd_L5 l0_0 x27_1) ((rd_L5 l0_0 x27_1).length : Int) x37_2 l0_0 l0_1 = some (r1, r2)) ∧ Aside0 (kq ≤ k1) ∧ Aside0 (Kd.R (Kd.int .u8) 5 w' w.heap.size (fun _ => True) v5 x5_2) ∧ Aside0 (w'.heap[gbw]? = some (.cells #[v5] 85 (0, 0))) ∧ Aside0 (w'.heap[gb140]? = some (.cells #[(.slice (some ad148) l0_0.length c0_0), (.slice A0_1 l0_1.length c0_1)] 42 (0, 0))) ∧ Aside0 (Below w.heap.size w w'))
   case atStart => exact ⟨(t152), (0), v153, fj, H', ⟨Nat.le_refl _⟩, ⟨by (with_reducible repeat (first | apply Kd.R_alloc | apply Kd.R_drewN | apply Kd.R_drew)); exact HO154.out⟩, ⟨(by with_reducible repeat (first | exact GH.out | refine ghs ?_ (Aside0.out (by assumption)) | refine blk_drewN ?_ _ | refine blk_drew ?_ | refine blk_alloc ?_ _))⟩, ⟨by refine bx ?_; exact BK140.out⟩, ⟨bl⟩⟩
   case round =>
    clear H'
    try clear c1
    try clear p1
    try clear q1
    try clear hx1
    try clear c2
    try clear p2
    try clear c3
    try clear c3b0
    try clear c3b1
    try clear c4
    try clear c14
    try clear c14b0
    try clear p14
    try clear q14
    try clear hx14
    try clear c15
    try clear c15b0
    try clear c16
    try clear c16b0
    try clear hcz13_0 hcz13_1
    try clear hcz6_0 hcz6_1
    try clear hcz8_0 hcz8_1
    try clear hfz13_0 hfz13_1
    try clear hfz6_0 hfz6_1
    try clear hfz8_0 hfz8_1
    try clear hx148_0
    try clear p148
    try clear p2
    try clear q148
    obtain ⟨x5_2, x37_2, u5, rfl, HA, HK2, HO_5, GH, BK140, HB⟩ := hrel
    cases gk with
    | zero => exact absurd HA.out (by simp [cand_Encode.l1])
    | succ k2 =>
     have H := HA.out
     clear HA
     simp only [cand_Encode.l1] at H
     by_cases c23 : x37_2 < ((rd_L5 l0_0 x27_1).length : Int)
     rotate_left
     ·rw [if_neg c23] at H
      have c23b0 := decide_eq_false c23
      clear c23
      have H' := Aside0.mk H
      clear H
      go_wp2
      go_roundg k2
      case measure => have := HK1.out; have := HK2.out; omega
      case rel => exact ⟨(x5_2), (wrap64 (x27_1 + 1)), u5, fj, H', ⟨by have := HK1.out; have := HK2.out; omega⟩, ⟨by (with_reducible repeat (first | apply Kd.R_alloc | apply Kd.R_drewN | apply Kd.R_drew)); exact HO_5.out⟩, ⟨(by with_reducible repeat (first | exact GH.out | refine ghs ?_ (Aside0.out (by assumption)) | refine blk_drewN ?_ _ | refine blk_drew ?_ | refine blk_alloc ?_ _))⟩, ⟨by refine bx ?_; exact BK140.out⟩, ⟨bl⟩⟩
     rw [if_pos c23] at H
     have c23b0 := decide_eq_true c23
     clear c23
     by_cases c24 : 0 ≤ x37_2
     rotate_left
     ·rw [if_neg c24] at H
      exact absurd H (by simp)
     rw [if_pos c24] at H
     have c24b0 := decide_eq_true c24
     clear c24
     by_cases c25 : x37_2 < ((rd_L5 l0_0 x27_1).length : Int)
     rotate_left
     ·rw [if_neg c25] at H
      exact absurd H (by simp)
     rw [if_pos c25] at H
     have c25b0 := decide_eq_true c25
     clear c25
     replace H := be H
     obtain ⟨t157, A26, H⟩ := H
     obtain ⟨y158, hy158⟩ : ∃ y_ : List Int, y_ = (([(rd_T75 (rd_L5 l0_0 x27_1) x37_2).f0, (rd_T75 (rd_L5 l0_0 x27_1) x37_2).f1, (rd_T75 (rd_L5 l0_0 x27_1) x37_2).f2.f0, (rd_T75 (rd_L5 l0_0 x27_1) x37_2).f2.f1, t157] : List Int)) := ⟨_, rfl⟩
     replace H : ((cand_writer_put.f k2 x5_2 y158).bind fun t161 => (cand_Encode.l1 k2 t161 l0_0 (l0_0.length : Int) x27_1 (rd_L5 l0_0 x27_1) ((rd_L5 l0_0 x27_1).length : Int) (wrap64 (x37_2 + 1)) l0_0 l0_1)) = some (r1, r2) := by first | (rw [hy158]; with_reducible exact H) | (have H2_ := (Option.bind_some _ _).symm.trans H; rw [hy158]; with_reducible exact H2_) | (have H2_ := (Option.bind_some _ _).symm.trans H; with_reducible exact H2_) | with_reducible exact H | (rw [hy158]; exact H) | exact H
     have Ny158 := Aside0.mk hy158
     clear hy158
     replace H := be H
     obtain ⟨t161, A27, H⟩ := H
     have H' := Aside0.mk H
     clear H
     have p155 : 0 ≤ (x37_2 : Int) := od
     have q155 : x37_2 < ((rd_L5 l0_0 x27_1).length : Int) := od
     obtain ⟨ad155, e155, hx155_0, hx155_1, hx155_2, hx155_3, hx155_4, hx155_5⟩ := at_T75 HR148_0.out x37_2 p155 q155
     cases e155
     replace hx155_0 := cb HB.out hx155_0
     replace hx155_1 := cb HB.out hx155_1
     replace hx155_2 := cb HB.out hx155_2
     replace hx155_3 := cb HB.out hx155_3
     replace hx155_4 := cb HB.out hx155_4
     replace hx155_5 := cb HB.out hx155_5
     replace p155 := eq_true p155
     replace q155 := eq_true q155
     try go_wp2_with (first | ((with_reducible refine gate_dst (N := 9) rfl ?_); refine bv 9 #[.int .i64 0, .int .i64 0, .int .i64 0, .int .i64 0, .bool false, .bool false] 75 ?_; intro gb156 hg w28 hbox hb; have NW156 := Aside0.mk ((by rw [hg]; exact Nat.ne_of_lt (blk_lt (g := gbw) (o := .cells #[u5] 85 (0, 0)) (by with_reducible repeat (first | exact GH.out | refine ghs ?_ (Aside0.out (by assumption)) | refine blk_drewN ?_ _ | refine blk_drew ?_ | refine blk_alloc ?_ _)))) : gbw ≠ gb156); have ngh_ := Aside0.mk (blk_below (g := gbw) (o := .cells #[u5] 85 (0, 0)) (by with_reducible repeat (first | exact GH.out | refine ghs ?_ (Aside0.out (by assumption)) | refine blk_drewN ?_ _ | refine blk_drew ?_ | refine blk_alloc ?_ _)) hb); clear GH; have GH := ngh_; clear ngh_; have n0_ := Aside0.mk (Kd.R_below (by (with_reducible repeat (first | apply Kd.R_alloc | apply Kd.R_drewN | apply Kd.R_drew)); exact HO_5.out) hb); have n1_ := Aside0.mk (blk_below (g := gb140) (o := .cells #[.slice (some ad148) l0_0.length c0_0, .slice A0_1 l0_1.length c0_1] 42 (0, 0)) (bk BK140.out) hb); have n2_ := Aside0.mk (below_step bl hb); have n3_ := Aside0.mk (hbox); have n4_ := Aside0.mk ((by rw [hg]; exact (below_size bl) : w.heap.size ≤ gb156)); have n5_ := Aside0.mk ((by rw [hg]; exact (below_size bl) : w.heap.size ≤ gb156)); have n6_ := Aside0.mk ((nl hg (bk BK140.out) : gb140 ≠ gb156)); have n7_ := Aside0.mk ((ng hg (bk BK140.out) : gb156 ≠ gb140)); clear HO_5; clear BK140; clear HB; have HO_5 := n0_; have BK140 := n1_; have HB := n2_; have BK156 := n3_; have GW156 := n4_; have GE156 := n5_; have NB140_156 := n6_; have NB156_140 := n7_; clear n0_ n1_ n2_ n3_ n4_ n5_ n6_ n7_; clear hb hbox hg; have hnb29 := NB156_140.out; have hnc29 := NB140_156.out; obtain ⟨hcz30_0, hcz30_1, hcz30_2, hcz30_3, hcz30_4, hcz30_5, hfz30_0, hfz30_1, hfz30_2, hfz30_3, hfz30_4, hfz30_5⟩ := cz6 (w := w28) BK156.out))
     have n0_ : Aside0 (Kd.R (Kd.int .u8) 5 ((((((w28.setCell ⟨gb156, 0, none⟩ (.int .i64 ((rd_T75 (rd_L5 l0_0 x27_1) x37_2).f0))).setCell ⟨gb156, 1, none⟩ (.int .i64 ((rd_T75 (rd_L5 l0_0 x27_1) x37_2).f1))).setCell ⟨gb156, 2, none⟩ (.int .i64 ((rd_T75 (rd_L5 l0_0 x27_1) x37_2).f2.f0))).setCell ⟨gb156, 3, none⟩ (.int .i64 ((rd_T75 (rd_L5 l0_0 x27_1) x37_2).f2.f1))).setCell ⟨gb156, 4, none⟩ (.bool ((rd_T75 (rd_L5 l0_0 x27_1) x37_2).f3))).setCell ⟨gb156, 5, none⟩ (.bool ((rd_T75 (rd_L5 l0_0 x27_1) x37_2).f4))) w.heap.size (fun _ => True) u5 x5_2) := ⟨by (with_reducible repeat (first | apply Kd.R_alloc | apply Kd.R_drewN | apply Kd.R_drew)); exact Kd.R_mono (Kd.R_far (p := ⟨gb156, 5, none⟩) (Kd.R_far (p := ⟨gb156, 4, none⟩) (Kd.R_far (p := ⟨gb156, 3, none⟩) (Kd.R_far (p := ⟨gb156, 2, none⟩) (Kd.R_far (p := ⟨gb156, 1, none⟩) (Kd.R_far (p := ⟨gb156, 0, none⟩) (Kd.R_types HO_5.out BK156.out (by decide)) (fun _ hk => hk.2) (.int .i64 ((rd_T75 (rd_L5 l0_0 x27_1) x37_2).f0))) (fun _ hk => hk.2) (.int .i64 ((rd_T75 (rd_L5 l0_0 x27_1) x37_2).f1))) (fun _ hk => hk.2) (.int .i64 ((rd_T75 (rd_L5 l0_0 x27_1) x37_2).f2.f0))) (fun _ hk => hk.2) (.int .i64 ((rd_T75 (rd_L5 l0_0 x27_1) x37_2).f2.f1))) (fun _ hk => hk.2) (.bool ((rd_T75 (rd_L5 l0_0 x27_1) x37_2).f3))) (fun _ hk => hk.2) (.bool ((rd_T75 (rd_L5 l0_0 x27_1) x37_2).f4))) (fun _ hk => trivial)⟩
     have n1_ : Aside0 (((((((w28.setCell ⟨gb156, 0, none⟩ (.int .i64 ((rd_T75 (rd_L5 l0_0 x27_1) x37_2).f0))).setCell ⟨gb156, 1, none⟩ (.int .i64 ((rd_T75 (rd_L5 l0_0 x27_1) x37_2).f1))).setCell ⟨gb156, 2, none⟩ (.int .i64 ((rd_T75 (rd_L5 l0_0 x27_1) x37_2).f2.f0))).setCell ⟨gb156, 3, none⟩ (.int .i64 ((rd_T75 (rd_L5 l0_0 x27_1) x37_2).f2.f1))).setCell ⟨gb156, 4, none⟩ (.bool ((rd_T75 (rd_L5 l0_0 x27_1) x37_2).f3))).setCell ⟨gb156, 5, none⟩ (.bool ((rd_T75 (rd_L5 l0_0 x27_1) x37_2).f4))).heap[gb140]? = some (.cells #[.slice (some ad148) l0_0.length c0_0, .slice A0_1 l0_1.length c0_1] 42 (0, 0))) := ⟨by refine bx ?_; refine blk_far ?_ NB140_156.out _; refine bx ?_; refine blk_far ?_ NB140_156.out _; refine bx ?_; refine blk_far ?_ NB140_156.out _; refine bx ?_; refine blk_far ?_ NB140_156.out _; refine bx ?_; refine blk_far ?_ NB140_156.out _; refine bx ?_; refine blk_far ?_ NB140_156.out _; refine bx ?_; exact BK140.out⟩
     have n2_ : Aside0 (((((((w28.setCell ⟨gb156, 0, none⟩ (.int .i64 ((rd_T75 (rd_L5 l0_0 x27_1) x37_2).f0))).setCell ⟨gb156, 1, none⟩ (.int .i64 ((rd_T75 (rd_L5 l0_0 x27_1) x37_2).f1))).setCell ⟨gb156, 2, none⟩ (.int .i64 ((rd_T75 (rd_L5 l0_0 x27_1) x37_2).f2.f0))).setCell ⟨gb156, 3, none⟩ (.int .i64 ((rd_T75 (rd_L5 l0_0 x27_1) x37_2).f2.f1))).setCell ⟨gb156, 4, none⟩ (.bool ((rd_T75 (rd_L5 l0_0 x27_1) x37_2).f3))).setCell ⟨gb156, 5, none⟩ (.bool ((rd_T75 (rd_L5 l0_0 x27_1) x37_2).f4))).heap[gb156]? = some (.cells #[.int .i64 ((rd_T75 (rd_L5 l0_0 x27_1) x37_2).f0), .int .i64 ((rd_T75 (rd_L5 l0_0 x27_1) x37_2).f1), .int .i64 ((rd_T75 (rd_L5 l0_0 x27_1) x37_2).f2.f0), .int .i64 ((rd_T75 (rd_L5 l0_0 x27_1) x37_2).f2.f1), .bool ((rd_T75 (rd_L5 l0_0 x27_1) x37_2).f3), .bool ((rd_T75 (rd_L5 l0_0 x27_1) x37_2).f4)] 75 (0, 0))) := ⟨by refine bx ?_; refine blk_put (cs := #[.int .i64 ((rd_T75 (rd_L5 l0_0 x27_1) x37_2).f0), .int .i64 ((rd_T75 (rd_L5 l0_0 x27_1) x37_2).f1), .int .i64 ((rd_T75 (rd_L5 l0_0 x27_1) x37_2).f2.f0), .int .i64 ((rd_T75 (rd_L5 l0_0 x27_1) x37_2).f2.f1), .bool ((rd_T75 (rd_L5 l0_0 x27_1) x37_2).f3), .bool false]) ?_ 5 _ rfl; refine bx ?_; refine blk_put (cs := #[.int .i64 ((rd_T75 (rd_L5 l0_0 x27_1) x37_2).f0), .int .i64 ((rd_T75 (rd_L5 l0_0 x27_1) x37_2).f1), .int .i64 ((rd_T75 (rd_L5 l0_0 x27_1) x37_2).f2.f0), .int .i64 ((rd_T75 (rd_L5 l0_0 x27_1) x37_2).f2.f1), .bool false, .bool false]) ?_ 4 _ rfl; refine bx ?_; refine blk_put (cs := #[.int .i64 ((rd_T75 (rd_L5 l0_0 x27_1) x37_2).f0), .int .i64 ((rd_T75 (rd_L5 l0_0 x27_1) x37_2).f1), .int .i64 ((rd_T75 (rd_L5 l0_0 x27_1) x37_2).f2.f0), .int .i64 0, .bool false, .bool false]) ?_ 3 _ rfl; refine bx ?_; refine blk_put (cs := #[.int .i64 ((rd_T75 (rd_L5 l0_0 x27_1) x37_2).f0), .int .i64 ((rd_T75 (rd_L5 l0_0 x27_1) x37_2).f1), .int .i64 0, .int .i64 0, .bool false, .bool false]) ?_ 2 _ rfl; refine bx ?_; refine blk_put (cs := #[.int .i64 ((rd_T75 (rd_L5 l0_0 x27_1) x37_2).f0), .int .i64 0, .int .i64 0, .int .i64 0, .bool false, .bool false]) ?_ 1 _ rfl; refine bx ?_; refine blk_put (cs := #[.int .i64 0, .int .i64 0, .int .i64 0, .int .i64 0, .bool false, .bool false]) ?_ 0 _ rfl; refine bx ?_; exact BK156.out⟩
     have n3_ : Aside0 (Below w.heap.size w ((((((w28.setCell ⟨gb156, 0, none⟩ (.int .i64 ((rd_T75 (rd_L5 l0_0 x27_1) x37_2).f0))).setCell ⟨gb156, 1, none⟩ (.int .i64 ((rd_T75 (rd_L5 l0_0 x27_1) x37_2).f1))).setCell ⟨gb156, 2, none⟩ (.int .i64 ((rd_T75 (rd_L5 l0_0 x27_1) x37_2).f2.f0))).setCell ⟨gb156, 3, none⟩ (.int .i64 ((rd_T75 (rd_L5 l0_0 x27_1) x37_2).f2.f1))).setCell ⟨gb156, 4, none⟩ (.bool ((rd_T75 (rd_L5 l0_0 x27_1) x37_2).f3))).setCell ⟨gb156, 5, none⟩ (.bool ((rd_T75 (rd_L5 l0_0 x27_1) x37_2).f4)))) := ⟨bl⟩
     have ngh_ : Aside0 (((((((w28.setCell ⟨gb156, 0, none⟩ (.int .i64 ((rd_T75 (rd_L5 l0_0 x27_1) x37_2).f0))).setCell ⟨gb156, 1, none⟩ (.int .i64 ((rd_T75 (rd_L5 l0_0 x27_1) x37_2).f1))).setCell ⟨gb156, 2, none⟩ (.int .i64 ((rd_T75 (rd_L5 l0_0 x27_1) x37_2).f2.f0))).setCell ⟨gb156, 3, none⟩ (.int .i64 ((rd_T75 (rd_L5 l0_0 x27_1) x37_2).f2.f1))).setCell ⟨gb156, 4, none⟩ (.bool ((rd_T75 (rd_L5 l0_0 x27_1) x37_2).f3))).setCell ⟨gb156, 5, none⟩ (.bool ((rd_T75 (rd_L5 l0_0 x27_1) x37_2).f4))).heap[gbw]? = some (.cells #[u5] 85 (0, 0))) := ⟨(by with_reducible repeat (first | exact GH.out | refine ghs ?_ (Aside0.out (by assumption)) | refine blk_drewN ?_ _ | refine blk_drew ?_ | refine blk_alloc ?_ _))⟩
     clear GH
     (try clear HO_5)
     (try clear BK140)
     (try clear BK156)
     (try clear HB)
     generalize ((((((w28.setCell ⟨gb156, 0, none⟩ (.int .i64 ((rd_T75 (rd_L5 l0_0 x27_1) x37_2).f0))).setCell ⟨gb156, 1, none⟩ (.int .i64 ((rd_T75 (rd_L5 l0_0 x27_1) x37_2).f1))).setCell ⟨gb156, 2, none⟩ (.int .i64 ((rd_T75 (rd_L5 l0_0 x27_1) x37_2).f2.f0))).setCell ⟨gb156, 3, none⟩ (.int .i64 ((rd_T75 (rd_L5 l0_0 x27_1) x37_2).f2.f1))).setCell ⟨gb156, 4, none⟩ (.bool ((rd_T75 (rd_L5 l0_0 x27_1) x37_2).f3))).setCell ⟨gb156, 5, none⟩ (.bool ((rd_T75 (rd_L5 l0_0 x27_1) x37_2).f4))) = w31 at n0_ n1_ n2_ n3_ ngh_ ⊢
     have GH := ngh_
     clear ngh_
     have HO_5 := n0_
     have BK140 := n1_
     have BK156 := n2_
     have HB := n3_
     clear n0_ n1_ n2_ n3_
     have ngh_ := Aside0.mk (blk_drew GH.out)
     clear GH
     have GH := ngh_
     clear ngh_
     have n0_ := Aside0.mk (Kd.R_drew HO_5.out)
     have n1_ := Aside0.mk (blk_drew BK140.out)
     have n2_ := Aside0.mk (blk_drew BK156.out)
     have n3_ := Aside0.mk (below_drew1 HB.out)
     clear HO_5
     clear BK140
     clear BK156
     clear HB
     have HO_5 := n0_
     have BK140 := n1_
     have BK156 := n2_
     have HB := n3_
     clear n0_ n1_ n2_ n3_
     refine start_ (n := 14) (S := fun w' => w'.cell? ⟨gb156, 0, none⟩ = some (.int .i64 ((rd_T75 (rd_L5 l0_0 x27_1) x37_2).f0)) ∧ w'.cell? ⟨gb156, 1, none⟩ = some (.int .i64 ((rd_T75 (rd_L5 l0_0 x27_1) x37_2).f1)) ∧ w'.cell? ⟨gb156, 2, none⟩ = some (.int .i64 ((rd_T75 (rd_L5 l0_0 x27_1) x37_2).f2.f0)) ∧ w'.cell? ⟨gb156, 3, none⟩ = some (.int .i64 ((rd_T75 (rd_L5 l0_0 x27_1) x37_2).f2.f1)) ∧ w'.cell? ⟨gb156, 4, none⟩ = some (.bool ((rd_T75 (rd_L5 l0_0 x27_1) x37_2).f3)) ∧ w'.cell? ⟨gb156, 5, none⟩ = some (.bool ((rd_T75 (rd_L5 l0_0 x27_1) x37_2).f4))) (ds := []) (fl 14 0) (by kernel_rfl) rfl rfl (cy6 BK156.out) (fun hHeld => ?_); refine with_tabW cand_Encode.tab13 cand_Encode.bits13 (fun HT_ HW_ => ?_)
     generalize w31.drew = w32 at HO_5 GH BK140 BK156 HB hHeld ⊢
     refine pq 0 (some 41) ?_ (fl 14 1) HT_.out rfl rfl ?_ ?_ ?_ ?_
     rotate_left
     ·intro w'
      go_simp
      with_reducible rfl
     rotate_left
     ·refine pt ?_
      rfl
     refine pq 2 (some 43) ?_ #[true, false, true, false, false, false, false, false, false, false, false, false, false, false] HT_.out rfl rfl ?_ ?_ ?_ ?_
     rotate_left
     ·intro w'
      go_simp
      with_reducible rfl
     rotate_left
     ·refine pt ?_
      rfl
     refine pq 4 (some 45) ?_ #[true, false, true, false, true, false, false, false, false, false, false, false, false, false] HT_.out rfl rfl ?_ ?_ ?_ ?_
     rotate_left
     ·intro w'
      go_simp
      with_reducible rfl
     rotate_left
     ·refine pt ?_
      rfl
     refine pq 5 (some 46) ?_ #[true, false, true, false, true, true, false, false, false, false, false, false, false, false] HT_.out rfl rfl ?_ ?_ ?_ ?_
     rotate_left
     ·intro w'
      go_simp
      with_reducible rfl
     rotate_left
     ·refine pt ?_
      rfl
     refine pq 7 (some 48) ?_ #[true, false, true, false, true, true, false, true, false, false, false, false, false, false] HT_.out rfl rfl ?_ ?_ ?_ ?_
     rotate_left
     ·intro w'
      go_simp
      with_reducible rfl
     rotate_left
     ·refine pt ?_
      rfl
     refine pq 8 (some 49) ?_ #[true, false, true, false, true, true, false, true, true, false, false, false, false, false] HT_.out rfl rfl ?_ ?_ ?_ ?_
     rotate_left
     ·intro w'
      go_simp
      with_reducible rfl
     rotate_left
     ·refine pt ?_
      rfl
     refine pk 1 (some 42) ?_ #[true, true, true, false, true, true, false, true, true, false, false, false, false, false] HT_.out HW_.out rfl rfl ?_ hHeld ?_ ?_ ?_
     rotate_left
     ·rintro w' ⟨s0, s1, s2, s3, s4, s5⟩
      go_simp
      with_reducible rfl
     rotate_left
     ·refine pt ?_
      rfl
     refine pk 3 (some 44) ?_ #[true, true, true, true, true, true, false, true, true, false, false, false, false, false] HT_.out HW_.out rfl rfl ?_ hHeld ?_ ?_ ?_
     rotate_left
     ·rintro w' ⟨s0, s1, s2, s3, s4, s5⟩
      go_simp
      with_reducible rfl
     rotate_left
     ·refine pt ?_
      rfl
     refine pk 6 (some 47) ?_ (fl 14 9) HT_.out HW_.out rfl rfl ?_ hHeld ?_ ?_ ?_
     rotate_left
     ·rintro w' ⟨s0, s1, s2, s3, s4, s5⟩
      go_simp
      with_reducible rfl
     rotate_left
     ·refine pt ?_
      rfl
     refine pk 9 (some 50) ?_ (fl 14 10) HT_.out HW_.out rfl rfl ?_ hHeld ?_ ?_ ?_
     rotate_left
     ·rintro w' ⟨s0, s1, s2, s3, s4, s5⟩
      go_simp
      with_reducible rfl
     rotate_left
     ·refine pt ?_
      rfl
     refine pk 10 (some 51) ?_ (fl 14 11) HT_.out HW_.out rfl rfl ?_ hHeld ?_ ?_ ?_
     rotate_left
     ·rintro w' ⟨s0, s1, s2, s3, s4, s5⟩
      go_simp
      with_reducible rfl
     rotate_left
     ·refine pt ?_
      rfl
     refine one_ (i := 11) (N := some 52) (fl 14 12) rfl rfl (one_of HT_.out (by kernel_rfl)) (by decide) (fun K hK => ?_)
     refine goes_ Try.func49 (by kernel_rfl) rfl #[.agg #[.int .i64 ((rd_T75 (rd_L5 l0_0 x27_1) x37_2).f0), .int .i64 ((rd_T75 (rd_L5 l0_0 x27_1) x37_2).f1), .int .i64 ((rd_T75 (rd_L5 l0_0 x27_1) x37_2).f2.f0), .int .i64 ((rd_T75 (rd_L5 l0_0 x27_1) x37_2).f2.f1), .bool ((rd_T75 (rd_L5 l0_0 x27_1) x37_2).f3), .bool ((rd_T75 (rd_L5 l0_0 x27_1) x37_2).f4)]] (by rfl) rfl rfl ga ?_
     with_reducible refine (cand_flag.calls ((rd_T75 (rd_L5 l0_0 x27_1) x37_2).f0) ((rd_T75 (rd_L5 l0_0 x27_1) x37_2).f1) ((rd_T75 (rd_L5 l0_0 x27_1) x37_2).f2.f0) ((rd_T75 (rd_L5 l0_0 x27_1) x37_2).f2.f1) ((rd_T75 (rd_L5 l0_0 x27_1) x37_2).f3) ((rd_T75 (rd_L5 l0_0 x27_1) x37_2).f4) t157 _ A26.out).mono ?_
     rintro e w33 ⟨rfl, hb⟩
     refine ⟨_, rfl, ?_⟩
     have ngh_ := Aside0.mk (blk_below (g := gbw) (o := .cells #[u5] 85 (0, 0)) (by with_reducible repeat (first | exact GH.out | refine ghs ?_ (Aside0.out (by assumption)) | refine blk_drewN ?_ _ | refine blk_drew ?_ | refine blk_alloc ?_ _)) hb)
     clear GH
     have GH := ngh_
     clear ngh_
     have n0_ := Aside0.mk (Kd.R_below (by (with_reducible repeat (first | apply Kd.R_alloc | apply Kd.R_drewN | apply Kd.R_drew)); exact HO_5.out) hb)
     have n1_ := Aside0.mk (blk_below (g := gb140) (o := .cells #[.slice (some ad148) l0_0.length c0_0, .slice A0_1 l0_1.length c0_1] 42 (0, 0)) (bk BK140.out) hb)
     have n2_ := Aside0.mk (blk_below (g := gb156) (o := .cells #[.int .i64 ((rd_T75 (rd_L5 l0_0 x27_1) x37_2).f0), .int .i64 ((rd_T75 (rd_L5 l0_0 x27_1) x37_2).f1), .int .i64 ((rd_T75 (rd_L5 l0_0 x27_1) x37_2).f2.f0), .int .i64 ((rd_T75 (rd_L5 l0_0 x27_1) x37_2).f2.f1), .bool ((rd_T75 (rd_L5 l0_0 x27_1) x37_2).f3), .bool ((rd_T75 (rd_L5 l0_0 x27_1) x37_2).f4)] 75 (0, 0)) (bk BK156.out) hb)
     have n3_ := Aside0.mk (below_step bl hb)
     clear HO_5
     clear BK140
     clear BK156
     clear HB
     have HO_5 := n0_
     have BK140 := n1_
     have BK156 := n2_
     have HB := n3_
     clear n0_ n1_ n2_ n3_
     (try clear hb)
     (try clear hb2)
     (try clear hk)
     (try clear hi)
     refine hK.out _ _ (cy6 BK156.out) (fun hHeld => ?_)
     clear hK K
     refine norm_ (a' := ?_) ?_ ?_
     rotate_left
     ·show Act.put _ (some 52) _ = _
      refine pt ?_
      rfl
     refine one_ (i := 12) (N := some 53) (fl 14 13) rfl rfl (one_of HT_.out (by kernel_rfl)) (by decide) (fun K hK => ?_)
     refine Kd.R_lit_step (Kd.int .i64) _ 3 ?hg (N := 53) ?hd (xs := ([(rd_T75 (rd_L5 l0_0 x27_1) x37_2).f0, (rd_T75 (rd_L5 l0_0 x27_1) x37_2).f1, (rd_T75 (rd_L5 l0_0 x27_1) x37_2).f2.f0, (rd_T75 (rd_L5 l0_0 x27_1) x37_2).f2.f1, t157] : List Int)) (inner := [.int .i64 ((rd_T75 (rd_L5 l0_0 x27_1) x37_2).f0), .int .i64 ((rd_T75 (rd_L5 l0_0 x27_1) x37_2).f1), .int .i64 ((rd_T75 (rd_L5 l0_0 x27_1) x37_2).f2.f0), .int .i64 ((rd_T75 (rd_L5 l0_0 x27_1) x37_2).f2.f1), .int .i64 t157]) (ok := fun _ => True) (okp := fun _ => True) ?hr ?hp (fun _ hk => hk) trivial (Below.refl _ _) (Nat.le_refl _) (by simp) ?_; (case hd => rfl); (case hg => rfl); (case hr => first | (go_simp; done) | (go_simp; rfl)); (case hp => exact (Reps.one (show Kd.M (Kd.int .i64) _ _ _ ((rd_T75 (rd_L5 l0_0 x27_1) x37_2).f0) [.int .i64 ((rd_T75 (rd_L5 l0_0 x27_1) x37_2).f0)] from rfl) (Reps.one (show Kd.M (Kd.int .i64) _ _ _ ((rd_T75 (rd_L5 l0_0 x27_1) x37_2).f1) [.int .i64 ((rd_T75 (rd_L5 l0_0 x27_1) x37_2).f1)] from rfl) (Reps.one (show Kd.M (Kd.int .i64) _ _ _ ((rd_T75 (rd_L5 l0_0 x27_1) x37_2).f2.f0) [.int .i64 ((rd_T75 (rd_L5 l0_0 x27_1) x37_2).f2.f0)] from rfl) (Reps.one (show Kd.M (Kd.int .i64) _ _ _ ((rd_T75 (rd_L5 l0_0 x27_1) x37_2).f2.f1) [.int .i64 ((rd_T75 (rd_L5 l0_0 x27_1) x37_2).f2.f1)] from rfl) (Reps.one (show Kd.M (Kd.int .i64) _ _ _ t157 [.int .i64 t157] from rfl) (Reps.none _ _)))))))
     intro v159 w34 ho35 hb hg_ hnew_
     have ngh_ := Aside0.mk (blk_below (g := gbw) (o := .cells #[u5] 85 (0, 0)) (by with_reducible repeat (first | exact GH.out | refine ghs ?_ (Aside0.out (by assumption)) | refine blk_drewN ?_ _ | refine blk_drew ?_ | refine blk_alloc ?_ _)) hb)
     clear GH
     have GH := ngh_
     clear ngh_
     clear hg_ hnew_
     (first | rw [← Ny158.out] at ho35 | (simp only [Int.reduceToNat] at ho35; rw [← Ny158.out] at ho35))
     have n0_ := Aside0.mk (Kd.R_below (by (with_reducible repeat (first | apply Kd.R_alloc | apply Kd.R_drewN | apply Kd.R_drew)); exact HO_5.out) hb)
     have n1_ := Aside0.mk (Kd.R_lower ho35 (below_size bl))
     have n2_ := Aside0.mk (blk_below (g := gb140) (o := .cells #[.slice (some ad148) l0_0.length c0_0, .slice A0_1 l0_1.length c0_1] 42 (0, 0)) (bk BK140.out) hb)
     have n3_ := Aside0.mk (blk_below (g := gb156) (o := .cells #[.int .i64 ((rd_T75 (rd_L5 l0_0 x27_1) x37_2).f0), .int .i64 ((rd_T75 (rd_L5 l0_0 x27_1) x37_2).f1), .int .i64 ((rd_T75 (rd_L5 l0_0 x27_1) x37_2).f2.f0), .int .i64 ((rd_T75 (rd_L5 l0_0 x27_1) x37_2).f2.f1), .bool ((rd_T75 (rd_L5 l0_0 x27_1) x37_2).f3), .bool ((rd_T75 (rd_L5 l0_0 x27_1) x37_2).f4)] 75 (0, 0)) (bk BK156.out) hb)
     have n4_ := Aside0.mk (below_step bl hb)
     clear HO_5
     clear BK140
     clear BK156
     clear HB
     have HO_5 := n0_
     have HO160 := n1_
     have BK140 := n2_
     have BK156 := n3_
     have HB := n4_
     clear n0_ n1_ n2_ n3_ n4_
     clear hb ho35
     obtain ⟨Ao36, co36, eo36⟩ := Kd.R_slice HO_5.out
     (first | subst eo36 | (injection eo36 with f1_ f2_ f3_; have f4_ := f1_.symm; have f5_ := f3_.symm; clear f1_ f2_ f3_; subst f4_; subst f5_))
     obtain ⟨Ao37, co37, eo37⟩ := Kd.R_slice HO160.out
     (first | subst eo37 | (injection eo37 with f1_ f2_ f3_; have f4_ := f1_.symm; have f5_ := f3_.symm; clear f1_ f2_ f3_; subst f4_; subst f5_))
     refine hK.out _ _ (cy6 BK156.out) (fun hHeld => ?_)
     clear hK K
     refine norm_ (a' := ?_) ?_ ?_
     rotate_left
     ·show Act.put _ (some 53) _ = _
      refine pt ?_
      rfl
     refine one_ (i := 13) (N := some 54) (fl 14 14) rfl rfl (one_of HT_.out (by kernel_rfl)) (by decide) (fun K hK => ?_)
     refine goes_ Try.func48 (by kernel_rfl) rfl #[.pointer (some ⟨gbw, 0, none⟩), .slice Ao37 y158.length co37] (by rfl) rfl rfl ga ?_
     with_reducible refine (cand_writer_put.calls k2 (fun k_ => some k_ = (.slice Ao36 x5_2.length co36 : Value).ownBlock) (.slice Ao36 x5_2.length co36) gbw x5_2 _ _ y158 t161 w _ ?side1 ?side2 ?side3 ?side4 ?side5 ?side6 A27.out).mono ?_
     (case side1 => repeat (first | (with_reducible first | exact HB.out | apply below_alloc | apply pw_below_drewN | apply below_drew1 | refine below_set ?_ GE140.out | refine below_set ?_ GE156.out) | exact HB.out))
     (case side2 => exact Kd.R_tight rfl HO_5.out)
     (case side3 => exact Kd.C_kept_own (Kd.R_types ((Kd.R_apart' HO160.out (Kd.R_typed HO_5.out) (by decide))) GH.out (by decide)) (fun k_ hk_ hs_ => hs_.elim (fun hs_ => (hk_.1.2) hs_) hk_.2))
     (case side4 => exact (Kd.R_reads' HO160.out).2.1); (case side5 => exact (by with_reducible repeat (first | exact GH.out | refine ghs ?_ (Aside0.out (by assumption)) | refine blk_drewN ?_ _ | refine blk_drew ?_ | refine blk_alloc ?_ _))); (case side6 => exact GHE.out)
     rintro e w38 ⟨rfl, v162, ho0, gh_, hb, hkp⟩
     refine ⟨_, rfl, ?_⟩
     have ngh_ := Aside0.mk gh_
     clear gh_
     have n0_ := Aside0.mk (blk_kept (bk BK140.out) hkp (fun hs_ => hs_.elim (fun hs_ => (fun e_ => (Kd.R_ne HO_5.out BK140.out (by decide)) e_) hs_) (fun e_ => blk_ne BK140.out GH.out (by decide) e_)))
     have n1_ := Aside0.mk (blk_kept (bk BK156.out) hkp (fun hs_ => hs_.elim (fun hs_ => (fun e_ => (Kd.R_ne HO_5.out BK156.out (by decide)) e_) hs_) (fun e_ => blk_ne BK156.out GH.out (by decide) e_)))
     have n2_ := Aside0.mk (Kd.R_mono (ok' := fun k_ => True) (Kd.R_keptB (Kd.R_types ((Kd.R_apart' HO160.out (Kd.R_typed HO_5.out) (by decide))) GH.out (by decide)) hkp (fun k_ hk_ hs_ => hs_.elim (fun hs_ => (hk_.1.2) hs_) hk_.2)) (fun k_ hk_ => trivial))
     have n3_ := Aside0.mk (Kd.R_mono (ok' := fun k_ => True) ho0 (fun k_ hk_ => trivial))
     have n4_ := Aside0.mk (hb)
     clear BK140
     clear BK156
     clear HO160
     clear GH
     have GH := ngh_
     clear ngh_
     clear HB
     clear HO_5
     have BK140 := n0_
     have BK156 := n1_
     have HO160 := n2_
     have HO163 := n3_
     have HB := n4_
     clear n0_ n1_ n2_ n3_ n4_
     (try clear hb)
     (try clear hkp)
     (try clear ho0)
     refine hK.out _ _ (cy6 BK156.out) (fun hHeld => ?_)
     clear hK K
     refine norm_ (a' := ?_) ?_ ?_
     rotate_left
     ·show Act.put _ (some 54) _ = _
      refine pt ?_
      rfl
     refine done_ (done_of HT_.out (by kernel_rfl)) ?_
     try go_wp2
     go_roundg k2
     case measure => have := HK1.out; have := HK2.out; omega
     case rel => exact ⟨(t161), (wrap64 (x37_2 + 1)), v162, fj, H', ⟨by have := HK1.out; have := HK2.out; omega⟩, ⟨by (with_reducible repeat (first | apply Kd.R_alloc | apply Kd.R_drewN | apply Kd.R_drew)); exact HO163.out⟩, ⟨(by with_reducible repeat (first | exact GH.out | refine ghs ?_ (Aside0.out (by assumption)) | refine blk_drewN ?_ _ | refine blk_drew ?_ | refine blk_alloc ?_ _))⟩, ⟨by refine bx ?_; exact BK140.out⟩, ⟨bl⟩⟩

end Go.Proofs.Ytfpphaflbmlpeaa.GCandChecks
