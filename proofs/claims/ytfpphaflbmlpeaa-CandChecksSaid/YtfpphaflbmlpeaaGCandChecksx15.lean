-- Written by wip/stub.py of this repo.
import Derived.Test.YtfpphaflbmlpeaaGCandChecksx0
import Derived.Test.YtfpphaflbmlpeaaGCandChecksx14
namespace Go.Proofs.Ytfpphaflbmlpeaa.GCandChecks
open Go.RowKit Go.Proofs.YtfpphaflbmlpeaaW.PrintWords Go.Proofs.YtfpphaflbmlpeaaW.PrintLast Go.Proofs.YtfpphaflbmlpeaaW.PrintMore
attribute [local go_sem] max2_int min2_int max_two min_two max_three min_three max_four min_four   -- for this text's walks alone
set_option linter.unusedVariables false
set_option linter.unusedSimpArgs false

/-! ### spinnakerref13_Bytes: function 26 -/
mutual
def spinnakerref13_Bytes.l0 : Nat → List Int → Int → List (List (S75)) → List (S70) → Option (List Int)
  | 0, _, _, _, _ => none
  | k + 1, x3, x4, x358000, x358001 => if x4 < (x358000.length : Int) then (if 0 ≤ x4 then (if x3.length < 17592186044416 then (spinnakerref13_Bytes.l1 k (x3 ++ [((rd_L5 x358000 x4).length : Int)]) x4 0 x358000 x358001) else (none)) else (none)) else (if x3.length < 17592186044416 then (spinnakerref13_Bytes.l2 k (x3 ++ [(x358001.length : Int)]) 0 x358000 x358001) else (none))
def spinnakerref13_Bytes.l1 : Nat → List Int → Int → Int → List (List (S75)) → List (S70) → Option (List Int)
  | 0, _, _, _, _, _ => none
  | k + 1, x3, x4, x5, x358000, x358001 => if 0 ≤ x4 then (if x4 < (x358000.length : Int) then (if x5 < ((rd_L5 x358000 x4).length : Int) then (if 0 ≤ x5 then (if (rd_T75 (rd_L5 x358000 x4) x5).f3 = true then (if (rd_T75 (rd_L5 x358000 x4) x5).f4 = true then ((some (([(rd_T75 (rd_L5 x358000 x4) x5).f0, (rd_T75 (rd_L5 x358000 x4) x5).f1, (rd_T75 (rd_L5 x358000 x4) x5).f2.f0, (rd_T75 (rd_L5 x358000 x4) x5).f2.f1, 2] : List Int) : List Int)).bind fun y369 => (if x3.length + y369.length < 17592186044416 then (spinnakerref13_Bytes.l1 k (x3 ++ y369) x4 (wrap64 (x5 + 1)) x358000 x358001) else (none))) else ((some (([(rd_T75 (rd_L5 x358000 x4) x5).f0, (rd_T75 (rd_L5 x358000 x4) x5).f1, (rd_T75 (rd_L5 x358000 x4) x5).f2.f0, (rd_T75 (rd_L5 x358000 x4) x5).f2.f1, 1] : List Int) : List Int)).bind fun y375 => (if x3.length + y375.length < 17592186044416 then (spinnakerref13_Bytes.l1 k (x3 ++ y375) x4 (wrap64 (x5 + 1)) x358000 x358001) else (none)))) else (if (rd_T75 (rd_L5 x358000 x4) x5).f4 = true then ((some (([(rd_T75 (rd_L5 x358000 x4) x5).f0, (rd_T75 (rd_L5 x358000 x4) x5).f1, (rd_T75 (rd_L5 x358000 x4) x5).f2.f0, (rd_T75 (rd_L5 x358000 x4) x5).f2.f1, 2] : List Int) : List Int)).bind fun y381 => (if x3.length + y381.length < 17592186044416 then (spinnakerref13_Bytes.l1 k (x3 ++ y381) x4 (wrap64 (x5 + 1)) x358000 x358001) else (none))) else ((some (([(rd_T75 (rd_L5 x358000 x4) x5).f0, (rd_T75 (rd_L5 x358000 x4) x5).f1, (rd_T75 (rd_L5 x358000 x4) x5).f2.f0, (rd_T75 (rd_L5 x358000 x4) x5).f2.f1, 0] : List Int) : List Int)).bind fun y387 => (if x3.length + y387.length < 17592186044416 then (spinnakerref13_Bytes.l1 k (x3 ++ y387) x4 (wrap64 (x5 + 1)) x358000 x358001) else (none))))) else (none)) else (spinnakerref13_Bytes.l0 k x3 (wrap64 (x4 + 1)) x358000 x358001)) else (none)) else (none)
def spinnakerref13_Bytes.l2 : Nat → List Int → Int → List (List (S75)) → List (S70) → Option (List Int)
  | 0, _, _, _, _ => none
  | k + 1, x3, x8, x358000, x358001 => if x8 < (x358001.length : Int) then (if 0 ≤ x8 then ((some (([(rd_T70 x358001 x8).f0, (((rd_T70 x358001 x8).f1).length : Int)] : List Int) : List Int)).bind fun y398 => (if x3.length + y398.length < 17592186044416 then (spinnakerref13_Bytes.l3 k (x3 ++ y398) x8 0 x358000 x358001) else (none))) else (none)) else (spinnakerref13_Bytes.l4 k x3 ([] : List Int) 0)
def spinnakerref13_Bytes.l3 : Nat → List Int → Int → Int → List (List (S75)) → List (S70) → Option (List Int)
  | 0, _, _, _, _, _ => none
  | k + 1, x3, x8, x9, x358000, x358001 => if 0 ≤ x8 then (if x8 < (x358001.length : Int) then (if x9 < (((rd_T70 x358001 x8).f1).length : Int) then (if 0 ≤ x9 then ((some (([(rd_T73 ((rd_T70 x358001 x8).f1) x9).f0, (rd_T73 ((rd_T70 x358001 x8).f1) x9).f1] : List Int) : List Int)).bind fun y409 => (if x3.length + y409.length < 17592186044416 then (spinnakerref13_Bytes.l3 k (x3 ++ y409) x8 (wrap64 (x9 + 1)) x358000 x358001) else (none))) else (none)) else (spinnakerref13_Bytes.l2 k x3 (wrap64 (x8 + 1)) x358000 x358001)) else (none)) else (none)
def spinnakerref13_Bytes.l4 : Nat → List Int → List Int → Int → Option (List Int)
  | 0, _, _, _ => none
  | k + 1, x3, x10, x11 => if x11 < (x3.length : Int) then (if 0 ≤ x11 then ((spinnakerref13_Number.f k (rd x3 x11)).bind fun t416 => (if x10.length + t416.length < 140737488355328 then (spinnakerref13_Bytes.l4 k x3 (x10 ++ t416) (wrap64 (x11 + 1))) else (none))) else (none)) else (some x10)
end
def spinnakerref13_Bytes.f (k : Nat) (l0_0 : List (List (S75))) (l0_1 : List (S70)) : Option (List Int) := spinnakerref13_Bytes.l0 k (([(l0_0.length : Int)] : List Int)) 0 l0_0 l0_1
theorem spinnakerref13_Bytes.mono_l : ∀ k, (∀ y0 y1 y2 y3, LeO (spinnakerref13_Bytes.l0 k y0 y1 y2 y3) (spinnakerref13_Bytes.l0 (k + 1) y0 y1 y2 y3)) ∧ (∀ y0 y1 y2 y3 y4, LeO (spinnakerref13_Bytes.l1 k y0 y1 y2 y3 y4) (spinnakerref13_Bytes.l1 (k + 1) y0 y1 y2 y3 y4)) ∧ (∀ y0 y1 y2 y3, LeO (spinnakerref13_Bytes.l2 k y0 y1 y2 y3) (spinnakerref13_Bytes.l2 (k + 1) y0 y1 y2 y3)) ∧ (∀ y0 y1 y2 y3 y4, LeO (spinnakerref13_Bytes.l3 k y0 y1 y2 y3 y4) (spinnakerref13_Bytes.l3 (k + 1) y0 y1 y2 y3 y4)) ∧ (∀ y0 y1 y2, LeO (spinnakerref13_Bytes.l4 k y0 y1 y2) (spinnakerref13_Bytes.l4 (k + 1) y0 y1 y2))
 | 0 => ⟨fun _ _ _ _ r h => by simp [spinnakerref13_Bytes.l0] at h, fun _ _ _ _ _ r h => by simp [spinnakerref13_Bytes.l1] at h, fun _ _ _ _ r h => by simp [spinnakerref13_Bytes.l2] at h, fun _ _ _ _ _ r h => by simp [spinnakerref13_Bytes.l3] at h, fun _ _ _ r h => by simp [spinnakerref13_Bytes.l4] at h⟩
 | k + 1 => by
  obtain ⟨ih0, ih1, ih2, ih3, ih4⟩ := spinnakerref13_Bytes.mono_l k
  refine ⟨?_, ?_, ?_, ?_, ?_⟩
  all_goals (intros; (first | unfold spinnakerref13_Bytes.l0 | unfold spinnakerref13_Bytes.l1 | unfold spinnakerref13_Bytes.l2 | unfold spinnakerref13_Bytes.l3 | unfold spinnakerref13_Bytes.l4); repeat' first | (with_reducible first | exact ih0 _ _ _ _ | exact ih1 _ _ _ _ _ | exact ih2 _ _ _ _ | exact ih3 _ _ _ _ _ | exact ih4 _ _ _ | exact spinnakerref13_Number.mono _ _ | exact LeO.refl _ | exact LeO.none _ | refine LeO.ite ?_ ?_ | refine LeO.bind ?_ (fun _ => ?_)) | exact ih0 _ _ _ _ | exact ih1 _ _ _ _ _ | exact ih2 _ _ _ _ | exact ih3 _ _ _ _ _ | exact ih4 _ _ _ | exact spinnakerref13_Number.mono _ _ | exact LeO.none _ | refine LeO.ite ?_ ?_ | refine LeO.bind ?_ (fun _ => ?_))
theorem spinnakerref13_Bytes.mono : ∀ a0 a1 k, LeO (spinnakerref13_Bytes.f k a0 a1) (spinnakerref13_Bytes.f (k + 1) a0 a1) := by
 intro a0 a1 k
 obtain ⟨ih0, ih1, ih2, ih3, ih4⟩ := spinnakerref13_Bytes.mono_l k
 unfold spinnakerref13_Bytes.f
 repeat' first | (with_reducible first | exact ih0 _ _ _ _ | exact ih1 _ _ _ _ _ | exact ih2 _ _ _ _ | exact ih3 _ _ _ _ _ | exact ih4 _ _ _ | exact spinnakerref13_Number.mono _ _ | exact LeO.refl _ | exact LeO.none _ | refine LeO.ite ?_ ?_ | refine LeO.bind ?_ (fun _ => ?_)) | exact ih0 _ _ _ _ | exact ih1 _ _ _ _ _ | exact ih2 _ _ _ _ | exact ih3 _ _ _ _ _ | exact ih4 _ _ _ | exact spinnakerref13_Number.mono _ _ | exact LeO.none _ | refine LeO.ite ?_ ?_ | refine LeO.bind ?_ (fun _ => ?_)
def spinnakerref13_Bytes.T20 : Bool × List (List Nat × List Nat) := (true, [([], []), ([], []), ([1], [1]), ([], []), ([2, 3], [2, 3]), ([4], [4]), ([5], [5]), ([], []), ([7], [7]), ([], []), ([8, 9], [8, 9]), ([10], [10]), ([11], [11]), ([12], [12]), ([6, 13], [6, 13]), ([0, 14], [0, 14]), ([15, 15, 0, 1, 2, 3, 4, 5, 6, 7, 8, 9, 10, 11, 12, 13, 14, 15], [0, 15])])
def spinnakerref13_Bytes.B20 : List Nat := [0, 0, 2, 0, 14, 30, 62, 0, 128, 0, 896, 1920, 3968, 8064, 16382, 32767, 65535]
theorem spinnakerref13_Bytes.tab20 : rtab .any (opsOf Try.f26 20) = spinnakerref13_Bytes.T20 := by kernel_rfl
theorem spinnakerref13_Bytes.bits20 : waitsOk spinnakerref13_Bytes.T20.2 spinnakerref13_Bytes.B20 = true := by kernel_rfl
def spinnakerref13_Bytes.T24 : Bool × List (List Nat × List Nat) := (true, [([], []), ([], []), ([1], [1]), ([], []), ([2, 3], [2, 3]), ([4], [4]), ([5], [5]), ([], []), ([6, 7], [6, 7]), ([8], [8]), ([9], [9]), ([], []), ([11], [11]), ([], []), ([12, 13], [12, 13]), ([14], [14]), ([15], [15]), ([], []), ([16, 17], [16, 17]), ([18], [18]), ([19], [19]), ([10, 20], [10, 20]), ([0, 21], [0, 21]), ([22, 22, 0, 1, 2, 3, 4, 5, 6, 7, 8, 9, 10, 11, 12, 13, 14, 15, 16, 17, 18, 19, 20, 21, 22], [0, 22])])
def spinnakerref13_Bytes.B24 : List Nat := [0, 0, 2, 0, 14, 30, 62, 0, 254, 510, 1022, 0, 2048, 0, 14336, 30720, 63488, 0, 260096, 522240, 1046528, 2097150, 4194303, 8388607]
theorem spinnakerref13_Bytes.tab24 : rtab .any (opsOf Try.f26 24) = spinnakerref13_Bytes.T24 := by kernel_rfl
theorem spinnakerref13_Bytes.bits24 : waitsOk spinnakerref13_Bytes.T24.2 spinnakerref13_Bytes.B24 = true := by kernel_rfl
set_option maxHeartbeats 8000000 in
set_option maxRecDepth 100000 in
theorem spinnakerref13_Bytes.calls (k : Nat) (A0_0 : Option Addr) (c0_0 : Nat) (l0_0 : List (List (S75))) (A0_1 : Option Addr) (c0_1 : Nat) (l0_1 : List (S70)) (r : List Int) (w : World) (hr0_0 : Kd.C (Kd.slice 75 k75) w A0_0 l0_0.length l0_0) (hc0_0 : l0_0.length ≤ c0_0) (hr0_1 : Kd.C k70 w A0_1 l0_1.length l0_1) (hc0_1 : l0_1.length ≤ c0_1) (h : spinnakerref13_Bytes.f k l0_0 l0_1 = some r) :
  Calls Try.prog 26 #[.agg #[.slice A0_0 l0_0.length c0_0, .slice A0_1 l0_1.length c0_1]] w fun e w' => ∃ v0_ : Value, e = .returned (v0_) ∧ Kd.R (Kd.int .u8) 5 w' w.heap.size (fun _ => True) v0_ r ∧ Below w.heap.size w w' := by
 have hu42 := Try.underlying42
 have hu75 := Try.underlying75
 have HR0_0 := Aside0.mk hr0_0
 have HC0_0 := Aside0.mk hc0_0
 clear hr0_0 hc0_0
 have HR0_1 := Aside0.mk hr0_1
 have HC0_1 := Aside0.mk hc0_1
 clear hr0_1 hc0_1
 have HB := Aside0.mk (Below.refl w.heap.size w)
 have H : (spinnakerref13_Bytes.l0 k (([(l0_0.length : Int)] : List Int)) 0 l0_0 l0_1) = some r := h
 clear h
 obtain ⟨y358, hy358⟩ : ∃ y_ : List Int, y_ = (([(l0_0.length : Int)] : List Int)) := ⟨_, rfl⟩
 replace H : (spinnakerref13_Bytes.l0 k y358 0 l0_0 l0_1) = some r := by first | (rw [hy358]; with_reducible exact H) | (have H2_ := (Option.bind_some _ _).symm.trans H; rw [hy358]; with_reducible exact H2_) | (have H2_ := (Option.bind_some _ _).symm.trans H; with_reducible exact H2_) | with_reducible exact H | (rw [hy358]; exact H) | exact H
 have Ny358 := Aside0.mk hy358
 clear hy358
 have H' := Aside0.mk H
 clear H
 go_enter Try.func26, Try.ntmps26
 go_wp2_with (first | ((with_reducible refine gate_dst (N := 1) rfl ?_); refine bv 1 #[.slice A0_0 l0_0.length c0_0, .slice A0_1 l0_1.length c0_1] 42 ?_; intro gb357 hg w2 hbox hb; obtain ⟨n0_, GW357⟩ := nb (w := w) hg hb; clear HB; have HB := n0_; have BK357 := Aside0.mk hbox; have GE357 := GW357; clear n0_ hb hbox hg; obtain ⟨hcz3_0, hcz3_1, hfz3_0, hfz3_1⟩ := cz2 (w := w2) BK357.out) | ((with_reducible refine gate_dst (N := 15) rfl ?_); refine Kd.R_lit (Kd.int .i64) _ 3 ?hg (N := 15) ?hd (xs := ([(l0_0.length : Int)] : List Int)) (inner := [.int .i64 (l0_0.length : Int)]) (ok := fun _ => True) (okp := fun _ => True) ?hr ?hp (fun _ hk => hk) trivial (Below.refl _ _) (Nat.le_refl _) (by simp) ?_; (case hd => rfl); (case hg => rfl); (case hr => first | (go_simp; done) | (go_simp; rfl)); (case hp => exact (Reps.one (show Kd.M (Kd.int .i64) _ _ _ (l0_0.length : Int) [.int .i64 (l0_0.length : Int)] from rfl) (Reps.none _ _))); intro v359 w4 ho5 hb hg_ hnew_; clear hg_ hnew_; (first | rw [← Ny358.out] at ho5 | (simp only [Int.reduceToNat] at ho5; rw [← Ny358.out] at ho5)); have n0_ := Aside0.mk (Kd.R_lower ho5 (below_size bl)); have n1_ := Aside0.mk (blk_below (g := gb357) (o := .cells #[.slice A0_0 l0_0.length c0_0, .slice A0_1 l0_1.length c0_1] 42 (0, 0)) (bk BK357.out) hb); have n2_ := Aside0.mk (below_step bl hb); clear BK357; clear HB; have HO360 := n0_; have BK357 := n1_; have HB := n2_; clear n0_ n1_ n2_; clear hb ho5))
 go_loopg [3, 4] k (fun kq v3 v4 w' => ∃ (x3_1 : List Int) (x4_1 : Int), v4 = .int .i64 x4_1 ∧ Aside0 (spinnakerref13_Bytes.l0 kq x3_1 x4_1 l0_0 l0_1 = some r) ∧ Aside0 (kq ≤ k) ∧ Aside0 (Kd.R (Kd.int .i64) 3 w' w.heap.size (fun _ => True) v3 x3_1) ∧ Aside0 (w'.heap[gb357]? = some (.cells #[(.slice A0_0 l0_0.length c0_0), (.slice A0_1 l0_1.length c0_1)] 42 (0, 0))) ∧ Aside0 (Below w.heap.size w w'))
 case atStart => exact ⟨(y358), (0), fj, H', ⟨Nat.le_refl _⟩, ⟨by (with_reducible repeat (first | apply Kd.R_alloc | apply Kd.R_drewN | apply Kd.R_drew)); exact HO360.out⟩, ⟨by refine bx ?_; exact BK357.out⟩, ⟨bl⟩⟩
 case round =>
  clear H'
  try clear c2
  try clear p2
  try clear hcz3_0 hcz3_1
  try clear hfz3_0 hfz3_1
  obtain ⟨x3_1, x4_1, rfl, HA, HK1, HO_3, BK357, HB⟩ := hrel
  cases gk with
  | zero => exact absurd HA.out (by simp [spinnakerref13_Bytes.l0])
  | succ k1 =>
   have H := HA.out
   clear HA
   simp only [spinnakerref13_Bytes.l0] at H
   by_cases c6 : x4_1 < (l0_0.length : Int)
   rotate_left
   ·rw [if_neg c6] at H
    have c6b0 := decide_eq_false c6
    clear c6
    by_cases c58 : x3_1.length < 17592186044416
    rotate_left
    ·rw [if_neg c58] at H
     exact absurd H (by simp)
    rw [if_pos c58] at H
    have LMc58 := Aside0.mk c58
    clear c58
    obtain ⟨y393, hy393⟩ : ∃ y_ : List Int, y_ = (x3_1 ++ [(l0_1.length : Int)]) := ⟨_, rfl⟩
    replace H : (spinnakerref13_Bytes.l2 k1 y393 0 l0_0 l0_1) = some r := by first | (rw [hy393]; with_reducible exact H) | (have H2_ := (Option.bind_some _ _).symm.trans H; rw [hy393]; with_reducible exact H2_) | (have H2_ := (Option.bind_some _ _).symm.trans H; with_reducible exact H2_) | with_reducible exact H | (rw [hy393]; exact H) | exact H
    have Ny393 := Aside0.mk hy393
    clear hy393
    have H' := Aside0.mk H
    clear H
    obtain ⟨hcz59_0, hcz59_1, hfz59_0, hfz59_1⟩ := cz2 (w := wr) BK357.out
    go_wp2_with (first | ((with_reducible refine gate_builtin (b := .append) (xs := #[.tmp 68, .tmp 72]) rfl ?_); at_builtin; refine Kd.R_append (Kd.int .i64) (w0 := w) w.heap.size rfl (.tmp 68) (.tmp 72) 23 3 (.int .i64 0) 8 rfl Try.underlying23 info3 rfl (by decide) (by omega) u3 x3_1 (l0_1.length : Int) [.int .i64 (l0_1.length : Int)] (fun _ => True) (fun _ => False) rfl rfl ?aP (fun _ hk => hk.elim) ?aF ?aO ?aB ?aS ?aL ?_; (case aP => exact rfl); (case aB => exact bl); (case aF => exact (fun _ _ => trivial)); (case aO => exact (by (with_reducible repeat (first | apply Kd.R_alloc | apply Kd.R_drewN | apply Kd.R_drew)); exact HO_3.out)); (case aS => exact (below_size bl)); (case aL => have := LMc58.out; omega); intro v394 w60 ho hb hg hat; rw [← Ny393.out] at ho; have n0_ := Aside0.mk (blk_grown (g := gb357) (o := .cells #[.slice A0_0 l0_0.length c0_0, .slice A0_1 l0_1.length c0_1] 42 (0, 0)) (bk BK357.out) hg (Kd.R_ne HO_3.out BK357.out (by decide))); have n1_ := Aside0.mk (hb); have n2_ := Aside0.mk (ho); clear BK357; clear HB; clear HO_3; have BK357 := n0_; have HB := n1_; have HO395 := n2_; clear n0_ n1_ n2_; clear ho hb hg hat))
    go_loopg [3, 8] k1 (fun kq v3 v8 w' => ∃ (x3_2 : List Int) (x8_2 : Int), v8 = .int .i64 x8_2 ∧ Aside0 (spinnakerref13_Bytes.l2 kq x3_2 x8_2 l0_0 l0_1 = some r) ∧ Aside0 (kq ≤ k1) ∧ Aside0 (Kd.R (Kd.int .i64) 3 w' w.heap.size (fun _ => True) v3 x3_2) ∧ Aside0 (w'.heap[gb357]? = some (.cells #[(.slice A0_0 l0_0.length c0_0), (.slice A0_1 l0_1.length c0_1)] 42 (0, 0))) ∧ Aside0 (Below w.heap.size w w'))
    case atStart => exact ⟨(y393), (0), fj, H', ⟨Nat.le_refl _⟩, ⟨by (with_reducible repeat (first | apply Kd.R_alloc | apply Kd.R_drewN | apply Kd.R_drew)); exact HO395.out⟩, ⟨by refine bx ?_; exact BK357.out⟩, ⟨bl⟩⟩
    case round =>
     clear H'
     try clear c1
     try clear q1
     try clear c2
     try clear p2
     try clear c3
     try clear p3
     try clear q3
     try clear hx3
     try clear c4
     try clear c5
     try clear c6
     try clear c6b0
     try clear p6
     try clear c7
     try clear c7b0
     try clear c8
     try clear c11
     try clear c11b0
     try clear c12
     try clear c12b0
     try clear c13
     try clear c13b0
     try clear c14
     try clear c14b0
     try clear q15
     try clear c16
     try clear q17
     try clear c18
     try clear c19
     try clear c22
     try clear c26
     try clear c28
     try clear c31
     try clear c36
     try clear p36
     try clear q36
     try clear hx36
     try clear q37
     try clear c38
     try clear c39
     try clear c42
     try clear c48
     try clear c51
     try clear c58
     try clear hcz20_0 hcz20_1
     try clear hcz23_0 hcz23_1 hcz23_2 hcz23_3 hcz23_4 hcz23_5
     try clear hcz29_0 hcz29_1
     try clear hcz32_0 hcz32_1 hcz32_2 hcz32_3 hcz32_4 hcz32_5
     try clear hcz3_0 hcz3_1
     try clear hcz40_0 hcz40_1
     try clear hcz43_0 hcz43_1 hcz43_2 hcz43_3 hcz43_4 hcz43_5
     try clear hcz49_0 hcz49_1
     try clear hcz52_0 hcz52_1 hcz52_2 hcz52_3 hcz52_4 hcz52_5
     try clear hcz57_0 hcz57_1
     try clear hcz59_0 hcz59_1
     try clear hcz9_0 hcz9_1
     try clear hfz20_0 hfz20_1
     try clear hfz23_0 hfz23_1 hfz23_2 hfz23_3 hfz23_4 hfz23_5
     try clear hfz29_0 hfz29_1
     try clear hfz32_0 hfz32_1 hfz32_2 hfz32_3 hfz32_4 hfz32_5
     try clear hfz3_0 hfz3_1
     try clear hfz40_0 hfz40_1
     try clear hfz43_0 hfz43_1 hfz43_2 hfz43_3 hfz43_4 hfz43_5
     try clear hfz49_0 hfz49_1
     try clear hfz52_0 hfz52_1 hfz52_2 hfz52_3 hfz52_4 hfz52_5
     try clear hfz57_0 hfz57_1
     try clear hfz59_0 hfz59_1
     try clear hfz9_0 hfz9_1
     try clear hx361_0
     try clear hx365_0
     try clear hx366_0
     try clear hx367_0
     try clear hx367_1
     try clear hx367_2
     try clear hx367_3
     try clear hx367_4
     try clear hx367_5
     try clear p2
     try clear p3
     try clear p361
     try clear p365
     try clear p366
     try clear p367
     try clear q3
     try clear q361
     try clear q365
     try clear q366
     try clear q367
     obtain ⟨x3_2, x8_2, rfl, HA, HK2, HO_3, BK357, HB⟩ := hrel
     cases gk with
     | zero => exact absurd HA.out (by simp [spinnakerref13_Bytes.l2])
     | succ k2 =>
      have H := HA.out
      clear HA
      simp only [spinnakerref13_Bytes.l2] at H
      by_cases c61 : x8_2 < (l0_1.length : Int)
      rotate_left
      ·rw [if_neg c61] at H
       have c61b0 := decide_eq_false c61
       clear c61
       have H' := Aside0.mk H
       clear H
       obtain ⟨hcz82_0, hcz82_1, hfz82_0, hfz82_1⟩ := cz2 (w := wr) BK357.out
       go_wp2
       go_loopg [10, 11] k2 (fun kq v10 v11 w' => ∃ (x10_3 : List Int) (x11_3 : Int), v11 = .int .i64 x11_3 ∧ Aside0 (spinnakerref13_Bytes.l4 kq x3_2 x10_3 x11_3 = some r) ∧ Aside0 (kq ≤ k2) ∧ Aside0 (Kd.R (Kd.int .i64) 3 w' w.heap.size (fun _ => True) u3 x3_2) ∧ Aside0 (Kd.R (Kd.int .u8) 5 w' w.heap.size (fun _ => True) v10 x10_3) ∧ Aside0 (w'.heap[gb357]? = some (.cells #[(.slice A0_0 l0_0.length c0_0), (.slice A0_1 l0_1.length c0_1)] 42 (0, 0))) ∧ Aside0 (Below w.heap.size w w'))
       case atStart => exact ⟨(([] : List Int)), (0), fj, H', ⟨Nat.le_refl _⟩, ⟨by (with_reducible repeat (first | apply Kd.R_alloc | apply Kd.R_drewN | apply Kd.R_drew)); exact HO_3.out⟩, ⟨by first | exact Kd.R_nil _ _ _ _ _ | exact Kd.N_nil _ _ _ _ _ | exact Kd.V_nil _ _ _ _ _ | exact Kd.Q_nil _ _ _ _ _ | exact Kd.S_nil _ _ _ _ _⟩, ⟨by refine bx ?_; exact BK357.out⟩, ⟨bl⟩⟩
       case round =>
        clear H'
        try clear c1
        try clear q1
        try clear c2
        try clear p2
        try clear c3
        try clear p3
        try clear q3
        try clear hx3
        try clear c4
        try clear p4
        try clear q4
        try clear hx4
        try clear c5
        try clear c6
        try clear c6b0
        try clear p6
        try clear c7
        try clear c7b0
        try clear c8
        try clear c11
        try clear c11b0
        try clear c12
        try clear c12b0
        try clear c13
        try clear c13b0
        try clear c14
        try clear c14b0
        try clear q15
        try clear c16
        try clear q17
        try clear c18
        try clear c19
        try clear c22
        try clear c26
        try clear c28
        try clear c31
        try clear c36
        try clear p36
        try clear q36
        try clear hx36
        try clear q37
        try clear c38
        try clear c39
        try clear p39
        try clear q39
        try clear hx39
        try clear c40
        try clear p40
        try clear q40
        try clear hx40
        try clear c42
        try clear c48
        try clear c51
        try clear c58
        try clear c61
        try clear c61b0
        try clear c62
        try clear c62b0
        try clear c63
        try clear p64
        try clear c70
        try clear c70b0
        try clear c71
        try clear c71b0
        try clear c72
        try clear c72b0
        try clear c73
        try clear c73b0
        try clear c74
        try clear hcz20_0 hcz20_1
        try clear hcz23_0 hcz23_1 hcz23_2 hcz23_3 hcz23_4 hcz23_5
        try clear hcz29_0 hcz29_1
        try clear hcz32_0 hcz32_1 hcz32_2 hcz32_3 hcz32_4 hcz32_5
        try clear hcz3_0 hcz3_1
        try clear hcz40_0 hcz40_1
        try clear hcz43_0 hcz43_1 hcz43_2 hcz43_3 hcz43_4 hcz43_5
        try clear hcz49_0 hcz49_1
        try clear hcz52_0 hcz52_1 hcz52_2 hcz52_3 hcz52_4 hcz52_5
        try clear hcz57_0 hcz57_1
        try clear hcz59_0 hcz59_1
        try clear hcz64_0 hcz64_1
        try clear hcz75_0 hcz75_1
        try clear hcz81_0 hcz81_1
        try clear hcz82_0 hcz82_1
        try clear hcz9_0 hcz9_1
        try clear hfz20_0 hfz20_1
        try clear hfz23_0 hfz23_1 hfz23_2 hfz23_3 hfz23_4 hfz23_5
        try clear hfz29_0 hfz29_1
        try clear hfz32_0 hfz32_1 hfz32_2 hfz32_3 hfz32_4 hfz32_5
        try clear hfz3_0 hfz3_1
        try clear hfz40_0 hfz40_1
        try clear hfz43_0 hfz43_1 hfz43_2 hfz43_3 hfz43_4 hfz43_5
        try clear hfz49_0 hfz49_1
        try clear hfz52_0 hfz52_1 hfz52_2 hfz52_3 hfz52_4 hfz52_5
        try clear hfz57_0 hfz57_1
        try clear hfz59_0 hfz59_1
        try clear hfz64_0 hfz64_1
        try clear hfz75_0 hfz75_1
        try clear hfz81_0 hfz81_1
        try clear hfz82_0 hfz82_1
        try clear hfz9_0 hfz9_1
        try clear hx361_0
        try clear hx365_0
        try clear hx366_0
        try clear hx367_0
        try clear hx367_1
        try clear hx367_2
        try clear hx367_3
        try clear hx367_4
        try clear hx367_5
        try clear hx396_0
        try clear hx396_1
        try clear hx397_0
        try clear hx397_1
        try clear hx404_0
        try clear hx404_1
        try clear hx405_0
        try clear hx405_1
        try clear hx406_0
        try clear hx406_1
        try clear hx407_0
        try clear hx407_1
        try clear hx408_0
        try clear hx408_1
        try clear p2
        try clear p3
        try clear p36
        try clear p361
        try clear p365
        try clear p366
        try clear p367
        try clear p39
        try clear p396
        try clear p397
        try clear p404
        try clear p405
        try clear p406
        try clear p407
        try clear p408
        try clear p6
        try clear p64
        try clear q1
        try clear q15
        try clear q17
        try clear q3
        try clear q36
        try clear q361
        try clear q365
        try clear q366
        try clear q367
        try clear q37
        try clear q39
        try clear q396
        try clear q397
        try clear q404
        try clear q405
        try clear q406
        try clear q407
        try clear q408
        obtain ⟨x10_3, x11_3, rfl, HA, HK3, HO_3, HO_10, BK357, HB⟩ := hrel
        cases gk with
        | zero => exact absurd HA.out (by simp [spinnakerref13_Bytes.l4])
        | succ k3 =>
         have H := HA.out
         clear HA
         simp only [spinnakerref13_Bytes.l4] at H
         by_cases c83 : x11_3 < (x3_2.length : Int)
         rotate_left
         ·rw [if_neg c83] at H
          have c83b0 := decide_eq_false c83
          clear c83
          obtain rfl := Option.some.inj H
          obtain ⟨Ao91, co91, eo91⟩ := Kd.R_slice HO_3.out
          subst eo91
          go_wp2
          go_ret
          exact ⟨_, fi, by (with_reducible repeat (first | apply Kd.R_alloc | apply Kd.R_drewN | apply Kd.R_drew)); exact HO_10.out, bl⟩
         rw [if_pos c83] at H
         have c83b0 := decide_eq_true c83
         clear c83
         by_cases c84 : 0 ≤ x11_3
         rotate_left
         ·rw [if_neg c84] at H
          exact absurd H (by simp)
         rw [if_pos c84] at H
         have c84b0 := decide_eq_true c84
         clear c84
         replace H := be H
         obtain ⟨t416, A85, H⟩ := H
         by_cases c86 : x10_3.length + t416.length < 140737488355328
         rotate_left
         ·rw [if_neg c86] at H
          exact absurd H (by simp)
         rw [if_pos c86] at H
         have LMc86 := Aside0.mk c86
         clear c86
         obtain ⟨y419, hy419⟩ : ∃ y_ : List Int, y_ = (x10_3 ++ t416) := ⟨_, rfl⟩
         replace H : (spinnakerref13_Bytes.l4 k3 x3_2 y419 (wrap64 (x11_3 + 1))) = some r := by first | (rw [hy419]; with_reducible exact H) | (have H2_ := (Option.bind_some _ _).symm.trans H; rw [hy419]; with_reducible exact H2_) | (have H2_ := (Option.bind_some _ _).symm.trans H; with_reducible exact H2_) | with_reducible exact H | (rw [hy419]; exact H) | exact H
         have Ny419 := Aside0.mk hy419
         clear hy419
         have H' := Aside0.mk H
         clear H
         obtain ⟨Ao87, co87, eo87⟩ := Kd.R_slice HO_3.out
         subst eo87
         have p415 : 0 ≤ (x11_3 : Int) := od
         have q415 : x11_3 < (x3_2.length : Int) := od
         obtain ⟨ad415, e415, hx415_0⟩ := Kd.at_int (Kd.R_reads' HO_3.out).2.2 x11_3 p415 q415
         cases e415
         replace p415 := eq_true p415
         replace q415 := eq_true q415
         go_wp2_with (first | ((with_reducible refine gate_callee (f := 56) rfl ?_); refine goesL_ (some 142) rfl rfl Try.func56 (by kernel_rfl) rfl #[.int .i64 (rd x3_2 x11_3)] rfl ga ?_; (with_reducible refine (spinnakerref13_Number.calls k3 (rd x3_2 x11_3) t416 _ A85.out).mono ?_); rintro e w88 ⟨v417, rfl, ho0, hb⟩; refine ⟨_, rfl, ?_⟩; have n0_ := Aside0.mk (Kd.R_below (by (with_reducible repeat (first | apply Kd.R_alloc | apply Kd.R_drewN | apply Kd.R_drew)); exact HO_3.out) hb); have n1_ := Aside0.mk (Kd.R_elder' (by (with_reducible repeat (first | apply Kd.R_alloc | apply Kd.R_drewN | apply Kd.R_drew)); exact HO_10.out) (Kd.R_base ho0) hb); have n2_ := Aside0.mk (Kd.R_lower (Kd.R_new' ho0 (Kd.R_lt (by (with_reducible repeat (first | apply Kd.R_alloc | apply Kd.R_drewN | apply Kd.R_drew)); exact HO_10.out))) (below_size bl)); have n3_ := Aside0.mk (blk_below (g := gb357) (o := .cells #[.slice A0_0 l0_0.length c0_0, .slice A0_1 l0_1.length c0_1] 42 (0, 0)) (bk BK357.out) hb); have n4_ := Aside0.mk (below_step bl hb); clear HO_3; clear HO_10; clear BK357; clear HB; have HO_3 := n0_; have HO_10 := n1_; have HO418 := n2_; have BK357 := n3_; have HB := n4_; clear n0_ n1_ n2_ n3_ n4_; (try clear hb); (try clear ho0); obtain ⟨Ao90, co90, eo90⟩ := Kd.R_slice HO418.out; subst eo90) | ((with_reducible refine gate_builtin (b := .append) (xs := #[.tmp 137, .tmp 142]) rfl ?_); at_builtin; refine Kd.R_append_rows (Kd.int .u8) (w0 := w) w.heap.size rfl (.tmp 137) (.tmp 142) 30 5 (.int .u8 0) 1 rfl Try.underlying30 info5 rfl (by decide) (by omega) u10 x10_3 t416 _ _ _ (fun k_ => some k_ ≠ (.slice Ao90 t416.length co90 : Value).ownBlock) (fun _ => False) rfl rfl ?aO ?aR (fun _ _ h => h) (fun _ h => h.elim) ?aF ?aB ?aS ?aL ?_; (case aR => repeat (first | exact (Kd.R_reads' HO418.out).2.2 | (with_reducible refine Kd.C_alloc ?_ _) | (with_reducible refine Kd.C_drewN ?_ _) | (with_reducible refine Kd.C_drew ?_))); (case aB => exact bl); (case aF => exact (fun k_ hk => Kd.fresh' (Kd.R_lt (by (with_reducible repeat (first | apply Kd.R_alloc | apply Kd.R_drewN | apply Kd.R_drew)); exact HO418.out)) k_ hk)); (case aO => exact (by (with_reducible repeat (first | apply Kd.R_alloc | apply Kd.R_drewN | apply Kd.R_drew)); exact Kd.R_mono HO_10.out (fun _ hk => hk.2))); (case aS => exact (below_size bl)); (case aL => have := LMc86.out; omega); intro v420 w89 ho hb hg hat; rw [← Ny419.out] at ho; have n0_ := Aside0.mk (Kd.R_over' (by (with_reducible repeat (first | apply Kd.R_alloc | apply Kd.R_drewN | apply Kd.R_drew)); exact HO_3.out) (Kd.R_typed (by (with_reducible repeat (first | apply Kd.R_alloc | apply Kd.R_drewN | apply Kd.R_drew)); exact HO_10.out)) (by decide) hg); have n1_ := Aside0.mk (blk_grown (g := gb357) (o := .cells #[.slice A0_0 l0_0.length c0_0, .slice A0_1 l0_1.length c0_1] 42 (0, 0)) (bk BK357.out) hg (Kd.R_ne HO_10.out BK357.out (by decide))); have n2_ := Aside0.mk (Kd.R_after (ok := (fun _ => True)) (by (with_reducible repeat (first | apply Kd.R_alloc | apply Kd.R_drewN | apply Kd.R_drew)); exact HO418.out) hg hat); have n3_ := Aside0.mk (hb); have n4_ := Aside0.mk (ho); clear HO_3; clear BK357; clear HO418; clear HB; clear HO_10; have HO_3 := n0_; have BK357 := n1_; have HO418 := n2_; have HB := n3_; have HO421 := n4_; clear n0_ n1_ n2_ n3_ n4_; clear ho hb hg hat))
         go_roundg k3
         case measure => have := HK1.out; have := HK2.out; have := HK3.out; omega
         case rel => exact ⟨(y419), (wrap64 (x11_3 + 1)), fj, H', ⟨by have := HK1.out; have := HK2.out; have := HK3.out; omega⟩, ⟨by (with_reducible repeat (first | apply Kd.R_alloc | apply Kd.R_drewN | apply Kd.R_drew)); exact HO_3.out⟩, ⟨by (with_reducible repeat (first | apply Kd.R_alloc | apply Kd.R_drewN | apply Kd.R_drew)); exact Kd.R_mono HO421.out (fun _ hk => trivial)⟩, ⟨by refine bx ?_; exact BK357.out⟩, ⟨bl⟩⟩
      rw [if_pos c61] at H
      have c61b0 := decide_eq_true c61
      clear c61
      by_cases c62 : 0 ≤ x8_2
      rotate_left
      ·rw [if_neg c62] at H
       exact absurd H (by simp)
      rw [if_pos c62] at H
      have c62b0 := decide_eq_true c62
      clear c62
      obtain ⟨y398, hy398⟩ : ∃ y_ : List Int, y_ = (([(rd_T70 l0_1 x8_2).f0, (((rd_T70 l0_1 x8_2).f1).length : Int)] : List Int)) := ⟨_, rfl⟩
      replace H : (if x3_2.length + y398.length < 17592186044416 then (spinnakerref13_Bytes.l3 k2 (x3_2 ++ y398) x8_2 0 l0_0 l0_1) else (none)) = some r := by first | (rw [hy398]; with_reducible exact H) | (have H2_ := (Option.bind_some _ _).symm.trans H; rw [hy398]; with_reducible exact H2_) | (have H2_ := (Option.bind_some _ _).symm.trans H; with_reducible exact H2_) | with_reducible exact H | (rw [hy398]; exact H) | exact H
      have Ny398 := Aside0.mk hy398
      clear hy398
      by_cases c63 : x3_2.length + y398.length < 17592186044416
      rotate_left
      ·rw [if_neg c63] at H
       exact absurd H (by simp)
      rw [if_pos c63] at H
      have LMc63 := Aside0.mk c63
      clear c63
      obtain ⟨y401, hy401⟩ : ∃ y_ : List Int, y_ = (x3_2 ++ y398) := ⟨_, rfl⟩
      replace H : (spinnakerref13_Bytes.l3 k2 y401 x8_2 0 l0_0 l0_1) = some r := by first | (rw [hy401]; with_reducible exact H) | (have H2_ := (Option.bind_some _ _).symm.trans H; rw [hy401]; with_reducible exact H2_) | (have H2_ := (Option.bind_some _ _).symm.trans H; with_reducible exact H2_) | with_reducible exact H | (rw [hy401]; exact H) | exact H
      have Ny401 := Aside0.mk hy401
      clear hy401
      have H' := Aside0.mk H
      clear H
      obtain ⟨hcz64_0, hcz64_1, hfz64_0, hfz64_1⟩ := cz2 (w := wr) BK357.out
      try go_wp2
      have n0_ := Aside0.mk (Kd.R_drew HO_3.out)
      have n1_ := Aside0.mk (blk_drew BK357.out)
      have n2_ := Aside0.mk (below_drew1 HB.out)
      clear HO_3
      clear BK357
      clear HB
      have HO_3 := n0_
      have BK357 := n1_
      have HB := n2_
      clear n0_ n1_ n2_
      have p396 : 0 ≤ (x8_2 : Int) := od
      have q396 : x8_2 < (l0_1.length : Int) := od
      obtain ⟨ad396, A396_1, c396_1, e396, hx396_0, hx396_1, hl396_1, hi396_1⟩ := at_T70 HR0_1.out x8_2 p396 q396
      have hw396_1 := hx396_1
      have hw396_0 := hx396_0
      cases e396
      replace hx396_0 := cb HB.out hx396_0
      replace hx396_1 := cb HB.out hx396_1
      have HR396_1 := Aside0.mk hi396_1
      have HC396_1 := Aside0.mk hl396_1
      clear hi396_1 hl396_1
      replace p396 := eq_true p396
      replace q396 := eq_true q396
      have p397 : 0 ≤ (x8_2 : Int) := od
      have q397 : x8_2 < (l0_1.length : Int) := od
      obtain ⟨ad397, A397_1, c397_1, e397, hx397_0, hx397_1, hl397_1, hi397_1⟩ := at_T70 HR0_1.out x8_2 p397 q397
      have hw397_1 := hx397_1
      have hw397_0 := hx397_0
      obtain rfl : ad396 = ad397 := (by injection e397)
      replace hx397_0 := cb HB.out hx397_0
      replace hx397_1 := cb HB.out hx397_1
      have HR397_1 := Aside0.mk hi397_1
      have HC397_1 := Aside0.mk hl397_1
      clear hi397_1 hl397_1
      replace p397 := eq_true p397
      replace q397 := eq_true q397
      have ea_ := Option.some.inj (hx396_1.symm.trans hx397_1)
      injection ea_ with ea_ en_ ec_
      subst ea_
      subst ec_
      clear en_
      refine start_ (n := 17) (S := fun w' => w'.cell? ⟨gb357, 0, none⟩ = some (.slice A0_0 l0_0.length c0_0) ∧ w'.cell? ⟨gb357, 1, none⟩ = some (.slice (some ad396) l0_1.length c0_1) ∧ w'.cell? (ad396.add ((x8_2).toNat * 2)) = some (.int .i64 ((rd_T70 l0_1 x8_2).f0)) ∧ w'.cell? ⟨(ad396.add ((x8_2).toNat * 2)).block, (ad396.add ((x8_2).toNat * 2)).off + 1, none⟩ = some (.slice A396_1 ((rd_T70 l0_1 x8_2).f1).length c396_1) ∧ w'.cell? (ad396.add ((x8_2).toNat * 2)) = some (.int .i64 ((rd_T70 l0_1 x8_2).f0)) ∧ w'.cell? ⟨(ad396.add ((x8_2).toNat * 2)).block, (ad396.add ((x8_2).toNat * 2)).off + 1, none⟩ = some (.slice A396_1 ((rd_T70 l0_1 x8_2).f1).length c396_1)) (ds := []) (fl 17 0) (by kernel_rfl) rfl rfl ⟨(blk_cell BK357.out 0).trans rfl, (blk_cell BK357.out 1).trans rfl, (cb HB.out hw396_0), (cb HB.out hw396_1), (cb HB.out hw397_0), (cb HB.out hw397_1)⟩ (fun hHeld => ?_); refine with_tabW spinnakerref13_Bytes.tab20 spinnakerref13_Bytes.bits20 (fun HT_ HW_ => ?_)
      generalize wr.drew = w65 at HO_3 BK357 HB HR396_1 HR397_1 hx396_0 hx396_1 hx397_0 hx397_1 hHeld ⊢
      refine pq 0 (some 81) ?_ (fl 17 1) HT_.out rfl rfl ?_ ?_ ?_ ?_
      rotate_left
      ·intro w'
       go_simp
       with_reducible rfl
      rotate_left
      ·refine pt ?_
       rfl
      refine pq 1 (some 82) ?_ (fl 17 2) HT_.out rfl rfl ?_ ?_ ?_ ?_
      rotate_left
      ·intro w'
       go_simp
       with_reducible rfl
      rotate_left
      ·refine pt ?_
       rfl
      refine pq 3 (some 84) ?_ #[true, true, false, true, false, false, false, false, false, false, false, false, false, false, false, false, false] HT_.out rfl rfl ?_ ?_ ?_ ?_
      rotate_left
      ·intro w'
       go_simp
       with_reducible rfl
      rotate_left
      ·refine pt ?_
       rfl
      refine pq 7 (some 88) ?_ #[true, true, false, true, false, false, false, true, false, false, false, false, false, false, false, false, false] HT_.out rfl rfl ?_ ?_ ?_ ?_
      rotate_left
      ·intro w'
       go_simp
       with_reducible rfl
      rotate_left
      ·refine pt ?_
       rfl
      refine pq 9 (some 90) ?_ #[true, true, false, true, false, false, false, true, false, true, false, false, false, false, false, false, false] HT_.out rfl rfl ?_ ?_ ?_ ?_
      rotate_left
      ·intro w'
       go_simp
       with_reducible rfl
      rotate_left
      ·refine pt ?_
       rfl
      refine pk 2 (some 83) ?_ #[true, true, true, true, false, false, false, true, false, true, false, false, false, false, false, false, false] HT_.out HW_.out rfl rfl ?_ hHeld ?_ ?_ ?_
      rotate_left
      ·rintro w' ⟨s0, s1, s2, s3, s4, s5⟩
       go_simp
       with_reducible rfl
      rotate_left
      ·refine pt ?_
       rfl
      refine pq 4 (some 85) ?_ #[true, true, true, true, true, false, false, true, false, true, false, false, false, false, false, false, false] HT_.out rfl rfl ?_ ?_ ?_ ?_
      rotate_left
      ·intro w'
       go_simp
       with_reducible rfl
      rotate_left
      ·refine pt ?_
       rfl
      refine pq 5 (some 86) ?_ #[true, true, true, true, true, true, false, true, false, true, false, false, false, false, false, false, false] HT_.out rfl rfl ?_ ?_ ?_ ?_
      rotate_left
      ·intro w'
       go_simp
       with_reducible rfl
      rotate_left
      ·refine pt ?_
       rfl
      refine pk 6 (some 87) ?_ #[true, true, true, true, true, true, true, true, false, true, false, false, false, false, false, false, false] HT_.out HW_.out rfl rfl ?_ hHeld ?_ ?_ ?_
      rotate_left
      ·rintro w' ⟨s0, s1, s2, s3, s4, s5⟩
       go_simp
       with_reducible rfl
      rotate_left
      ·refine pt ?_
       rfl
      refine pk 8 (some 89) ?_ (fl 17 10) HT_.out HW_.out rfl rfl ?_ hHeld ?_ ?_ ?_
      rotate_left
      ·rintro w' ⟨s0, s1, s2, s3, s4, s5⟩
       go_simp
       with_reducible rfl
      rotate_left
      ·refine pt ?_
       rfl
      refine pq 10 (some 91) ?_ (fl 17 11) HT_.out rfl rfl ?_ ?_ ?_ ?_
      rotate_left
      ·intro w'
       go_simp
       with_reducible rfl
      rotate_left
      ·refine pt ?_
       rfl
      refine pq 11 (some 92) ?_ (fl 17 12) HT_.out rfl rfl ?_ ?_ ?_ ?_
      rotate_left
      ·intro w'
       go_simp
       with_reducible rfl
      rotate_left
      ·refine pt ?_
       rfl
      refine pk 12 (some 93) ?_ (fl 17 13) HT_.out HW_.out rfl rfl ?_ hHeld ?_ ?_ ?_
      rotate_left
      ·rintro w' ⟨s0, s1, s2, s3, s4, s5⟩
       go_simp
       with_reducible rfl
      rotate_left
      ·refine pt ?_
       rfl
      refine pq 13 (some 94) ?_ (fl 17 14) HT_.out rfl rfl ?_ ?_ ?_ ?_
      rotate_left
      ·intro w'
       go_simp
       with_reducible rfl
      rotate_left
      ·refine pt ?_
       rfl
      refine one_ (i := 14) (N := some 95) (fl 17 15) rfl rfl (one_of HT_.out (by kernel_rfl)) (by decide) (fun K hK => ?_)
      refine Kd.R_lit_step (Kd.int .i64) _ 3 ?hg (N := 95) ?hd (xs := ([(rd_T70 l0_1 x8_2).f0, (((rd_T70 l0_1 x8_2).f1).length : Int)] : List Int)) (inner := [.int .i64 ((rd_T70 l0_1 x8_2).f0), .int .i64 (((rd_T70 l0_1 x8_2).f1).length : Int)]) (ok := fun _ => True) (okp := fun _ => True) ?hr ?hp (fun _ hk => hk) trivial (Below.refl _ _) (Nat.le_refl _) (by simp) ?_; (case hd => rfl); (case hg => rfl); (case hr => first | (go_simp; done) | (go_simp; rfl)); (case hp => exact (Reps.one (show Kd.M (Kd.int .i64) _ _ _ ((rd_T70 l0_1 x8_2).f0) [.int .i64 ((rd_T70 l0_1 x8_2).f0)] from rfl) (Reps.one (show Kd.M (Kd.int .i64) _ _ _ (((rd_T70 l0_1 x8_2).f1).length : Int) [.int .i64 (((rd_T70 l0_1 x8_2).f1).length : Int)] from rfl) (Reps.none _ _))))
      intro v399 w66 ho67 hb hg_ hnew_
      clear hg_ hnew_
      (first | rw [← Ny398.out] at ho67 | (simp only [Int.reduceToNat] at ho67; rw [← Ny398.out] at ho67))
      have n0_ := Aside0.mk (Kd.R_elder' (by (with_reducible repeat (first | apply Kd.R_alloc | apply Kd.R_drewN | apply Kd.R_drew)); exact HO_3.out) (Kd.R_base ho67) hb)
      have n1_ := Aside0.mk (Kd.R_lower (Kd.R_new' ho67 (Kd.R_lt (by (with_reducible repeat (first | apply Kd.R_alloc | apply Kd.R_drewN | apply Kd.R_drew)); exact HO_3.out))) (below_size bl))
      have n2_ := Aside0.mk (blk_below (g := gb357) (o := .cells #[.slice A0_0 l0_0.length c0_0, .slice (some ad396) l0_1.length c0_1] 42 (0, 0)) (bk BK357.out) hb)
      have n3_ := Aside0.mk (below_step bl hb)
      clear HO_3
      clear BK357
      clear HB
      have HO_3 := n0_
      have HO400 := n1_
      have BK357 := n2_
      have HB := n3_
      clear n0_ n1_ n2_ n3_
      clear hb ho67
      obtain ⟨Ao69, co69, eo69⟩ := Kd.R_slice HO400.out
      (first | subst eo69 | (injection eo69 with f1_ f2_ f3_; have f4_ := f1_.symm; have f5_ := f3_.symm; clear f1_ f2_ f3_; subst f4_; subst f5_))
      refine hK.out _ _ ⟨(blk_cell BK357.out 0).trans rfl, (blk_cell BK357.out 1).trans rfl, (cb HB.out hw396_0), (cb HB.out hw396_1), (cb HB.out hw397_0), (cb HB.out hw397_1)⟩ (fun hHeld => ?_)
      clear hK K
      refine norm_ (a' := ?_) ?_ ?_
      rotate_left
      ·show Act.put _ (some 95) _ = _
       refine pt ?_
       rfl
      refine one_ (i := 15) (N := some 96) (fl 17 16) rfl rfl (one_of HT_.out (by kernel_rfl)) (by decide) (fun K hK => ?_)
      refine Kd.R_append_rows_step (Kd.int .i64) (w0 := w) w.heap.size (by rfl) (.tmp 81) (.tmp 95) 23 3 (.int .i64 0) 8 rfl Try.underlying23 info3 rfl (by decide) (by omega) u3 x3_2 y398 _ _ _ (fun k_ => some k_ ≠ (.slice Ao69 y398.length co69 : Value).ownBlock) (fun _ => False) rfl rfl ?aO ?aR (fun _ _ h => h) (fun _ h => h.elim) ?aF ?aB ?aS ?aL ?_
      (case aR => repeat (first | exact (Kd.R_reads' HO400.out).2.2 | (with_reducible refine Kd.C_alloc ?_ _) | (with_reducible refine Kd.C_drewN ?_ _) | (with_reducible refine Kd.C_drew ?_)))
      (case aB => exact bl)
      (case aF => exact (fun k_ hk => Kd.fresh' (Kd.R_lt (by (with_reducible repeat (first | apply Kd.R_alloc | apply Kd.R_drewN | apply Kd.R_drew)); exact HO400.out)) k_ hk))
      (case aO => exact (by (with_reducible repeat (first | apply Kd.R_alloc | apply Kd.R_drewN | apply Kd.R_drew)); exact Kd.R_mono HO_3.out (fun _ hk => hk.2)))
      (case aS => exact (below_size bl))
      (case aL => have := LMc63.out; omega)
      intro v402 w68 ho hb hg hat
      rw [← Ny401.out] at ho
      have n0_ := Aside0.mk (blk_grown (g := gb357) (o := .cells #[.slice A0_0 l0_0.length c0_0, .slice (some ad396) l0_1.length c0_1] 42 (0, 0)) (bk BK357.out) hg (Kd.R_ne HO_3.out BK357.out (by decide)))
      have n1_ := Aside0.mk (Kd.R_after (ok := (fun _ => True)) (by (with_reducible repeat (first | apply Kd.R_alloc | apply Kd.R_drewN | apply Kd.R_drew)); exact HO400.out) hg hat)
      have n2_ := Aside0.mk (hb)
      have n3_ := Aside0.mk (ho)
      clear BK357
      clear HO400
      clear HB
      clear HO_3
      have BK357 := n0_
      have HO400 := n1_
      have HB := n2_
      have HO403 := n3_
      clear n0_ n1_ n2_ n3_
      clear ho hb hg hat
      refine hK.out _ _ ⟨(blk_cell BK357.out 0).trans rfl, (blk_cell BK357.out 1).trans rfl, (cb HB.out hw396_0), (cb HB.out hw396_1), (cb HB.out hw397_0), (cb HB.out hw397_1)⟩ (fun hHeld => ?_)
      clear hK K
      refine norm_ (a' := ?_) ?_ ?_
      rotate_left
      ·show Act.put _ (some 96) _ = _
       refine pt ?_
       rfl
      refine pq 16 (some 3) ?_ (fl 17 17) HT_.out rfl rfl ?_ ?_ ?_ ?_
      rotate_left
      ·intro w'
       go_simp
       with_reducible rfl
      rotate_left
      ·refine pt ?_
       rfl
      refine done_ (done_of HT_.out (by kernel_rfl)) ?_
      try go_wp2
      go_loopg [3, 9] k2 (fun kq v3 v9 w' => ∃ (x3_3 : List Int) (x9_3 : Int), v9 = .int .i64 x9_3 ∧ Aside0 (spinnakerref13_Bytes.l3 kq x3_3 x8_2 x9_3 l0_0 l0_1 = some r) ∧ Aside0 (kq ≤ k2) ∧ Aside0 (Kd.R (Kd.int .i64) 3 w' w.heap.size (fun _ => True) v3 x3_3) ∧ Aside0 (w'.heap[gb357]? = some (.cells #[(.slice A0_0 l0_0.length c0_0), (.slice (some ad396) l0_1.length c0_1)] 42 (0, 0))) ∧ Aside0 (Below w.heap.size w w'))
      case atStart => exact ⟨(y401), (0), fj, H', ⟨Nat.le_refl _⟩, ⟨by (with_reducible repeat (first | apply Kd.R_alloc | apply Kd.R_drewN | apply Kd.R_drew)); exact Kd.R_mono HO403.out (fun _ hk => trivial)⟩, ⟨by refine bx ?_; exact BK357.out⟩, ⟨bl⟩⟩
      case round =>
       clear H'
       try clear c1
       try clear q1
       try clear c2
       try clear p2
       try clear c3
       try clear p3
       try clear q3
       try clear hx3
       try clear c4
       try clear c5
       try clear c6
       try clear c6b0
       try clear p6
       try clear c7
       try clear c7b0
       try clear c8
       try clear c11
       try clear c11b0
       try clear c12
       try clear c12b0
       try clear c13
       try clear c13b0
       try clear c14
       try clear c14b0
       try clear q15
       try clear c16
       try clear q17
       try clear c18
       try clear c19
       try clear c22
       try clear c26
       try clear c28
       try clear c31
       try clear c36
       try clear p36
       try clear q36
       try clear hx36
       try clear q37
       try clear c38
       try clear c39
       try clear p39
       try clear q39
       try clear hx39
       try clear c42
       try clear c48
       try clear c51
       try clear c58
       try clear c61
       try clear c61b0
       try clear c62
       try clear c62b0
       try clear c63
       try clear p64
       try clear hcz20_0 hcz20_1
       try clear hcz23_0 hcz23_1 hcz23_2 hcz23_3 hcz23_4 hcz23_5
       try clear hcz29_0 hcz29_1
       try clear hcz32_0 hcz32_1 hcz32_2 hcz32_3 hcz32_4 hcz32_5
       try clear hcz3_0 hcz3_1
       try clear hcz40_0 hcz40_1
       try clear hcz43_0 hcz43_1 hcz43_2 hcz43_3 hcz43_4 hcz43_5
       try clear hcz49_0 hcz49_1
       try clear hcz52_0 hcz52_1 hcz52_2 hcz52_3 hcz52_4 hcz52_5
       try clear hcz57_0 hcz57_1
       try clear hcz59_0 hcz59_1
       try clear hcz64_0 hcz64_1
       try clear hcz9_0 hcz9_1
       try clear hfz20_0 hfz20_1
       try clear hfz23_0 hfz23_1 hfz23_2 hfz23_3 hfz23_4 hfz23_5
       try clear hfz29_0 hfz29_1
       try clear hfz32_0 hfz32_1 hfz32_2 hfz32_3 hfz32_4 hfz32_5
       try clear hfz3_0 hfz3_1
       try clear hfz40_0 hfz40_1
       try clear hfz43_0 hfz43_1 hfz43_2 hfz43_3 hfz43_4 hfz43_5
       try clear hfz49_0 hfz49_1
       try clear hfz52_0 hfz52_1 hfz52_2 hfz52_3 hfz52_4 hfz52_5
       try clear hfz57_0 hfz57_1
       try clear hfz59_0 hfz59_1
       try clear hfz64_0 hfz64_1
       try clear hfz9_0 hfz9_1
       try clear hx361_0
       try clear hx365_0
       try clear hx366_0
       try clear hx367_0
       try clear hx367_1
       try clear hx367_2
       try clear hx367_3
       try clear hx367_4
       try clear hx367_5
       try clear hx396_0
       try clear hx396_1
       try clear hx397_0
       try clear hx397_1
       try clear p2
       try clear p3
       try clear p36
       try clear p361
       try clear p365
       try clear p366
       try clear p367
       try clear p396
       try clear p397
       try clear p6
       try clear q1
       try clear q15
       try clear q17
       try clear q3
       try clear q36
       try clear q361
       try clear q365
       try clear q366
       try clear q367
       try clear q37
       try clear q396
       try clear q397
       obtain ⟨x3_3, x9_3, rfl, HA, HK3, HO_3, BK357, HB⟩ := hrel
       cases gk with
       | zero => exact absurd HA.out (by simp [spinnakerref13_Bytes.l3])
       | succ k3 =>
        have H := HA.out
        clear HA
        simp only [spinnakerref13_Bytes.l3] at H
        by_cases c70 : 0 ≤ x8_2
        rotate_left
        ·rw [if_neg c70] at H
         exact absurd H (by simp)
        rw [if_pos c70] at H
        have c70b0 := decide_eq_true c70
        clear c70
        by_cases c71 : x8_2 < (l0_1.length : Int)
        rotate_left
        ·rw [if_neg c71] at H
         exact absurd H (by simp)
        rw [if_pos c71] at H
        have c71b0 := decide_eq_true c71
        clear c71
        by_cases c72 : x9_3 < (((rd_T70 l0_1 x8_2).f1).length : Int)
        rotate_left
        ·rw [if_neg c72] at H
         have c72b0 := decide_eq_false c72
         clear c72
         have H' := Aside0.mk H
         clear H
         obtain ⟨hcz81_0, hcz81_1, hfz81_0, hfz81_1⟩ := cz2 (w := wr) BK357.out
         have p404 : 0 ≤ (x8_2 : Int) := od
         have q404 : x8_2 < (l0_1.length : Int) := od
         obtain ⟨ad404, A404_1, c404_1, e404, hx404_0, hx404_1, hl404_1, hi404_1⟩ := at_T70 HR0_1.out x8_2 p404 q404
         obtain rfl : ad396 = ad404 := (by injection e404)
         replace hx404_0 := cb HB.out hx404_0
         replace hx404_1 := cb HB.out hx404_1
         have HR404_1 := Aside0.mk hi404_1
         have HC404_1 := Aside0.mk hl404_1
         clear hi404_1 hl404_1
         replace p404 := eq_true p404
         replace q404 := eq_true q404
         go_wp2
         go_roundg k3
         case measure => have := HK1.out; have := HK2.out; have := HK3.out; omega
         case rel => exact ⟨(x3_3), (wrap64 (x8_2 + 1)), fj, H', ⟨by have := HK1.out; have := HK2.out; have := HK3.out; omega⟩, ⟨by (with_reducible repeat (first | apply Kd.R_alloc | apply Kd.R_drewN | apply Kd.R_drew)); exact HO_3.out⟩, ⟨by refine bx ?_; exact BK357.out⟩, ⟨bl⟩⟩
        rw [if_pos c72] at H
        have c72b0 := decide_eq_true c72
        clear c72
        by_cases c73 : 0 ≤ x9_3
        rotate_left
        ·rw [if_neg c73] at H
         exact absurd H (by simp)
        rw [if_pos c73] at H
        have c73b0 := decide_eq_true c73
        clear c73
        obtain ⟨y409, hy409⟩ : ∃ y_ : List Int, y_ = (([(rd_T73 ((rd_T70 l0_1 x8_2).f1) x9_3).f0, (rd_T73 ((rd_T70 l0_1 x8_2).f1) x9_3).f1] : List Int)) := ⟨_, rfl⟩
        replace H : (if x3_3.length + y409.length < 17592186044416 then (spinnakerref13_Bytes.l3 k3 (x3_3 ++ y409) x8_2 (wrap64 (x9_3 + 1)) l0_0 l0_1) else (none)) = some r := by first | (rw [hy409]; with_reducible exact H) | (have H2_ := (Option.bind_some _ _).symm.trans H; rw [hy409]; with_reducible exact H2_) | (have H2_ := (Option.bind_some _ _).symm.trans H; with_reducible exact H2_) | with_reducible exact H | (rw [hy409]; exact H) | exact H
        have Ny409 := Aside0.mk hy409
        clear hy409
        by_cases c74 : x3_3.length + y409.length < 17592186044416
        rotate_left
        ·rw [if_neg c74] at H
         exact absurd H (by simp)
        rw [if_pos c74] at H
        have LMc74 := Aside0.mk c74
        clear c74
        obtain ⟨y412, hy412⟩ : ∃ y_ : List Int, y_ = (x3_3 ++ y409) := ⟨_, rfl⟩
        replace H : (spinnakerref13_Bytes.l3 k3 y412 x8_2 (wrap64 (x9_3 + 1)) l0_0 l0_1) = some r := by first | (rw [hy412]; with_reducible exact H) | (have H2_ := (Option.bind_some _ _).symm.trans H; rw [hy412]; with_reducible exact H2_) | (have H2_ := (Option.bind_some _ _).symm.trans H; with_reducible exact H2_) | with_reducible exact H | (rw [hy412]; exact H) | exact H
        have Ny412 := Aside0.mk hy412
        clear hy412
        have H' := Aside0.mk H
        clear H
        obtain ⟨hcz75_0, hcz75_1, hfz75_0, hfz75_1⟩ := cz2 (w := wr) BK357.out
        have p404 : 0 ≤ (x8_2 : Int) := od
        have q404 : x8_2 < (l0_1.length : Int) := od
        obtain ⟨ad404, A404_1, c404_1, e404, hx404_0, hx404_1, hl404_1, hi404_1⟩ := at_T70 HR0_1.out x8_2 p404 q404
        obtain rfl : ad396 = ad404 := (by injection e404)
        replace hx404_0 := cb HB.out hx404_0
        replace hx404_1 := cb HB.out hx404_1
        have HR404_1 := Aside0.mk hi404_1
        have HC404_1 := Aside0.mk hl404_1
        clear hi404_1 hl404_1
        replace p404 := eq_true p404
        replace q404 := eq_true q404
        try go_wp2
        have n0_ := Aside0.mk (Kd.R_drew HO_3.out)
        have n1_ := Aside0.mk (blk_drew BK357.out)
        have n2_ := Aside0.mk (below_drew1 HB.out)
        clear HO_3
        clear BK357
        clear HB
        have HO_3 := n0_
        have BK357 := n1_
        have HB := n2_
        clear n0_ n1_ n2_
        have p405 : 0 ≤ (x8_2 : Int) := od
        have q405 : x8_2 < (l0_1.length : Int) := od
        obtain ⟨ad405, A405_1, c405_1, e405, hx405_0, hx405_1, hl405_1, hi405_1⟩ := at_T70 HR0_1.out x8_2 p405 q405
        have hw405_1 := hx405_1
        have hw405_0 := hx405_0
        obtain rfl : ad396 = ad405 := (by injection e405)
        replace hx405_0 := cb HB.out hx405_0
        replace hx405_1 := cb HB.out hx405_1
        have HR405_1 := Aside0.mk hi405_1
        have HC405_1 := Aside0.mk hl405_1
        clear hi405_1 hl405_1
        replace p405 := eq_true p405
        replace q405 := eq_true q405
        have p406 : 0 ≤ (x9_3 : Int) := od
        have q406 : x9_3 < (((rd_T70 l0_1 x8_2).f1).length : Int) := od
        obtain ⟨ad406, e406, hx406_0, hx406_1⟩ := at_T73 HR405_1.out x9_3 p406 q406
        have hw406_1 := hx406_1
        have hw406_0 := hx406_0
        cases e406
        replace hx406_0 := cb HB.out hx406_0
        replace hx406_1 := cb HB.out hx406_1
        replace p406 := eq_true p406
        replace q406 := eq_true q406
        have p407 : 0 ≤ (x8_2 : Int) := od
        have q407 : x8_2 < (l0_1.length : Int) := od
        obtain ⟨ad407, A407_1, c407_1, e407, hx407_0, hx407_1, hl407_1, hi407_1⟩ := at_T70 HR0_1.out x8_2 p407 q407
        have hw407_1 := hx407_1
        have hw407_0 := hx407_0
        obtain rfl : ad396 = ad407 := (by injection e407)
        replace hx407_0 := cb HB.out hx407_0
        replace hx407_1 := cb HB.out hx407_1
        have HR407_1 := Aside0.mk hi407_1
        have HC407_1 := Aside0.mk hl407_1
        clear hi407_1 hl407_1
        replace p407 := eq_true p407
        replace q407 := eq_true q407
        have ea_ := Option.some.inj (hx405_1.symm.trans hx407_1)
        injection ea_ with ea_ en_ ec_
        subst ea_
        subst ec_
        clear en_
        have p408 : 0 ≤ (x9_3 : Int) := od
        have q408 : x9_3 < (((rd_T70 l0_1 x8_2).f1).length : Int) := od
        obtain ⟨ad408, e408, hx408_0, hx408_1⟩ := at_T73 HR407_1.out x9_3 p408 q408
        have hw408_1 := hx408_1
        have hw408_0 := hx408_0
        cases e408
        replace hx408_0 := cb HB.out hx408_0
        replace hx408_1 := cb HB.out hx408_1
        replace p408 := eq_true p408
        replace q408 := eq_true q408
        refine start_ (n := 24) (S := fun w' => w'.cell? ⟨gb357, 0, none⟩ = some (.slice A0_0 l0_0.length c0_0) ∧ w'.cell? ⟨gb357, 1, none⟩ = some (.slice (some ad396) l0_1.length c0_1) ∧ w'.cell? (ad396.add ((x8_2).toNat * 2)) = some (.int .i64 ((rd_T70 l0_1 x8_2).f0)) ∧ w'.cell? ⟨(ad396.add ((x8_2).toNat * 2)).block, (ad396.add ((x8_2).toNat * 2)).off + 1, none⟩ = some (.slice (some ad406) ((rd_T70 l0_1 x8_2).f1).length c405_1) ∧ w'.cell? (ad406.add ((x9_3).toNat * 2)) = some (.int .i64 ((rd_T73 ((rd_T70 l0_1 x8_2).f1) x9_3).f0)) ∧ w'.cell? ⟨(ad406.add ((x9_3).toNat * 2)).block, (ad406.add ((x9_3).toNat * 2)).off + 1, none⟩ = some (.int .i64 ((rd_T73 ((rd_T70 l0_1 x8_2).f1) x9_3).f1)) ∧ w'.cell? (ad396.add ((x8_2).toNat * 2)) = some (.int .i64 ((rd_T70 l0_1 x8_2).f0)) ∧ w'.cell? ⟨(ad396.add ((x8_2).toNat * 2)).block, (ad396.add ((x8_2).toNat * 2)).off + 1, none⟩ = some (.slice (some ad406) ((rd_T70 l0_1 x8_2).f1).length c405_1) ∧ w'.cell? (ad406.add ((x9_3).toNat * 2)) = some (.int .i64 ((rd_T73 ((rd_T70 l0_1 x8_2).f1) x9_3).f0)) ∧ w'.cell? ⟨(ad406.add ((x9_3).toNat * 2)).block, (ad406.add ((x9_3).toNat * 2)).off + 1, none⟩ = some (.int .i64 ((rd_T73 ((rd_T70 l0_1 x8_2).f1) x9_3).f1))) (ds := []) (fl 24 0) (by kernel_rfl) rfl rfl ⟨(blk_cell BK357.out 0).trans rfl, (blk_cell BK357.out 1).trans rfl, (cb HB.out hw405_0), (cb HB.out hw405_1), (cb HB.out hw406_0), (cb HB.out hw406_1), (cb HB.out hw407_0), (cb HB.out hw407_1), (cb HB.out hw408_0), (cb HB.out hw408_1)⟩ (fun hHeld => ?_); refine with_tabW spinnakerref13_Bytes.tab24 spinnakerref13_Bytes.bits24 (fun HT_ HW_ => ?_)
        generalize wr.drew = w76 at HO_3 BK357 HB HR405_1 HR407_1 hx405_0 hx405_1 hx406_0 hx406_1 hx407_0 hx407_1 hx408_0 hx408_1 hHeld ⊢
        refine pq 0 (some 108) ?_ (fl 24 1) HT_.out rfl rfl ?_ ?_ ?_ ?_
        rotate_left
        ·intro w'
         go_simp
         with_reducible rfl
        rotate_left
        ·refine pt ?_
         rfl
        refine pq 1 (some 109) ?_ (fl 24 2) HT_.out rfl rfl ?_ ?_ ?_ ?_
        rotate_left
        ·intro w'
         go_simp
         with_reducible rfl
        rotate_left
        ·refine pt ?_
         rfl
        refine pq 3 (some 111) ?_ #[true, true, false, true, false, false, false, false, false, false, false, false, false, false, false, false, false, false, false, false, false, false, false, false] HT_.out rfl rfl ?_ ?_ ?_ ?_
        rotate_left
        ·intro w'
         go_simp
         with_reducible rfl
        rotate_left
        ·refine pt ?_
         rfl
        refine pq 7 (some 115) ?_ #[true, true, false, true, false, false, false, true, false, false, false, false, false, false, false, false, false, false, false, false, false, false, false, false] HT_.out rfl rfl ?_ ?_ ?_ ?_
        rotate_left
        ·intro w'
         go_simp
         with_reducible rfl
        rotate_left
        ·refine pt ?_
         rfl
        refine pq 11 (some 119) ?_ #[true, true, false, true, false, false, false, true, false, false, false, true, false, false, false, false, false, false, false, false, false, false, false, false] HT_.out rfl rfl ?_ ?_ ?_ ?_
        rotate_left
        ·intro w'
         go_simp
         with_reducible rfl
        rotate_left
        ·refine pt ?_
         rfl
        refine pq 13 (some 121) ?_ #[true, true, false, true, false, false, false, true, false, false, false, true, false, true, false, false, false, false, false, false, false, false, false, false] HT_.out rfl rfl ?_ ?_ ?_ ?_
        rotate_left
        ·intro w'
         go_simp
         with_reducible rfl
        rotate_left
        ·refine pt ?_
         rfl
        refine pq 17 (some 125) ?_ #[true, true, false, true, false, false, false, true, false, false, false, true, false, true, false, false, false, true, false, false, false, false, false, false] HT_.out rfl rfl ?_ ?_ ?_ ?_
        rotate_left
        ·intro w'
         go_simp
         with_reducible rfl
        rotate_left
        ·refine pt ?_
         rfl
        refine pk 2 (some 110) ?_ #[true, true, true, true, false, false, false, true, false, false, false, true, false, true, false, false, false, true, false, false, false, false, false, false] HT_.out HW_.out rfl rfl ?_ hHeld ?_ ?_ ?_
        rotate_left
        ·rintro w' ⟨s0, s1, s2, s3, s4, s5, s6, s7, s8, s9⟩
         go_simp
         with_reducible rfl
        rotate_left
        ·refine pt ?_
         rfl
        refine pq 4 (some 112) ?_ #[true, true, true, true, true, false, false, true, false, false, false, true, false, true, false, false, false, true, false, false, false, false, false, false] HT_.out rfl rfl ?_ ?_ ?_ ?_
        rotate_left
        ·intro w'
         go_simp
         with_reducible rfl
        rotate_left
        ·refine pt ?_
         rfl
        refine pq 5 (some 113) ?_ #[true, true, true, true, true, true, false, true, false, false, false, true, false, true, false, false, false, true, false, false, false, false, false, false] HT_.out rfl rfl ?_ ?_ ?_ ?_
        rotate_left
        ·intro w'
         go_simp
         with_reducible rfl
        rotate_left
        ·refine pt ?_
         rfl
        refine pk 6 (some 114) ?_ #[true, true, true, true, true, true, true, true, false, false, false, true, false, true, false, false, false, true, false, false, false, false, false, false] HT_.out HW_.out rfl rfl ?_ hHeld ?_ ?_ ?_
        rotate_left
        ·rintro w' ⟨s0, s1, s2, s3, s4, s5, s6, s7, s8, s9⟩
         go_simp
         with_reducible rfl
        rotate_left
        ·refine pt ?_
         rfl
        refine pq 8 (some 116) ?_ #[true, true, true, true, true, true, true, true, true, false, false, true, false, true, false, false, false, true, false, false, false, false, false, false] HT_.out rfl rfl ?_ ?_ ?_ ?_
        rotate_left
        ·intro w'
         go_simp
         with_reducible rfl
        rotate_left
        ·refine pt ?_
         rfl
        refine pq 9 (some 117) ?_ #[true, true, true, true, true, true, true, true, true, true, false, true, false, true, false, false, false, true, false, false, false, false, false, false] HT_.out rfl rfl ?_ ?_ ?_ ?_
        rotate_left
        ·intro w'
         go_simp
         with_reducible rfl
        rotate_left
        ·refine pt ?_
         rfl
        refine pk 10 (some 118) ?_ #[true, true, true, true, true, true, true, true, true, true, true, true, false, true, false, false, false, true, false, false, false, false, false, false] HT_.out HW_.out rfl rfl ?_ hHeld ?_ ?_ ?_
        rotate_left
        ·rintro w' ⟨s0, s1, s2, s3, s4, s5, s6, s7, s8, s9⟩
         go_simp
         with_reducible rfl
        rotate_left
        ·refine pt ?_
         rfl
        refine pk 12 (some 120) ?_ #[true, true, true, true, true, true, true, true, true, true, true, true, true, true, false, false, false, true, false, false, false, false, false, false] HT_.out HW_.out rfl rfl ?_ hHeld ?_ ?_ ?_
        rotate_left
        ·rintro w' ⟨s0, s1, s2, s3, s4, s5, s6, s7, s8, s9⟩
         go_simp
         with_reducible rfl
        rotate_left
        ·refine pt ?_
         rfl
        refine pq 14 (some 122) ?_ #[true, true, true, true, true, true, true, true, true, true, true, true, true, true, true, false, false, true, false, false, false, false, false, false] HT_.out rfl rfl ?_ ?_ ?_ ?_
        rotate_left
        ·intro w'
         go_simp
         with_reducible rfl
        rotate_left
        ·refine pt ?_
         rfl
        refine pq 15 (some 123) ?_ #[true, true, true, true, true, true, true, true, true, true, true, true, true, true, true, true, false, true, false, false, false, false, false, false] HT_.out rfl rfl ?_ ?_ ?_ ?_
        rotate_left
        ·intro w'
         go_simp
         with_reducible rfl
        rotate_left
        ·refine pt ?_
         rfl
        refine pk 16 (some 124) ?_ (fl 24 18) HT_.out HW_.out rfl rfl ?_ hHeld ?_ ?_ ?_
        rotate_left
        ·rintro w' ⟨s0, s1, s2, s3, s4, s5, s6, s7, s8, s9⟩
         go_simp
         with_reducible rfl
        rotate_left
        ·refine pt ?_
         rfl
        refine pq 18 (some 126) ?_ (fl 24 19) HT_.out rfl rfl ?_ ?_ ?_ ?_
        rotate_left
        ·intro w'
         go_simp
         with_reducible rfl
        rotate_left
        ·refine pt ?_
         rfl
        refine pq 19 (some 127) ?_ (fl 24 20) HT_.out rfl rfl ?_ ?_ ?_ ?_
        rotate_left
        ·intro w'
         go_simp
         with_reducible rfl
        rotate_left
        ·refine pt ?_
         rfl
        refine pk 20 (some 128) ?_ (fl 24 21) HT_.out HW_.out rfl rfl ?_ hHeld ?_ ?_ ?_
        rotate_left
        ·rintro w' ⟨s0, s1, s2, s3, s4, s5, s6, s7, s8, s9⟩
         go_simp
         with_reducible rfl
        rotate_left
        ·refine pt ?_
         rfl
        refine one_ (i := 21) (N := some 129) (fl 24 22) rfl rfl (one_of HT_.out (by kernel_rfl)) (by decide) (fun K hK => ?_)
        refine Kd.R_lit_step (Kd.int .i64) _ 3 ?hg (N := 129) ?hd (xs := ([(rd_T73 ((rd_T70 l0_1 x8_2).f1) x9_3).f0, (rd_T73 ((rd_T70 l0_1 x8_2).f1) x9_3).f1] : List Int)) (inner := [.int .i64 ((rd_T73 ((rd_T70 l0_1 x8_2).f1) x9_3).f0), .int .i64 ((rd_T73 ((rd_T70 l0_1 x8_2).f1) x9_3).f1)]) (ok := fun _ => True) (okp := fun _ => True) ?hr ?hp (fun _ hk => hk) trivial (Below.refl _ _) (Nat.le_refl _) (by simp) ?_; (case hd => rfl); (case hg => rfl); (case hr => first | (go_simp; done) | (go_simp; rfl)); (case hp => exact (Reps.one (show Kd.M (Kd.int .i64) _ _ _ ((rd_T73 ((rd_T70 l0_1 x8_2).f1) x9_3).f0) [.int .i64 ((rd_T73 ((rd_T70 l0_1 x8_2).f1) x9_3).f0)] from rfl) (Reps.one (show Kd.M (Kd.int .i64) _ _ _ ((rd_T73 ((rd_T70 l0_1 x8_2).f1) x9_3).f1) [.int .i64 ((rd_T73 ((rd_T70 l0_1 x8_2).f1) x9_3).f1)] from rfl) (Reps.none _ _))))
        intro v410 w77 ho78 hb hg_ hnew_
        clear hg_ hnew_
        (first | rw [← Ny409.out] at ho78 | (simp only [Int.reduceToNat] at ho78; rw [← Ny409.out] at ho78))
        have n0_ := Aside0.mk (Kd.R_elder' (by (with_reducible repeat (first | apply Kd.R_alloc | apply Kd.R_drewN | apply Kd.R_drew)); exact HO_3.out) (Kd.R_base ho78) hb)
        have n1_ := Aside0.mk (Kd.R_lower (Kd.R_new' ho78 (Kd.R_lt (by (with_reducible repeat (first | apply Kd.R_alloc | apply Kd.R_drewN | apply Kd.R_drew)); exact HO_3.out))) (below_size bl))
        have n2_ := Aside0.mk (blk_below (g := gb357) (o := .cells #[.slice A0_0 l0_0.length c0_0, .slice (some ad396) l0_1.length c0_1] 42 (0, 0)) (bk BK357.out) hb)
        have n3_ := Aside0.mk (below_step bl hb)
        clear HO_3
        clear BK357
        clear HB
        have HO_3 := n0_
        have HO411 := n1_
        have BK357 := n2_
        have HB := n3_
        clear n0_ n1_ n2_ n3_
        clear hb ho78
        obtain ⟨Ao80, co80, eo80⟩ := Kd.R_slice HO411.out
        (first | subst eo80 | (injection eo80 with f1_ f2_ f3_; have f4_ := f1_.symm; have f5_ := f3_.symm; clear f1_ f2_ f3_; subst f4_; subst f5_))
        refine hK.out _ _ ⟨(blk_cell BK357.out 0).trans rfl, (blk_cell BK357.out 1).trans rfl, (cb HB.out hw405_0), (cb HB.out hw405_1), (cb HB.out hw406_0), (cb HB.out hw406_1), (cb HB.out hw407_0), (cb HB.out hw407_1), (cb HB.out hw408_0), (cb HB.out hw408_1)⟩ (fun hHeld => ?_)
        clear hK K
        refine norm_ (a' := ?_) ?_ ?_
        rotate_left
        ·show Act.put _ (some 129) _ = _
         refine pt ?_
         rfl
        refine one_ (i := 22) (N := some 130) (fl 24 23) rfl rfl (one_of HT_.out (by kernel_rfl)) (by decide) (fun K hK => ?_)
        refine Kd.R_append_rows_step (Kd.int .i64) (w0 := w) w.heap.size (by rfl) (.tmp 108) (.tmp 129) 23 3 (.int .i64 0) 8 rfl Try.underlying23 info3 rfl (by decide) (by omega) u3 x3_3 y409 _ _ _ (fun k_ => some k_ ≠ (.slice Ao80 y409.length co80 : Value).ownBlock) (fun _ => False) rfl rfl ?aO ?aR (fun _ _ h => h) (fun _ h => h.elim) ?aF ?aB ?aS ?aL ?_
        (case aR => repeat (first | exact (Kd.R_reads' HO411.out).2.2 | (with_reducible refine Kd.C_alloc ?_ _) | (with_reducible refine Kd.C_drewN ?_ _) | (with_reducible refine Kd.C_drew ?_)))
        (case aB => exact bl)
        (case aF => exact (fun k_ hk => Kd.fresh' (Kd.R_lt (by (with_reducible repeat (first | apply Kd.R_alloc | apply Kd.R_drewN | apply Kd.R_drew)); exact HO411.out)) k_ hk))
        (case aO => exact (by (with_reducible repeat (first | apply Kd.R_alloc | apply Kd.R_drewN | apply Kd.R_drew)); exact Kd.R_mono HO_3.out (fun _ hk => hk.2)))
        (case aS => exact (below_size bl))
        (case aL => have := LMc74.out; omega)
        intro v413 w79 ho hb hg hat
        rw [← Ny412.out] at ho
        have n0_ := Aside0.mk (blk_grown (g := gb357) (o := .cells #[.slice A0_0 l0_0.length c0_0, .slice (some ad396) l0_1.length c0_1] 42 (0, 0)) (bk BK357.out) hg (Kd.R_ne HO_3.out BK357.out (by decide)))
        have n1_ := Aside0.mk (Kd.R_after (ok := (fun _ => True)) (by (with_reducible repeat (first | apply Kd.R_alloc | apply Kd.R_drewN | apply Kd.R_drew)); exact HO411.out) hg hat)
        have n2_ := Aside0.mk (hb)
        have n3_ := Aside0.mk (ho)
        clear BK357
        clear HO411
        clear HB
        clear HO_3
        have BK357 := n0_
        have HO411 := n1_
        have HB := n2_
        have HO414 := n3_
        clear n0_ n1_ n2_ n3_
        clear ho hb hg hat
        refine hK.out _ _ ⟨(blk_cell BK357.out 0).trans rfl, (blk_cell BK357.out 1).trans rfl, (cb HB.out hw405_0), (cb HB.out hw405_1), (cb HB.out hw406_0), (cb HB.out hw406_1), (cb HB.out hw407_0), (cb HB.out hw407_1), (cb HB.out hw408_0), (cb HB.out hw408_1)⟩ (fun hHeld => ?_)
        clear hK K
        refine norm_ (a' := ?_) ?_ ?_
        rotate_left
        ·show Act.put _ (some 130) _ = _
         refine pt ?_
         rfl
        refine pq 23 (some 3) ?_ (fl 24 24) HT_.out rfl rfl ?_ ?_ ?_ ?_
        rotate_left
        ·intro w'
         go_simp
         with_reducible rfl
        rotate_left
        ·refine pt ?_
         rfl
        refine done_ (done_of HT_.out (by kernel_rfl)) ?_
        try go_wp2
        go_roundg k3
        case measure => have := HK1.out; have := HK2.out; have := HK3.out; omega
        case rel => exact ⟨(y412), (wrap64 (x9_3 + 1)), fj, H', ⟨by have := HK1.out; have := HK2.out; have := HK3.out; omega⟩, ⟨by (with_reducible repeat (first | apply Kd.R_alloc | apply Kd.R_drewN | apply Kd.R_drew)); exact Kd.R_mono HO414.out (fun _ hk => trivial)⟩, ⟨by refine bx ?_; exact BK357.out⟩, ⟨bl⟩⟩
   rw [if_pos c6] at H
   have c6b0 := decide_eq_true c6
   clear c6
   by_cases c7 : 0 ≤ x4_1
   rotate_left
   ·rw [if_neg c7] at H
    exact absurd H (by simp)
   rw [if_pos c7] at H
   have c7b0 := decide_eq_true c7
   clear c7
   by_cases c8 : x3_1.length < 17592186044416
   rotate_left
   ·rw [if_neg c8] at H
    exact absurd H (by simp)
   rw [if_pos c8] at H
   have LMc8 := Aside0.mk c8
   clear c8
   obtain ⟨y362, hy362⟩ : ∃ y_ : List Int, y_ = (x3_1 ++ [((rd_L5 l0_0 x4_1).length : Int)]) := ⟨_, rfl⟩
   replace H : (spinnakerref13_Bytes.l1 k1 y362 x4_1 0 l0_0 l0_1) = some r := by first | (rw [hy362]; with_reducible exact H) | (have H2_ := (Option.bind_some _ _).symm.trans H; rw [hy362]; with_reducible exact H2_) | (have H2_ := (Option.bind_some _ _).symm.trans H; with_reducible exact H2_) | with_reducible exact H | (rw [hy362]; exact H) | exact H
   have Ny362 := Aside0.mk hy362
   clear hy362
   have H' := Aside0.mk H
   clear H
   obtain ⟨hcz9_0, hcz9_1, hfz9_0, hfz9_1⟩ := cz2 (w := wr) BK357.out
   have p361 : 0 ≤ (x4_1 : Int) := od
   have q361 : x4_1 < (l0_0.length : Int) := od
   obtain ⟨ad361, A361_0, c361_0, e361, hx361_0, hl361_0, hi361_0⟩ := at_L5 HR0_0.out x4_1 p361 q361
   cases e361
   replace hx361_0 := cb HB.out hx361_0
   have HR361_0 := Aside0.mk hi361_0
   have HC361_0 := Aside0.mk hl361_0
   clear hi361_0 hl361_0
   replace p361 := eq_true p361
   replace q361 := eq_true q361
   go_wp2_with (first | ((with_reducible refine gate_builtin (b := .append) (xs := #[.tmp 23, .tmp 30]) rfl ?_); at_builtin; refine Kd.R_append (Kd.int .i64) (w0 := w) w.heap.size rfl (.tmp 23) (.tmp 30) 23 3 (.int .i64 0) 8 rfl Try.underlying23 info3 rfl (by decide) (by omega) u3 x3_1 ((rd_L5 l0_0 x4_1).length : Int) [.int .i64 ((rd_L5 l0_0 x4_1).length : Int)] (fun _ => True) (fun _ => False) rfl rfl ?aP (fun _ hk => hk.elim) ?aF ?aO ?aB ?aS ?aL ?_; (case aP => exact rfl); (case aB => exact bl); (case aF => exact (fun _ _ => trivial)); (case aO => exact (by (with_reducible repeat (first | apply Kd.R_alloc | apply Kd.R_drewN | apply Kd.R_drew)); exact HO_3.out)); (case aS => exact (below_size bl)); (case aL => have := LMc8.out; omega); intro v363 w10 ho hb hg hat; rw [← Ny362.out] at ho; have n0_ := Aside0.mk (blk_grown (g := gb357) (o := .cells #[.slice (some ad361) l0_0.length c0_0, .slice A0_1 l0_1.length c0_1] 42 (0, 0)) (bk BK357.out) hg (Kd.R_ne HO_3.out BK357.out (by decide))); have n1_ := Aside0.mk (hb); have n2_ := Aside0.mk (ho); clear BK357; clear HB; clear HO_3; have BK357 := n0_; have HB := n1_; have HO364 := n2_; clear n0_ n1_ n2_; clear ho hb hg hat))
   go_loopg [3, 5] k1 (fun kq v3 v5 w' => ∃ (x3_2 : List Int) (x5_2 : Int), v5 = .int .i64 x5_2 ∧ Aside0 (spinnakerref13_Bytes.l1 kq x3_2 x4_1 x5_2 l0_0 l0_1 = some r) ∧ Aside0 (kq ≤ k1) ∧ Aside0 (Kd.R (Kd.int .i64) 3 w' w.heap.size (fun _ => True) v3 x3_2) ∧ Aside0 (w'.heap[gb357]? = some (.cells #[(.slice (some ad361) l0_0.length c0_0), (.slice A0_1 l0_1.length c0_1)] 42 (0, 0))) ∧ Aside0 (Below w.heap.size w w'))
   case atStart => exact ⟨(y362), (0), fj, H', ⟨Nat.le_refl _⟩, ⟨by (with_reducible repeat (first | apply Kd.R_alloc | apply Kd.R_drewN | apply Kd.R_drew)); exact HO364.out⟩, ⟨by refine bx ?_; exact BK357.out⟩, ⟨bl⟩⟩
   case round =>
    clear H'
    try clear c2
    try clear p2
    try clear c3
    try clear p3
    try clear q3
    try clear hx3
    try clear c6
    try clear c6b0
    try clear c7
    try clear c7b0
    try clear c8
    try clear hcz3_0 hcz3_1
    try clear hcz9_0 hcz9_1
    try clear hfz3_0 hfz3_1
    try clear hfz9_0 hfz9_1
    try clear hx361_0
    try clear p2
    try clear p361
    try clear q361
    obtain ⟨x3_2, x5_2, rfl, HA, HK2, HO_3, BK357, HB⟩ := hrel
    cases gk with
    | zero => exact absurd HA.out (by simp [spinnakerref13_Bytes.l1])
    | succ k2 =>
     have H := HA.out
     clear HA
     simp only [spinnakerref13_Bytes.l1] at H
     by_cases c11 : 0 ≤ x4_1
     rotate_left
     ·rw [if_neg c11] at H
      exact absurd H (by simp)
     rw [if_pos c11] at H
     have c11b0 := decide_eq_true c11
     clear c11
     by_cases c12 : x4_1 < (l0_0.length : Int)
     rotate_left
     ·rw [if_neg c12] at H
      exact absurd H (by simp)
     rw [if_pos c12] at H
     have c12b0 := decide_eq_true c12
     clear c12
     by_cases c13 : x5_2 < ((rd_L5 l0_0 x4_1).length : Int)
     rotate_left
     ·rw [if_neg c13] at H
      have c13b0 := decide_eq_false c13
      clear c13
      have H' := Aside0.mk H
      clear H
      obtain ⟨hcz57_0, hcz57_1, hfz57_0, hfz57_1⟩ := cz2 (w := wr) BK357.out
      have p365 : 0 ≤ (x4_1 : Int) := od
      have q365 : x4_1 < (l0_0.length : Int) := od
      obtain ⟨ad365, A365_0, c365_0, e365, hx365_0, hl365_0, hi365_0⟩ := at_L5 HR0_0.out x4_1 p365 q365
      obtain rfl : ad361 = ad365 := (by injection e365)
      replace hx365_0 := cb HB.out hx365_0
      have HR365_0 := Aside0.mk hi365_0
      have HC365_0 := Aside0.mk hl365_0
      clear hi365_0 hl365_0
      replace p365 := eq_true p365
      replace q365 := eq_true q365
      go_wp2
      go_roundg k2
      case measure => have := HK1.out; have := HK2.out; omega
      case rel => exact ⟨(x3_2), (wrap64 (x4_1 + 1)), fj, H', ⟨by have := HK1.out; have := HK2.out; omega⟩, ⟨by (with_reducible repeat (first | apply Kd.R_alloc | apply Kd.R_drewN | apply Kd.R_drew)); exact HO_3.out⟩, ⟨by refine bx ?_; exact BK357.out⟩, ⟨bl⟩⟩
     rw [if_pos c13] at H
     have c13b0 := decide_eq_true c13
     clear c13
     by_cases c14 : 0 ≤ x5_2
     rotate_left
     ·rw [if_neg c14] at H
      exact absurd H (by simp)
     rw [if_pos c14] at H
     have c14b0 := decide_eq_true c14
     clear c14
     obtain ⟨bq15, hbq15⟩ : ∃ b_ : Bool, b_ = ((rd_T75 (rd_L5 l0_0 x4_1) x5_2).f3) := ⟨_, rfl⟩
     replace H : (if bq15 = true then (if (rd_T75 (rd_L5 l0_0 x4_1) x5_2).f4 = true then ((some (([(rd_T75 (rd_L5 l0_0 x4_1) x5_2).f0, (rd_T75 (rd_L5 l0_0 x4_1) x5_2).f1, (rd_T75 (rd_L5 l0_0 x4_1) x5_2).f2.f0, (rd_T75 (rd_L5 l0_0 x4_1) x5_2).f2.f1, 2] : List Int) : List Int)).bind fun y369 => (if x3_2.length + y369.length < 17592186044416 then (spinnakerref13_Bytes.l1 k2 (x3_2 ++ y369) x4_1 (wrap64 (x5_2 + 1)) l0_0 l0_1) else (none))) else ((some (([(rd_T75 (rd_L5 l0_0 x4_1) x5_2).f0, (rd_T75 (rd_L5 l0_0 x4_1) x5_2).f1, (rd_T75 (rd_L5 l0_0 x4_1) x5_2).f2.f0, (rd_T75 (rd_L5 l0_0 x4_1) x5_2).f2.f1, 1] : List Int) : List Int)).bind fun y375 => (if x3_2.length + y375.length < 17592186044416 then (spinnakerref13_Bytes.l1 k2 (x3_2 ++ y375) x4_1 (wrap64 (x5_2 + 1)) l0_0 l0_1) else (none)))) else (if (rd_T75 (rd_L5 l0_0 x4_1) x5_2).f4 = true then ((some (([(rd_T75 (rd_L5 l0_0 x4_1) x5_2).f0, (rd_T75 (rd_L5 l0_0 x4_1) x5_2).f1, (rd_T75 (rd_L5 l0_0 x4_1) x5_2).f2.f0, (rd_T75 (rd_L5 l0_0 x4_1) x5_2).f2.f1, 2] : List Int) : List Int)).bind fun y381 => (if x3_2.length + y381.length < 17592186044416 then (spinnakerref13_Bytes.l1 k2 (x3_2 ++ y381) x4_1 (wrap64 (x5_2 + 1)) l0_0 l0_1) else (none))) else ((some (([(rd_T75 (rd_L5 l0_0 x4_1) x5_2).f0, (rd_T75 (rd_L5 l0_0 x4_1) x5_2).f1, (rd_T75 (rd_L5 l0_0 x4_1) x5_2).f2.f0, (rd_T75 (rd_L5 l0_0 x4_1) x5_2).f2.f1, 0] : List Int) : List Int)).bind fun y387 => (if x3_2.length + y387.length < 17592186044416 then (spinnakerref13_Bytes.l1 k2 (x3_2 ++ y387) x4_1 (wrap64 (x5_2 + 1)) l0_0 l0_1) else (none))))) = some r := by rw [← hbq15] at H; exact H
     have Nbq15 := Aside0.mk hbq15
     clear hbq15
     by_cases c16 : bq15 = true
     ·subst c16
      have H1 : (if (rd_T75 (rd_L5 l0_0 x4_1) x5_2).f4 = true then ((some (([(rd_T75 (rd_L5 l0_0 x4_1) x5_2).f0, (rd_T75 (rd_L5 l0_0 x4_1) x5_2).f1, (rd_T75 (rd_L5 l0_0 x4_1) x5_2).f2.f0, (rd_T75 (rd_L5 l0_0 x4_1) x5_2).f2.f1, 2] : List Int) : List Int)).bind fun y369 => (if x3_2.length + y369.length < 17592186044416 then (spinnakerref13_Bytes.l1 k2 (x3_2 ++ y369) x4_1 (wrap64 (x5_2 + 1)) l0_0 l0_1) else (none))) else ((some (([(rd_T75 (rd_L5 l0_0 x4_1) x5_2).f0, (rd_T75 (rd_L5 l0_0 x4_1) x5_2).f1, (rd_T75 (rd_L5 l0_0 x4_1) x5_2).f2.f0, (rd_T75 (rd_L5 l0_0 x4_1) x5_2).f2.f1, 1] : List Int) : List Int)).bind fun y375 => (if x3_2.length + y375.length < 17592186044416 then (spinnakerref13_Bytes.l1 k2 (x3_2 ++ y375) x4_1 (wrap64 (x5_2 + 1)) l0_0 l0_1) else (none)))) = some r := by rw [if_pos rfl] at H; exact H
      clear H
      have H := H1
      clear H1
      obtain ⟨bq17, hbq17⟩ : ∃ b_ : Bool, b_ = ((rd_T75 (rd_L5 l0_0 x4_1) x5_2).f4) := ⟨_, rfl⟩
      replace H : (if bq17 = true then ((some (([(rd_T75 (rd_L5 l0_0 x4_1) x5_2).f0, (rd_T75 (rd_L5 l0_0 x4_1) x5_2).f1, (rd_T75 (rd_L5 l0_0 x4_1) x5_2).f2.f0, (rd_T75 (rd_L5 l0_0 x4_1) x5_2).f2.f1, 2] : List Int) : List Int)).bind fun y369 => (if x3_2.length + y369.length < 17592186044416 then (spinnakerref13_Bytes.l1 k2 (x3_2 ++ y369) x4_1 (wrap64 (x5_2 + 1)) l0_0 l0_1) else (none))) else ((some (([(rd_T75 (rd_L5 l0_0 x4_1) x5_2).f0, (rd_T75 (rd_L5 l0_0 x4_1) x5_2).f1, (rd_T75 (rd_L5 l0_0 x4_1) x5_2).f2.f0, (rd_T75 (rd_L5 l0_0 x4_1) x5_2).f2.f1, 1] : List Int) : List Int)).bind fun y375 => (if x3_2.length + y375.length < 17592186044416 then (spinnakerref13_Bytes.l1 k2 (x3_2 ++ y375) x4_1 (wrap64 (x5_2 + 1)) l0_0 l0_1) else (none)))) = some r := by rw [← hbq17] at H; exact H
      have Nbq17 := Aside0.mk hbq17
      clear hbq17
      by_cases c18 : bq17 = true
      ·subst c18
       have H1 : ((some (([(rd_T75 (rd_L5 l0_0 x4_1) x5_2).f0, (rd_T75 (rd_L5 l0_0 x4_1) x5_2).f1, (rd_T75 (rd_L5 l0_0 x4_1) x5_2).f2.f0, (rd_T75 (rd_L5 l0_0 x4_1) x5_2).f2.f1, 2] : List Int) : List Int)).bind fun y369 => (if x3_2.length + y369.length < 17592186044416 then (spinnakerref13_Bytes.l1 k2 (x3_2 ++ y369) x4_1 (wrap64 (x5_2 + 1)) l0_0 l0_1) else (none))) = some r := by rw [if_pos rfl] at H; exact H
       clear H
       have H := H1
       clear H1
       obtain ⟨y369, hy369⟩ : ∃ y_ : List Int, y_ = (([(rd_T75 (rd_L5 l0_0 x4_1) x5_2).f0, (rd_T75 (rd_L5 l0_0 x4_1) x5_2).f1, (rd_T75 (rd_L5 l0_0 x4_1) x5_2).f2.f0, (rd_T75 (rd_L5 l0_0 x4_1) x5_2).f2.f1, 2] : List Int)) := ⟨_, rfl⟩
       replace H : (if x3_2.length + y369.length < 17592186044416 then (spinnakerref13_Bytes.l1 k2 (x3_2 ++ y369) x4_1 (wrap64 (x5_2 + 1)) l0_0 l0_1) else (none)) = some r := by first | (rw [hy369]; with_reducible exact H) | (have H2_ := (Option.bind_some _ _).symm.trans H; rw [hy369]; with_reducible exact H2_) | (have H2_ := (Option.bind_some _ _).symm.trans H; with_reducible exact H2_) | with_reducible exact H | (rw [hy369]; exact H) | exact H
       have Ny369 := Aside0.mk hy369
       clear hy369
       by_cases c19 : x3_2.length + y369.length < 17592186044416
       rotate_left
       ·rw [if_neg c19] at H
        exact absurd H (by simp)
       rw [if_pos c19] at H
       have LMc19 := Aside0.mk c19
       clear c19
       obtain ⟨y372, hy372⟩ : ∃ y_ : List Int, y_ = (x3_2 ++ y369) := ⟨_, rfl⟩
       replace H : (spinnakerref13_Bytes.l1 k2 y372 x4_1 (wrap64 (x5_2 + 1)) l0_0 l0_1) = some r := by first | (rw [hy372]; with_reducible exact H) | (have H2_ := (Option.bind_some _ _).symm.trans H; rw [hy372]; with_reducible exact H2_) | (have H2_ := (Option.bind_some _ _).symm.trans H; with_reducible exact H2_) | with_reducible exact H | (rw [hy372]; exact H) | exact H
       have Ny372 := Aside0.mk hy372
       clear hy372
       have H' := Aside0.mk H
       clear H
       obtain ⟨hcz20_0, hcz20_1, hfz20_0, hfz20_1⟩ := cz2 (w := wr) BK357.out
       have p365 : 0 ≤ (x4_1 : Int) := od
       have q365 : x4_1 < (l0_0.length : Int) := od
       obtain ⟨ad365, A365_0, c365_0, e365, hx365_0, hl365_0, hi365_0⟩ := at_L5 HR0_0.out x4_1 p365 q365
       obtain rfl : ad361 = ad365 := (by injection e365)
       replace hx365_0 := cb HB.out hx365_0
       have HR365_0 := Aside0.mk hi365_0
       have HC365_0 := Aside0.mk hl365_0
       clear hi365_0 hl365_0
       replace p365 := eq_true p365
       replace q365 := eq_true q365
       have p366 : 0 ≤ (x4_1 : Int) := od
       have q366 : x4_1 < (l0_0.length : Int) := od
       obtain ⟨ad366, A366_0, c366_0, e366, hx366_0, hl366_0, hi366_0⟩ := at_L5 HR0_0.out x4_1 p366 q366
       obtain rfl : ad361 = ad366 := (by injection e366)
       replace hx366_0 := cb HB.out hx366_0
       have HR366_0 := Aside0.mk hi366_0
       have HC366_0 := Aside0.mk hl366_0
       clear hi366_0 hl366_0
       replace p366 := eq_true p366
       replace q366 := eq_true q366
       have ea_ := Option.some.inj (hx365_0.symm.trans hx366_0)
       injection ea_ with ea_ en_ ec_
       subst ea_
       subst ec_
       clear en_
       have p367 : 0 ≤ (x5_2 : Int) := od
       have q367 : x5_2 < ((rd_L5 l0_0 x4_1).length : Int) := od
       obtain ⟨ad367, e367, hx367_0, hx367_1, hx367_2, hx367_3, hx367_4, hx367_5⟩ := at_T75 HR366_0.out x5_2 p367 q367
       (try rw [← Nbq15.out] at hx367_4)
       (try rw [← Nbq17.out] at hx367_4)
       (try rw [← Nbq15.out] at hx367_5)
       (try rw [← Nbq17.out] at hx367_5)
       cases e367
       replace hx367_0 := cb HB.out hx367_0
       replace hx367_1 := cb HB.out hx367_1
       replace hx367_2 := cb HB.out hx367_2
       replace hx367_3 := cb HB.out hx367_3
       replace hx367_4 := cb HB.out hx367_4
       replace hx367_5 := cb HB.out hx367_5
       replace p367 := eq_true p367
       replace q367 := eq_true q367
       go_wp2_with (first | ((with_reducible refine gate_dst (N := 6) rfl ?_); refine bv 6 #[.int .i64 0, .int .i64 0, .int .i64 0, .int .i64 0, .bool false, .bool false] 75 ?_; intro gb368 hg w21 hbox hb; have n0_ := Aside0.mk (Kd.R_below (by (with_reducible repeat (first | apply Kd.R_alloc | apply Kd.R_drewN | apply Kd.R_drew)); exact HO_3.out) hb); have n1_ := Aside0.mk (blk_below (g := gb357) (o := .cells #[.slice (some ad361) l0_0.length c0_0, .slice A0_1 l0_1.length c0_1] 42 (0, 0)) (bk BK357.out) hb); have n2_ := Aside0.mk (below_step bl hb); have n3_ := Aside0.mk (hbox); have n4_ := Aside0.mk ((by rw [hg]; exact (below_size bl) : w.heap.size ≤ gb368)); have n5_ := Aside0.mk ((by rw [hg]; exact (below_size bl) : w.heap.size ≤ gb368)); have n6_ := Aside0.mk ((nl hg (bk BK357.out) : gb357 ≠ gb368)); have n7_ := Aside0.mk ((ng hg (bk BK357.out) : gb368 ≠ gb357)); clear HO_3; clear BK357; clear HB; have HO_3 := n0_; have BK357 := n1_; have HB := n2_; have BK368 := n3_; have GW368 := n4_; have GE368 := n5_; have NB357_368 := n6_; have NB368_357 := n7_; clear n0_ n1_ n2_ n3_ n4_ n5_ n6_ n7_; clear hb hbox hg; have hnb22 := NB368_357.out; have hnc22 := NB357_368.out; obtain ⟨hcz23_0, hcz23_1, hcz23_2, hcz23_3, hcz23_4, hcz23_5, hfz23_0, hfz23_1, hfz23_2, hfz23_3, hfz23_4, hfz23_5⟩ := cz6 (w := w21) BK368.out) | ((with_reducible refine gate_dst (N := 66) rfl ?_); refine Kd.R_lit (Kd.int .i64) _ 3 ?hg (N := 66) ?hd (xs := ([(rd_T75 (rd_L5 l0_0 x4_1) x5_2).f0, (rd_T75 (rd_L5 l0_0 x4_1) x5_2).f1, (rd_T75 (rd_L5 l0_0 x4_1) x5_2).f2.f0, (rd_T75 (rd_L5 l0_0 x4_1) x5_2).f2.f1, 2] : List Int)) (inner := [.int .i64 ((rd_T75 (rd_L5 l0_0 x4_1) x5_2).f0), .int .i64 ((rd_T75 (rd_L5 l0_0 x4_1) x5_2).f1), .int .i64 ((rd_T75 (rd_L5 l0_0 x4_1) x5_2).f2.f0), .int .i64 ((rd_T75 (rd_L5 l0_0 x4_1) x5_2).f2.f1), .int .i64 2]) (ok := fun _ => True) (okp := fun _ => True) ?hr ?hp (fun _ hk => hk) trivial (Below.refl _ _) (Nat.le_refl _) (by simp) ?_; (case hd => rfl); (case hg => rfl); (case hr => first | (go_simp; done) | (go_simp; rfl)); (case hp => exact (Reps.one (show Kd.M (Kd.int .i64) _ _ _ ((rd_T75 (rd_L5 l0_0 x4_1) x5_2).f0) [.int .i64 ((rd_T75 (rd_L5 l0_0 x4_1) x5_2).f0)] from rfl) (Reps.one (show Kd.M (Kd.int .i64) _ _ _ ((rd_T75 (rd_L5 l0_0 x4_1) x5_2).f1) [.int .i64 ((rd_T75 (rd_L5 l0_0 x4_1) x5_2).f1)] from rfl) (Reps.one (show Kd.M (Kd.int .i64) _ _ _ ((rd_T75 (rd_L5 l0_0 x4_1) x5_2).f2.f0) [.int .i64 ((rd_T75 (rd_L5 l0_0 x4_1) x5_2).f2.f0)] from rfl) (Reps.one (show Kd.M (Kd.int .i64) _ _ _ ((rd_T75 (rd_L5 l0_0 x4_1) x5_2).f2.f1) [.int .i64 ((rd_T75 (rd_L5 l0_0 x4_1) x5_2).f2.f1)] from rfl) (Reps.one (show Kd.M (Kd.int .i64) _ _ _ 2 [.int .i64 2] from rfl) (Reps.none _ _))))))); intro v370 w24 ho25 hb hg_ hnew_; clear hg_ hnew_; (first | rw [← Ny369.out] at ho25 | (simp only [Int.reduceToNat] at ho25; rw [← Ny369.out] at ho25)); have n0_ := Aside0.mk (Kd.R_elder' (by (with_reducible repeat (first | apply Kd.R_alloc | apply Kd.R_drewN | apply Kd.R_drew)); exact (Kd.R_mono (Kd.R_far (p := ⟨gb368, 5, none⟩) (Kd.R_far (p := ⟨gb368, 4, none⟩) (Kd.R_far (p := ⟨gb368, 3, none⟩) (Kd.R_far (p := ⟨gb368, 2, none⟩) (Kd.R_far (p := ⟨gb368, 1, none⟩) (Kd.R_far (p := ⟨gb368, 0, none⟩) (Kd.R_types HO_3.out BK368.out (by decide)) (fun _ hk => hk.2) (.int .i64 ((rd_T75 (rd_L5 l0_0 x4_1) x5_2).f0))) (fun _ hk => hk.2) (.int .i64 ((rd_T75 (rd_L5 l0_0 x4_1) x5_2).f1))) (fun _ hk => hk.2) (.int .i64 ((rd_T75 (rd_L5 l0_0 x4_1) x5_2).f2.f0))) (fun _ hk => hk.2) (.int .i64 ((rd_T75 (rd_L5 l0_0 x4_1) x5_2).f2.f1))) (fun _ hk => hk.2) (.bool true)) (fun _ hk => hk.2) (.bool true)) (fun _ h_ => h_.1))) (Kd.R_base ho25) hb); have n1_ := Aside0.mk (Kd.R_lower (Kd.R_new' ho25 (Kd.R_lt (by (with_reducible repeat (first | apply Kd.R_alloc | apply Kd.R_drewN | apply Kd.R_drew)); exact (Kd.R_mono (Kd.R_far (p := ⟨gb368, 5, none⟩) (Kd.R_far (p := ⟨gb368, 4, none⟩) (Kd.R_far (p := ⟨gb368, 3, none⟩) (Kd.R_far (p := ⟨gb368, 2, none⟩) (Kd.R_far (p := ⟨gb368, 1, none⟩) (Kd.R_far (p := ⟨gb368, 0, none⟩) (Kd.R_types HO_3.out BK368.out (by decide)) (fun _ hk => hk.2) (.int .i64 ((rd_T75 (rd_L5 l0_0 x4_1) x5_2).f0))) (fun _ hk => hk.2) (.int .i64 ((rd_T75 (rd_L5 l0_0 x4_1) x5_2).f1))) (fun _ hk => hk.2) (.int .i64 ((rd_T75 (rd_L5 l0_0 x4_1) x5_2).f2.f0))) (fun _ hk => hk.2) (.int .i64 ((rd_T75 (rd_L5 l0_0 x4_1) x5_2).f2.f1))) (fun _ hk => hk.2) (.bool true)) (fun _ hk => hk.2) (.bool true)) (fun _ h_ => h_.1))))) (below_size bl)); have n2_ := Aside0.mk (blk_below (g := gb357) (o := .cells #[.slice (some ad361) l0_0.length c0_0, .slice A0_1 l0_1.length c0_1] 42 (0, 0)) (by refine bx ?_; refine blk_far ?_ NB357_368.out _; refine bx ?_; refine blk_far ?_ NB357_368.out _; refine bx ?_; refine blk_far ?_ NB357_368.out _; refine bx ?_; refine blk_far ?_ NB357_368.out _; refine bx ?_; refine blk_far ?_ NB357_368.out _; refine bx ?_; refine blk_far ?_ NB357_368.out _; refine bx ?_; exact BK357.out) hb); have n3_ := Aside0.mk (blk_below (g := gb368) (o := .cells #[.int .i64 ((rd_T75 (rd_L5 l0_0 x4_1) x5_2).f0), .int .i64 ((rd_T75 (rd_L5 l0_0 x4_1) x5_2).f1), .int .i64 ((rd_T75 (rd_L5 l0_0 x4_1) x5_2).f2.f0), .int .i64 ((rd_T75 (rd_L5 l0_0 x4_1) x5_2).f2.f1), .bool true, .bool true] 75 (0, 0)) (by refine bx ?_; refine blk_put (cs := #[.int .i64 ((rd_T75 (rd_L5 l0_0 x4_1) x5_2).f0), .int .i64 ((rd_T75 (rd_L5 l0_0 x4_1) x5_2).f1), .int .i64 ((rd_T75 (rd_L5 l0_0 x4_1) x5_2).f2.f0), .int .i64 ((rd_T75 (rd_L5 l0_0 x4_1) x5_2).f2.f1), .bool true, .bool false]) ?_ 5 _ rfl; refine bx ?_; refine blk_put (cs := #[.int .i64 ((rd_T75 (rd_L5 l0_0 x4_1) x5_2).f0), .int .i64 ((rd_T75 (rd_L5 l0_0 x4_1) x5_2).f1), .int .i64 ((rd_T75 (rd_L5 l0_0 x4_1) x5_2).f2.f0), .int .i64 ((rd_T75 (rd_L5 l0_0 x4_1) x5_2).f2.f1), .bool false, .bool false]) ?_ 4 _ rfl; refine bx ?_; refine blk_put (cs := #[.int .i64 ((rd_T75 (rd_L5 l0_0 x4_1) x5_2).f0), .int .i64 ((rd_T75 (rd_L5 l0_0 x4_1) x5_2).f1), .int .i64 ((rd_T75 (rd_L5 l0_0 x4_1) x5_2).f2.f0), .int .i64 0, .bool false, .bool false]) ?_ 3 _ rfl; refine bx ?_; refine blk_put (cs := #[.int .i64 ((rd_T75 (rd_L5 l0_0 x4_1) x5_2).f0), .int .i64 ((rd_T75 (rd_L5 l0_0 x4_1) x5_2).f1), .int .i64 0, .int .i64 0, .bool false, .bool false]) ?_ 2 _ rfl; refine bx ?_; refine blk_put (cs := #[.int .i64 ((rd_T75 (rd_L5 l0_0 x4_1) x5_2).f0), .int .i64 0, .int .i64 0, .int .i64 0, .bool false, .bool false]) ?_ 1 _ rfl; refine bx ?_; refine blk_put (cs := #[.int .i64 0, .int .i64 0, .int .i64 0, .int .i64 0, .bool false, .bool false]) ?_ 0 _ rfl; refine bx ?_; exact BK368.out) hb); have n4_ := Aside0.mk (below_step bl hb); clear HO_3; clear BK357; clear BK368; clear HB; have HO_3 := n0_; have HO371 := n1_; have BK357 := n2_; have BK368 := n3_; have HB := n4_; clear n0_ n1_ n2_ n3_ n4_; clear hb ho25; obtain ⟨Ao27, co27, eo27⟩ := Kd.R_slice HO371.out; subst eo27) | ((with_reducible refine gate_builtin (b := .append) (xs := #[.tmp 54, .tmp 66]) rfl ?_); at_builtin; refine Kd.R_append_rows (Kd.int .i64) (w0 := w) w.heap.size rfl (.tmp 54) (.tmp 66) 23 3 (.int .i64 0) 8 rfl Try.underlying23 info3 rfl (by decide) (by omega) u3 x3_2 y369 _ _ _ (fun k_ => some k_ ≠ (.slice Ao27 y369.length co27 : Value).ownBlock) (fun _ => False) rfl rfl ?aO ?aR (fun _ _ h => h) (fun _ h => h.elim) ?aF ?aB ?aS ?aL ?_; (case aR => repeat (first | exact (Kd.R_reads' HO371.out).2.2 | (with_reducible refine Kd.C_alloc ?_ _) | (with_reducible refine Kd.C_drewN ?_ _) | (with_reducible refine Kd.C_drew ?_))); (case aB => exact bl); (case aF => exact (fun k_ hk => Kd.fresh' (Kd.R_lt (by (with_reducible repeat (first | apply Kd.R_alloc | apply Kd.R_drewN | apply Kd.R_drew)); exact HO371.out)) k_ hk)); (case aO => exact (by (with_reducible repeat (first | apply Kd.R_alloc | apply Kd.R_drewN | apply Kd.R_drew)); exact Kd.R_mono HO_3.out (fun _ hk => hk.2))); (case aS => exact (below_size bl)); (case aL => have := LMc19.out; omega); intro v373 w26 ho hb hg hat; rw [← Ny372.out] at ho; have n0_ := Aside0.mk (blk_grown (g := gb357) (o := .cells #[.slice (some ad361) l0_0.length c0_0, .slice A0_1 l0_1.length c0_1] 42 (0, 0)) (bk BK357.out) hg (Kd.R_ne HO_3.out BK357.out (by decide))); have n1_ := Aside0.mk (blk_grown (g := gb368) (o := .cells #[.int .i64 ((rd_T75 (rd_L5 l0_0 x4_1) x5_2).f0), .int .i64 ((rd_T75 (rd_L5 l0_0 x4_1) x5_2).f1), .int .i64 ((rd_T75 (rd_L5 l0_0 x4_1) x5_2).f2.f0), .int .i64 ((rd_T75 (rd_L5 l0_0 x4_1) x5_2).f2.f1), .bool true, .bool true] 75 (0, 0)) (bk BK368.out) hg (Kd.R_ne HO_3.out BK368.out (by decide))); have n2_ := Aside0.mk (Kd.R_after (ok := (fun _ => True)) (by (with_reducible repeat (first | apply Kd.R_alloc | apply Kd.R_drewN | apply Kd.R_drew)); exact HO371.out) hg hat); have n3_ := Aside0.mk (hb); have n4_ := Aside0.mk (ho); clear BK357; clear BK368; clear HO371; clear HB; clear HO_3; have BK357 := n0_; have BK368 := n1_; have HO371 := n2_; have HB := n3_; have HO374 := n4_; clear n0_ n1_ n2_ n3_ n4_; clear ho hb hg hat))
       go_roundg k2
       case measure => have := HK1.out; have := HK2.out; omega
       case rel => exact ⟨(y372), (wrap64 (x5_2 + 1)), fj, H', ⟨by have := HK1.out; have := HK2.out; omega⟩, ⟨by (with_reducible repeat (first | apply Kd.R_alloc | apply Kd.R_drewN | apply Kd.R_drew)); exact Kd.R_mono HO374.out (fun _ hk => trivial)⟩, ⟨by refine bx ?_; exact BK357.out⟩, ⟨bl⟩⟩
      replace c18 := Bool.eq_false_iff.mpr c18
      subst c18
      have H1 : ((some (([(rd_T75 (rd_L5 l0_0 x4_1) x5_2).f0, (rd_T75 (rd_L5 l0_0 x4_1) x5_2).f1, (rd_T75 (rd_L5 l0_0 x4_1) x5_2).f2.f0, (rd_T75 (rd_L5 l0_0 x4_1) x5_2).f2.f1, 1] : List Int) : List Int)).bind fun y375 => (if x3_2.length + y375.length < 17592186044416 then (spinnakerref13_Bytes.l1 k2 (x3_2 ++ y375) x4_1 (wrap64 (x5_2 + 1)) l0_0 l0_1) else (none))) = some r := by rw [if_neg (show ¬ (false = true) by decide)] at H; exact H
      clear H
      have H := H1
      clear H1
      obtain ⟨y375, hy375⟩ : ∃ y_ : List Int, y_ = (([(rd_T75 (rd_L5 l0_0 x4_1) x5_2).f0, (rd_T75 (rd_L5 l0_0 x4_1) x5_2).f1, (rd_T75 (rd_L5 l0_0 x4_1) x5_2).f2.f0, (rd_T75 (rd_L5 l0_0 x4_1) x5_2).f2.f1, 1] : List Int)) := ⟨_, rfl⟩
      replace H : (if x3_2.length + y375.length < 17592186044416 then (spinnakerref13_Bytes.l1 k2 (x3_2 ++ y375) x4_1 (wrap64 (x5_2 + 1)) l0_0 l0_1) else (none)) = some r := by first | (rw [hy375]; with_reducible exact H) | (have H2_ := (Option.bind_some _ _).symm.trans H; rw [hy375]; with_reducible exact H2_) | (have H2_ := (Option.bind_some _ _).symm.trans H; with_reducible exact H2_) | with_reducible exact H | (rw [hy375]; exact H) | exact H
      have Ny375 := Aside0.mk hy375
      clear hy375
      by_cases c28 : x3_2.length + y375.length < 17592186044416
      rotate_left
      ·rw [if_neg c28] at H
       exact absurd H (by simp)
      rw [if_pos c28] at H
      have LMc28 := Aside0.mk c28
      clear c28
      obtain ⟨y378, hy378⟩ : ∃ y_ : List Int, y_ = (x3_2 ++ y375) := ⟨_, rfl⟩
      replace H : (spinnakerref13_Bytes.l1 k2 y378 x4_1 (wrap64 (x5_2 + 1)) l0_0 l0_1) = some r := by first | (rw [hy378]; with_reducible exact H) | (have H2_ := (Option.bind_some _ _).symm.trans H; rw [hy378]; with_reducible exact H2_) | (have H2_ := (Option.bind_some _ _).symm.trans H; with_reducible exact H2_) | with_reducible exact H | (rw [hy378]; exact H) | exact H
      have Ny378 := Aside0.mk hy378
      clear hy378
      have H' := Aside0.mk H
      clear H
      obtain ⟨hcz29_0, hcz29_1, hfz29_0, hfz29_1⟩ := cz2 (w := wr) BK357.out
      have p365 : 0 ≤ (x4_1 : Int) := od
      have q365 : x4_1 < (l0_0.length : Int) := od
      obtain ⟨ad365, A365_0, c365_0, e365, hx365_0, hl365_0, hi365_0⟩ := at_L5 HR0_0.out x4_1 p365 q365
      obtain rfl : ad361 = ad365 := (by injection e365)
      replace hx365_0 := cb HB.out hx365_0
      have HR365_0 := Aside0.mk hi365_0
      have HC365_0 := Aside0.mk hl365_0
      clear hi365_0 hl365_0
      replace p365 := eq_true p365
      replace q365 := eq_true q365
      have p366 : 0 ≤ (x4_1 : Int) := od
      have q366 : x4_1 < (l0_0.length : Int) := od
      obtain ⟨ad366, A366_0, c366_0, e366, hx366_0, hl366_0, hi366_0⟩ := at_L5 HR0_0.out x4_1 p366 q366
      obtain rfl : ad361 = ad366 := (by injection e366)
      replace hx366_0 := cb HB.out hx366_0
      have HR366_0 := Aside0.mk hi366_0
      have HC366_0 := Aside0.mk hl366_0
      clear hi366_0 hl366_0
      replace p366 := eq_true p366
      replace q366 := eq_true q366
      have ea_ := Option.some.inj (hx365_0.symm.trans hx366_0)
      injection ea_ with ea_ en_ ec_
      subst ea_
      subst ec_
      clear en_
      have p367 : 0 ≤ (x5_2 : Int) := od
      have q367 : x5_2 < ((rd_L5 l0_0 x4_1).length : Int) := od
      obtain ⟨ad367, e367, hx367_0, hx367_1, hx367_2, hx367_3, hx367_4, hx367_5⟩ := at_T75 HR366_0.out x5_2 p367 q367
      (try rw [← Nbq15.out] at hx367_4)
      (try rw [← Nbq17.out] at hx367_4)
      (try rw [← Nbq15.out] at hx367_5)
      (try rw [← Nbq17.out] at hx367_5)
      cases e367
      replace hx367_0 := cb HB.out hx367_0
      replace hx367_1 := cb HB.out hx367_1
      replace hx367_2 := cb HB.out hx367_2
      replace hx367_3 := cb HB.out hx367_3
      replace hx367_4 := cb HB.out hx367_4
      replace hx367_5 := cb HB.out hx367_5
      replace p367 := eq_true p367
      replace q367 := eq_true q367
      go_wp2_with (first | ((with_reducible refine gate_dst (N := 6) rfl ?_); refine bv 6 #[.int .i64 0, .int .i64 0, .int .i64 0, .int .i64 0, .bool false, .bool false] 75 ?_; intro gb368 hg w30 hbox hb; have n0_ := Aside0.mk (Kd.R_below (by (with_reducible repeat (first | apply Kd.R_alloc | apply Kd.R_drewN | apply Kd.R_drew)); exact HO_3.out) hb); have n1_ := Aside0.mk (blk_below (g := gb357) (o := .cells #[.slice (some ad361) l0_0.length c0_0, .slice A0_1 l0_1.length c0_1] 42 (0, 0)) (bk BK357.out) hb); have n2_ := Aside0.mk (below_step bl hb); have n3_ := Aside0.mk (hbox); have n4_ := Aside0.mk ((by rw [hg]; exact (below_size bl) : w.heap.size ≤ gb368)); have n5_ := Aside0.mk ((by rw [hg]; exact (below_size bl) : w.heap.size ≤ gb368)); have n6_ := Aside0.mk ((nl hg (bk BK357.out) : gb357 ≠ gb368)); have n7_ := Aside0.mk ((ng hg (bk BK357.out) : gb368 ≠ gb357)); clear HO_3; clear BK357; clear HB; have HO_3 := n0_; have BK357 := n1_; have HB := n2_; have BK368 := n3_; have GW368 := n4_; have GE368 := n5_; have NB357_368 := n6_; have NB368_357 := n7_; clear n0_ n1_ n2_ n3_ n4_ n5_ n6_ n7_; clear hb hbox hg; have hnb31 := NB368_357.out; have hnc31 := NB357_368.out; obtain ⟨hcz32_0, hcz32_1, hcz32_2, hcz32_3, hcz32_4, hcz32_5, hfz32_0, hfz32_1, hfz32_2, hfz32_3, hfz32_4, hfz32_5⟩ := cz6 (w := w30) BK368.out) | ((with_reducible refine gate_dst (N := 66) rfl ?_); refine Kd.R_lit (Kd.int .i64) _ 3 ?hg (N := 66) ?hd (xs := ([(rd_T75 (rd_L5 l0_0 x4_1) x5_2).f0, (rd_T75 (rd_L5 l0_0 x4_1) x5_2).f1, (rd_T75 (rd_L5 l0_0 x4_1) x5_2).f2.f0, (rd_T75 (rd_L5 l0_0 x4_1) x5_2).f2.f1, 1] : List Int)) (inner := [.int .i64 ((rd_T75 (rd_L5 l0_0 x4_1) x5_2).f0), .int .i64 ((rd_T75 (rd_L5 l0_0 x4_1) x5_2).f1), .int .i64 ((rd_T75 (rd_L5 l0_0 x4_1) x5_2).f2.f0), .int .i64 ((rd_T75 (rd_L5 l0_0 x4_1) x5_2).f2.f1), .int .i64 1]) (ok := fun _ => True) (okp := fun _ => True) ?hr ?hp (fun _ hk => hk) trivial (Below.refl _ _) (Nat.le_refl _) (by simp) ?_; (case hd => rfl); (case hg => rfl); (case hr => first | (go_simp; done) | (go_simp; rfl)); (case hp => exact (Reps.one (show Kd.M (Kd.int .i64) _ _ _ ((rd_T75 (rd_L5 l0_0 x4_1) x5_2).f0) [.int .i64 ((rd_T75 (rd_L5 l0_0 x4_1) x5_2).f0)] from rfl) (Reps.one (show Kd.M (Kd.int .i64) _ _ _ ((rd_T75 (rd_L5 l0_0 x4_1) x5_2).f1) [.int .i64 ((rd_T75 (rd_L5 l0_0 x4_1) x5_2).f1)] from rfl) (Reps.one (show Kd.M (Kd.int .i64) _ _ _ ((rd_T75 (rd_L5 l0_0 x4_1) x5_2).f2.f0) [.int .i64 ((rd_T75 (rd_L5 l0_0 x4_1) x5_2).f2.f0)] from rfl) (Reps.one (show Kd.M (Kd.int .i64) _ _ _ ((rd_T75 (rd_L5 l0_0 x4_1) x5_2).f2.f1) [.int .i64 ((rd_T75 (rd_L5 l0_0 x4_1) x5_2).f2.f1)] from rfl) (Reps.one (show Kd.M (Kd.int .i64) _ _ _ 1 [.int .i64 1] from rfl) (Reps.none _ _))))))); intro v376 w33 ho34 hb hg_ hnew_; clear hg_ hnew_; (first | rw [← Ny375.out] at ho34 | (simp only [Int.reduceToNat] at ho34; rw [← Ny375.out] at ho34)); have n0_ := Aside0.mk (Kd.R_elder' (by (with_reducible repeat (first | apply Kd.R_alloc | apply Kd.R_drewN | apply Kd.R_drew)); exact (Kd.R_mono (Kd.R_far (p := ⟨gb368, 5, none⟩) (Kd.R_far (p := ⟨gb368, 4, none⟩) (Kd.R_far (p := ⟨gb368, 3, none⟩) (Kd.R_far (p := ⟨gb368, 2, none⟩) (Kd.R_far (p := ⟨gb368, 1, none⟩) (Kd.R_far (p := ⟨gb368, 0, none⟩) (Kd.R_types HO_3.out BK368.out (by decide)) (fun _ hk => hk.2) (.int .i64 ((rd_T75 (rd_L5 l0_0 x4_1) x5_2).f0))) (fun _ hk => hk.2) (.int .i64 ((rd_T75 (rd_L5 l0_0 x4_1) x5_2).f1))) (fun _ hk => hk.2) (.int .i64 ((rd_T75 (rd_L5 l0_0 x4_1) x5_2).f2.f0))) (fun _ hk => hk.2) (.int .i64 ((rd_T75 (rd_L5 l0_0 x4_1) x5_2).f2.f1))) (fun _ hk => hk.2) (.bool true)) (fun _ hk => hk.2) (.bool false)) (fun _ h_ => h_.1))) (Kd.R_base ho34) hb); have n1_ := Aside0.mk (Kd.R_lower (Kd.R_new' ho34 (Kd.R_lt (by (with_reducible repeat (first | apply Kd.R_alloc | apply Kd.R_drewN | apply Kd.R_drew)); exact (Kd.R_mono (Kd.R_far (p := ⟨gb368, 5, none⟩) (Kd.R_far (p := ⟨gb368, 4, none⟩) (Kd.R_far (p := ⟨gb368, 3, none⟩) (Kd.R_far (p := ⟨gb368, 2, none⟩) (Kd.R_far (p := ⟨gb368, 1, none⟩) (Kd.R_far (p := ⟨gb368, 0, none⟩) (Kd.R_types HO_3.out BK368.out (by decide)) (fun _ hk => hk.2) (.int .i64 ((rd_T75 (rd_L5 l0_0 x4_1) x5_2).f0))) (fun _ hk => hk.2) (.int .i64 ((rd_T75 (rd_L5 l0_0 x4_1) x5_2).f1))) (fun _ hk => hk.2) (.int .i64 ((rd_T75 (rd_L5 l0_0 x4_1) x5_2).f2.f0))) (fun _ hk => hk.2) (.int .i64 ((rd_T75 (rd_L5 l0_0 x4_1) x5_2).f2.f1))) (fun _ hk => hk.2) (.bool true)) (fun _ hk => hk.2) (.bool false)) (fun _ h_ => h_.1))))) (below_size bl)); have n2_ := Aside0.mk (blk_below (g := gb357) (o := .cells #[.slice (some ad361) l0_0.length c0_0, .slice A0_1 l0_1.length c0_1] 42 (0, 0)) (by refine bx ?_; refine blk_far ?_ NB357_368.out _; refine bx ?_; refine blk_far ?_ NB357_368.out _; refine bx ?_; refine blk_far ?_ NB357_368.out _; refine bx ?_; refine blk_far ?_ NB357_368.out _; refine bx ?_; refine blk_far ?_ NB357_368.out _; refine bx ?_; refine blk_far ?_ NB357_368.out _; refine bx ?_; exact BK357.out) hb); have n3_ := Aside0.mk (blk_below (g := gb368) (o := .cells #[.int .i64 ((rd_T75 (rd_L5 l0_0 x4_1) x5_2).f0), .int .i64 ((rd_T75 (rd_L5 l0_0 x4_1) x5_2).f1), .int .i64 ((rd_T75 (rd_L5 l0_0 x4_1) x5_2).f2.f0), .int .i64 ((rd_T75 (rd_L5 l0_0 x4_1) x5_2).f2.f1), .bool true, .bool false] 75 (0, 0)) (by refine bx ?_; refine blk_put (cs := #[.int .i64 ((rd_T75 (rd_L5 l0_0 x4_1) x5_2).f0), .int .i64 ((rd_T75 (rd_L5 l0_0 x4_1) x5_2).f1), .int .i64 ((rd_T75 (rd_L5 l0_0 x4_1) x5_2).f2.f0), .int .i64 ((rd_T75 (rd_L5 l0_0 x4_1) x5_2).f2.f1), .bool true, .bool false]) ?_ 5 _ rfl; refine bx ?_; refine blk_put (cs := #[.int .i64 ((rd_T75 (rd_L5 l0_0 x4_1) x5_2).f0), .int .i64 ((rd_T75 (rd_L5 l0_0 x4_1) x5_2).f1), .int .i64 ((rd_T75 (rd_L5 l0_0 x4_1) x5_2).f2.f0), .int .i64 ((rd_T75 (rd_L5 l0_0 x4_1) x5_2).f2.f1), .bool false, .bool false]) ?_ 4 _ rfl; refine bx ?_; refine blk_put (cs := #[.int .i64 ((rd_T75 (rd_L5 l0_0 x4_1) x5_2).f0), .int .i64 ((rd_T75 (rd_L5 l0_0 x4_1) x5_2).f1), .int .i64 ((rd_T75 (rd_L5 l0_0 x4_1) x5_2).f2.f0), .int .i64 0, .bool false, .bool false]) ?_ 3 _ rfl; refine bx ?_; refine blk_put (cs := #[.int .i64 ((rd_T75 (rd_L5 l0_0 x4_1) x5_2).f0), .int .i64 ((rd_T75 (rd_L5 l0_0 x4_1) x5_2).f1), .int .i64 0, .int .i64 0, .bool false, .bool false]) ?_ 2 _ rfl; refine bx ?_; refine blk_put (cs := #[.int .i64 ((rd_T75 (rd_L5 l0_0 x4_1) x5_2).f0), .int .i64 0, .int .i64 0, .int .i64 0, .bool false, .bool false]) ?_ 1 _ rfl; refine bx ?_; refine blk_put (cs := #[.int .i64 0, .int .i64 0, .int .i64 0, .int .i64 0, .bool false, .bool false]) ?_ 0 _ rfl; refine bx ?_; exact BK368.out) hb); have n4_ := Aside0.mk (below_step bl hb); clear HO_3; clear BK357; clear BK368; clear HB; have HO_3 := n0_; have HO377 := n1_; have BK357 := n2_; have BK368 := n3_; have HB := n4_; clear n0_ n1_ n2_ n3_ n4_; clear hb ho34; obtain ⟨Ao36, co36, eo36⟩ := Kd.R_slice HO377.out; subst eo36) | ((with_reducible refine gate_builtin (b := .append) (xs := #[.tmp 54, .tmp 66]) rfl ?_); at_builtin; refine Kd.R_append_rows (Kd.int .i64) (w0 := w) w.heap.size rfl (.tmp 54) (.tmp 66) 23 3 (.int .i64 0) 8 rfl Try.underlying23 info3 rfl (by decide) (by omega) u3 x3_2 y375 _ _ _ (fun k_ => some k_ ≠ (.slice Ao36 y375.length co36 : Value).ownBlock) (fun _ => False) rfl rfl ?aO ?aR (fun _ _ h => h) (fun _ h => h.elim) ?aF ?aB ?aS ?aL ?_; (case aR => repeat (first | exact (Kd.R_reads' HO377.out).2.2 | (with_reducible refine Kd.C_alloc ?_ _) | (with_reducible refine Kd.C_drewN ?_ _) | (with_reducible refine Kd.C_drew ?_))); (case aB => exact bl); (case aF => exact (fun k_ hk => Kd.fresh' (Kd.R_lt (by (with_reducible repeat (first | apply Kd.R_alloc | apply Kd.R_drewN | apply Kd.R_drew)); exact HO377.out)) k_ hk)); (case aO => exact (by (with_reducible repeat (first | apply Kd.R_alloc | apply Kd.R_drewN | apply Kd.R_drew)); exact Kd.R_mono HO_3.out (fun _ hk => hk.2))); (case aS => exact (below_size bl)); (case aL => have := LMc28.out; omega); intro v379 w35 ho hb hg hat; rw [← Ny378.out] at ho; have n0_ := Aside0.mk (blk_grown (g := gb357) (o := .cells #[.slice (some ad361) l0_0.length c0_0, .slice A0_1 l0_1.length c0_1] 42 (0, 0)) (bk BK357.out) hg (Kd.R_ne HO_3.out BK357.out (by decide))); have n1_ := Aside0.mk (blk_grown (g := gb368) (o := .cells #[.int .i64 ((rd_T75 (rd_L5 l0_0 x4_1) x5_2).f0), .int .i64 ((rd_T75 (rd_L5 l0_0 x4_1) x5_2).f1), .int .i64 ((rd_T75 (rd_L5 l0_0 x4_1) x5_2).f2.f0), .int .i64 ((rd_T75 (rd_L5 l0_0 x4_1) x5_2).f2.f1), .bool true, .bool false] 75 (0, 0)) (bk BK368.out) hg (Kd.R_ne HO_3.out BK368.out (by decide))); have n2_ := Aside0.mk (Kd.R_after (ok := (fun _ => True)) (by (with_reducible repeat (first | apply Kd.R_alloc | apply Kd.R_drewN | apply Kd.R_drew)); exact HO377.out) hg hat); have n3_ := Aside0.mk (hb); have n4_ := Aside0.mk (ho); clear BK357; clear BK368; clear HO377; clear HB; clear HO_3; have BK357 := n0_; have BK368 := n1_; have HO377 := n2_; have HB := n3_; have HO380 := n4_; clear n0_ n1_ n2_ n3_ n4_; clear ho hb hg hat))
      go_roundg k2
      case measure => have := HK1.out; have := HK2.out; omega
      case rel => exact ⟨(y378), (wrap64 (x5_2 + 1)), fj, H', ⟨by have := HK1.out; have := HK2.out; omega⟩, ⟨by (with_reducible repeat (first | apply Kd.R_alloc | apply Kd.R_drewN | apply Kd.R_drew)); exact Kd.R_mono HO380.out (fun _ hk => trivial)⟩, ⟨by refine bx ?_; exact BK357.out⟩, ⟨bl⟩⟩
     replace c16 := Bool.eq_false_iff.mpr c16
     subst c16
     have H1 : (if (rd_T75 (rd_L5 l0_0 x4_1) x5_2).f4 = true then ((some (([(rd_T75 (rd_L5 l0_0 x4_1) x5_2).f0, (rd_T75 (rd_L5 l0_0 x4_1) x5_2).f1, (rd_T75 (rd_L5 l0_0 x4_1) x5_2).f2.f0, (rd_T75 (rd_L5 l0_0 x4_1) x5_2).f2.f1, 2] : List Int) : List Int)).bind fun y381 => (if x3_2.length + y381.length < 17592186044416 then (spinnakerref13_Bytes.l1 k2 (x3_2 ++ y381) x4_1 (wrap64 (x5_2 + 1)) l0_0 l0_1) else (none))) else ((some (([(rd_T75 (rd_L5 l0_0 x4_1) x5_2).f0, (rd_T75 (rd_L5 l0_0 x4_1) x5_2).f1, (rd_T75 (rd_L5 l0_0 x4_1) x5_2).f2.f0, (rd_T75 (rd_L5 l0_0 x4_1) x5_2).f2.f1, 0] : List Int) : List Int)).bind fun y387 => (if x3_2.length + y387.length < 17592186044416 then (spinnakerref13_Bytes.l1 k2 (x3_2 ++ y387) x4_1 (wrap64 (x5_2 + 1)) l0_0 l0_1) else (none)))) = some r := by rw [if_neg (show ¬ (false = true) by decide)] at H; exact H
     clear H
     have H := H1
     clear H1
     obtain ⟨bq37, hbq37⟩ : ∃ b_ : Bool, b_ = ((rd_T75 (rd_L5 l0_0 x4_1) x5_2).f4) := ⟨_, rfl⟩
     replace H : (if bq37 = true then ((some (([(rd_T75 (rd_L5 l0_0 x4_1) x5_2).f0, (rd_T75 (rd_L5 l0_0 x4_1) x5_2).f1, (rd_T75 (rd_L5 l0_0 x4_1) x5_2).f2.f0, (rd_T75 (rd_L5 l0_0 x4_1) x5_2).f2.f1, 2] : List Int) : List Int)).bind fun y381 => (if x3_2.length + y381.length < 17592186044416 then (spinnakerref13_Bytes.l1 k2 (x3_2 ++ y381) x4_1 (wrap64 (x5_2 + 1)) l0_0 l0_1) else (none))) else ((some (([(rd_T75 (rd_L5 l0_0 x4_1) x5_2).f0, (rd_T75 (rd_L5 l0_0 x4_1) x5_2).f1, (rd_T75 (rd_L5 l0_0 x4_1) x5_2).f2.f0, (rd_T75 (rd_L5 l0_0 x4_1) x5_2).f2.f1, 0] : List Int) : List Int)).bind fun y387 => (if x3_2.length + y387.length < 17592186044416 then (spinnakerref13_Bytes.l1 k2 (x3_2 ++ y387) x4_1 (wrap64 (x5_2 + 1)) l0_0 l0_1) else (none)))) = some r := by rw [← hbq37] at H; exact H
     have Nbq37 := Aside0.mk hbq37
     clear hbq37
     by_cases c38 : bq37 = true
     ·subst c38
      have H1 : ((some (([(rd_T75 (rd_L5 l0_0 x4_1) x5_2).f0, (rd_T75 (rd_L5 l0_0 x4_1) x5_2).f1, (rd_T75 (rd_L5 l0_0 x4_1) x5_2).f2.f0, (rd_T75 (rd_L5 l0_0 x4_1) x5_2).f2.f1, 2] : List Int) : List Int)).bind fun y381 => (if x3_2.length + y381.length < 17592186044416 then (spinnakerref13_Bytes.l1 k2 (x3_2 ++ y381) x4_1 (wrap64 (x5_2 + 1)) l0_0 l0_1) else (none))) = some r := by rw [if_pos rfl] at H; exact H
      clear H
      have H := H1
      clear H1
      obtain ⟨y381, hy381⟩ : ∃ y_ : List Int, y_ = (([(rd_T75 (rd_L5 l0_0 x4_1) x5_2).f0, (rd_T75 (rd_L5 l0_0 x4_1) x5_2).f1, (rd_T75 (rd_L5 l0_0 x4_1) x5_2).f2.f0, (rd_T75 (rd_L5 l0_0 x4_1) x5_2).f2.f1, 2] : List Int)) := ⟨_, rfl⟩
      replace H : (if x3_2.length + y381.length < 17592186044416 then (spinnakerref13_Bytes.l1 k2 (x3_2 ++ y381) x4_1 (wrap64 (x5_2 + 1)) l0_0 l0_1) else (none)) = some r := by first | (rw [hy381]; with_reducible exact H) | (have H2_ := (Option.bind_some _ _).symm.trans H; rw [hy381]; with_reducible exact H2_) | (have H2_ := (Option.bind_some _ _).symm.trans H; with_reducible exact H2_) | with_reducible exact H | (rw [hy381]; exact H) | exact H
      have Ny381 := Aside0.mk hy381
      clear hy381
      by_cases c39 : x3_2.length + y381.length < 17592186044416
      rotate_left
      ·rw [if_neg c39] at H
       exact absurd H (by simp)
      rw [if_pos c39] at H
      have LMc39 := Aside0.mk c39
      clear c39
      obtain ⟨y384, hy384⟩ : ∃ y_ : List Int, y_ = (x3_2 ++ y381) := ⟨_, rfl⟩
      replace H : (spinnakerref13_Bytes.l1 k2 y384 x4_1 (wrap64 (x5_2 + 1)) l0_0 l0_1) = some r := by first | (rw [hy384]; with_reducible exact H) | (have H2_ := (Option.bind_some _ _).symm.trans H; rw [hy384]; with_reducible exact H2_) | (have H2_ := (Option.bind_some _ _).symm.trans H; with_reducible exact H2_) | with_reducible exact H | (rw [hy384]; exact H) | exact H
      have Ny384 := Aside0.mk hy384
      clear hy384
      have H' := Aside0.mk H
      clear H
      obtain ⟨hcz40_0, hcz40_1, hfz40_0, hfz40_1⟩ := cz2 (w := wr) BK357.out
      have p365 : 0 ≤ (x4_1 : Int) := od
      have q365 : x4_1 < (l0_0.length : Int) := od
      obtain ⟨ad365, A365_0, c365_0, e365, hx365_0, hl365_0, hi365_0⟩ := at_L5 HR0_0.out x4_1 p365 q365
      obtain rfl : ad361 = ad365 := (by injection e365)
      replace hx365_0 := cb HB.out hx365_0
      have HR365_0 := Aside0.mk hi365_0
      have HC365_0 := Aside0.mk hl365_0
      clear hi365_0 hl365_0
      replace p365 := eq_true p365
      replace q365 := eq_true q365
      have p366 : 0 ≤ (x4_1 : Int) := od
      have q366 : x4_1 < (l0_0.length : Int) := od
      obtain ⟨ad366, A366_0, c366_0, e366, hx366_0, hl366_0, hi366_0⟩ := at_L5 HR0_0.out x4_1 p366 q366
      obtain rfl : ad361 = ad366 := (by injection e366)
      replace hx366_0 := cb HB.out hx366_0
      have HR366_0 := Aside0.mk hi366_0
      have HC366_0 := Aside0.mk hl366_0
      clear hi366_0 hl366_0
      replace p366 := eq_true p366
      replace q366 := eq_true q366
      have ea_ := Option.some.inj (hx365_0.symm.trans hx366_0)
      injection ea_ with ea_ en_ ec_
      subst ea_
      subst ec_
      clear en_
      have p367 : 0 ≤ (x5_2 : Int) := od
      have q367 : x5_2 < ((rd_L5 l0_0 x4_1).length : Int) := od
      obtain ⟨ad367, e367, hx367_0, hx367_1, hx367_2, hx367_3, hx367_4, hx367_5⟩ := at_T75 HR366_0.out x5_2 p367 q367
      (try rw [← Nbq15.out] at hx367_4)
      (try rw [← Nbq37.out] at hx367_4)
      (try rw [← Nbq15.out] at hx367_5)
      (try rw [← Nbq37.out] at hx367_5)
      cases e367
      replace hx367_0 := cb HB.out hx367_0
      replace hx367_1 := cb HB.out hx367_1
      replace hx367_2 := cb HB.out hx367_2
      replace hx367_3 := cb HB.out hx367_3
      replace hx367_4 := cb HB.out hx367_4
      replace hx367_5 := cb HB.out hx367_5
      replace p367 := eq_true p367
      replace q367 := eq_true q367
      go_wp2_with (first | ((with_reducible refine gate_dst (N := 6) rfl ?_); refine bv 6 #[.int .i64 0, .int .i64 0, .int .i64 0, .int .i64 0, .bool false, .bool false] 75 ?_; intro gb368 hg w41 hbox hb; have n0_ := Aside0.mk (Kd.R_below (by (with_reducible repeat (first | apply Kd.R_alloc | apply Kd.R_drewN | apply Kd.R_drew)); exact HO_3.out) hb); have n1_ := Aside0.mk (blk_below (g := gb357) (o := .cells #[.slice (some ad361) l0_0.length c0_0, .slice A0_1 l0_1.length c0_1] 42 (0, 0)) (bk BK357.out) hb); have n2_ := Aside0.mk (below_step bl hb); have n3_ := Aside0.mk (hbox); have n4_ := Aside0.mk ((by rw [hg]; exact (below_size bl) : w.heap.size ≤ gb368)); have n5_ := Aside0.mk ((by rw [hg]; exact (below_size bl) : w.heap.size ≤ gb368)); have n6_ := Aside0.mk ((nl hg (bk BK357.out) : gb357 ≠ gb368)); have n7_ := Aside0.mk ((ng hg (bk BK357.out) : gb368 ≠ gb357)); clear HO_3; clear BK357; clear HB; have HO_3 := n0_; have BK357 := n1_; have HB := n2_; have BK368 := n3_; have GW368 := n4_; have GE368 := n5_; have NB357_368 := n6_; have NB368_357 := n7_; clear n0_ n1_ n2_ n3_ n4_ n5_ n6_ n7_; clear hb hbox hg; have hnb42 := NB368_357.out; have hnc42 := NB357_368.out; obtain ⟨hcz43_0, hcz43_1, hcz43_2, hcz43_3, hcz43_4, hcz43_5, hfz43_0, hfz43_1, hfz43_2, hfz43_3, hfz43_4, hfz43_5⟩ := cz6 (w := w41) BK368.out) | ((with_reducible refine gate_dst (N := 66) rfl ?_); refine Kd.R_lit (Kd.int .i64) _ 3 ?hg (N := 66) ?hd (xs := ([(rd_T75 (rd_L5 l0_0 x4_1) x5_2).f0, (rd_T75 (rd_L5 l0_0 x4_1) x5_2).f1, (rd_T75 (rd_L5 l0_0 x4_1) x5_2).f2.f0, (rd_T75 (rd_L5 l0_0 x4_1) x5_2).f2.f1, 2] : List Int)) (inner := [.int .i64 ((rd_T75 (rd_L5 l0_0 x4_1) x5_2).f0), .int .i64 ((rd_T75 (rd_L5 l0_0 x4_1) x5_2).f1), .int .i64 ((rd_T75 (rd_L5 l0_0 x4_1) x5_2).f2.f0), .int .i64 ((rd_T75 (rd_L5 l0_0 x4_1) x5_2).f2.f1), .int .i64 2]) (ok := fun _ => True) (okp := fun _ => True) ?hr ?hp (fun _ hk => hk) trivial (Below.refl _ _) (Nat.le_refl _) (by simp) ?_; (case hd => rfl); (case hg => rfl); (case hr => first | (go_simp; done) | (go_simp; rfl)); (case hp => exact (Reps.one (show Kd.M (Kd.int .i64) _ _ _ ((rd_T75 (rd_L5 l0_0 x4_1) x5_2).f0) [.int .i64 ((rd_T75 (rd_L5 l0_0 x4_1) x5_2).f0)] from rfl) (Reps.one (show Kd.M (Kd.int .i64) _ _ _ ((rd_T75 (rd_L5 l0_0 x4_1) x5_2).f1) [.int .i64 ((rd_T75 (rd_L5 l0_0 x4_1) x5_2).f1)] from rfl) (Reps.one (show Kd.M (Kd.int .i64) _ _ _ ((rd_T75 (rd_L5 l0_0 x4_1) x5_2).f2.f0) [.int .i64 ((rd_T75 (rd_L5 l0_0 x4_1) x5_2).f2.f0)] from rfl) (Reps.one (show Kd.M (Kd.int .i64) _ _ _ ((rd_T75 (rd_L5 l0_0 x4_1) x5_2).f2.f1) [.int .i64 ((rd_T75 (rd_L5 l0_0 x4_1) x5_2).f2.f1)] from rfl) (Reps.one (show Kd.M (Kd.int .i64) _ _ _ 2 [.int .i64 2] from rfl) (Reps.none _ _))))))); intro v382 w44 ho45 hb hg_ hnew_; clear hg_ hnew_; (first | rw [← Ny381.out] at ho45 | (simp only [Int.reduceToNat] at ho45; rw [← Ny381.out] at ho45)); have n0_ := Aside0.mk (Kd.R_elder' (by (with_reducible repeat (first | apply Kd.R_alloc | apply Kd.R_drewN | apply Kd.R_drew)); exact (Kd.R_mono (Kd.R_far (p := ⟨gb368, 5, none⟩) (Kd.R_far (p := ⟨gb368, 4, none⟩) (Kd.R_far (p := ⟨gb368, 3, none⟩) (Kd.R_far (p := ⟨gb368, 2, none⟩) (Kd.R_far (p := ⟨gb368, 1, none⟩) (Kd.R_far (p := ⟨gb368, 0, none⟩) (Kd.R_types HO_3.out BK368.out (by decide)) (fun _ hk => hk.2) (.int .i64 ((rd_T75 (rd_L5 l0_0 x4_1) x5_2).f0))) (fun _ hk => hk.2) (.int .i64 ((rd_T75 (rd_L5 l0_0 x4_1) x5_2).f1))) (fun _ hk => hk.2) (.int .i64 ((rd_T75 (rd_L5 l0_0 x4_1) x5_2).f2.f0))) (fun _ hk => hk.2) (.int .i64 ((rd_T75 (rd_L5 l0_0 x4_1) x5_2).f2.f1))) (fun _ hk => hk.2) (.bool false)) (fun _ hk => hk.2) (.bool true)) (fun _ h_ => h_.1))) (Kd.R_base ho45) hb); have n1_ := Aside0.mk (Kd.R_lower (Kd.R_new' ho45 (Kd.R_lt (by (with_reducible repeat (first | apply Kd.R_alloc | apply Kd.R_drewN | apply Kd.R_drew)); exact (Kd.R_mono (Kd.R_far (p := ⟨gb368, 5, none⟩) (Kd.R_far (p := ⟨gb368, 4, none⟩) (Kd.R_far (p := ⟨gb368, 3, none⟩) (Kd.R_far (p := ⟨gb368, 2, none⟩) (Kd.R_far (p := ⟨gb368, 1, none⟩) (Kd.R_far (p := ⟨gb368, 0, none⟩) (Kd.R_types HO_3.out BK368.out (by decide)) (fun _ hk => hk.2) (.int .i64 ((rd_T75 (rd_L5 l0_0 x4_1) x5_2).f0))) (fun _ hk => hk.2) (.int .i64 ((rd_T75 (rd_L5 l0_0 x4_1) x5_2).f1))) (fun _ hk => hk.2) (.int .i64 ((rd_T75 (rd_L5 l0_0 x4_1) x5_2).f2.f0))) (fun _ hk => hk.2) (.int .i64 ((rd_T75 (rd_L5 l0_0 x4_1) x5_2).f2.f1))) (fun _ hk => hk.2) (.bool false)) (fun _ hk => hk.2) (.bool true)) (fun _ h_ => h_.1))))) (below_size bl)); have n2_ := Aside0.mk (blk_below (g := gb357) (o := .cells #[.slice (some ad361) l0_0.length c0_0, .slice A0_1 l0_1.length c0_1] 42 (0, 0)) (by refine bx ?_; refine blk_far ?_ NB357_368.out _; refine bx ?_; refine blk_far ?_ NB357_368.out _; refine bx ?_; refine blk_far ?_ NB357_368.out _; refine bx ?_; refine blk_far ?_ NB357_368.out _; refine bx ?_; refine blk_far ?_ NB357_368.out _; refine bx ?_; refine blk_far ?_ NB357_368.out _; refine bx ?_; exact BK357.out) hb); have n3_ := Aside0.mk (blk_below (g := gb368) (o := .cells #[.int .i64 ((rd_T75 (rd_L5 l0_0 x4_1) x5_2).f0), .int .i64 ((rd_T75 (rd_L5 l0_0 x4_1) x5_2).f1), .int .i64 ((rd_T75 (rd_L5 l0_0 x4_1) x5_2).f2.f0), .int .i64 ((rd_T75 (rd_L5 l0_0 x4_1) x5_2).f2.f1), .bool false, .bool true] 75 (0, 0)) (by refine bx ?_; refine blk_put (cs := #[.int .i64 ((rd_T75 (rd_L5 l0_0 x4_1) x5_2).f0), .int .i64 ((rd_T75 (rd_L5 l0_0 x4_1) x5_2).f1), .int .i64 ((rd_T75 (rd_L5 l0_0 x4_1) x5_2).f2.f0), .int .i64 ((rd_T75 (rd_L5 l0_0 x4_1) x5_2).f2.f1), .bool false, .bool false]) ?_ 5 _ rfl; refine bx ?_; refine blk_put (cs := #[.int .i64 ((rd_T75 (rd_L5 l0_0 x4_1) x5_2).f0), .int .i64 ((rd_T75 (rd_L5 l0_0 x4_1) x5_2).f1), .int .i64 ((rd_T75 (rd_L5 l0_0 x4_1) x5_2).f2.f0), .int .i64 ((rd_T75 (rd_L5 l0_0 x4_1) x5_2).f2.f1), .bool false, .bool false]) ?_ 4 _ rfl; refine bx ?_; refine blk_put (cs := #[.int .i64 ((rd_T75 (rd_L5 l0_0 x4_1) x5_2).f0), .int .i64 ((rd_T75 (rd_L5 l0_0 x4_1) x5_2).f1), .int .i64 ((rd_T75 (rd_L5 l0_0 x4_1) x5_2).f2.f0), .int .i64 0, .bool false, .bool false]) ?_ 3 _ rfl; refine bx ?_; refine blk_put (cs := #[.int .i64 ((rd_T75 (rd_L5 l0_0 x4_1) x5_2).f0), .int .i64 ((rd_T75 (rd_L5 l0_0 x4_1) x5_2).f1), .int .i64 0, .int .i64 0, .bool false, .bool false]) ?_ 2 _ rfl; refine bx ?_; refine blk_put (cs := #[.int .i64 ((rd_T75 (rd_L5 l0_0 x4_1) x5_2).f0), .int .i64 0, .int .i64 0, .int .i64 0, .bool false, .bool false]) ?_ 1 _ rfl; refine bx ?_; refine blk_put (cs := #[.int .i64 0, .int .i64 0, .int .i64 0, .int .i64 0, .bool false, .bool false]) ?_ 0 _ rfl; refine bx ?_; exact BK368.out) hb); have n4_ := Aside0.mk (below_step bl hb); clear HO_3; clear BK357; clear BK368; clear HB; have HO_3 := n0_; have HO383 := n1_; have BK357 := n2_; have BK368 := n3_; have HB := n4_; clear n0_ n1_ n2_ n3_ n4_; clear hb ho45; obtain ⟨Ao47, co47, eo47⟩ := Kd.R_slice HO383.out; subst eo47) | ((with_reducible refine gate_builtin (b := .append) (xs := #[.tmp 54, .tmp 66]) rfl ?_); at_builtin; refine Kd.R_append_rows (Kd.int .i64) (w0 := w) w.heap.size rfl (.tmp 54) (.tmp 66) 23 3 (.int .i64 0) 8 rfl Try.underlying23 info3 rfl (by decide) (by omega) u3 x3_2 y381 _ _ _ (fun k_ => some k_ ≠ (.slice Ao47 y381.length co47 : Value).ownBlock) (fun _ => False) rfl rfl ?aO ?aR (fun _ _ h => h) (fun _ h => h.elim) ?aF ?aB ?aS ?aL ?_; (case aR => repeat (first | exact (Kd.R_reads' HO383.out).2.2 | (with_reducible refine Kd.C_alloc ?_ _) | (with_reducible refine Kd.C_drewN ?_ _) | (with_reducible refine Kd.C_drew ?_))); (case aB => exact bl); (case aF => exact (fun k_ hk => Kd.fresh' (Kd.R_lt (by (with_reducible repeat (first | apply Kd.R_alloc | apply Kd.R_drewN | apply Kd.R_drew)); exact HO383.out)) k_ hk)); (case aO => exact (by (with_reducible repeat (first | apply Kd.R_alloc | apply Kd.R_drewN | apply Kd.R_drew)); exact Kd.R_mono HO_3.out (fun _ hk => hk.2))); (case aS => exact (below_size bl)); (case aL => have := LMc39.out; omega); intro v385 w46 ho hb hg hat; rw [← Ny384.out] at ho; have n0_ := Aside0.mk (blk_grown (g := gb357) (o := .cells #[.slice (some ad361) l0_0.length c0_0, .slice A0_1 l0_1.length c0_1] 42 (0, 0)) (bk BK357.out) hg (Kd.R_ne HO_3.out BK357.out (by decide))); have n1_ := Aside0.mk (blk_grown (g := gb368) (o := .cells #[.int .i64 ((rd_T75 (rd_L5 l0_0 x4_1) x5_2).f0), .int .i64 ((rd_T75 (rd_L5 l0_0 x4_1) x5_2).f1), .int .i64 ((rd_T75 (rd_L5 l0_0 x4_1) x5_2).f2.f0), .int .i64 ((rd_T75 (rd_L5 l0_0 x4_1) x5_2).f2.f1), .bool false, .bool true] 75 (0, 0)) (bk BK368.out) hg (Kd.R_ne HO_3.out BK368.out (by decide))); have n2_ := Aside0.mk (Kd.R_after (ok := (fun _ => True)) (by (with_reducible repeat (first | apply Kd.R_alloc | apply Kd.R_drewN | apply Kd.R_drew)); exact HO383.out) hg hat); have n3_ := Aside0.mk (hb); have n4_ := Aside0.mk (ho); clear BK357; clear BK368; clear HO383; clear HB; clear HO_3; have BK357 := n0_; have BK368 := n1_; have HO383 := n2_; have HB := n3_; have HO386 := n4_; clear n0_ n1_ n2_ n3_ n4_; clear ho hb hg hat))
      go_roundg k2
      case measure => have := HK1.out; have := HK2.out; omega
      case rel => exact ⟨(y384), (wrap64 (x5_2 + 1)), fj, H', ⟨by have := HK1.out; have := HK2.out; omega⟩, ⟨by (with_reducible repeat (first | apply Kd.R_alloc | apply Kd.R_drewN | apply Kd.R_drew)); exact Kd.R_mono HO386.out (fun _ hk => trivial)⟩, ⟨by refine bx ?_; exact BK357.out⟩, ⟨bl⟩⟩
     replace c38 := Bool.eq_false_iff.mpr c38
     subst c38
     have H1 : ((some (([(rd_T75 (rd_L5 l0_0 x4_1) x5_2).f0, (rd_T75 (rd_L5 l0_0 x4_1) x5_2).f1, (rd_T75 (rd_L5 l0_0 x4_1) x5_2).f2.f0, (rd_T75 (rd_L5 l0_0 x4_1) x5_2).f2.f1, 0] : List Int) : List Int)).bind fun y387 => (if x3_2.length + y387.length < 17592186044416 then (spinnakerref13_Bytes.l1 k2 (x3_2 ++ y387) x4_1 (wrap64 (x5_2 + 1)) l0_0 l0_1) else (none))) = some r := by rw [if_neg (show ¬ (false = true) by decide)] at H; exact H
     clear H
     have H := H1
     clear H1
     obtain ⟨y387, hy387⟩ : ∃ y_ : List Int, y_ = (([(rd_T75 (rd_L5 l0_0 x4_1) x5_2).f0, (rd_T75 (rd_L5 l0_0 x4_1) x5_2).f1, (rd_T75 (rd_L5 l0_0 x4_1) x5_2).f2.f0, (rd_T75 (rd_L5 l0_0 x4_1) x5_2).f2.f1, 0] : List Int)) := ⟨_, rfl⟩
     replace H : (if x3_2.length + y387.length < 17592186044416 then (spinnakerref13_Bytes.l1 k2 (x3_2 ++ y387) x4_1 (wrap64 (x5_2 + 1)) l0_0 l0_1) else (none)) = some r := by first | (rw [hy387]; with_reducible exact H) | (have H2_ := (Option.bind_some _ _).symm.trans H; rw [hy387]; with_reducible exact H2_) | (have H2_ := (Option.bind_some _ _).symm.trans H; with_reducible exact H2_) | with_reducible exact H | (rw [hy387]; exact H) | exact H
     have Ny387 := Aside0.mk hy387
     clear hy387
     by_cases c48 : x3_2.length + y387.length < 17592186044416
     rotate_left
     ·rw [if_neg c48] at H
      exact absurd H (by simp)
     rw [if_pos c48] at H
     have LMc48 := Aside0.mk c48
     clear c48
     obtain ⟨y390, hy390⟩ : ∃ y_ : List Int, y_ = (x3_2 ++ y387) := ⟨_, rfl⟩
     replace H : (spinnakerref13_Bytes.l1 k2 y390 x4_1 (wrap64 (x5_2 + 1)) l0_0 l0_1) = some r := by first | (rw [hy390]; with_reducible exact H) | (have H2_ := (Option.bind_some _ _).symm.trans H; rw [hy390]; with_reducible exact H2_) | (have H2_ := (Option.bind_some _ _).symm.trans H; with_reducible exact H2_) | with_reducible exact H | (rw [hy390]; exact H) | exact H
     have Ny390 := Aside0.mk hy390
     clear hy390
     have H' := Aside0.mk H
     clear H
     obtain ⟨hcz49_0, hcz49_1, hfz49_0, hfz49_1⟩ := cz2 (w := wr) BK357.out
     have p365 : 0 ≤ (x4_1 : Int) := od
     have q365 : x4_1 < (l0_0.length : Int) := od
     obtain ⟨ad365, A365_0, c365_0, e365, hx365_0, hl365_0, hi365_0⟩ := at_L5 HR0_0.out x4_1 p365 q365
     obtain rfl : ad361 = ad365 := (by injection e365)
     replace hx365_0 := cb HB.out hx365_0
     have HR365_0 := Aside0.mk hi365_0
     have HC365_0 := Aside0.mk hl365_0
     clear hi365_0 hl365_0
     replace p365 := eq_true p365
     replace q365 := eq_true q365
     have p366 : 0 ≤ (x4_1 : Int) := od
     have q366 : x4_1 < (l0_0.length : Int) := od
     obtain ⟨ad366, A366_0, c366_0, e366, hx366_0, hl366_0, hi366_0⟩ := at_L5 HR0_0.out x4_1 p366 q366
     obtain rfl : ad361 = ad366 := (by injection e366)
     replace hx366_0 := cb HB.out hx366_0
     have HR366_0 := Aside0.mk hi366_0
     have HC366_0 := Aside0.mk hl366_0
     clear hi366_0 hl366_0
     replace p366 := eq_true p366
     replace q366 := eq_true q366
     have ea_ := Option.some.inj (hx365_0.symm.trans hx366_0)
     injection ea_ with ea_ en_ ec_
     subst ea_
     subst ec_
     clear en_
     have p367 : 0 ≤ (x5_2 : Int) := od
     have q367 : x5_2 < ((rd_L5 l0_0 x4_1).length : Int) := od
     obtain ⟨ad367, e367, hx367_0, hx367_1, hx367_2, hx367_3, hx367_4, hx367_5⟩ := at_T75 HR366_0.out x5_2 p367 q367
     (try rw [← Nbq15.out] at hx367_4)
     (try rw [← Nbq37.out] at hx367_4)
     (try rw [← Nbq15.out] at hx367_5)
     (try rw [← Nbq37.out] at hx367_5)
     cases e367
     replace hx367_0 := cb HB.out hx367_0
     replace hx367_1 := cb HB.out hx367_1
     replace hx367_2 := cb HB.out hx367_2
     replace hx367_3 := cb HB.out hx367_3
     replace hx367_4 := cb HB.out hx367_4
     replace hx367_5 := cb HB.out hx367_5
     replace p367 := eq_true p367
     replace q367 := eq_true q367
     go_wp2_with (first | ((with_reducible refine gate_dst (N := 6) rfl ?_); refine bv 6 #[.int .i64 0, .int .i64 0, .int .i64 0, .int .i64 0, .bool false, .bool false] 75 ?_; intro gb368 hg w50 hbox hb; have n0_ := Aside0.mk (Kd.R_below (by (with_reducible repeat (first | apply Kd.R_alloc | apply Kd.R_drewN | apply Kd.R_drew)); exact HO_3.out) hb); have n1_ := Aside0.mk (blk_below (g := gb357) (o := .cells #[.slice (some ad361) l0_0.length c0_0, .slice A0_1 l0_1.length c0_1] 42 (0, 0)) (bk BK357.out) hb); have n2_ := Aside0.mk (below_step bl hb); have n3_ := Aside0.mk (hbox); have n4_ := Aside0.mk ((by rw [hg]; exact (below_size bl) : w.heap.size ≤ gb368)); have n5_ := Aside0.mk ((by rw [hg]; exact (below_size bl) : w.heap.size ≤ gb368)); have n6_ := Aside0.mk ((nl hg (bk BK357.out) : gb357 ≠ gb368)); have n7_ := Aside0.mk ((ng hg (bk BK357.out) : gb368 ≠ gb357)); clear HO_3; clear BK357; clear HB; have HO_3 := n0_; have BK357 := n1_; have HB := n2_; have BK368 := n3_; have GW368 := n4_; have GE368 := n5_; have NB357_368 := n6_; have NB368_357 := n7_; clear n0_ n1_ n2_ n3_ n4_ n5_ n6_ n7_; clear hb hbox hg; have hnb51 := NB368_357.out; have hnc51 := NB357_368.out; obtain ⟨hcz52_0, hcz52_1, hcz52_2, hcz52_3, hcz52_4, hcz52_5, hfz52_0, hfz52_1, hfz52_2, hfz52_3, hfz52_4, hfz52_5⟩ := cz6 (w := w50) BK368.out) | ((with_reducible refine gate_dst (N := 66) rfl ?_); refine Kd.R_lit (Kd.int .i64) _ 3 ?hg (N := 66) ?hd (xs := ([(rd_T75 (rd_L5 l0_0 x4_1) x5_2).f0, (rd_T75 (rd_L5 l0_0 x4_1) x5_2).f1, (rd_T75 (rd_L5 l0_0 x4_1) x5_2).f2.f0, (rd_T75 (rd_L5 l0_0 x4_1) x5_2).f2.f1, 0] : List Int)) (inner := [.int .i64 ((rd_T75 (rd_L5 l0_0 x4_1) x5_2).f0), .int .i64 ((rd_T75 (rd_L5 l0_0 x4_1) x5_2).f1), .int .i64 ((rd_T75 (rd_L5 l0_0 x4_1) x5_2).f2.f0), .int .i64 ((rd_T75 (rd_L5 l0_0 x4_1) x5_2).f2.f1), .int .i64 0]) (ok := fun _ => True) (okp := fun _ => True) ?hr ?hp (fun _ hk => hk) trivial (Below.refl _ _) (Nat.le_refl _) (by simp) ?_; (case hd => rfl); (case hg => rfl); (case hr => first | (go_simp; done) | (go_simp; rfl)); (case hp => exact (Reps.one (show Kd.M (Kd.int .i64) _ _ _ ((rd_T75 (rd_L5 l0_0 x4_1) x5_2).f0) [.int .i64 ((rd_T75 (rd_L5 l0_0 x4_1) x5_2).f0)] from rfl) (Reps.one (show Kd.M (Kd.int .i64) _ _ _ ((rd_T75 (rd_L5 l0_0 x4_1) x5_2).f1) [.int .i64 ((rd_T75 (rd_L5 l0_0 x4_1) x5_2).f1)] from rfl) (Reps.one (show Kd.M (Kd.int .i64) _ _ _ ((rd_T75 (rd_L5 l0_0 x4_1) x5_2).f2.f0) [.int .i64 ((rd_T75 (rd_L5 l0_0 x4_1) x5_2).f2.f0)] from rfl) (Reps.one (show Kd.M (Kd.int .i64) _ _ _ ((rd_T75 (rd_L5 l0_0 x4_1) x5_2).f2.f1) [.int .i64 ((rd_T75 (rd_L5 l0_0 x4_1) x5_2).f2.f1)] from rfl) (Reps.one (show Kd.M (Kd.int .i64) _ _ _ 0 [.int .i64 0] from rfl) (Reps.none _ _))))))); intro v388 w53 ho54 hb hg_ hnew_; clear hg_ hnew_; (first | rw [← Ny387.out] at ho54 | (simp only [Int.reduceToNat] at ho54; rw [← Ny387.out] at ho54)); have n0_ := Aside0.mk (Kd.R_elder' (by (with_reducible repeat (first | apply Kd.R_alloc | apply Kd.R_drewN | apply Kd.R_drew)); exact (Kd.R_mono (Kd.R_far (p := ⟨gb368, 5, none⟩) (Kd.R_far (p := ⟨gb368, 4, none⟩) (Kd.R_far (p := ⟨gb368, 3, none⟩) (Kd.R_far (p := ⟨gb368, 2, none⟩) (Kd.R_far (p := ⟨gb368, 1, none⟩) (Kd.R_far (p := ⟨gb368, 0, none⟩) (Kd.R_types HO_3.out BK368.out (by decide)) (fun _ hk => hk.2) (.int .i64 ((rd_T75 (rd_L5 l0_0 x4_1) x5_2).f0))) (fun _ hk => hk.2) (.int .i64 ((rd_T75 (rd_L5 l0_0 x4_1) x5_2).f1))) (fun _ hk => hk.2) (.int .i64 ((rd_T75 (rd_L5 l0_0 x4_1) x5_2).f2.f0))) (fun _ hk => hk.2) (.int .i64 ((rd_T75 (rd_L5 l0_0 x4_1) x5_2).f2.f1))) (fun _ hk => hk.2) (.bool false)) (fun _ hk => hk.2) (.bool false)) (fun _ h_ => h_.1))) (Kd.R_base ho54) hb); have n1_ := Aside0.mk (Kd.R_lower (Kd.R_new' ho54 (Kd.R_lt (by (with_reducible repeat (first | apply Kd.R_alloc | apply Kd.R_drewN | apply Kd.R_drew)); exact (Kd.R_mono (Kd.R_far (p := ⟨gb368, 5, none⟩) (Kd.R_far (p := ⟨gb368, 4, none⟩) (Kd.R_far (p := ⟨gb368, 3, none⟩) (Kd.R_far (p := ⟨gb368, 2, none⟩) (Kd.R_far (p := ⟨gb368, 1, none⟩) (Kd.R_far (p := ⟨gb368, 0, none⟩) (Kd.R_types HO_3.out BK368.out (by decide)) (fun _ hk => hk.2) (.int .i64 ((rd_T75 (rd_L5 l0_0 x4_1) x5_2).f0))) (fun _ hk => hk.2) (.int .i64 ((rd_T75 (rd_L5 l0_0 x4_1) x5_2).f1))) (fun _ hk => hk.2) (.int .i64 ((rd_T75 (rd_L5 l0_0 x4_1) x5_2).f2.f0))) (fun _ hk => hk.2) (.int .i64 ((rd_T75 (rd_L5 l0_0 x4_1) x5_2).f2.f1))) (fun _ hk => hk.2) (.bool false)) (fun _ hk => hk.2) (.bool false)) (fun _ h_ => h_.1))))) (below_size bl)); have n2_ := Aside0.mk (blk_below (g := gb357) (o := .cells #[.slice (some ad361) l0_0.length c0_0, .slice A0_1 l0_1.length c0_1] 42 (0, 0)) (by refine bx ?_; refine blk_far ?_ NB357_368.out _; refine bx ?_; refine blk_far ?_ NB357_368.out _; refine bx ?_; refine blk_far ?_ NB357_368.out _; refine bx ?_; refine blk_far ?_ NB357_368.out _; refine bx ?_; refine blk_far ?_ NB357_368.out _; refine bx ?_; refine blk_far ?_ NB357_368.out _; refine bx ?_; exact BK357.out) hb); have n3_ := Aside0.mk (blk_below (g := gb368) (o := .cells #[.int .i64 ((rd_T75 (rd_L5 l0_0 x4_1) x5_2).f0), .int .i64 ((rd_T75 (rd_L5 l0_0 x4_1) x5_2).f1), .int .i64 ((rd_T75 (rd_L5 l0_0 x4_1) x5_2).f2.f0), .int .i64 ((rd_T75 (rd_L5 l0_0 x4_1) x5_2).f2.f1), .bool false, .bool false] 75 (0, 0)) (by refine bx ?_; refine blk_put (cs := #[.int .i64 ((rd_T75 (rd_L5 l0_0 x4_1) x5_2).f0), .int .i64 ((rd_T75 (rd_L5 l0_0 x4_1) x5_2).f1), .int .i64 ((rd_T75 (rd_L5 l0_0 x4_1) x5_2).f2.f0), .int .i64 ((rd_T75 (rd_L5 l0_0 x4_1) x5_2).f2.f1), .bool false, .bool false]) ?_ 5 _ rfl; refine bx ?_; refine blk_put (cs := #[.int .i64 ((rd_T75 (rd_L5 l0_0 x4_1) x5_2).f0), .int .i64 ((rd_T75 (rd_L5 l0_0 x4_1) x5_2).f1), .int .i64 ((rd_T75 (rd_L5 l0_0 x4_1) x5_2).f2.f0), .int .i64 ((rd_T75 (rd_L5 l0_0 x4_1) x5_2).f2.f1), .bool false, .bool false]) ?_ 4 _ rfl; refine bx ?_; refine blk_put (cs := #[.int .i64 ((rd_T75 (rd_L5 l0_0 x4_1) x5_2).f0), .int .i64 ((rd_T75 (rd_L5 l0_0 x4_1) x5_2).f1), .int .i64 ((rd_T75 (rd_L5 l0_0 x4_1) x5_2).f2.f0), .int .i64 0, .bool false, .bool false]) ?_ 3 _ rfl; refine bx ?_; refine blk_put (cs := #[.int .i64 ((rd_T75 (rd_L5 l0_0 x4_1) x5_2).f0), .int .i64 ((rd_T75 (rd_L5 l0_0 x4_1) x5_2).f1), .int .i64 0, .int .i64 0, .bool false, .bool false]) ?_ 2 _ rfl; refine bx ?_; refine blk_put (cs := #[.int .i64 ((rd_T75 (rd_L5 l0_0 x4_1) x5_2).f0), .int .i64 0, .int .i64 0, .int .i64 0, .bool false, .bool false]) ?_ 1 _ rfl; refine bx ?_; refine blk_put (cs := #[.int .i64 0, .int .i64 0, .int .i64 0, .int .i64 0, .bool false, .bool false]) ?_ 0 _ rfl; refine bx ?_; exact BK368.out) hb); have n4_ := Aside0.mk (below_step bl hb); clear HO_3; clear BK357; clear BK368; clear HB; have HO_3 := n0_; have HO389 := n1_; have BK357 := n2_; have BK368 := n3_; have HB := n4_; clear n0_ n1_ n2_ n3_ n4_; clear hb ho54; obtain ⟨Ao56, co56, eo56⟩ := Kd.R_slice HO389.out; subst eo56) | ((with_reducible refine gate_builtin (b := .append) (xs := #[.tmp 54, .tmp 66]) rfl ?_); at_builtin; refine Kd.R_append_rows (Kd.int .i64) (w0 := w) w.heap.size rfl (.tmp 54) (.tmp 66) 23 3 (.int .i64 0) 8 rfl Try.underlying23 info3 rfl (by decide) (by omega) u3 x3_2 y387 _ _ _ (fun k_ => some k_ ≠ (.slice Ao56 y387.length co56 : Value).ownBlock) (fun _ => False) rfl rfl ?aO ?aR (fun _ _ h => h) (fun _ h => h.elim) ?aF ?aB ?aS ?aL ?_; (case aR => repeat (first | exact (Kd.R_reads' HO389.out).2.2 | (with_reducible refine Kd.C_alloc ?_ _) | (with_reducible refine Kd.C_drewN ?_ _) | (with_reducible refine Kd.C_drew ?_))); (case aB => exact bl); (case aF => exact (fun k_ hk => Kd.fresh' (Kd.R_lt (by (with_reducible repeat (first | apply Kd.R_alloc | apply Kd.R_drewN | apply Kd.R_drew)); exact HO389.out)) k_ hk)); (case aO => exact (by (with_reducible repeat (first | apply Kd.R_alloc | apply Kd.R_drewN | apply Kd.R_drew)); exact Kd.R_mono HO_3.out (fun _ hk => hk.2))); (case aS => exact (below_size bl)); (case aL => have := LMc48.out; omega); intro v391 w55 ho hb hg hat; rw [← Ny390.out] at ho; have n0_ := Aside0.mk (blk_grown (g := gb357) (o := .cells #[.slice (some ad361) l0_0.length c0_0, .slice A0_1 l0_1.length c0_1] 42 (0, 0)) (bk BK357.out) hg (Kd.R_ne HO_3.out BK357.out (by decide))); have n1_ := Aside0.mk (blk_grown (g := gb368) (o := .cells #[.int .i64 ((rd_T75 (rd_L5 l0_0 x4_1) x5_2).f0), .int .i64 ((rd_T75 (rd_L5 l0_0 x4_1) x5_2).f1), .int .i64 ((rd_T75 (rd_L5 l0_0 x4_1) x5_2).f2.f0), .int .i64 ((rd_T75 (rd_L5 l0_0 x4_1) x5_2).f2.f1), .bool false, .bool false] 75 (0, 0)) (bk BK368.out) hg (Kd.R_ne HO_3.out BK368.out (by decide))); have n2_ := Aside0.mk (Kd.R_after (ok := (fun _ => True)) (by (with_reducible repeat (first | apply Kd.R_alloc | apply Kd.R_drewN | apply Kd.R_drew)); exact HO389.out) hg hat); have n3_ := Aside0.mk (hb); have n4_ := Aside0.mk (ho); clear BK357; clear BK368; clear HO389; clear HB; clear HO_3; have BK357 := n0_; have BK368 := n1_; have HO389 := n2_; have HB := n3_; have HO392 := n4_; clear n0_ n1_ n2_ n3_ n4_; clear ho hb hg hat))
     go_roundg k2
     case measure => have := HK1.out; have := HK2.out; omega
     case rel => exact ⟨(y390), (wrap64 (x5_2 + 1)), fj, H', ⟨by have := HK1.out; have := HK2.out; omega⟩, ⟨by (with_reducible repeat (first | apply Kd.R_alloc | apply Kd.R_drewN | apply Kd.R_drew)); exact Kd.R_mono HO392.out (fun _ hk => trivial)⟩, ⟨by refine bx ?_; exact BK357.out⟩, ⟨bl⟩⟩

end Go.Proofs.Ytfpphaflbmlpeaa.GCandChecks
