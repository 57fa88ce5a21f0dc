-- Written by wip/stub.py of this repo.
import Derived.Test.YtfpphaflbmlpeaaGCandSamex0
import Derived.Test.YtfpphaflbmlpeaaGCandSamex8
namespace Go.Proofs.Ytfpphaflbmlpeaa.GCandSame
open Go.RowKit Go.Proofs.YtfpphaflbmlpeaaW.PrintWords Go.Proofs.YtfpphaflbmlpeaaW.PrintLast Go.Proofs.YtfpphaflbmlpeaaW.PrintMore
attribute [local go_sem] max2_int min2_int max_two min_two max_three min_three max_four min_four   -- for this text's walks alone
set_option linter.unusedVariables false
set_option linter.unusedSimpArgs false

/-! ### api_Rec_44: function 44 -/
def api_Rec_44.f (l0 : List (S75)) : Option ((List (S75))) := (some (([] : List (S75)) : List (S75))).bind fun y261 => (if y261.length + l0.length < 3518437208883 then (some (y261 ++ l0)) else (none))
set_option maxHeartbeats 8000000 in
set_option maxRecDepth 100000 in
theorem api_Rec_44.calls (A0 : Option Addr) (c0 : Nat) (l0 : List (S75)) (r : List (S75)) (w : World) (hr0 : Kd.C k75 w A0 l0.length l0) (hc0 : l0.length ≤ c0) (h : api_Rec_44.f l0 = some r) :
  Calls Try.prog 44 #[.slice A0 l0.length c0] w fun e w' => ∃ v0_ : Value, e = .returned (v0_) ∧ Kd.R k75 75 w' w.heap.size (fun _ => True) v0_ r ∧ Below w.heap.size w w' := by
 have HR0 := Aside0.mk hr0
 have HC0 := Aside0.mk hc0
 clear hr0 hc0
 have HB := Aside0.mk (Below.refl w.heap.size w)
 have H : ((some (([] : List (S75)) : List (S75))).bind fun y261 => (if y261.length + l0.length < 3518437208883 then (some (y261 ++ l0)) else (none))) = some r := h
 clear h
 obtain ⟨y261, hy261⟩ : ∃ y_ : List (S75), y_ = (([] : List (S75))) := ⟨_, rfl⟩
 replace H : (if y261.length + l0.length < 3518437208883 then (some (y261 ++ l0)) else (none)) = some r := by first | (rw [hy261]; with_reducible exact H) | (have H2_ := (Option.bind_some _ _).symm.trans H; rw [hy261]; with_reducible exact H2_) | (have H2_ := (Option.bind_some _ _).symm.trans H; with_reducible exact H2_) | with_reducible exact H | (rw [hy261]; exact H) | exact H
 have Ny261 := Aside0.mk hy261
 clear hy261
 by_cases c2 : y261.length + l0.length < 3518437208883
 ·rw [if_pos c2] at H
  have LMc2 := Aside0.mk c2
  clear c2
  obtain ⟨y264, hy264⟩ : ∃ y_ : List (S75), y_ = (y261 ++ l0) := ⟨_, rfl⟩
  replace H : (some y264) = some r := by first | (rw [hy264]; with_reducible exact H) | (have H2_ := (Option.bind_some _ _).symm.trans H; rw [hy264]; with_reducible exact H2_) | (have H2_ := (Option.bind_some _ _).symm.trans H; with_reducible exact H2_) | with_reducible exact H | (rw [hy264]; exact H) | exact H
  have Ny264 := Aside0.mk hy264
  clear hy264
  obtain rfl := Option.some.inj H
  cases A0 with
  | none =>
   have hnq : ∀ W, (binOp .eql 67 (.slice none 0 c0) (.slice none 0 0)).run Try.prog W = .ok (.bool true) W := fun W => by rfl
   have hnl := C_none_nil HR0.out
   subst hnl
   have hny : y264 = [] := by rw [Ny264.out, Ny261.out]; rfl
   go_enter Try.func44, Try.ntmps44
   go_wp2
   go_ret
   exact ⟨_, fi, by first | exact Kd.R_nil _ _ _ _ _ | (rw [hny]; exact Kd.R_nil _ _ _ _ _), bl⟩
  | some ad0 =>
   have hnq : ∀ W, (binOp .eql 67 (.slice (some ad0) l0.length c0) (.slice none 0 0)).run Try.prog W = .ok (.bool false) W := fun W => by rfl
   go_enter Try.func44, Try.ntmps44
   go_wp2_with (first | ((with_reducible refine gate_dst (N := 5) rfl ?_); refine Kd.R_lit k75 _ 75 ?hg (N := 5) ?hd (xs := ([] : List (S75))) (inner := []) (ok := fun _ => True) (okp := fun _ => True) ?hr ?hp (fun _ hk => hk) trivial (Below.refl _ _) (Nat.le_refl _) (by simp) ?_; (case hd => rfl); (case hg => rfl); (case hr => first | (go_simp; done) | (go_simp; rfl)); (case hp => exact (Reps.none _ _)); intro v262 w3 ho4 hb hg_ hnew_; clear hg_ hnew_; (first | rw [← Ny261.out] at ho4 | (simp only [Int.reduceToNat] at ho4; rw [← Ny261.out] at ho4)); have n0_ := Aside0.mk (Kd.R_lower ho4 (below_size bl)); have n1_ := Aside0.mk (below_step bl hb); clear HB; have HO263 := n0_; have HB := n1_; clear n0_ n1_; clear hb ho4) | ((with_reducible refine gate_builtin (b := .append) (xs := #[.tmp 5, .tmp 6]) rfl ?_); at_builtin; refine Kd.R_append_rows k75 (w0 := w) w.heap.size rfl (.tmp 5) (.tmp 6) 67 75 (.agg #[(.int .i64 0), (.int .i64 0), (.int .i64 0), (.int .i64 0), (.bool false), (.bool false)]) 40 rfl Try.underlying67 info75 rfl (by decide) (by omega) v262 y261 l0 _ _ _ (fun _ => True) (fun _ => False) rfl rfl ?aO ?aR (fun _ _ h => h) (fun _ h => h.elim) ?aF ?aB ?aS ?aL ?_; (case aR => repeat (first | exact (Kd.C_below HR0.out HB.out) | (with_reducible refine Kd.C_alloc ?_ _) | (with_reducible refine Kd.C_drewN ?_ _) | (with_reducible refine Kd.C_drew ?_))); (case aB => exact bl); (case aF => exact (fun _ _ => trivial)); (case aO => exact (by (with_reducible repeat (first | apply Kd.R_alloc | apply Kd.R_drewN | apply Kd.R_drew)); exact HO263.out)); (case aS => exact (below_size bl)); (case aL => have := LMc2.out; omega); intro v265 w5 ho hb hg hat; rw [← Ny264.out] at ho; have n0_ := Aside0.mk (hb); have n1_ := Aside0.mk (ho); clear HB; clear HO263; have HB := n0_; have HO266 := n1_; clear n0_ n1_; clear ho hb hg hat))
   go_ret
   exact ⟨_, fi, by (with_reducible repeat (first | apply Kd.R_alloc | apply Kd.R_drewN | apply Kd.R_drew)); exact HO266.out, bl⟩
 ·rw [if_neg c2] at H
  exact absurd H (by simp)

/-! ### cand_Clone: function 21 -/
mutual
def cand_Clone.l0 : Nat → List (List (S75)) → Int → Int → List (List (S75)) → List (S70) → List (List (S75)) → Option ((List (List (S75))) × (List (S70)))
  | 0, _, _, _, _, _, _ => none
  | k + 1, x9, x10, x11, x268000, x268001, x270000 => if x11 < x10 then (if 0 ≤ x11 then (if x11 < (x9.length : Int) then ((api_Rec_44.f (rd_L4 x9 x11)).bind fun t271 => (if x270000.length < 5864062014805 then (cand_Clone.l0 k x9 x10 (wrap64 (x11 + 1)) x268000 x268001 (x270000 ++ [t271])) else (none))) else (none)) else (none)) else (cand_Clone.l1 k x268001 (x268001.length : Int) 0 x270000 ([] : List (S70)))
def cand_Clone.l1 : Nat → List (S70) → Int → Int → List (List (S75)) → List (S70) → Option ((List (List (S75))) × (List (S70)))
  | 0, _, _, _, _, _ => none
  | k + 1, x24, x25, x26, x270000, x270001 => if x26 < x25 then (if 0 ≤ x26 then (if x26 < (x24.length : Int) then ((api_Ref_45.f ((rd_T70 x24 x26).f1)).bind fun t279 => (if x270001.length < 4398046511104 then (cand_Clone.l1 k x24 x25 (wrap64 (x26 + 1)) x270000 (x270001 ++ [(⟨(rd_T70 x24 x26).f0, t279⟩ : S70)])) else (none))) else (none)) else (none)) else (some (x270000, x270001))
end
def cand_Clone.f (k : Nat) (l0_0 : List (List (S75))) (l0_1 : List (S70)) : Option ((List (List (S75))) × (List (S70))) := cand_Clone.l0 k l0_0 (l0_0.length : Int) 0 l0_0 l0_1 ([] : List (List (S75)))
theorem cand_Clone.mono_l : ∀ k, (∀ y0 y1 y2 y3 y4 y5, LeO (cand_Clone.l0 k y0 y1 y2 y3 y4 y5) (cand_Clone.l0 (k + 1) y0 y1 y2 y3 y4 y5)) ∧ (∀ y0 y1 y2 y3 y4, LeO (cand_Clone.l1 k y0 y1 y2 y3 y4) (cand_Clone.l1 (k + 1) y0 y1 y2 y3 y4))
 | 0 => ⟨fun _ _ _ _ _ _ r h => by simp [cand_Clone.l0] at h, fun _ _ _ _ _ r h => by simp [cand_Clone.l1] at h⟩
 | k + 1 => by
  obtain ⟨ih0, ih1⟩ := cand_Clone.mono_l k
  refine ⟨?_, ?_⟩
  all_goals (intros; (first | unfold cand_Clone.l0 | unfold cand_Clone.l1); repeat' first | (with_reducible first | exact ih0 _ _ _ _ _ _ | exact ih1 _ _ _ _ _ | exact LeO.refl _ | exact LeO.none _ | refine LeO.ite ?_ ?_ | refine LeO.bind ?_ (fun _ => ?_)) | exact ih0 _ _ _ _ _ _ | exact ih1 _ _ _ _ _ | exact LeO.none _ | refine LeO.ite ?_ ?_ | refine LeO.bind ?_ (fun _ => ?_))
theorem cand_Clone.mono : ∀ a0 a1 k, LeO (cand_Clone.f k a0 a1) (cand_Clone.f (k + 1) a0 a1) := by
 intro a0 a1 k
 obtain ⟨ih0, ih1⟩ := cand_Clone.mono_l k
 unfold cand_Clone.f
 repeat' first | (with_reducible first | exact ih0 _ _ _ _ _ _ | exact ih1 _ _ _ _ _ | exact LeO.refl _ | exact LeO.none _ | refine LeO.ite ?_ ?_ | refine LeO.bind ?_ (fun _ => ?_)) | exact ih0 _ _ _ _ _ _ | exact ih1 _ _ _ _ _ | exact LeO.none _ | refine LeO.ite ?_ ?_ | refine LeO.bind ?_ (fun _ => ?_)
def cand_Clone.T5 : Bool × List (List Nat × List Nat) := (true, [([], []), ([0], [0]), ([], []), ([2], [2]), ([3], [3]), ([1, 4, 3], [1, 4]), ([0, 1, 2, 3, 4, 5], []), ([6, 5, 5, 0, 1, 2, 3, 4, 5], [5, 6])])
def cand_Clone.B5 : List Nat := [0, 1, 0, 4, 12, 31, 63, 127]
theorem cand_Clone.tab5 : rtab .any (opsOf Try.f21 5) = cand_Clone.T5 := by kernel_rfl
theorem cand_Clone.bits5 : waitsOk cand_Clone.T5.2 cand_Clone.B5 = true := by kernel_rfl
def cand_Clone.T10 : Bool × List (List Nat × List Nat) := (true, [([], []), ([0], [0]), ([], []), ([2], [2]), ([], []), ([4], [4]), ([5], [5]), ([3, 6], [3, 6]), ([7], [7]), ([1, 8, 6], [1, 8]), ([0, 1, 2, 3, 4, 5, 6, 7, 8, 9], []), ([10, 9, 9, 0, 1, 2, 3, 4, 5, 6, 7, 8, 9], [9, 10])])
def cand_Clone.B10 : List Nat := [0, 1, 0, 4, 0, 16, 48, 124, 252, 511, 1023, 2047]
theorem cand_Clone.tab10 : rtab .any (opsOf Try.f21 10) = cand_Clone.T10 := by kernel_rfl
theorem cand_Clone.bits10 : waitsOk cand_Clone.T10.2 cand_Clone.B10 = true := by kernel_rfl
set_option maxHeartbeats 8000000 in
set_option maxRecDepth 100000 in
theorem cand_Clone.calls (k : Nat) (A0_0 : Option Addr) (c0_0 : Nat) (l0_0 : List (List (S75))) (A0_1 : Option Addr) (c0_1 : Nat) (l0_1 : List (S70)) (r1 : List (List (S75))) (r2 : List (S70)) (w : World) (hr0_0 : Kd.C (Kd.slice 75 k75) w A0_0 l0_0.length l0_0) (hc0_0 : l0_0.length ≤ c0_0) (hr0_1 : Kd.C k70 w A0_1 l0_1.length l0_1) (hc0_1 : l0_1.length ≤ c0_1) (h : cand_Clone.f k l0_0 l0_1 = some (r1, r2)) :
  Calls Try.prog 21 #[.agg #[.slice A0_0 l0_0.length c0_0, .slice A0_1 l0_1.length c0_1]] w fun e w' => ∃ v0_ v1_ : Value, e = .returned (.agg #[v0_, v1_]) ∧ Kd.S (Kd.slice 75 k75) 67 w' w.heap.size (fun _ => True) v0_ r1 ∧ Kd.S k70 70 w' w.heap.size (fun _ => True) v1_ r2 ∧ Below w.heap.size w w' := by
 have hu42 := Try.underlying42
 have hu70 := Try.underlying70
 have HR0_0 := Aside0.mk hr0_0
 have HC0_0 := Aside0.mk hc0_0
 clear hr0_0 hc0_0
 have HR0_1 := Aside0.mk hr0_1
 have HC0_1 := Aside0.mk hc0_1
 clear hr0_1 hc0_1
 have HB := Aside0.mk (Below.refl w.heap.size w)
 have H : (cand_Clone.l0 k l0_0 (l0_0.length : Int) 0 l0_0 l0_1 ([] : List (List (S75)))) = some (r1, r2) := h
 clear h
 have H' := Aside0.mk H
 clear H
 go_enter Try.func21, Try.ntmps21
 go_wp2_with (first | ((with_reducible refine gate_dst (N := 1) rfl ?_); refine box_event ?hg (N := 1) ?hd (cs := #[.slice A0_0 l0_0.length c0_0, .slice A0_1 l0_1.length c0_1]) (t := 42) ?hr ?_; (case hd => rfl); (case hg => rfl); (case hr => first | (go_simp; done) | (go_simp; rfl)); intro gb267 hg w2 hbox hb; obtain ⟨n0_, GW267⟩ := nb (w := w) hg hb; clear HB; have HB := n0_; have BK267 := Aside0.mk hbox; have GE267 := GW267; clear n0_ hb hbox hg) | ((with_reducible refine gate_dst (N := 2) rfl ?_); refine box_event ?hg (N := 2) ?hd (cs := #[.slice none 0 0, .slice none 0 0]) (t := 42) ?hr ?_; (case hd => rfl); (case hg => rfl); (case hr => first | (go_simp; done) | (go_simp; rfl)); intro gb268 hg w3 hbox hb; have n0_ := Aside0.mk (blk_below (g := gb267) (o := .cells #[.slice A0_0 l0_0.length c0_0, .slice A0_1 l0_1.length c0_1] 42 (0, 0)) (bk BK267.out) hb); have n1_ := Aside0.mk (below_step bl hb); have n2_ := Aside0.mk (hbox); have n3_ := Aside0.mk ((by rw [hg]; exact (below_size bl) : w.heap.size ≤ gb268)); have n4_ := Aside0.mk ((by rw [hg]; exact (below_size bl) : w.heap.size ≤ gb268)); have n5_ := Aside0.mk ((by rw [hg]; exact Nat.ne_of_lt (blk_lt (g := gb267) (o := .cells #[.slice A0_0 l0_0.length c0_0, .slice A0_1 l0_1.length c0_1] 42 (0, 0)) (bk BK267.out)) : gb267 ≠ gb268)); have n6_ := Aside0.mk ((by rw [hg]; exact Nat.ne_of_gt (blk_lt (g := gb267) (o := .cells #[.slice A0_0 l0_0.length c0_0, .slice A0_1 l0_1.length c0_1] 42 (0, 0)) (bk BK267.out)) : gb268 ≠ gb267)); clear BK267; clear HB; have BK267 := n0_; have HB := n1_; have BK268 := n2_; have GW268 := n3_; have GE268 := n4_; have NB267_268 := n5_; have NB268_267 := n6_; clear n0_ n1_ n2_ n3_ n4_ n5_ n6_; clear hb hbox hg) | ((with_reducible refine gate_dst (N := 3) rfl ?_); refine box_event ?hg (N := 3) ?hd (cs := #[.slice none 0 0, .slice none 0 0]) (t := 42) ?hr ?_; (case hd => rfl); (case hg => rfl); (case hr => first | (go_simp; done) | (go_simp; rfl)); intro gb269 hg w4 hbox hb; have n0_ := Aside0.mk (blk_below (g := gb267) (o := .cells #[.slice A0_0 l0_0.length c0_0, .slice A0_1 l0_1.length c0_1] 42 (0, 0)) (bk BK267.out) hb); have n1_ := Aside0.mk (blk_below (g := gb268) (o := .cells #[.slice none 0 0, .slice none 0 0] 42 (0, 0)) (bk BK268.out) hb); have n2_ := Aside0.mk (below_step bl hb); have n3_ := Aside0.mk (hbox); have n4_ := Aside0.mk ((by rw [hg]; exact (below_size bl) : w.heap.size ≤ gb269)); have n5_ := Aside0.mk ((by rw [hg]; exact (below_size bl) : w.heap.size ≤ gb269)); have n6_ := Aside0.mk ((by rw [hg]; exact Nat.ne_of_lt (blk_lt (g := gb267) (o := .cells #[.slice A0_0 l0_0.length c0_0, .slice A0_1 l0_1.length c0_1] 42 (0, 0)) (bk BK267.out)) : gb267 ≠ gb269)); have n7_ := Aside0.mk ((by rw [hg]; exact Nat.ne_of_gt (blk_lt (g := gb267) (o := .cells #[.slice A0_0 l0_0.length c0_0, .slice A0_1 l0_1.length c0_1] 42 (0, 0)) (bk BK267.out)) : gb269 ≠ gb267)); have n8_ := Aside0.mk ((by rw [hg]; exact Nat.ne_of_lt (blk_lt (g := gb268) (o := .cells #[.slice none 0 0, .slice none 0 0] 42 (0, 0)) (bk BK268.out)) : gb268 ≠ gb269)); have n9_ := Aside0.mk ((by rw [hg]; exact Nat.ne_of_gt (blk_lt (g := gb268) (o := .cells #[.slice none 0 0, .slice none 0 0] 42 (0, 0)) (bk BK268.out)) : gb269 ≠ gb268)); clear BK267; clear BK268; clear HB; have BK267 := n0_; have BK268 := n1_; have HB := n2_; have BK269 := n3_; have GW269 := n4_; have GE269 := n5_; have NB267_269 := n6_; have NB269_267 := n7_; have NB268_269 := n8_; have NB269_268 := n9_; clear n0_ n1_ n2_ n3_ n4_ n5_ n6_ n7_ n8_ n9_; clear hb hbox hg; have hnb5 := NB267_268.out; have hnc5 := NB268_267.out; have hnb6 := NB267_269.out; have hnc6 := NB269_267.out; obtain ⟨hcz7_0, hcz7_1, hfz7_0, hfz7_1⟩ := cz2 (w := w4) BK267.out))
 go_loopg [11] k (fun kq v11 w' => ∃ (x11_1 : Int) (x270000_1 : List (List (S75))) (u270000 : Value), v11 = .int .i64 x11_1 ∧ Aside0 (cand_Clone.l0 kq l0_0 (l0_0.length : Int) x11_1 l0_0 l0_1 x270000_1 = some (r1, r2)) ∧ Aside0 (kq ≤ k) ∧ Aside0 (Kd.S (Kd.slice 75 k75) 67 w' w.heap.size (fun _ => True) u270000 x270000_1) ∧ Aside0 (w'.heap[gb267]? = some (.cells #[(.slice A0_0 l0_0.length c0_0), (.slice A0_1 l0_1.length c0_1)] 42 (0, 0))) ∧ Aside0 (w'.heap[gb268]? = some (.cells #[(.slice none 0 0), (.slice none 0 0)] 42 (0, 0))) ∧ Aside0 (w'.heap[gb269]? = some (.cells #[u270000, (.slice none 0 0)] 42 (0, 0))) ∧ Aside0 (Below w.heap.size w w'))
 case atStart => exact ⟨(0), (([] : List (List (S75)))), (.slice none 0 0), fj, H', ⟨Nat.le_refl _⟩, ⟨by first | exact Kd.S_nil _ _ _ _ _ | exact Kd.N_nil _ _ _ _ _ | exact Kd.V_nil _ _ _ _ _ | exact Kd.Q_nil _ _ _ _ _ | exact Kd.R_nil _ _ _ _ _⟩, ⟨by refine bx ?_; exact BK267.out⟩, ⟨by refine bx ?_; exact BK268.out⟩, ⟨by refine bx ?_; exact BK269.out⟩, ⟨bl⟩⟩
 case round =>
  clear H'
  try clear c2
  try clear p2
  try clear c5
  try clear c6
  try clear hcz7_0 hcz7_1
  try clear hfz7_0 hfz7_1
  obtain ⟨x11_1, x270000_1, u270000, rfl, HA, HK1, HO_270000, BK267, BK268, BK269, HB⟩ := hrel
  cases gk with
  | zero => exact absurd HA.out (by simp [cand_Clone.l0])
  | succ k1 =>
   have H := HA.out
   clear HA
   simp only [cand_Clone.l0] at H
   by_cases c8 : x11_1 < (l0_0.length : Int)
   ·rw [if_pos c8] at H
    have c8b0 := decide_eq_true c8
    clear c8
    by_cases c9 : 0 ≤ x11_1
    ·rw [if_pos c9] at H
     have c9b0 := decide_eq_true c9
     clear c9
     by_cases c10 : x11_1 < (l0_0.length : Int)
     ·rw [if_pos c10] at H
      have c10b0 := decide_eq_true c10
      clear c10
      replace H := be H
      obtain ⟨t271, A11, H⟩ := H
      by_cases c12 : x270000_1.length < 5864062014805
      ·rw [if_pos c12] at H
       have LMc12 := Aside0.mk c12
       clear c12
       obtain ⟨y274, hy274⟩ : ∃ y_ : List (List (S75)), y_ = (x270000_1 ++ [t271]) := ⟨_, rfl⟩
       replace H : (cand_Clone.l0 k1 l0_0 (l0_0.length : Int) (wrap64 (x11_1 + 1)) l0_0 l0_1 y274) = some (r1, r2) := by first | (rw [hy274]; with_reducible exact H) | (have H2_ := (Option.bind_some _ _).symm.trans H; rw [hy274]; with_reducible exact H2_) | (have H2_ := (Option.bind_some _ _).symm.trans H; with_reducible exact H2_) | with_reducible exact H | (rw [hy274]; exact H) | exact H
       have Ny274 := Aside0.mk hy274
       clear hy274
       have H' := Aside0.mk H
       clear H
       have p270 : 0 ≤ (x11_1 : Int) := of_decide_eq_true (by first | (with_reducible assumption) | assumption)
       have q270 : x11_1 < (l0_0.length : Int) := of_decide_eq_true (by first | (with_reducible assumption) | assumption)
       obtain ⟨ad270, A270_0, c270_0, e270, hx270_0, hl270_0, hi270_0⟩ := at_L4 HR0_0.out x11_1 p270 q270
       cases e270
       replace hx270_0 := (HB.out.cell (World.block_lt_of_cell? w _ hx270_0)).trans hx270_0
       have HR270_0 := Aside0.mk hi270_0
       have HC270_0 := Aside0.mk hl270_0
       clear hi270_0 hl270_0
       replace p270 := eq_true p270
       replace q270 := eq_true q270
       try go_wp2
       have n0_ := Aside0.mk (Kd.S_drew HO_270000.out)
       have n1_ := Aside0.mk (blk_drew BK267.out)
       have n2_ := Aside0.mk (blk_drew BK268.out)
       have n3_ := Aside0.mk (blk_drew BK269.out)
       have n4_ := Aside0.mk (below_drew1 HB.out)
       clear HO_270000
       clear BK267
       clear BK268
       clear BK269
       clear HB
       have HO_270000 := n0_
       have BK267 := n1_
       have BK268 := n2_
       have BK269 := n3_
       have HB := n4_
       clear n0_ n1_ n2_ n3_ n4_
       refine start_ (n := 8) (S := fun w' => w'.cell? ⟨gb269, 0, none⟩ = some (u270000) ∧ w'.cell? ⟨gb269, 1, none⟩ = some (.slice none 0 0)) (ds := [7]) (fl 8 0) (by kernel_rfl) rfl rfl (cy2 BK269.out) (fun hHeld => ?_); refine with_tabW cand_Clone.tab5 cand_Clone.bits5 (fun HT_ HW_ => ?_)
       generalize wr.drew = w13 at HO_270000 BK267 BK268 BK269 HB hHeld ⊢
       refine pq 0 (some 15) ?_ (fl 8 1) HT_.out rfl rfl ?_ ?_ ?_ ?_
       rotate_left
       ·intro w'
        go_simp
        with_reducible rfl
       rotate_left
       ·refine pt ?_
        rfl
       refine pq 2 (some 17) ?_ #[true, false, true, false, false, false, false, false] HT_.out rfl rfl ?_ ?_ ?_ ?_
       rotate_left
       ·intro w'
        go_simp
        with_reducible rfl
       rotate_left
       ·refine pt ?_
        rfl
       refine pk 1 (some 16) ?_ (fl 8 3) HT_.out HW_.out rfl rfl ?_ hHeld ?_ ?_ ?_
       rotate_left
       ·rintro w' ⟨s0, s1⟩
        go_simp
        with_reducible rfl
       rotate_left
       ·refine pt ?_
        rfl
       refine one_ (i := 3) (N := some 18) (fl 8 4) rfl rfl (one_of HT_.out (by kernel_rfl)) (by decide) (fun K hK => ?_)
       refine goes_ Try.func44 (by kernel_rfl) rfl #[.slice A270_0 (rd_L4 l0_0 x11_1).length c270_0] (by rfl) rfl rfl ga ?_
       with_reducible refine (api_Rec_44.calls _ _ (rd_L4 l0_0 x11_1) t271 _ ?side1 ?side2 A11.out).mono ?_
       (case side1 => repeat (first | exact (Kd.C_below HR270_0.out HB.out) | (with_reducible refine Kd.C_alloc ?_ _) | (with_reducible refine Kd.C_drewN ?_ _) | (with_reducible refine Kd.C_drew ?_)))
       (case side2 => exact HC270_0.out)
       rintro e w14 ⟨v272, rfl, ho0, hb⟩
       refine ⟨_, rfl, ?_⟩
       have n0_ := Aside0.mk (Kd.S_elder' (by (with_reducible repeat (first | apply Kd.S_alloc | apply Kd.S_drewN | apply Kd.S_drew)); exact HO_270000.out) (Kd.R_base ho0) hb)
       have n1_ := Aside0.mk (Kd.R_lower ho0 (below_size bl))
       have n2_ := Aside0.mk (blk_below (g := gb267) (o := .cells #[.slice (some ad270) l0_0.length c0_0, .slice A0_1 l0_1.length c0_1] 42 (0, 0)) (bk BK267.out) hb)
       have n3_ := Aside0.mk (blk_below (g := gb268) (o := .cells #[.slice none 0 0, .slice none 0 0] 42 (0, 0)) (bk BK268.out) hb)
       have n4_ := Aside0.mk (blk_below (g := gb269) (o := .cells #[u270000, .slice none 0 0] 42 (0, 0)) (bk BK269.out) hb)
       have n5_ := Aside0.mk (below_step bl hb)
       clear HO_270000
       clear BK267
       clear BK268
       clear BK269
       clear HB
       have HO_270000 := n0_
       have HO273 := n1_
       have BK267 := n2_
       have BK268 := n3_
       have BK269 := n4_
       have HB := n5_
       clear n0_ n1_ n2_ n3_ n4_ n5_
       (try clear hb)
       (try clear hb2)
       (try clear hk)
       (try clear hi)
       (try clear ho0)
       obtain ⟨Ao16, co16, eo16⟩ := Kd.R_slice HO273.out
       (first | subst eo16 | (injection eo16 with f1_ f2_ f3_; have f4_ := f1_.symm; have f5_ := f3_.symm; clear f1_ f2_ f3_; subst f4_; subst f5_))
       refine hK.out _ _ (cy2 BK269.out) (fun hHeld => ?_)
       clear hK K
       refine norm_ (a' := ?_) ?_ ?_
       rotate_left
       ·show Act.put _ (some 18) _ = _
        refine pt ?_
        rfl
       refine one_ (i := 4) (N := some 19) (fl 8 5) rfl rfl (one_of HT_.out (by kernel_rfl)) (by decide) (fun K hK => ?_)
       refine value_ (w1 := ?_) (v := ?_) (by rfl) rfl ?_ ?_
       rotate_left 2
       ·go_simp
        constructor
        ·rfl
        ·rfl
       refine hK.out _ _ ⟨(blk_cell (blk_alloc BK269.out _) 0).trans rfl, (blk_cell (blk_alloc BK269.out _) 1).trans rfl⟩ (fun hHeld => ?_)
       clear hK K
       refine norm_ (a' := ?_) ?_ ?_
       rotate_left
       ·show Act.put _ (some 19) _ = _
        refine pt ?_
        rfl
       refine one_ (i := 5) (N := some 20) (fl 8 6) rfl rfl (one_of HT_.out (by kernel_rfl)) (by decide) (fun K hK => ?_)
       refine Kd.S_append_step (Kd.slice 75 k75) (w0 := w) w.heap.size (by rfl) (.tmp 16) (.tmp 19) 39 67 (.slice none 0 0) 24 rfl Try.underlying39 info67 rfl (by decide) (by omega) u270000 x270000_1 t271 [.slice Ao16 t271.length co16] (fun _ => True) (fun k_ => some k_ = (.slice Ao16 t271.length co16 : Value).ownBlock) rfl rfl ?aP (fun k_ hk_ => ((Kd.R_mono (ok' := fun k_ => ((fun _ => True)) k_ ∧ some k_ ≠ (u270000 : Value).ownBlock) (Kd.R_apart' (HO273.out) (Kd.S_typed HO_270000.out) (by decide)) (fun k_ hk => ⟨trivial, hk.2⟩))).1 k_ hk_.symm) ?aF ?aO ?aB ?aS ?aL ?_
       (case aP => exact Kd.M_row (Kd.R_mono (Kd.R_tight rfl (Kd.R_mono (ok' := fun k_ => ((fun _ => True)) k_ ∧ some k_ ≠ (u270000 : Value).ownBlock) (Kd.R_apart' (HO273.out) (Kd.S_typed HO_270000.out) (by decide)) (fun k_ hk => ⟨trivial, hk.2⟩))) (fun _ h_ => h_)))
       (case aB => exact bl)
       (case aF => exact (fun _ _ => trivial))
       (case aO => exact (by (with_reducible repeat (first | apply Kd.S_alloc | apply Kd.S_drewN | apply Kd.S_drew)); exact Kd.S_mono HO_270000.out (fun k_ hk => ⟨trivial, fun e_ => hk.2 e_⟩)))
       (case aS => exact (below_size bl))
       (case aL => have := LMc12.out; omega)
       intro v275 w15 ho hb hg hat
       rw [← Ny274.out] at ho
       have n0_ := Aside0.mk (blk_grown (g := gb267) (o := .cells #[.slice (some ad270) l0_0.length c0_0, .slice A0_1 l0_1.length c0_1] 42 (0, 0)) (bk BK267.out) hg (Kd.S_ne HO_270000.out BK267.out (by decide)))
       have n1_ := Aside0.mk (blk_grown (g := gb268) (o := .cells #[.slice none 0 0, .slice none 0 0] 42 (0, 0)) (bk BK268.out) hg (Kd.S_ne HO_270000.out BK268.out (by decide)))
       have n2_ := Aside0.mk (blk_grown (g := gb269) (o := .cells #[u270000, .slice none 0 0] 42 (0, 0)) (bk BK269.out) hg (Kd.S_ne HO_270000.out BK269.out (by decide)))
       have n3_ := Aside0.mk (hb)
       have n4_ := Aside0.mk (ho)
       clear BK267
       clear BK268
       clear BK269
       clear HB
       clear HO_270000
       clear HO273
       have BK267 := n0_
       have BK268 := n1_
       have BK269 := n2_
       have HB := n3_
       have HO276 := n4_
       clear n0_ n1_ n2_ n3_ n4_
       clear ho hb hg hat
       obtain ⟨Ao17, co17, eo17⟩ := Kd.S_slice HO276.out
       (first | subst eo17 | (injection eo17 with f1_ f2_ f3_; have f4_ := f1_.symm; have f5_ := f3_.symm; clear f1_ f2_ f3_; subst f4_; subst f5_))
       refine hK.out _ _ (cy2 BK269.out) (fun hHeld => ?_)
       clear hK K
       refine norm_ (a' := ?_) ?_ ?_
       rotate_left
       ·show Act.put _ (some 20) _ = _
        refine pt ?_
        rfl
       refine pq 6 (some 21) ?_ (fl 8 7) HT_.out rfl rfl ?_ ?_ ?_ ?_
       rotate_left
       ·intro w'
        go_simp
        with_reducible rfl
       rotate_left
       ·refine pt ?_
        rfl
       refine last_ (i := 7) (N := none) (fl 8 8) rfl rfl (one_of HT_.out (by kernel_rfl)) (by decide) (fun K hK => ?_)
       have hs18 : w15.cell? ⟨gb269, 0, none⟩ = some (u270000) := (blk_cell BK269.out 0).trans rfl
       have hfs18 := blk_frozen BK269.out 0
       have hns18_0 := NB267_269.out
       have hns18_1 := NB268_269.out
       have hms18_0 := NB269_267.out
       have hms18_1 := NB269_268.out
       refine skip_ (w1 := ?_) (by rfl) rfl ?_ ?_
       rotate_left
       ·go_simp
        rfl
       refine hK.out _ _ ?_
       clear hK K
       refine done_ (done_of HT_.out (by kernel_rfl)) ?_
       try go_wp2
       go_roundg k1
       case measure => have := HK1.out; omega
       case rel => exact ⟨(wrap64 (x11_1 + 1)), (y274), (.slice Ao17 y274.length co17), fj, H', ⟨by have := HK1.out; omega⟩, ⟨by (with_reducible repeat (first | apply Kd.S_alloc | apply Kd.S_drewN | apply Kd.S_drew)); exact Kd.S_mono (Kd.S_far (p := ⟨gb269, 0, none⟩) (Kd.S_types HO276.out BK269.out (by decide)) (fun _ hk => hk.2) (.slice Ao17 y274.length co17)) (fun _ hk => trivial)⟩, ⟨by refine bx ?_; refine blk_far ?_ NB267_269.out _; refine bx ?_; exact BK267.out⟩, ⟨by refine bx ?_; refine blk_far ?_ NB268_269.out _; refine bx ?_; exact BK268.out⟩, ⟨by refine bx ?_; refine blk_put (cs := #[u270000, .slice none 0 0]) ?_ 0 _ rfl; refine bx ?_; exact BK269.out⟩, ⟨bl⟩⟩
      ·rw [if_neg c12] at H
       exact absurd H (by simp)
     ·rw [if_neg c10] at H
      exact absurd H (by simp)
    ·rw [if_neg c9] at H
     exact absurd H (by simp)
   ·rw [if_neg c8] at H
    have c8b0 := decide_eq_false c8
    clear c8
    have H' := Aside0.mk H
    clear H
    have hnb19 := NB267_268.out
    have hnc19 := NB268_267.out
    have hnb20 := NB267_269.out
    have hnc20 := NB269_267.out
    obtain ⟨hcz21_0, hcz21_1, hfz21_0, hfz21_1⟩ := cz2 (w := wr) BK267.out
    go_wp2
    go_loopg [26] k1 (fun kq v26 w' => ∃ (x26_2 : Int) (x270001_2 : List (S70)) (u270001 : Value), v26 = .int .i64 x26_2 ∧ Aside0 (cand_Clone.l1 kq l0_1 (l0_1.length : Int) x26_2 x270000_1 x270001_2 = some (r1, r2)) ∧ Aside0 (kq ≤ k1) ∧ Aside0 (Kd.S (Kd.slice 75 k75) 67 w' w.heap.size (fun _ => True) u270000 x270000_1) ∧ Aside0 (Kd.S k70 70 w' w.heap.size (fun _ => True) u270001 x270001_2) ∧ Aside0 (w'.heap[gb267]? = some (.cells #[(.slice A0_0 l0_0.length c0_0), (.slice A0_1 l0_1.length c0_1)] 42 (0, 0))) ∧ Aside0 (w'.heap[gb268]? = some (.cells #[(.slice none 0 0), (.slice none 0 0)] 42 (0, 0))) ∧ Aside0 (w'.heap[gb269]? = some (.cells #[u270000, u270001] 42 (0, 0))) ∧ Aside0 (Below w.heap.size w w'))
    case atStart => exact ⟨(0), (([] : List (S70))), (.slice none 0 0), fj, H', ⟨Nat.le_refl _⟩, ⟨by (with_reducible repeat (first | apply Kd.S_alloc | apply Kd.S_drewN | apply Kd.S_drew)); exact HO_270000.out⟩, ⟨by first | exact Kd.S_nil _ _ _ _ _ | exact Kd.N_nil _ _ _ _ _ | exact Kd.V_nil _ _ _ _ _ | exact Kd.Q_nil _ _ _ _ _ | exact Kd.R_nil _ _ _ _ _⟩, ⟨by refine bx ?_; exact BK267.out⟩, ⟨by refine bx ?_; exact BK268.out⟩, ⟨by refine bx ?_; exact BK269.out⟩, ⟨bl⟩⟩
    case round =>
     clear H'
     try clear c1
     try clear c2
     try clear p2
     try clear q2
     try clear hx2
     try clear c4
     try clear c5
     try clear c6
     try clear p6
     try clear c8
     try clear c8b0
     try clear c9
     try clear c9b0
     try clear c10
     try clear c10b0
     try clear c12
     try clear c19
     try clear c20
     try clear c21
     try clear hcz21_0 hcz21_1
     try clear hcz7_0 hcz7_1
     try clear hfz21_0 hfz21_1
     try clear hfz7_0 hfz7_1
     try clear hx270_0
     try clear p2
     try clear p270
     try clear q270
     obtain ⟨x26_2, x270001_2, u270001, rfl, HA, HK2, HO_270000, HO_270001, BK267, BK268, BK269, HB⟩ := hrel
     cases gk with
     | zero => exact absurd HA.out (by simp [cand_Clone.l1])
     | succ k2 =>
      have H := HA.out
      clear HA
      simp only [cand_Clone.l1] at H
      by_cases c22 : x26_2 < (l0_1.length : Int)
      ·rw [if_pos c22] at H
       have c22b0 := decide_eq_true c22
       clear c22
       by_cases c23 : 0 ≤ x26_2
       ·rw [if_pos c23] at H
        have c23b0 := decide_eq_true c23
        clear c23
        by_cases c24 : x26_2 < (l0_1.length : Int)
        ·rw [if_pos c24] at H
         have c24b0 := decide_eq_true c24
         clear c24
         replace H := be H
         obtain ⟨t279, A25, H⟩ := H
         by_cases c26 : x270001_2.length < 4398046511104
         ·rw [if_pos c26] at H
          have LMc26 := Aside0.mk c26
          clear c26
          obtain ⟨y282, hy282⟩ : ∃ y_ : List (S70), y_ = (x270001_2 ++ [(⟨(rd_T70 l0_1 x26_2).f0, t279⟩ : S70)]) := ⟨_, rfl⟩
          replace H : (cand_Clone.l1 k2 l0_1 (l0_1.length : Int) (wrap64 (x26_2 + 1)) x270000_1 y282) = some (r1, r2) := by first | (rw [hy282]; with_reducible exact H) | (have H2_ := (Option.bind_some _ _).symm.trans H; rw [hy282]; with_reducible exact H2_) | (have H2_ := (Option.bind_some _ _).symm.trans H; with_reducible exact H2_) | with_reducible exact H | (rw [hy282]; exact H) | exact H
          have Ny282 := Aside0.mk hy282
          clear hy282
          have H' := Aside0.mk H
          clear H
          have p277 : 0 ≤ (x26_2 : Int) := of_decide_eq_true (by first | (with_reducible assumption) | assumption)
          have q277 : x26_2 < (l0_1.length : Int) := of_decide_eq_true (by first | (with_reducible assumption) | assumption)
          obtain ⟨ad277, A277_1, c277_1, e277, hx277_0, hx277_1, hl277_1, hi277_1⟩ := at_T70 HR0_1.out x26_2 p277 q277
          cases e277
          replace hx277_0 := (HB.out.cell (World.block_lt_of_cell? w _ hx277_0)).trans hx277_0
          replace hx277_1 := (HB.out.cell (World.block_lt_of_cell? w _ hx277_1)).trans hx277_1
          have HR277_1 := Aside0.mk hi277_1
          have HC277_1 := Aside0.mk hl277_1
          clear hi277_1 hl277_1
          replace p277 := eq_true p277
          replace q277 := eq_true q277
          try go_wp2_with (first | ((with_reducible refine gate_dst (N := 7) rfl ?_); refine box_event ?hg (N := 7) ?hd (cs := #[.int .i64 0, .slice none 0 0]) (t := 70) ?hr ?_; (case hd => rfl); (case hg => rfl); (case hr => first | (go_simp; done) | (go_simp; rfl)); intro gb278 hg w27 hbox hb; have n0_ := Aside0.mk (Kd.S_below (by (with_reducible repeat (first | apply Kd.S_alloc | apply Kd.S_drewN | apply Kd.S_drew)); exact HO_270000.out) hb); have n1_ := Aside0.mk (Kd.S_below (Kd.S_elderB (by (with_reducible repeat (first | apply Kd.S_alloc | apply Kd.S_drewN | apply Kd.S_drew)); exact HO_270001.out) gb278 (Nat.le_of_eq hg.symm)) hb); have n2_ := Aside0.mk (blk_below (g := gb267) (o := .cells #[.slice A0_0 l0_0.length c0_0, .slice (some ad277) l0_1.length c0_1] 42 (0, 0)) (bk BK267.out) hb); have n3_ := Aside0.mk (blk_below (g := gb268) (o := .cells #[.slice none 0 0, .slice none 0 0] 42 (0, 0)) (bk BK268.out) hb); have n4_ := Aside0.mk (blk_below (g := gb269) (o := .cells #[u270000, u270001] 42 (0, 0)) (bk BK269.out) hb); have n5_ := Aside0.mk (below_step bl hb); have n6_ := Aside0.mk (hbox); have n7_ := Aside0.mk ((by rw [hg]; exact (below_size bl) : w.heap.size ≤ gb278)); have n8_ := Aside0.mk ((by rw [hg]; exact (below_size bl) : w.heap.size ≤ gb278)); have n9_ := Aside0.mk ((by rw [hg]; exact Nat.ne_of_lt (blk_lt (g := gb267) (o := .cells #[.slice A0_0 l0_0.length c0_0, .slice (some ad277) l0_1.length c0_1] 42 (0, 0)) (bk BK267.out)) : gb267 ≠ gb278)); have n10_ := Aside0.mk ((by rw [hg]; exact Nat.ne_of_gt (blk_lt (g := gb267) (o := .cells #[.slice A0_0 l0_0.length c0_0, .slice (some ad277) l0_1.length c0_1] 42 (0, 0)) (bk BK267.out)) : gb278 ≠ gb267)); have n11_ := Aside0.mk ((by rw [hg]; exact Nat.ne_of_lt (blk_lt (g := gb268) (o := .cells #[.slice none 0 0, .slice none 0 0] 42 (0, 0)) (bk BK268.out)) : gb268 ≠ gb278)); have n12_ := Aside0.mk ((by rw [hg]; exact Nat.ne_of_gt (blk_lt (g := gb268) (o := .cells #[.slice none 0 0, .slice none 0 0] 42 (0, 0)) (bk BK268.out)) : gb278 ≠ gb268)); have n13_ := Aside0.mk ((by rw [hg]; exact Nat.ne_of_lt (blk_lt (g := gb269) (o := .cells #[u270000, u270001] 42 (0, 0)) (bk BK269.out)) : gb269 ≠ gb278)); have n14_ := Aside0.mk ((by rw [hg]; exact Nat.ne_of_gt (blk_lt (g := gb269) (o := .cells #[u270000, u270001] 42 (0, 0)) (bk BK269.out)) : gb278 ≠ gb269)); clear HO_270000; clear HO_270001; clear BK267; clear BK268; clear BK269; clear HB; have HO_270000 := n0_; have HO_270001 := n1_; have BK267 := n2_; have BK268 := n3_; have BK269 := n4_; have HB := n5_; have BK278 := n6_; have GW278 := n7_; have GE278 := n8_; have NB267_278 := n9_; have NB278_267 := n10_; have NB268_278 := n11_; have NB278_268 := n12_; have NB269_278 := n13_; have NB278_269 := n14_; clear n0_ n1_ n2_ n3_ n4_ n5_ n6_ n7_ n8_ n9_ n10_ n11_ n12_ n13_ n14_; clear hb hbox hg; have hnb28 := NB278_267.out; have hnc28 := NB267_278.out; have hnb29 := NB278_268.out; have hnc29 := NB268_278.out; have hnb30 := NB278_269.out; have hnc30 := NB269_278.out; obtain ⟨hcz31_0, hcz31_1, hfz31_0, hfz31_1⟩ := cz2 (w := w27) BK278.out))
          have n0_ : Aside0 (Kd.S (Kd.slice 75 k75) 67 ((w27.setCell ⟨gb278, 0, none⟩ (.int .i64 ((rd_T70 l0_1 x26_2).f0))).setCell ⟨gb278, 1, none⟩ (.slice A277_1 ((rd_T70 l0_1 x26_2).f1).length c277_1)) w.heap.size (fun _ => True) u270000 x270000_1) := ⟨by (with_reducible repeat (first | apply Kd.S_alloc | apply Kd.S_drewN | apply Kd.S_drew)); exact Kd.S_mono (Kd.S_far (p := ⟨gb278, 1, none⟩) (Kd.S_far (p := ⟨gb278, 0, none⟩) (Kd.S_types HO_270000.out BK278.out (by decide)) (fun _ hk => hk.2) (.int .i64 ((rd_T70 l0_1 x26_2).f0))) (fun _ hk => hk.2) (.slice A277_1 ((rd_T70 l0_1 x26_2).f1).length c277_1)) (fun _ hk => trivial)⟩
          have n1_ : Aside0 (Kd.S k70 70 ((w27.setCell ⟨gb278, 0, none⟩ (.int .i64 ((rd_T70 l0_1 x26_2).f0))).setCell ⟨gb278, 1, none⟩ (.slice A277_1 ((rd_T70 l0_1 x26_2).f1).length c277_1)) w.heap.size (fun k_ => k_ ≠ gb278) u270001 x270001_2) := ⟨by (with_reducible repeat (first | apply Kd.S_alloc | apply Kd.S_drewN | apply Kd.S_drew)); exact Kd.S_mono (Kd.S_far (p := ⟨gb278, 1, none⟩) (Kd.S_far (p := ⟨gb278, 0, none⟩) (Kd.S_mono HO_270001.out (fun k_ hk => (⟨hk, hk.2⟩ : _ ∧ k_ ≠ gb278))) (fun _ hk => hk.2) (.int .i64 ((rd_T70 l0_1 x26_2).f0))) (fun _ hk => hk.2) (.slice A277_1 ((rd_T70 l0_1 x26_2).f1).length c277_1)) (fun _ hk => hk.1.2)⟩
          have n2_ : Aside0 (((w27.setCell ⟨gb278, 0, none⟩ (.int .i64 ((rd_T70 l0_1 x26_2).f0))).setCell ⟨gb278, 1, none⟩ (.slice A277_1 ((rd_T70 l0_1 x26_2).f1).length c277_1)).heap[gb267]? = some (.cells #[.slice A0_0 l0_0.length c0_0, .slice (some ad277) l0_1.length c0_1] 42 (0, 0))) := ⟨by refine bx ?_; refine blk_far ?_ NB267_278.out _; refine bx ?_; refine blk_far ?_ NB267_278.out _; refine bx ?_; exact BK267.out⟩
          have n3_ : Aside0 (((w27.setCell ⟨gb278, 0, none⟩ (.int .i64 ((rd_T70 l0_1 x26_2).f0))).setCell ⟨gb278, 1, none⟩ (.slice A277_1 ((rd_T70 l0_1 x26_2).f1).length c277_1)).heap[gb268]? = some (.cells #[.slice none 0 0, .slice none 0 0] 42 (0, 0))) := ⟨by refine bx ?_; refine blk_far ?_ NB268_278.out _; refine bx ?_; refine blk_far ?_ NB268_278.out _; refine bx ?_; exact BK268.out⟩
          have n4_ : Aside0 (((w27.setCell ⟨gb278, 0, none⟩ (.int .i64 ((rd_T70 l0_1 x26_2).f0))).setCell ⟨gb278, 1, none⟩ (.slice A277_1 ((rd_T70 l0_1 x26_2).f1).length c277_1)).heap[gb269]? = some (.cells #[u270000, u270001] 42 (0, 0))) := ⟨by refine bx ?_; refine blk_far ?_ NB269_278.out _; refine bx ?_; refine blk_far ?_ NB269_278.out _; refine bx ?_; exact BK269.out⟩
          have n5_ : Aside0 (((w27.setCell ⟨gb278, 0, none⟩ (.int .i64 ((rd_T70 l0_1 x26_2).f0))).setCell ⟨gb278, 1, none⟩ (.slice A277_1 ((rd_T70 l0_1 x26_2).f1).length c277_1)).heap[gb278]? = some (.cells #[.int .i64 ((rd_T70 l0_1 x26_2).f0), .slice A277_1 ((rd_T70 l0_1 x26_2).f1).length c277_1] 70 (0, 0))) := ⟨by refine bx ?_; refine blk_put (cs := #[.int .i64 ((rd_T70 l0_1 x26_2).f0), .slice none 0 0]) ?_ 1 _ rfl; refine bx ?_; refine blk_put (cs := #[.int .i64 0, .slice none 0 0]) ?_ 0 _ rfl; refine bx ?_; exact BK278.out⟩
          have n6_ : Aside0 (Below w.heap.size w ((w27.setCell ⟨gb278, 0, none⟩ (.int .i64 ((rd_T70 l0_1 x26_2).f0))).setCell ⟨gb278, 1, none⟩ (.slice A277_1 ((rd_T70 l0_1 x26_2).f1).length c277_1))) := ⟨bl⟩
          (try clear HO_270000)
          (try clear HO_270001)
          (try clear BK267)
          (try clear BK268)
          (try clear BK269)
          (try clear BK278)
          (try clear HB)
          generalize ((w27.setCell ⟨gb278, 0, none⟩ (.int .i64 ((rd_T70 l0_1 x26_2).f0))).setCell ⟨gb278, 1, none⟩ (.slice A277_1 ((rd_T70 l0_1 x26_2).f1).length c277_1)) = w32 at n0_ n1_ n2_ n3_ n4_ n5_ n6_ ⊢
          have HO_270000 := n0_
          have HO_270001 := n1_
          have BK267 := n2_
          have BK268 := n3_
          have BK269 := n4_
          have BK278 := n5_
          have HB := n6_
          clear n0_ n1_ n2_ n3_ n4_ n5_ n6_
          have n0_ := Aside0.mk (Kd.S_drew HO_270000.out)
          have n1_ := Aside0.mk (Kd.S_drew HO_270001.out)
          have n2_ := Aside0.mk (blk_drew BK267.out)
          have n3_ := Aside0.mk (blk_drew BK268.out)
          have n4_ := Aside0.mk (blk_drew BK269.out)
          have n5_ := Aside0.mk (blk_drew BK278.out)
          have n6_ := Aside0.mk (below_drew1 HB.out)
          clear HO_270000
          clear HO_270001
          clear BK267
          clear BK268
          clear BK269
          clear BK278
          clear HB
          have HO_270000 := n0_
          have HO_270001 := n1_
          have BK267 := n2_
          have BK268 := n3_
          have BK269 := n4_
          have BK278 := n5_
          have HB := n6_
          clear n0_ n1_ n2_ n3_ n4_ n5_ n6_
          refine start_ (n := 12) (S := fun w' => w'.cell? ⟨gb269, 0, none⟩ = some (u270000) ∧ w'.cell? ⟨gb269, 1, none⟩ = some (u270001) ∧ w'.cell? ⟨gb278, 0, none⟩ = some (.int .i64 ((rd_T70 l0_1 x26_2).f0)) ∧ w'.cell? ⟨gb278, 1, none⟩ = some (.slice A277_1 ((rd_T70 l0_1 x26_2).f1).length c277_1)) (ds := [11]) (fl 12 0) (by kernel_rfl) rfl rfl ⟨(blk_cell BK269.out 0).trans rfl, (blk_cell BK269.out 1).trans rfl, (blk_cell BK278.out 0).trans rfl, (blk_cell BK278.out 1).trans rfl⟩ (fun hHeld => ?_); refine with_tabW cand_Clone.tab10 cand_Clone.bits10 (fun HT_ HW_ => ?_)
          generalize w32.drew = w33 at HO_270000 HO_270001 BK267 BK268 BK269 BK278 HB hHeld ⊢
          refine pq 0 (some 30) ?_ (fl 12 1) HT_.out rfl rfl ?_ ?_ ?_ ?_
          rotate_left
          ·intro w'
           go_simp
           with_reducible rfl
          rotate_left
          ·refine pt ?_
           rfl
          refine pq 2 (some 32) ?_ #[true, false, true, false, false, false, false, false, false, false, false, false] HT_.out rfl rfl ?_ ?_ ?_ ?_
          rotate_left
          ·intro w'
           go_simp
           with_reducible rfl
          rotate_left
          ·refine pt ?_
           rfl
          refine pq 4 (some 34) ?_ #[true, false, true, false, true, false, false, false, false, false, false, false] HT_.out rfl rfl ?_ ?_ ?_ ?_
          rotate_left
          ·intro w'
           go_simp
           with_reducible rfl
          rotate_left
          ·refine pt ?_
           rfl
          refine pk 1 (some 31) ?_ #[true, true, true, false, true, false, false, false, false, false, false, false] HT_.out HW_.out rfl rfl ?_ hHeld ?_ ?_ ?_
          rotate_left
          ·rintro w' ⟨s0, s1, s2, s3⟩
           go_simp
           with_reducible rfl
          rotate_left
          ·refine pt ?_
           rfl
          refine pk 3 (some 33) ?_ (fl 12 5) HT_.out HW_.out rfl rfl ?_ hHeld ?_ ?_ ?_
          rotate_left
          ·rintro w' ⟨s0, s1, s2, s3⟩
           go_simp
           with_reducible rfl
          rotate_left
          ·refine pt ?_
           rfl
          refine pk 5 (some 35) ?_ (fl 12 6) HT_.out HW_.out rfl rfl ?_ hHeld ?_ ?_ ?_
          rotate_left
          ·rintro w' ⟨s0, s1, s2, s3⟩
           go_simp
           with_reducible rfl
          rotate_left
          ·refine pt ?_
           rfl
          refine one_ (i := 6) (N := some 36) (fl 12 7) rfl rfl (one_of HT_.out (by kernel_rfl)) (by decide) (fun K hK => ?_)
          refine goes_ Try.func45 (by kernel_rfl) rfl #[.slice A277_1 ((rd_T70 l0_1 x26_2).f1).length c277_1] (by rfl) rfl rfl ga ?_
          with_reducible refine (api_Ref_45.calls _ _ ((rd_T70 l0_1 x26_2).f1) t279 _ ?side1 ?side2 A25.out).mono ?_
          (case side1 => repeat (first | exact (Kd.C_below HR277_1.out HB.out) | (with_reducible refine Kd.C_alloc ?_ _) | (with_reducible refine Kd.C_drewN ?_ _) | (with_reducible refine Kd.C_drew ?_)))
          (case side2 => exact HC277_1.out)
          rintro e w34 ⟨v280, rfl, ho0, hb⟩
          refine ⟨_, rfl, ?_⟩
          have n0_ := Aside0.mk (Kd.S_below (by (with_reducible repeat (first | apply Kd.S_alloc | apply Kd.S_drewN | apply Kd.S_drew)); exact HO_270000.out) hb)
          have n1_ := Aside0.mk (Kd.S_elder' (by (with_reducible repeat (first | apply Kd.S_alloc | apply Kd.S_drewN | apply Kd.S_drew)); exact HO_270001.out) (Kd.R_base ho0) hb)
          have n2_ := Aside0.mk (Kd.R_lower ho0 (below_size bl))
          have n3_ := Aside0.mk (blk_below (g := gb267) (o := .cells #[.slice A0_0 l0_0.length c0_0, .slice (some ad277) l0_1.length c0_1] 42 (0, 0)) (bk BK267.out) hb)
          have n4_ := Aside0.mk (blk_below (g := gb268) (o := .cells #[.slice none 0 0, .slice none 0 0] 42 (0, 0)) (bk BK268.out) hb)
          have n5_ := Aside0.mk (blk_below (g := gb269) (o := .cells #[u270000, u270001] 42 (0, 0)) (bk BK269.out) hb)
          have n6_ := Aside0.mk (blk_below (g := gb278) (o := .cells #[.int .i64 ((rd_T70 l0_1 x26_2).f0), .slice A277_1 ((rd_T70 l0_1 x26_2).f1).length c277_1] 70 (0, 0)) (bk BK278.out) hb)
          have n7_ := Aside0.mk (below_step bl hb)
          clear HO_270000
          clear HO_270001
          clear BK267
          clear BK268
          clear BK269
          clear BK278
          clear HB
          have HO_270000 := n0_
          have HO_270001 := n1_
          have HO281 := n2_
          have BK267 := n3_
          have BK268 := n4_
          have BK269 := n5_
          have BK278 := n6_
          have HB := n7_
          clear n0_ n1_ n2_ n3_ n4_ n5_ n6_ n7_
          (try clear hb)
          (try clear hb2)
          (try clear hk)
          (try clear hi)
          (try clear ho0)
          obtain ⟨Ao35, co35, eo35⟩ := Kd.R_slice HO281.out
          (first | subst eo35 | (injection eo35 with f1_ f2_ f3_; have f4_ := f1_.symm; have f5_ := f3_.symm; clear f1_ f2_ f3_; subst f4_; subst f5_))
          refine hK.out _ _ ⟨(blk_cell BK269.out 0).trans rfl, (blk_cell BK269.out 1).trans rfl, (blk_cell BK278.out 0).trans rfl, (blk_cell BK278.out 1).trans rfl⟩ (fun hHeld => ?_)
          clear hK K
          refine norm_ (a' := ?_) ?_ ?_
          rotate_left
          ·show Act.put _ (some 36) _ = _
           refine pt ?_
           rfl
          refine pq 7 (some 37) ?_ (fl 12 8) HT_.out rfl rfl ?_ ?_ ?_ ?_
          rotate_left
          ·intro w'
           go_simp
           with_reducible rfl
          rotate_left
          ·refine pt ?_
           rfl
          refine one_ (i := 8) (N := some 38) (fl 12 9) rfl rfl (one_of HT_.out (by kernel_rfl)) (by decide) (fun K hK => ?_)
          refine value_ (w1 := ?_) (v := ?_) (by rfl) rfl ?_ ?_
          rotate_left 2
          ·go_simp
           constructor
           ·rfl
           ·rfl
          refine hK.out _ _ ⟨(blk_cell (blk_alloc BK269.out _) 0).trans rfl, (blk_cell (blk_alloc BK269.out _) 1).trans rfl, (blk_cell (blk_alloc BK278.out _) 0).trans rfl, (blk_cell (blk_alloc BK278.out _) 1).trans rfl⟩ (fun hHeld => ?_)
          clear hK K
          refine norm_ (a' := ?_) ?_ ?_
          rotate_left
          ·show Act.put _ (some 38) _ = _
           refine pt ?_
           rfl
          refine one_ (i := 9) (N := some 39) (fl 12 10) rfl rfl (one_of HT_.out (by kernel_rfl)) (by decide) (fun K hK => ?_)
          refine Kd.S_append_step k70 (w0 := w) w.heap.size (by rfl) (.tmp 31) (.tmp 38) 40 70 (.agg #[(.int .i64 0), (.slice none 0 0)]) 32 rfl Try.underlying40 info70 rfl (by decide) (by omega) u270001 x270001_2 (⟨(rd_T70 l0_1 x26_2).f0, t279⟩ : S70) [.int .i64 ((rd_T70 l0_1 x26_2).f0), .slice Ao35 t279.length co35] (fun k_ => k_ ≠ gb278) (fun k_ => some k_ = (.slice Ao35 t279.length co35 : Value).ownBlock) rfl rfl ?aP (fun k_ hk_ => ((Kd.R_mono (ok' := fun k_ => ((fun k_ => k_ ≠ gb278)) k_ ∧ some k_ ≠ (u270001 : Value).ownBlock) (Kd.R_types (Kd.R_apart' (HO281.out) (Kd.S_typed HO_270001.out) (by decide)) BK278.out (by decide)) (fun k_ hk => ⟨hk.2, hk.1.2⟩))).1 k_ hk_.symm) ?aF ?aO ?aB ?aS ?aL ?_
          (case aP => exact k70_mkM _ _ _ (⟨(rd_T70 l0_1 x26_2).f0, t279⟩ : S70) (Kd.R_mono (Kd.R_tight rfl (Kd.R_mono (ok' := fun k_ => ((fun k_ => k_ ≠ gb278)) k_ ∧ some k_ ≠ (u270001 : Value).ownBlock) (Kd.R_types (Kd.R_apart' (HO281.out) (Kd.S_typed HO_270001.out) (by decide)) BK278.out (by decide)) (fun k_ hk => ⟨hk.2, hk.1.2⟩))) (fun _ h_ => h_)))
          (case aB => exact bl)
          (case aF => exact (fun k_ hk => Kd.freshB (g := gb278) (o := .cells #[.int .i64 ((rd_T70 l0_1 x26_2).f0), .slice A277_1 ((rd_T70 l0_1 x26_2).f1).length c277_1] 70 (0, 0)) (bk BK278.out) k_ hk))
          (case aO => exact (by (with_reducible repeat (first | apply Kd.S_alloc | apply Kd.S_drewN | apply Kd.S_drew)); exact Kd.S_mono HO_270001.out (fun k_ hk => ⟨hk.1, fun e_ => hk.2 e_⟩)))
          (case aS => exact (below_size bl))
          (case aL => have := LMc26.out; omega)
          intro v283 w36 ho hb hg hat
          rw [← Ny282.out] at ho
          have n0_ := Aside0.mk (Kd.S_over' (by (with_reducible repeat (first | apply Kd.S_alloc | apply Kd.S_drewN | apply Kd.S_drew)); exact HO_270000.out) (Kd.S_typed (by (with_reducible repeat (first | apply Kd.S_alloc | apply Kd.S_drewN | apply Kd.S_drew)); exact HO_270001.out)) (by decide) hg)
          have n1_ := Aside0.mk (blk_grown (g := gb267) (o := .cells #[.slice A0_0 l0_0.length c0_0, .slice (some ad277) l0_1.length c0_1] 42 (0, 0)) (bk BK267.out) hg (Kd.S_ne HO_270001.out BK267.out (by decide)))
          have n2_ := Aside0.mk (blk_grown (g := gb268) (o := .cells #[.slice none 0 0, .slice none 0 0] 42 (0, 0)) (bk BK268.out) hg (Kd.S_ne HO_270001.out BK268.out (by decide)))
          have n3_ := Aside0.mk (blk_grown (g := gb269) (o := .cells #[u270000, u270001] 42 (0, 0)) (bk BK269.out) hg (Kd.S_ne HO_270001.out BK269.out (by decide)))
          have n4_ := Aside0.mk (blk_grown (g := gb278) (o := .cells #[.int .i64 ((rd_T70 l0_1 x26_2).f0), .slice A277_1 ((rd_T70 l0_1 x26_2).f1).length c277_1] 70 (0, 0)) (bk BK278.out) hg (Kd.S_away HO_270001.out (fun _ hk => hk.1)))
          have n5_ := Aside0.mk (hb)
          have n6_ := Aside0.mk (ho)
          clear HO_270000
          clear BK267
          clear BK268
          clear BK269
          clear BK278
          clear HB
          clear HO_270001
          clear HO281
          have HO_270000 := n0_
          have BK267 := n1_
          have BK268 := n2_
          have BK269 := n3_
          have BK278 := n4_
          have HB := n5_
          have HO284 := n6_
          clear n0_ n1_ n2_ n3_ n4_ n5_ n6_
          clear ho hb hg hat
          obtain ⟨Ao37, co37, eo37⟩ := Kd.S_slice HO284.out
          (first | subst eo37 | (injection eo37 with f1_ f2_ f3_; have f4_ := f1_.symm; have f5_ := f3_.symm; clear f1_ f2_ f3_; subst f4_; subst f5_))
          refine hK.out _ _ ⟨(blk_cell BK269.out 0).trans rfl, (blk_cell BK269.out 1).trans rfl, (blk_cell BK278.out 0).trans rfl, (blk_cell BK278.out 1).trans rfl⟩ (fun hHeld => ?_)
          clear hK K
          refine norm_ (a' := ?_) ?_ ?_
          rotate_left
          ·show Act.put _ (some 39) _ = _
           refine pt ?_
           rfl
          refine pq 10 (some 40) ?_ (fl 12 11) HT_.out rfl rfl ?_ ?_ ?_ ?_
          rotate_left
          ·intro w'
           go_simp
           with_reducible rfl
          rotate_left
          ·refine pt ?_
           rfl
          refine last_ (i := 11) (N := none) (fl 12 12) rfl rfl (one_of HT_.out (by kernel_rfl)) (by decide) (fun K hK => ?_)
          have hs38 : w36.cell? ⟨gb269, 1, none⟩ = some (u270001) := (blk_cell BK269.out 1).trans rfl
          have hfs38 := blk_frozen BK269.out 1
          have hns38_0 := NB267_269.out
          have hns38_1 := NB268_269.out
          have hns38_3 := NB278_269.out
          have hms38_0 := NB269_267.out
          have hms38_1 := NB269_268.out
          have hms38_3 := NB269_278.out
          refine skip_ (w1 := ?_) (by rfl) rfl ?_ ?_
          rotate_left
          ·go_simp
           rfl
          refine hK.out _ _ ?_
          clear hK K
          refine done_ (done_of HT_.out (by kernel_rfl)) ?_
          try go_wp2
          go_roundg k2
          case measure => have := HK1.out; have := HK2.out; omega
          case rel => exact ⟨(wrap64 (x26_2 + 1)), (y282), (.slice Ao37 y282.length co37), fj, H', ⟨by have := HK1.out; have := HK2.out; omega⟩, ⟨by (with_reducible repeat (first | apply Kd.S_alloc | apply Kd.S_drewN | apply Kd.S_drew)); exact Kd.S_mono (Kd.S_far (p := ⟨gb269, 1, none⟩) (Kd.S_types HO_270000.out BK269.out (by decide)) (fun _ hk => hk.2) (.slice Ao37 y282.length co37)) (fun _ hk => trivial)⟩, ⟨by (with_reducible repeat (first | apply Kd.S_alloc | apply Kd.S_drewN | apply Kd.S_drew)); exact Kd.S_mono (Kd.S_far (p := ⟨gb269, 1, none⟩) (Kd.S_types HO284.out BK269.out (by decide)) (fun _ hk => hk.2) (.slice Ao37 y282.length co37)) (fun _ hk => trivial)⟩, ⟨by refine bx ?_; refine blk_far ?_ NB267_269.out _; refine bx ?_; exact BK267.out⟩, ⟨by refine bx ?_; refine blk_far ?_ NB268_269.out _; refine bx ?_; exact BK268.out⟩, ⟨by refine bx ?_; refine blk_put (cs := #[u270000, u270001]) ?_ 1 _ rfl; refine bx ?_; exact BK269.out⟩, ⟨bl⟩⟩
         ·rw [if_neg c26] at H
          exact absurd H (by simp)
        ·rw [if_neg c24] at H
         exact absurd H (by simp)
       ·rw [if_neg c23] at H
        exact absurd H (by simp)
      ·rw [if_neg c22] at H
       have c22b0 := decide_eq_false c22
       clear c22
       simp only [Option.some.injEq, Prod.mk.injEq] at H
       obtain ⟨rfl, rfl⟩ := H
       have hnb39 := NB269_267.out
       have hnc39 := NB267_269.out
       have hnb40 := NB269_268.out
       have hnc40 := NB268_269.out
       obtain ⟨hcz41_0, hcz41_1, hfz41_0, hfz41_1⟩ := cz2 (w := wr) BK269.out
       obtain ⟨Ao42, co42, eo42⟩ := Kd.S_slice HO_270000.out
       subst eo42
       have hnb43 := NB268_267.out
       have hnc43 := NB267_268.out
       obtain ⟨hcz44_0, hcz44_1, hfz44_0, hfz44_1⟩ := cz2 (w := wr) BK268.out
       obtain ⟨Ao45, co45, eo45⟩ := Kd.S_slice HO_270001.out
       subst eo45
       go_wp2
       refine bodyPost_ret (results_cell_row rfl _ _ gb268 42 #[.slice Ao42 x270000_1.length co42, .slice Ao45 x270001_2.length co45] (0, 0) _ rfl (by refine bx ?_; refine blk_put (cs := #[.slice Ao42 x270000_1.length co42, .slice none 0 0]) ?_ 1 _ rfl; refine bx ?_; refine blk_put (cs := #[.slice none 0 0, .slice none 0 0]) ?_ 0 _ rfl; refine bx ?_; exact BK268.out) Try.underlying42 rfl (by kernel_rfl)) rfl ?_
       exact ⟨_, _, fi, by (with_reducible repeat (first | apply Kd.S_alloc | apply Kd.S_drewN | apply Kd.S_drew)); exact Kd.S_mono (Kd.S_far (p := ⟨gb268, 1, none⟩) (Kd.S_far (p := ⟨gb268, 0, none⟩) (Kd.S_types HO_270000.out BK268.out (by decide)) (fun _ hk => hk.2) (.slice Ao42 x270000_1.length co42)) (fun _ hk => hk.2) (.slice Ao45 x270001_2.length co45)) (fun _ hk => trivial), by (with_reducible repeat (first | apply Kd.S_alloc | apply Kd.S_drewN | apply Kd.S_drew)); exact Kd.S_mono (Kd.S_far (p := ⟨gb268, 1, none⟩) (Kd.S_far (p := ⟨gb268, 0, none⟩) (Kd.S_types HO_270001.out BK268.out (by decide)) (fun _ hk => hk.2) (.slice Ao42 x270000_1.length co42)) (fun _ hk => hk.2) (.slice Ao45 x270001_2.length co45)) (fun _ hk => trivial), bl⟩

end Go.Proofs.Ytfpphaflbmlpeaa.GCandSame
