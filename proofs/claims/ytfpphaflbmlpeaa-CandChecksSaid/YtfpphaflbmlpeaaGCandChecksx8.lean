-- Written by wip/stub.py of this repo.
import Derived.Test.YtfpphaflbmlpeaaGCandChecksx0
import Derived.Test.YtfpphaflbmlpeaaGCandChecksx1
import Derived.Test.YtfpphaflbmlpeaaGCandChecksx7
namespace Go.Proofs.Ytfpphaflbmlpeaa.GCandChecks
open Go.RowKit Go.Proofs.YtfpphaflbmlpeaaW.PrintWords Go.Proofs.YtfpphaflbmlpeaaW.PrintLast Go.Proofs.YtfpphaflbmlpeaaW.PrintMore
attribute [local go_sem] max2_int min2_int max_two min_two max_three min_three max_four min_four   -- for this text's walks alone
set_option linter.unusedVariables false
set_option linter.unusedSimpArgs false

attribute [local go_sem high] eqA73
/-! ### api_Ref_45: function 45 -/
def api_Ref_45.f (l0 : List (S73)) : Option ((List (S73))) := (some (([] : List (S73)) : List (S73))).bind fun y186 => (if y186.length + l0.length < 8796093022208 then (some (y186 ++ l0)) else (none))
theorem C_none_nil {α : Type} {d : Kd α} {w : World} {n : Nat} {xs : List α} (h : Kd.C d w none n xs) : xs = [] := by
 rcases Nat.eq_zero_or_pos n with hn | hn
 ·exact List.eq_nil_of_length_eq_zero (h.1.trans hn)
 ·obtain ⟨ad, e, _⟩ := h.2.2 hn; cases e
set_option maxHeartbeats 8000000 in
set_option maxRecDepth 100000 in
theorem api_Ref_45.calls (A0 : Option Addr) (c0 : Nat) (l0 : List (S73)) (r : List (S73)) (w : World) (hr0 : Kd.C k73 w A0 l0.length l0) (hc0 : l0.length ≤ c0) (h : api_Ref_45.f l0 = some r) :
  Calls Try.prog 45 #[.slice A0 l0.length c0] w fun e w' => ∃ v0_ : Value, e = .returned (v0_) ∧ Kd.R k73 73 w' w.heap.size (fun _ => True) v0_ r ∧ Below w.heap.size w w' := by
 have HR0 := Aside0.mk hr0
 have HC0 := Aside0.mk hc0
 clear hr0 hc0
 have HB := Aside0.mk (Below.refl w.heap.size w)
 have H : ((some (([] : List (S73)) : List (S73))).bind fun y186 => (if y186.length + l0.length < 8796093022208 then (some (y186 ++ l0)) else (none))) = some r := h
 clear h
 obtain ⟨y186, hy186⟩ : ∃ y_ : List (S73), y_ = (([] : List (S73))) := ⟨_, rfl⟩
 replace H : (if y186.length + l0.length < 8796093022208 then (some (y186 ++ l0)) else (none)) = some r := by first | (rw [hy186]; with_reducible exact H) | (have H2_ := (Option.bind_some _ _).symm.trans H; rw [hy186]; with_reducible exact H2_) | (have H2_ := (Option.bind_some _ _).symm.trans H; with_reducible exact H2_) | with_reducible exact H | (rw [hy186]; exact H) | exact H
 have Ny186 := Aside0.mk hy186
 clear hy186
 by_cases c2 : y186.length + l0.length < 8796093022208
 rotate_left
 ·rw [if_neg c2] at H
  exact absurd H (by simp)
 rw [if_pos c2] at H
 have LMc2 := Aside0.mk c2
 clear c2
 obtain ⟨y189, hy189⟩ : ∃ y_ : List (S73), y_ = (y186 ++ l0) := ⟨_, rfl⟩
 replace H : (some y189) = some r := by first | (rw [hy189]; with_reducible exact H) | (have H2_ := (Option.bind_some _ _).symm.trans H; rw [hy189]; with_reducible exact H2_) | (have H2_ := (Option.bind_some _ _).symm.trans H; with_reducible exact H2_) | with_reducible exact H | (rw [hy189]; exact H) | exact H
 have Ny189 := Aside0.mk hy189
 clear hy189
 obtain rfl := Option.some.inj H
 cases A0 with
 | none =>
  have hnq : ∀ W, (binOp .eql 68 (.slice none 0 c0) (.slice none 0 0)).run Try.prog W = .ok (.bool true) W := fun W => by rfl
  have hnl := C_none_nil HR0.out
  subst hnl
  have hny : y189 = [] := by rw [Ny189.out, Ny186.out]; rfl
  go_enter Try.func45, Try.ntmps45
  go_wp2
  go_ret
  exact ⟨_, fi, by first | exact Kd.R_nil _ _ _ _ _ | (rw [hny]; exact Kd.R_nil _ _ _ _ _), bl⟩
 | some ad0 =>
  have hnq : ∀ W, (binOp .eql 68 (.slice (some ad0) l0.length c0) (.slice none 0 0)).run Try.prog W = .ok (.bool false) W := fun W => by rfl
  go_enter Try.func45, Try.ntmps45
  go_wp2_with (first | ((with_reducible refine gate_dst (N := 5) rfl ?_); refine Kd.R_lit k73 _ 73 ?hg (N := 5) ?hd (xs := ([] : List (S73))) (inner := []) (ok := fun _ => True) (okp := fun _ => True) ?hr ?hp (fun _ hk => hk) trivial (Below.refl _ _) (Nat.le_refl _) (by simp) ?_; (case hd => rfl); (case hg => rfl); (case hr => first | (go_simp; done) | (go_simp; rfl)); (case hp => exact (Reps.none _ _)); intro v187 w3 ho4 hb hg_ hnew_; clear hg_ hnew_; (first | rw [← Ny186.out] at ho4 | (simp only [Int.reduceToNat] at ho4; rw [← Ny186.out] at ho4)); have n0_ := Aside0.mk (Kd.R_lower ho4 (below_size bl)); have n1_ := Aside0.mk (below_step bl hb); clear HB; have HO188 := n0_; have HB := n1_; clear n0_ n1_; clear hb ho4) | ((with_reducible refine gate_builtin (b := .append) (xs := #[.tmp 5, .tmp 6]) rfl ?_); at_builtin; refine Kd.R_append_rows k73 (w0 := w) w.heap.size rfl (.tmp 5) (.tmp 6) 68 73 (.agg #[(.int .i64 0), (.int .i64 0)]) 16 rfl Try.underlying68 info73 rfl (by decide) (by omega) v187 y186 l0 _ _ _ (fun _ => True) (fun _ => False) rfl rfl ?aO ?aR (fun _ _ h => h) (fun _ h => h.elim) ?aF ?aB ?aS ?aL ?_; (case aR => repeat (first | exact (Kd.C_below HR0.out HB.out) | (with_reducible refine Kd.C_alloc ?_ _) | (with_reducible refine Kd.C_drewN ?_ _) | (with_reducible refine Kd.C_drew ?_))); (case aB => exact bl); (case aF => exact (fun _ _ => trivial)); (case aO => exact (by (with_reducible repeat (first | apply Kd.R_alloc | apply Kd.R_drewN | apply Kd.R_drew)); exact HO188.out)); (case aS => exact (below_size bl)); (case aL => have := LMc2.out; omega); intro v190 w5 ho hb hg hat; rw [← Ny189.out] at ho; have n0_ := Aside0.mk (hb); have n1_ := Aside0.mk (ho); clear HB; clear HO188; have HB := n0_; have HO191 := n1_; clear n0_ n1_; clear ho hb hg hat))
  go_ret
  exact ⟨_, fi, by (with_reducible repeat (first | apply Kd.R_alloc | apply Kd.R_drewN | apply Kd.R_drew)); exact HO191.out, bl⟩

-- NOT PRINTED: function 69 (api_Row)

/-! ### cand_StoresF1: function 70 -/
def cand_StoresF1.f (a0_0 : Int) (l0_1 : List (S73)) (a1 : Int) : Option (Bool) := some (a0_0 == a1)
theorem cap_heap {w W : World} {g : Nat} {o : Obj} (h : w.heap[g]? = some o) (hb : Below w.heap.size w W) : W.heap[g]? = some o :=
 (hb.block g (Array.getElem?_eq_some_iff.1 h).1).trans h
set_option maxHeartbeats 8000000 in
set_option maxRecDepth 100000 in
theorem cand_StoresF1.calls (a0_0 : Int) (A0_1 : Option Addr) (c0_1 : Nat) (l0_1 : List (S73)) (a1 : Int) (r : Bool) (w : World) (hr0_1 : Kd.C k73 w A0_1 l0_1.length l0_1) (hc0_1 : l0_1.length ≤ c0_1) (g : Nat) (hg : w.heap[g]? = some (.cells #[.int .i64 a1] 3 (0, 0))) (h : cand_StoresF1.f a0_0 l0_1 a1 = some r) :
  Calls Try.prog 70 #[.agg #[.int .i64 a0_0, .slice A0_1 l0_1.length c0_1], .pointer (some ⟨g, 0, none⟩)] w fun e w' => e = .returned (.bool r) ∧ Below w.heap.size w w' := by
 have HG := Aside0.mk hg
 clear hg
 have hu70 := Try.underlying70
 have HR0_1 := Aside0.mk hr0_1
 have HC0_1 := Aside0.mk hc0_1
 clear hr0_1 hc0_1
 have HB := Aside0.mk (Below.refl w.heap.size w)
 have H : (some (a0_0 == a1)) = some r := h
 clear h
 obtain rfl := Option.some.inj H
 go_enter Try.func70, Try.ntmps70
 go_wp2_with (first | ((with_reducible refine gate_dst (N := 2) rfl ?_); refine bv 2 #[.int .i64 a0_0, .slice A0_1 l0_1.length c0_1] 70 ?_; intro gb192 hg w3 hbox hb; have n0_ := Aside0.mk (below_step bl hb); have n1_ := Aside0.mk (hbox); have n2_ := Aside0.mk ((by rw [hg]; exact (below_size bl) : w.heap.size ≤ gb192)); have n3_ := Aside0.mk ((by rw [hg]; exact (below_size bl) : w.heap.size ≤ gb192)); clear HB; have HB := n0_; have hgz := (blk_cell (cap_heap HG.out HB.out) 0).trans (rfl : _ = some (Value.int .i64 a1)); have BK192 := n1_; have GW192 := n2_; have GE192 := n3_; clear n0_ n1_ n2_ n3_; clear hb hbox hg; obtain ⟨hcz4_0, hcz4_1, hfz4_0, hfz4_1⟩ := cz2 (w := w3) BK192.out))
 go_ret
 exact ⟨fi, bl⟩

/-! ### slices_IndexRows: function 89 -/
def slices_IndexRows.l0 : Nat → List (S70) → Int → Int → Int → Option (Int)
  | 0, _, _, _, _ => none
  | k + 1, x0, x1, x7, x8 => if x8 < x7 then (if 0 ≤ x8 then (if x8 < (x0.length : Int) then ((cand_StoresF1.f ((rd_T70 x0 x8).f0) ((rd_T70 x0 x8).f1) x1).bind fun t194 => (if t194 = true then (some x8) else (slices_IndexRows.l0 k x0 x1 x7 (wrap64 (x8 + 1))))) else (none)) else (none)) else (some (-1))
def slices_IndexRows.f (k : Nat) (l0 : List (S70)) (a1 : Int) : Option (Int) := slices_IndexRows.l0 k l0 a1 (l0.length : Int) 0
theorem slices_IndexRows.mono_l : ∀ k, (∀ y0 y1 y2 y3, LeO (slices_IndexRows.l0 k y0 y1 y2 y3) (slices_IndexRows.l0 (k + 1) y0 y1 y2 y3))
 | 0 => fun _ _ _ _ r h => by simp [slices_IndexRows.l0] at h
 | k + 1 => by
  have ih0 := slices_IndexRows.mono_l k
  ·intro y0 y1 y2 y3
   unfold slices_IndexRows.l0
   repeat' first | (with_reducible first | exact ih0 _ _ _ _ | exact LeO.refl _ | exact LeO.none _ | refine LeO.ite ?_ ?_ | refine LeO.bind ?_ (fun _ => ?_)) | exact ih0 _ _ _ _ | exact LeO.none _ | refine LeO.ite ?_ ?_ | refine LeO.bind ?_ (fun _ => ?_)
theorem slices_IndexRows.mono : ∀ a0 a1 k, LeO (slices_IndexRows.f k a0 a1) (slices_IndexRows.f (k + 1) a0 a1) := by
 intro a0 a1 k
 have ih0 := slices_IndexRows.mono_l k
 unfold slices_IndexRows.f
 repeat' first | (with_reducible first | exact ih0 _ _ _ _ | exact LeO.refl _ | exact LeO.none _ | refine LeO.ite ?_ ?_ | refine LeO.bind ?_ (fun _ => ?_)) | exact ih0 _ _ _ _ | exact LeO.none _ | refine LeO.ite ?_ ?_ | refine LeO.bind ?_ (fun _ => ?_)
set_option maxHeartbeats 8000000 in
set_option maxRecDepth 100000 in
theorem slices_IndexRows.calls (k : Nat) (A0 : Option Addr) (c0 : Nat) (l0 : List (S70)) (a1 : Int) (r : Int) (w : World) (hr0 : Kd.C k70 w A0 l0.length l0) (hc0 : l0.length ≤ c0) (g : Nat) (hg : w.heap[g]? = some (.cells #[.int .i64 a1] 3 (0, 0))) (h : slices_IndexRows.f k l0 a1 = some r) :
  Calls Try.prog 69 #[.slice A0 l0.length c0, .func (.func 70) #[] #[.pointer (some ⟨g, 0, none⟩)]] w fun e w' => e = .returned (.int .i64 r) ∧ Below w.heap.size w w' := by
 have HG := Aside0.mk hg
 clear hg
 have hu70 := Try.underlying70
 have HR0 := Aside0.mk hr0
 have HC0 := Aside0.mk hc0
 clear hr0 hc0
 have HB := Aside0.mk (Below.refl w.heap.size w)
 have H : (slices_IndexRows.l0 k l0 a1 (l0.length : Int) 0) = some r := h
 clear h
 have H' := Aside0.mk H
 clear H
 go_enter Try.func69, Try.ntmps69
 go_wp2
 go_loopg [8] k (fun kq v8 w' => ∃ (x8_1 : Int), v8 = .int .i64 x8_1 ∧ Aside0 (slices_IndexRows.l0 kq l0 a1 (l0.length : Int) x8_1 = some r) ∧ Aside0 (kq ≤ k) ∧ Aside0 (Below w.heap.size w w'))
 case atStart => exact ⟨(0), fj, H', ⟨Nat.le_refl _⟩, ⟨bl⟩⟩
 case round =>
  clear H'
  try clear p2
  obtain ⟨x8_1, rfl, HA, HK1, HB⟩ := hrel
  cases gk with
  | zero => exact absurd HA.out (by simp [slices_IndexRows.l0])
  | succ k1 =>
   have H := HA.out
   clear HA
   simp only [slices_IndexRows.l0] at H
   by_cases c3 : x8_1 < (l0.length : Int)
   rotate_left
   ·rw [if_neg c3] at H
    have c3b0 := decide_eq_false c3
    clear c3
    obtain rfl := Option.some.inj H
    go_wp2
    go_ret
    exact ⟨fi, bl⟩
   rw [if_pos c3] at H
   have c3b0 := decide_eq_true c3
   clear c3
   by_cases c4 : 0 ≤ x8_1
   rotate_left
   ·rw [if_neg c4] at H
    exact absurd H (by simp)
   rw [if_pos c4] at H
   have c4b0 := decide_eq_true c4
   clear c4
   by_cases c5 : x8_1 < (l0.length : Int)
   rotate_left
   ·rw [if_neg c5] at H
    exact absurd H (by simp)
   rw [if_pos c5] at H
   have c5b0 := decide_eq_true c5
   clear c5
   replace H := be H
   obtain ⟨t194, A6, H⟩ := H
   by_cases c7 : t194 = true
   ·subst c7
    have H1 : (some x8_1) = some r := by rw [if_pos rfl] at H; exact H
    clear H
    have H := H1
    clear H1
    obtain rfl := Option.some.inj H
    have p193 : 0 ≤ (x8_1 : Int) := od
    have q193 : x8_1 < (l0.length : Int) := od
    obtain ⟨ad193, A193_1, c193_1, e193, hx193_0, hx193_1, hl193_1, hi193_1⟩ := at_T70 HR0.out x8_1 p193 q193
    cases e193
    replace hx193_0 := cb HB.out hx193_0
    replace hx193_1 := cb HB.out hx193_1
    have HR193_1 := Aside0.mk hi193_1
    have HC193_1 := Aside0.mk hl193_1
    clear hi193_1 hl193_1
    replace p193 := eq_true p193
    replace q193 := eq_true q193
    go_wp2_with (first | (go_at_call 70; (with_reducible refine (cand_StoresF1.calls ((rd_T70 l0 x8_1).f0) _ _ ((rd_T70 l0 x8_1).f1) a1 true _ ?side1 ?side2 g (by first | exact cap_heap HG.out HB.out | exact cap_heap HG.out bl) A6.out).mono ?_); (case side1 => repeat (first | exact (Kd.C_below HR193_1.out HB.out) | (with_reducible refine Kd.C_alloc ?_ _) | (with_reducible refine Kd.C_drewN ?_ _) | (with_reducible refine Kd.C_drew ?_))); (case side2 => exact HC193_1.out); rintro e w8 ⟨rfl, hb⟩; have n0_ := Aside0.mk (below_step bl hb); clear HB; have HB := n0_; clear n0_; (try clear hb)))
    go_ret
    exact ⟨fi, bl⟩
   replace c7 := Bool.eq_false_iff.mpr c7
   subst c7
   have H1 : (slices_IndexRows.l0 k1 l0 a1 (l0.length : Int) (wrap64 (x8_1 + 1))) = some r := by rw [if_neg (show ¬ (false = true) by decide)] at H; exact H
   clear H
   have H := H1
   clear H1
   have H' := Aside0.mk H
   clear H
   have p193 : 0 ≤ (x8_1 : Int) := od
   have q193 : x8_1 < (l0.length : Int) := od
   obtain ⟨ad193, A193_1, c193_1, e193, hx193_0, hx193_1, hl193_1, hi193_1⟩ := at_T70 HR0.out x8_1 p193 q193
   cases e193
   replace hx193_0 := cb HB.out hx193_0
   replace hx193_1 := cb HB.out hx193_1
   have HR193_1 := Aside0.mk hi193_1
   have HC193_1 := Aside0.mk hl193_1
   clear hi193_1 hl193_1
   replace p193 := eq_true p193
   replace q193 := eq_true q193
   go_wp2_with (first | (go_at_call 70; (with_reducible refine (cand_StoresF1.calls ((rd_T70 l0 x8_1).f0) _ _ ((rd_T70 l0 x8_1).f1) a1 false _ ?side1 ?side2 g (by first | exact cap_heap HG.out HB.out | exact cap_heap HG.out bl) A6.out).mono ?_); (case side1 => repeat (first | exact (Kd.C_below HR193_1.out HB.out) | (with_reducible refine Kd.C_alloc ?_ _) | (with_reducible refine Kd.C_drewN ?_ _) | (with_reducible refine Kd.C_drew ?_))); (case side2 => exact HC193_1.out); rintro e w9 ⟨rfl, hb⟩; have n0_ := Aside0.mk (below_step bl hb); clear HB; have HB := n0_; clear n0_; (try clear hb)))
   go_roundg k1
   case measure => have := HK1.out; omega
   case rel => exact ⟨(wrap64 (x8_1 + 1)), fj, H', ⟨by have := HK1.out; omega⟩, ⟨bl⟩⟩

/-! ### cand_Stores: function 61 -/
def cand_Stores.f (k : Nat) (l0_0 : List (List (S75))) (l0_1 : List (S70)) (a1 : Int) : Option ((List (S73))) := (slices_IndexRows.f k l0_1 a1).bind fun t196 => (if t196 < 0 then (some ([] : List (S73))) else (if 0 ≤ t196 then (if t196 < (l0_1.length : Int) then ((api_Ref_45.f ((rd_T70 l0_1 t196).f1)).bind fun t198 => (some t198)) else (none)) else (none)))
theorem cand_Stores.mono : ∀ a0 a1 a2 k, LeO (cand_Stores.f k a0 a1 a2) (cand_Stores.f (k + 1) a0 a1 a2) := by
 intro a0 a1 a2 k
 unfold cand_Stores.f
 repeat' first | (with_reducible first | exact slices_IndexRows.mono _ _ _ | exact LeO.refl _ | exact LeO.none _ | refine LeO.ite ?_ ?_ | refine LeO.bind ?_ (fun _ => ?_)) | exact slices_IndexRows.mono _ _ _ | exact LeO.none _ | refine LeO.ite ?_ ?_ | refine LeO.bind ?_ (fun _ => ?_)
set_option maxHeartbeats 8000000 in
set_option maxRecDepth 100000 in
theorem cand_Stores.calls (k : Nat) (A0_0 : Option Addr) (c0_0 : Nat) (l0_0 : List (List (S75))) (A0_1 : Option Addr) (c0_1 : Nat) (l0_1 : List (S70)) (a1 : Int) (r : List (S73)) (w : World) (hr0_0 : Kd.C (Kd.slice 75 k75) w A0_0 l0_0.length l0_0) (hc0_0 : l0_0.length ≤ c0_0) (hr0_1 : Kd.C k70 w A0_1 l0_1.length l0_1) (hc0_1 : l0_1.length ≤ c0_1) (h : cand_Stores.f k l0_0 l0_1 a1 = some r) :
  Calls Try.prog 61 #[.agg #[.slice A0_0 l0_0.length c0_0, .slice A0_1 l0_1.length c0_1], .int .i64 a1] w fun e w' => ∃ v0_ : Value, e = .returned (v0_) ∧ Kd.R k73 73 w' w.heap.size (fun _ => True) v0_ r ∧ Below w.heap.size w w' := by
 have hu42 := Try.underlying42
 have HR0_0 := Aside0.mk hr0_0
 have HC0_0 := Aside0.mk hc0_0
 clear hr0_0 hc0_0
 have HR0_1 := Aside0.mk hr0_1
 have HC0_1 := Aside0.mk hc0_1
 clear hr0_1 hc0_1
 have HB := Aside0.mk (Below.refl w.heap.size w)
 have H : ((slices_IndexRows.f k l0_1 a1).bind fun t196 => (if t196 < 0 then (some ([] : List (S73))) else (if 0 ≤ t196 then (if t196 < (l0_1.length : Int) then ((api_Ref_45.f ((rd_T70 l0_1 t196).f1)).bind fun t198 => (some t198)) else (none)) else (none)))) = some r := h
 clear h
 replace H := be H
 obtain ⟨t196, A3, H⟩ := H
 by_cases c4 : t196 < 0
 ·rw [if_pos c4] at H
  have c4b0 := decide_eq_true c4
  clear c4
  obtain rfl := Option.some.inj H
  go_enter Try.func61, Try.ntmps61
  go_wp2_with (first | ((with_reducible refine gate_dst (N := 2) rfl ?_); refine bv 2 #[.slice A0_0 l0_0.length c0_0, .slice A0_1 l0_1.length c0_1] 42 ?_; intro gb195 hg w5 hbox hb; obtain ⟨n0_, GW195⟩ := nb (w := w) hg hb; clear HB; have HB := n0_; have BK195 := Aside0.mk hbox; have GE195 := GW195; clear n0_ hb hbox hg; obtain ⟨hcz6_0, hcz6_1, hfz6_0, hfz6_1⟩ := cz2 (w := w5) BK195.out) | ((with_reducible refine gate_dst (N := 3) rfl ?_); refine bv 3 #[.int .i64 a1] 3 ?_; intro gbx hg wx5 hbox hb; have n0_ := Aside0.mk (blk_below (g := gb195) (o := .cells #[.slice A0_0 l0_0.length c0_0, .slice A0_1 l0_1.length c0_1] 42 (0, 0)) (bk BK195.out) hb); have n1_ := Aside0.mk (below_step bl hb); have GX := Aside0.mk hbox; clear BK195; clear HB; have BK195 := n0_; have HB := n1_; clear n0_ n1_; clear hb hbox hg; have hcx0 : wx5.cell? ⟨gb195, 0, none⟩ = some (.slice A0_0 l0_0.length c0_0) := (blk_cell BK195.out 0).trans rfl; have hfx0 := blk_frozen BK195.out 0; have hcx1 : wx5.cell? ⟨gb195, 1, none⟩ = some (.slice A0_1 l0_1.length c0_1) := (blk_cell BK195.out 1).trans rfl; have hfx1 := blk_frozen BK195.out 1) | ((with_reducible refine gate_callee (f := 69) rfl ?_); refine goesL_ (some 9) rfl rfl Try.func69 (by kernel_rfl) rfl #[.slice A0_1 l0_1.length c0_1, .func (.func 70) #[] #[.pointer (some ⟨gbx, 0, none⟩)]] rfl ga ?_; (with_reducible refine (slices_IndexRows.calls k _ _ l0_1 a1 t196 _ ?side1 ?side2 gbx (by refine bx ?_; exact GX.out) A3.out).mono ?_); (case side1 => repeat (first | exact (Kd.C_below HR0_1.out HB.out) | (with_reducible refine Kd.C_alloc ?_ _) | (with_reducible refine Kd.C_drewN ?_ _) | (with_reducible refine Kd.C_drew ?_))); (case side2 => exact HC0_1.out); rintro e w7 ⟨rfl, hb⟩; refine ⟨_, rfl, ?_⟩; have n0_ := Aside0.mk (blk_below (g := gb195) (o := .cells #[.slice A0_0 l0_0.length c0_0, .slice A0_1 l0_1.length c0_1] 42 (0, 0)) (bk BK195.out) hb); have n1_ := Aside0.mk (below_step bl hb); clear BK195; clear HB; have BK195 := n0_; have HB := n1_; clear n0_ n1_; (try clear hb)))
  go_ret
  exact ⟨_, fi, by first | exact Kd.R_nil _ _ _ _ _ | exact Kd.N_nil _ _ _ _ _ | exact Kd.V_nil _ _ _ _ _ | exact Kd.Q_nil _ _ _ _ _ | exact Kd.S_nil _ _ _ _ _, bl⟩
 rw [if_neg c4] at H
 have c4b0 := decide_eq_false c4
 clear c4
 by_cases c8 : 0 ≤ t196
 rotate_left
 ·rw [if_neg c8] at H
  exact absurd H (by simp)
 rw [if_pos c8] at H
 have c8b0 := decide_eq_true c8
 clear c8
 by_cases c9 : t196 < (l0_1.length : Int)
 rotate_left
 ·rw [if_neg c9] at H
  exact absurd H (by simp)
 rw [if_pos c9] at H
 have c9b0 := decide_eq_true c9
 clear c9
 replace H := be H
 obtain ⟨t198, A10, H⟩ := H
 obtain rfl := Option.some.inj H
 go_enter Try.func61, Try.ntmps61
 go_wp2_with (first | ((with_reducible refine gate_dst (N := 2) rfl ?_); refine bv 2 #[.slice A0_0 l0_0.length c0_0, .slice A0_1 l0_1.length c0_1] 42 ?_; intro gb195 hg w11 hbox hb; obtain ⟨n0_, GW195⟩ := nb (w := w) hg hb; clear HB; have HB := n0_; have BK195 := Aside0.mk hbox; have GE195 := GW195; clear n0_ hb hbox hg; obtain ⟨hcz12_0, hcz12_1, hfz12_0, hfz12_1⟩ := cz2 (w := w11) BK195.out) | ((with_reducible refine gate_dst (N := 3) rfl ?_); refine bv 3 #[.int .i64 a1] 3 ?_; intro gbx hg wx11 hbox hb; have n0_ := Aside0.mk (blk_below (g := gb195) (o := .cells #[.slice A0_0 l0_0.length c0_0, .slice A0_1 l0_1.length c0_1] 42 (0, 0)) (bk BK195.out) hb); have n1_ := Aside0.mk (below_step bl hb); have GX := Aside0.mk hbox; clear BK195; clear HB; have BK195 := n0_; have HB := n1_; clear n0_ n1_; clear hb hbox hg; have hcx0 : wx11.cell? ⟨gb195, 0, none⟩ = some (.slice A0_0 l0_0.length c0_0) := (blk_cell BK195.out 0).trans rfl; have hfx0 := blk_frozen BK195.out 0; have hcx1 : wx11.cell? ⟨gb195, 1, none⟩ = some (.slice A0_1 l0_1.length c0_1) := (blk_cell BK195.out 1).trans rfl; have hfx1 := blk_frozen BK195.out 1) | ((with_reducible refine gate_callee (f := 69) rfl ?_); refine goesL_ (some 9) rfl rfl Try.func69 (by kernel_rfl) rfl #[.slice A0_1 l0_1.length c0_1, .func (.func 70) #[] #[.pointer (some ⟨gbx, 0, none⟩)]] rfl ga ?_; (with_reducible refine (slices_IndexRows.calls k _ _ l0_1 a1 t196 _ ?side1 ?side2 gbx (by refine bx ?_; exact GX.out) A3.out).mono ?_); (case side1 => repeat (first | exact (Kd.C_below HR0_1.out HB.out) | (with_reducible refine Kd.C_alloc ?_ _) | (with_reducible refine Kd.C_drewN ?_ _) | (with_reducible refine Kd.C_drew ?_))); (case side2 => exact HC0_1.out); rintro e w13 ⟨rfl, hb⟩; refine ⟨_, rfl, ?_⟩; have n0_ := Aside0.mk (blk_below (g := gb195) (o := .cells #[.slice A0_0 l0_0.length c0_0, .slice A0_1 l0_1.length c0_1] 42 (0, 0)) (bk BK195.out) hb); have n1_ := Aside0.mk (below_step bl hb); clear BK195; clear HB; have BK195 := n0_; have HB := n1_; clear n0_ n1_; (try clear hb); obtain ⟨hcz14_0, hcz14_1, hfz14_0, hfz14_1⟩ := cz2 (w := w13) BK195.out; have p197 : 0 ≤ (t196 : Int) := od; have q197 : t196 < (l0_1.length : Int) := od; obtain ⟨ad197, A197_1, c197_1, e197, hx197_0, hx197_1, hl197_1, hi197_1⟩ := at_T70 HR0_1.out t196 p197 q197; cases e197; replace hx197_0 := cb HB.out hx197_0; replace hx197_1 := cb HB.out hx197_1; have HR197_1 := Aside0.mk hi197_1; have HC197_1 := Aside0.mk hl197_1; clear hi197_1 hl197_1; replace p197 := eq_true p197; replace q197 := eq_true q197) | ((with_reducible refine gate_callee (f := 45) rfl ?_); refine goesL_ (some 18) rfl rfl Try.func45 (by kernel_rfl) rfl #[.slice A197_1 ((rd_T70 l0_1 t196).f1).length c197_1] rfl ga ?_; (with_reducible refine (api_Ref_45.calls _ _ ((rd_T70 l0_1 t196).f1) t198 _ ?side1 ?side2 A10.out).mono ?_); (case side1 => repeat (first | exact (Kd.C_below HR197_1.out HB.out) | (with_reducible refine Kd.C_alloc ?_ _) | (with_reducible refine Kd.C_drewN ?_ _) | (with_reducible refine Kd.C_drew ?_))); (case side2 => exact HC197_1.out); rintro e w15 ⟨v199, rfl, ho0, hb⟩; refine ⟨_, rfl, ?_⟩; have n0_ := Aside0.mk (Kd.R_lower ho0 (below_size bl)); have n1_ := Aside0.mk (blk_below (g := gb195) (o := .cells #[.slice A0_0 l0_0.length c0_0, .slice (some ad197) l0_1.length c0_1] 42 (0, 0)) (bk BK195.out) hb); have n2_ := Aside0.mk (below_step bl hb); clear BK195; clear HB; have HO200 := n0_; have BK195 := n1_; have HB := n2_; clear n0_ n1_ n2_; (try clear hb); (try clear ho0)))
 go_ret
 exact ⟨_, fi, by (with_reducible repeat (first | apply Kd.R_alloc | apply Kd.R_drewN | apply Kd.R_drew)); exact HO200.out, bl⟩

/-! ### api_Ref_62: function 62 -/
def api_Ref_62.l0 : Nat → List (S73) → Int → Int → Int → Int → Option (Int)
  | 0, _, _, _, _, _ => none
  | k + 1, x0, x7, x8, x202000, x202001 => if x8 < x7 then (if 0 ≤ x8 then (if x8 < (x0.length : Int) then (if (x202000 == ((rd_T73 x0 x8).f0) && (x202001 == ((rd_T73 x0 x8).f1))) = true then (some x8) else (api_Ref_62.l0 k x0 x7 (wrap64 (x8 + 1)) x202000 x202001)) else (none)) else (none)) else (some (-1))
def api_Ref_62.f (k : Nat) (l0 : List (S73)) (a1_0 : Int) (a1_1 : Int) : Option (Int) := api_Ref_62.l0 k l0 (l0.length : Int) 0 a1_0 a1_1
theorem api_Ref_62.mono_l : ∀ k, (∀ y0 y1 y2 y3 y4, LeO (api_Ref_62.l0 k y0 y1 y2 y3 y4) (api_Ref_62.l0 (k + 1) y0 y1 y2 y3 y4))
 | 0 => fun _ _ _ _ _ r h => by simp [api_Ref_62.l0] at h
 | k + 1 => by
  have ih0 := api_Ref_62.mono_l k
  ·intro y0 y1 y2 y3 y4
   unfold api_Ref_62.l0
   repeat' first | (with_reducible first | exact ih0 _ _ _ _ _ | exact LeO.refl _ | exact LeO.none _ | refine LeO.ite ?_ ?_ | refine LeO.bind ?_ (fun _ => ?_)) | exact ih0 _ _ _ _ _ | exact LeO.none _ | refine LeO.ite ?_ ?_ | refine LeO.bind ?_ (fun _ => ?_)
theorem api_Ref_62.mono : ∀ a0 a1 a2 k, LeO (api_Ref_62.f k a0 a1 a2) (api_Ref_62.f (k + 1) a0 a1 a2) := by
 intro a0 a1 a2 k
 have ih0 := api_Ref_62.mono_l k
 unfold api_Ref_62.f
 repeat' first | (with_reducible first | exact ih0 _ _ _ _ _ | exact LeO.refl _ | exact LeO.none _ | refine LeO.ite ?_ ?_ | refine LeO.bind ?_ (fun _ => ?_)) | exact ih0 _ _ _ _ _ | exact LeO.none _ | refine LeO.ite ?_ ?_ | refine LeO.bind ?_ (fun _ => ?_)
set_option maxHeartbeats 8000000 in
set_option maxRecDepth 100000 in
theorem api_Ref_62.calls (k : Nat) (A0 : Option Addr) (c0 : Nat) (l0 : List (S73)) (a1_0 : Int) (a1_1 : Int) (r : Int) (w : World) (hr0 : Kd.C k73 w A0 l0.length l0) (hc0 : l0.length ≤ c0) (h : api_Ref_62.f k l0 a1_0 a1_1 = some r) :
  Calls Try.prog 62 #[.slice A0 l0.length c0, .agg #[.int .i64 a1_0, .int .i64 a1_1]] w fun e w' => e = .returned (.int .i64 r) ∧ Below w.heap.size w w' := by
 have hu73 := Try.underlying73
 have HR0 := Aside0.mk hr0
 have HC0 := Aside0.mk hc0
 clear hr0 hc0
 have HB := Aside0.mk (Below.refl w.heap.size w)
 have H : (api_Ref_62.l0 k l0 (l0.length : Int) 0 a1_0 a1_1) = some r := h
 clear h
 have H' := Aside0.mk H
 clear H
 go_enter Try.func62, Try.ntmps62
 go_wp2_with (first | ((with_reducible refine gate_dst (N := 3) rfl ?_); refine bv 3 #[.int .i64 a1_0, .int .i64 a1_1] 73 ?_; intro gb201 hg w3 hbox hb; obtain ⟨n0_, GW201⟩ := nb (w := w) hg hb; clear HB; have HB := n0_; have BK201 := Aside0.mk hbox; have GE201 := GW201; clear n0_ hb hbox hg))
 repeat (go_quiet (first | ((with_reducible refine gate_dst (N := 3) rfl ?_); refine bv 3 #[.int .i64 a1_0, .int .i64 a1_1] 73 ?_; intro gb201 hg w3 hbox hb; obtain ⟨n0_, GW201⟩ := nb (w := w) hg hb; clear HB; have HB := n0_; have BK201 := Aside0.mk hbox; have GE201 := GW201; clear n0_ hb hbox hg)); try go_wp2_with (first | ((with_reducible refine gate_dst (N := 3) rfl ?_); refine bv 3 #[.int .i64 a1_0, .int .i64 a1_1] 73 ?_; intro gb201 hg w3 hbox hb; obtain ⟨n0_, GW201⟩ := nb (w := w) hg hb; clear HB; have HB := n0_; have BK201 := Aside0.mk hbox; have GE201 := GW201; clear n0_ hb hbox hg)))
 go_loopg [8] k (fun kq v8 w' => ∃ (x8_1 : Int), v8 = .int .i64 x8_1 ∧ Aside0 (api_Ref_62.l0 kq l0 (l0.length : Int) x8_1 a1_0 a1_1 = some r) ∧ Aside0 (kq ≤ k) ∧ Aside0 (w'.heap[gb201]? = some (.cells #[.int .i64 a1_0, .int .i64 a1_1] 73 (0, 0))) ∧ Aside0 (Below w.heap.size w w'))
 case atStart => exact ⟨(0), fj, H', ⟨Nat.le_refl _⟩, ⟨by refine bx ?_; exact BK201.out⟩, ⟨bl⟩⟩
 case round =>
  clear H'
  try clear p2
  obtain ⟨x8_1, rfl, HA, HK1, BK201, HB⟩ := hrel
  cases gk with
  | zero => exact absurd HA.out (by simp [api_Ref_62.l0])
  | succ k1 =>
   have H := HA.out
   clear HA
   simp only [api_Ref_62.l0] at H
   by_cases c4 : x8_1 < (l0.length : Int)
   rotate_left
   ·rw [if_neg c4] at H
    have c4b0 := decide_eq_false c4
    clear c4
    obtain rfl := Option.some.inj H
    go_wp2
    repeat (go_quiet (fail); try go_wp2)
    go_ret
    exact ⟨fi, bl⟩
   rw [if_pos c4] at H
   have c4b0 := decide_eq_true c4
   clear c4
   by_cases c5 : 0 ≤ x8_1
   rotate_left
   ·rw [if_neg c5] at H
    exact absurd H (by simp)
   rw [if_pos c5] at H
   have c5b0 := decide_eq_true c5
   clear c5
   by_cases c6 : x8_1 < (l0.length : Int)
   rotate_left
   ·rw [if_neg c6] at H
    exact absurd H (by simp)
   rw [if_pos c6] at H
   have c6b0 := decide_eq_true c6
   clear c6
   by_cases c7 : (a1_0 == ((rd_T73 l0 x8_1).f0) && (a1_1 == ((rd_T73 l0 x8_1).f1))) = true
   ·rw [if_pos c7] at H
    have c7b0 : (a1_0 == ((rd_T73 l0 x8_1).f0) && (a1_1 == ((rd_T73 l0 x8_1).f1))) = true := c7
    (try (have c7b1 : decide (a1_0 = ((rd_T73 l0 x8_1).f0) && (a1_1 == ((rd_T73 l0 x8_1).f1))) = true := by simpa using c7))
    (try (have c7b2 : (a1_0 == ((rd_T73 l0 x8_1).f0) && (a1_1 == ((rd_T73 l0 x8_1).f1))) = true := by simpa using c7))
    clear c7
    obtain rfl := Option.some.inj H
    obtain ⟨hcz8_0, hcz8_1, hfz8_0, hfz8_1⟩ := cz2 (w := wr) BK201.out
    have p202 : 0 ≤ (x8_1 : Int) := od
    have q202 : x8_1 < (l0.length : Int) := od
    obtain ⟨ad202, e202, hx202_0, hx202_1⟩ := at_T73 HR0.out x8_1 p202 q202
    cases e202
    replace hx202_0 := cb HB.out hx202_0
    replace hx202_1 := cb HB.out hx202_1
    replace p202 := eq_true p202
    replace q202 := eq_true q202
    go_wp2
    repeat (go_quiet (fail); try go_wp2)
    go_ret
    exact ⟨fi, bl⟩
   rw [if_neg c7] at H
   have c7b0 : (a1_0 == ((rd_T73 l0 x8_1).f0) && (a1_1 == ((rd_T73 l0 x8_1).f1))) = false := by simpa using c7
   (try (have c7b1 : decide (a1_0 = ((rd_T73 l0 x8_1).f0) && (a1_1 == ((rd_T73 l0 x8_1).f1))) = false := by simpa using c7))
   (try (have c7b2 : (a1_0 == ((rd_T73 l0 x8_1).f0) && (a1_1 == ((rd_T73 l0 x8_1).f1))) = false := by simpa using c7))
   (try (have c7b3 : ¬ (a1_0 = ((rd_T73 l0 x8_1).f0) && (a1_1 == ((rd_T73 l0 x8_1).f1))) := by simpa using c7))
   clear c7
   have H' := Aside0.mk H
   clear H
   obtain ⟨hcz9_0, hcz9_1, hfz9_0, hfz9_1⟩ := cz2 (w := wr) BK201.out
   have p202 : 0 ≤ (x8_1 : Int) := od
   have q202 : x8_1 < (l0.length : Int) := od
   obtain ⟨ad202, e202, hx202_0, hx202_1⟩ := at_T73 HR0.out x8_1 p202 q202
   cases e202
   replace hx202_0 := cb HB.out hx202_0
   replace hx202_1 := cb HB.out hx202_1
   replace p202 := eq_true p202
   replace q202 := eq_true q202
   go_wp2
   repeat (go_quiet (fail); try go_wp2)
   go_roundg k1
   case measure => have := HK1.out; omega
   case rel => exact ⟨(wrap64 (x8_1 + 1)), fj, H', ⟨by have := HK1.out; omega⟩, ⟨by refine bx ?_; exact BK201.out⟩, ⟨bl⟩⟩

/-! ### cand_Behind: function 38 -/
def cand_Behind.f (k : Nat) (l0_0 : List (List (S75))) (l0_1 : List (S70)) (a1 : Int) (a2_0 : Int) (a2_1 : Int) (a3_0 : Int) (a3_1 : Int) : Option (Bool) := (cand_Stores.f k l0_0 l0_1 a1).bind fun t206 => ((api_Ref_62.f k t206 a2_0 a2_1).bind fun t209 => ((api_Ref_62.f k t206 a3_0 a3_1).bind fun t210 => (if t210 ≥ 0 then (if a2_0 = (-1) then (some true) else (if t209 ≥ 0 then (some (decide (t209 < t210))) else (some false))) else (some false))))
theorem cand_Behind.mono : ∀ a0 a1 a2 a3 a4 a5 a6 k, LeO (cand_Behind.f k a0 a1 a2 a3 a4 a5 a6) (cand_Behind.f (k + 1) a0 a1 a2 a3 a4 a5 a6) := by
 intro a0 a1 a2 a3 a4 a5 a6 k
 unfold cand_Behind.f
 repeat' first | (with_reducible first | exact api_Ref_62.mono _ _ _ _ | exact cand_Stores.mono _ _ _ _ | exact LeO.refl _ | exact LeO.none _ | refine LeO.ite ?_ ?_ | refine LeO.bind ?_ (fun _ => ?_)) | exact api_Ref_62.mono _ _ _ _ | exact cand_Stores.mono _ _ _ _ | exact LeO.none _ | refine LeO.ite ?_ ?_ | refine LeO.bind ?_ (fun _ => ?_)
set_option maxHeartbeats 8000000 in
set_option maxRecDepth 100000 in
theorem cand_Behind.calls (k : Nat) (A0_0 : Option Addr) (c0_0 : Nat) (l0_0 : List (List (S75))) (A0_1 : Option Addr) (c0_1 : Nat) (l0_1 : List (S70)) (a1 : Int) (a2_0 : Int) (a2_1 : Int) (a3_0 : Int) (a3_1 : Int) (r : Bool) (w : World) (hr0_0 : Kd.C (Kd.slice 75 k75) w A0_0 l0_0.length l0_0) (hc0_0 : l0_0.length ≤ c0_0) (hr0_1 : Kd.C k70 w A0_1 l0_1.length l0_1) (hc0_1 : l0_1.length ≤ c0_1) (h : cand_Behind.f k l0_0 l0_1 a1 a2_0 a2_1 a3_0 a3_1 = some r) :
  Calls Try.prog 38 #[.agg #[.slice A0_0 l0_0.length c0_0, .slice A0_1 l0_1.length c0_1], .int .i64 a1, .agg #[.int .i64 a2_0, .int .i64 a2_1], .agg #[.int .i64 a3_0, .int .i64 a3_1]] w fun e w' => e = .returned (.bool r) ∧ Below w.heap.size w w' := by
 have hu42 := Try.underlying42
 have hu73 := Try.underlying73
 have HR0_0 := Aside0.mk hr0_0
 have HC0_0 := Aside0.mk hc0_0
 clear hr0_0 hc0_0
 have HR0_1 := Aside0.mk hr0_1
 have HC0_1 := Aside0.mk hc0_1
 clear hr0_1 hc0_1
 have HB := Aside0.mk (Below.refl w.heap.size w)
 have H : ((cand_Stores.f k l0_0 l0_1 a1).bind fun t206 => ((api_Ref_62.f k t206 a2_0 a2_1).bind fun t209 => ((api_Ref_62.f k t206 a3_0 a3_1).bind fun t210 => (if t210 ≥ 0 then (if a2_0 = (-1) then (some true) else (if t209 ≥ 0 then (some (decide (t209 < t210))) else (some false))) else (some false))))) = some r := h
 clear h
 replace H := be H
 obtain ⟨t206, A5, H⟩ := H
 replace H := be H
 obtain ⟨t209, A6, H⟩ := H
 replace H := be H
 obtain ⟨t210, A7, H⟩ := H
 by_cases c8 : t210 ≥ 0
 rotate_left
 ·rw [if_neg c8] at H
  have c8b0 := decide_eq_false c8
  clear c8
  obtain rfl := Option.some.inj H
  go_enter Try.func38, Try.ntmps38
  go_wp2_with (first | ((with_reducible refine gate_dst (N := 4) rfl ?_); refine bv 4 #[.slice A0_0 l0_0.length c0_0, .slice A0_1 l0_1.length c0_1] 42 ?_; intro gb203 hg w53 hbox hb; obtain ⟨n0_, GW203⟩ := nb (w := w) hg hb; clear HB; have HB := n0_; have BK203 := Aside0.mk hbox; have GE203 := GW203; clear n0_ hb hbox hg) | ((with_reducible refine gate_dst (N := 6) rfl ?_); refine bv 6 #[.int .i64 a2_0, .int .i64 a2_1] 73 ?_; intro gb204 hg w54 hbox hb; have n0_ := Aside0.mk (blk_below (g := gb203) (o := .cells #[.slice A0_0 l0_0.length c0_0, .slice A0_1 l0_1.length c0_1] 42 (0, 0)) (bk BK203.out) hb); have n1_ := Aside0.mk (below_step bl hb); have n2_ := Aside0.mk (hbox); have n3_ := Aside0.mk ((by rw [hg]; exact (below_size bl) : w.heap.size ≤ gb204)); have n4_ := Aside0.mk ((by rw [hg]; exact (below_size bl) : w.heap.size ≤ gb204)); have n5_ := Aside0.mk ((nl hg (bk BK203.out) : gb203 ≠ gb204)); have n6_ := Aside0.mk ((ng hg (bk BK203.out) : gb204 ≠ gb203)); clear BK203; clear HB; have BK203 := n0_; have HB := n1_; have BK204 := n2_; have GW204 := n3_; have GE204 := n4_; have NB203_204 := n5_; have NB204_203 := n6_; clear n0_ n1_ n2_ n3_ n4_ n5_ n6_; clear hb hbox hg) | ((with_reducible refine gate_dst (N := 7) rfl ?_); refine bv 7 #[.int .i64 a3_0, .int .i64 a3_1] 73 ?_; intro gb205 hg w55 hbox hb; have n0_ := Aside0.mk (blk_below (g := gb203) (o := .cells #[.slice A0_0 l0_0.length c0_0, .slice A0_1 l0_1.length c0_1] 42 (0, 0)) (bk BK203.out) hb); have n1_ := Aside0.mk (blk_below (g := gb204) (o := .cells #[.int .i64 a2_0, .int .i64 a2_1] 73 (0, 0)) (bk BK204.out) hb); have n2_ := Aside0.mk (below_step bl hb); have n3_ := Aside0.mk (hbox); have n4_ := Aside0.mk ((by rw [hg]; exact (below_size bl) : w.heap.size ≤ gb205)); have n5_ := Aside0.mk ((by rw [hg]; exact (below_size bl) : w.heap.size ≤ gb205)); have n6_ := Aside0.mk ((nl hg (bk BK203.out) : gb203 ≠ gb205)); have n7_ := Aside0.mk ((ng hg (bk BK203.out) : gb205 ≠ gb203)); have n8_ := Aside0.mk ((nl hg (bk BK204.out) : gb204 ≠ gb205)); have n9_ := Aside0.mk ((ng hg (bk BK204.out) : gb205 ≠ gb204)); clear BK203; clear BK204; clear HB; have BK203 := n0_; have BK204 := n1_; have HB := n2_; have BK205 := n3_; have GW205 := n4_; have GE205 := n5_; have NB203_205 := n6_; have NB205_203 := n7_; have NB204_205 := n8_; have NB205_204 := n9_; clear n0_ n1_ n2_ n3_ n4_ n5_ n6_ n7_ n8_ n9_; clear hb hbox hg; have hnb56 := NB203_204.out; have hnc56 := NB204_203.out; have hnb57 := NB203_205.out; have hnc57 := NB205_203.out; obtain ⟨hcz58_0, hcz58_1, hfz58_0, hfz58_1⟩ := cz2 (w := w55) BK203.out) | ((with_reducible refine gate_callee (f := 61) rfl ?_); refine goesL_ (some 14) rfl rfl Try.func61 (by kernel_rfl) rfl #[.agg #[.slice A0_0 l0_0.length c0_0, .slice A0_1 l0_1.length c0_1], .int .i64 a1] rfl ga ?_; (with_reducible refine (cand_Stores.calls k _ _ l0_0 _ _ l0_1 a1 t206 _ ?side1 ?side2 ?side3 ?side4 A5.out).mono ?_); (case side1 => repeat (first | exact (Kd.C_below HR0_0.out HB.out) | (with_reducible refine Kd.C_alloc ?_ _) | (with_reducible refine Kd.C_drewN ?_ _) | (with_reducible refine Kd.C_drew ?_))); (case side2 => exact HC0_0.out); (case side3 => repeat (first | exact (Kd.C_below HR0_1.out HB.out) | (with_reducible refine Kd.C_alloc ?_ _) | (with_reducible refine Kd.C_drewN ?_ _) | (with_reducible refine Kd.C_drew ?_))); (case side4 => exact HC0_1.out); rintro e w59 ⟨v207, rfl, ho0, hb⟩; refine ⟨_, rfl, ?_⟩; have n0_ := Aside0.mk (Kd.R_lower (Kd.R_newB (Kd.R_newB ho0 (g := gb204) (o := .cells #[.int .i64 a2_0, .int .i64 a2_1] 73 (0, 0)) (bk BK204.out)) (g := gb205) (o := .cells #[.int .i64 a3_0, .int .i64 a3_1] 73 (0, 0)) (bk BK205.out)) (below_size bl)); have n1_ := Aside0.mk (blk_below (g := gb203) (o := .cells #[.slice A0_0 l0_0.length c0_0, .slice A0_1 l0_1.length c0_1] 42 (0, 0)) (bk BK203.out) hb); have n2_ := Aside0.mk (blk_below (g := gb204) (o := .cells #[.int .i64 a2_0, .int .i64 a2_1] 73 (0, 0)) (bk BK204.out) hb); have n3_ := Aside0.mk (blk_below (g := gb205) (o := .cells #[.int .i64 a3_0, .int .i64 a3_1] 73 (0, 0)) (bk BK205.out) hb); have n4_ := Aside0.mk (below_step bl hb); clear BK203; clear BK204; clear BK205; clear HB; have HO208 := n0_; have BK203 := n1_; have BK204 := n2_; have BK205 := n3_; have HB := n4_; clear n0_ n1_ n2_ n3_ n4_; (try clear hb); (try clear ho0); have hnb60 := NB204_205.out; have hnc60 := NB205_204.out; obtain ⟨hcz61_0, hcz61_1, hfz61_0, hfz61_1⟩ := cz2 (w := w59) BK204.out; obtain ⟨Ao62, co62, eo62⟩ := Kd.R_slice HO208.out; subst eo62) | ((with_reducible refine gate_callee (f := 62) rfl ?_); refine goesL_ (some 17) rfl rfl Try.func62 (by kernel_rfl) rfl #[.slice Ao62 t206.length co62, .agg #[.int .i64 a2_0, .int .i64 a2_1]] rfl ga ?_; (with_reducible refine (api_Ref_62.calls k _ _ t206 a2_0 a2_1 t209 _ ?side1 ?side2 A6.out).mono ?_); (case side1 => repeat (first | exact (Kd.R_reads' HO208.out).2.2 | (with_reducible refine Kd.C_alloc ?_ _) | (with_reducible refine Kd.C_drewN ?_ _) | (with_reducible refine Kd.C_drew ?_))); (case side2 => exact (Kd.R_reads' HO208.out).2.1); rintro e w63 ⟨rfl, hb⟩; refine ⟨_, rfl, ?_⟩; have n0_ := Aside0.mk (Kd.R_below (by (with_reducible repeat (first | apply Kd.R_alloc | apply Kd.R_drewN | apply Kd.R_drew)); exact HO208.out) hb); have n1_ := Aside0.mk (blk_below (g := gb203) (o := .cells #[.slice A0_0 l0_0.length c0_0, .slice A0_1 l0_1.length c0_1] 42 (0, 0)) (bk BK203.out) hb); have n2_ := Aside0.mk (blk_below (g := gb204) (o := .cells #[.int .i64 a2_0, .int .i64 a2_1] 73 (0, 0)) (bk BK204.out) hb); have n3_ := Aside0.mk (blk_below (g := gb205) (o := .cells #[.int .i64 a3_0, .int .i64 a3_1] 73 (0, 0)) (bk BK205.out) hb); have n4_ := Aside0.mk (below_step bl hb); clear HO208; clear BK203; clear BK204; clear BK205; clear HB; have HO208 := n0_; have BK203 := n1_; have BK204 := n2_; have BK205 := n3_; have HB := n4_; clear n0_ n1_ n2_ n3_ n4_; (try clear hb); obtain ⟨hcz64_0, hcz64_1, hfz64_0, hfz64_1⟩ := cz2 (w := w63) BK205.out) | ((with_reducible refine gate_callee (f := 62) rfl ?_); refine goesL_ (some 20) rfl rfl Try.func62 (by kernel_rfl) rfl #[.slice Ao62 t206.length co62, .agg #[.int .i64 a3_0, .int .i64 a3_1]] rfl ga ?_; (with_reducible refine (api_Ref_62.calls k _ _ t206 a3_0 a3_1 t210 _ ?side1 ?side2 A7.out).mono ?_); (case side1 => repeat (first | exact (Kd.R_reads' HO208.out).2.2 | (with_reducible refine Kd.C_alloc ?_ _) | (with_reducible refine Kd.C_drewN ?_ _) | (with_reducible refine Kd.C_drew ?_))); (case side2 => exact (Kd.R_reads' HO208.out).2.1); rintro e w65 ⟨rfl, hb⟩; refine ⟨_, rfl, ?_⟩; have n0_ := Aside0.mk (Kd.R_below (by (with_reducible repeat (first | apply Kd.R_alloc | apply Kd.R_drewN | apply Kd.R_drew)); exact HO208.out) hb); have n1_ := Aside0.mk (blk_below (g := gb203) (o := .cells #[.slice A0_0 l0_0.length c0_0, .slice A0_1 l0_1.length c0_1] 42 (0, 0)) (bk BK203.out) hb); have n2_ := Aside0.mk (blk_below (g := gb204) (o := .cells #[.int .i64 a2_0, .int .i64 a2_1] 73 (0, 0)) (bk BK204.out) hb); have n3_ := Aside0.mk (blk_below (g := gb205) (o := .cells #[.int .i64 a3_0, .int .i64 a3_1] 73 (0, 0)) (bk BK205.out) hb); have n4_ := Aside0.mk (below_step bl hb); clear HO208; clear BK203; clear BK204; clear BK205; clear HB; have HO208 := n0_; have BK203 := n1_; have BK204 := n2_; have BK205 := n3_; have HB := n4_; clear n0_ n1_ n2_ n3_ n4_; (try clear hb)))
  go_ret
  exact ⟨fi, bl⟩
 rw [if_pos c8] at H
 have c8b0 := decide_eq_true c8
 clear c8
 by_cases c9 : a2_0 = (-1)
 ·rw [if_pos c9] at H
  obtain ⟨c9b0, c9b1⟩ := eqs c9
  clear c9
  obtain rfl := Option.some.inj H
  go_enter Try.func38, Try.ntmps38
  go_wp2_with (first | ((with_reducible refine gate_dst (N := 4) rfl ?_); refine bv 4 #[.slice A0_0 l0_0.length c0_0, .slice A0_1 l0_1.length c0_1] 42 ?_; intro gb203 hg w10 hbox hb; obtain ⟨n0_, GW203⟩ := nb (w := w) hg hb; clear HB; have HB := n0_; have BK203 := Aside0.mk hbox; have GE203 := GW203; clear n0_ hb hbox hg) | ((with_reducible refine gate_dst (N := 6) rfl ?_); refine bv 6 #[.int .i64 a2_0, .int .i64 a2_1] 73 ?_; intro gb204 hg w11 hbox hb; have n0_ := Aside0.mk (blk_below (g := gb203) (o := .cells #[.slice A0_0 l0_0.length c0_0, .slice A0_1 l0_1.length c0_1] 42 (0, 0)) (bk BK203.out) hb); have n1_ := Aside0.mk (below_step bl hb); have n2_ := Aside0.mk (hbox); have n3_ := Aside0.mk ((by rw [hg]; exact (below_size bl) : w.heap.size ≤ gb204)); have n4_ := Aside0.mk ((by rw [hg]; exact (below_size bl) : w.heap.size ≤ gb204)); have n5_ := Aside0.mk ((nl hg (bk BK203.out) : gb203 ≠ gb204)); have n6_ := Aside0.mk ((ng hg (bk BK203.out) : gb204 ≠ gb203)); clear BK203; clear HB; have BK203 := n0_; have HB := n1_; have BK204 := n2_; have GW204 := n3_; have GE204 := n4_; have NB203_204 := n5_; have NB204_203 := n6_; clear n0_ n1_ n2_ n3_ n4_ n5_ n6_; clear hb hbox hg) | ((with_reducible refine gate_dst (N := 7) rfl ?_); refine bv 7 #[.int .i64 a3_0, .int .i64 a3_1] 73 ?_; intro gb205 hg w12 hbox hb; have n0_ := Aside0.mk (blk_below (g := gb203) (o := .cells #[.slice A0_0 l0_0.length c0_0, .slice A0_1 l0_1.length c0_1] 42 (0, 0)) (bk BK203.out) hb); have n1_ := Aside0.mk (blk_below (g := gb204) (o := .cells #[.int .i64 a2_0, .int .i64 a2_1] 73 (0, 0)) (bk BK204.out) hb); have n2_ := Aside0.mk (below_step bl hb); have n3_ := Aside0.mk (hbox); have n4_ := Aside0.mk ((by rw [hg]; exact (below_size bl) : w.heap.size ≤ gb205)); have n5_ := Aside0.mk ((by rw [hg]; exact (below_size bl) : w.heap.size ≤ gb205)); have n6_ := Aside0.mk ((nl hg (bk BK203.out) : gb203 ≠ gb205)); have n7_ := Aside0.mk ((ng hg (bk BK203.out) : gb205 ≠ gb203)); have n8_ := Aside0.mk ((nl hg (bk BK204.out) : gb204 ≠ gb205)); have n9_ := Aside0.mk ((ng hg (bk BK204.out) : gb205 ≠ gb204)); clear BK203; clear BK204; clear HB; have BK203 := n0_; have BK204 := n1_; have HB := n2_; have BK205 := n3_; have GW205 := n4_; have GE205 := n5_; have NB203_205 := n6_; have NB205_203 := n7_; have NB204_205 := n8_; have NB205_204 := n9_; clear n0_ n1_ n2_ n3_ n4_ n5_ n6_ n7_ n8_ n9_; clear hb hbox hg; have hnb13 := NB203_204.out; have hnc13 := NB204_203.out; have hnb14 := NB203_205.out; have hnc14 := NB205_203.out; obtain ⟨hcz15_0, hcz15_1, hfz15_0, hfz15_1⟩ := cz2 (w := w12) BK203.out) | ((with_reducible refine gate_callee (f := 61) rfl ?_); refine goesL_ (some 14) rfl rfl Try.func61 (by kernel_rfl) rfl #[.agg #[.slice A0_0 l0_0.length c0_0, .slice A0_1 l0_1.length c0_1], .int .i64 a1] rfl ga ?_; (with_reducible refine (cand_Stores.calls k _ _ l0_0 _ _ l0_1 a1 t206 _ ?side1 ?side2 ?side3 ?side4 A5.out).mono ?_); (case side1 => repeat (first | exact (Kd.C_below HR0_0.out HB.out) | (with_reducible refine Kd.C_alloc ?_ _) | (with_reducible refine Kd.C_drewN ?_ _) | (with_reducible refine Kd.C_drew ?_))); (case side2 => exact HC0_0.out); (case side3 => repeat (first | exact (Kd.C_below HR0_1.out HB.out) | (with_reducible refine Kd.C_alloc ?_ _) | (with_reducible refine Kd.C_drewN ?_ _) | (with_reducible refine Kd.C_drew ?_))); (case side4 => exact HC0_1.out); rintro e w16 ⟨v207, rfl, ho0, hb⟩; refine ⟨_, rfl, ?_⟩; have n0_ := Aside0.mk (Kd.R_lower (Kd.R_newB (Kd.R_newB ho0 (g := gb204) (o := .cells #[.int .i64 a2_0, .int .i64 a2_1] 73 (0, 0)) (bk BK204.out)) (g := gb205) (o := .cells #[.int .i64 a3_0, .int .i64 a3_1] 73 (0, 0)) (bk BK205.out)) (below_size bl)); have n1_ := Aside0.mk (blk_below (g := gb203) (o := .cells #[.slice A0_0 l0_0.length c0_0, .slice A0_1 l0_1.length c0_1] 42 (0, 0)) (bk BK203.out) hb); have n2_ := Aside0.mk (blk_below (g := gb204) (o := .cells #[.int .i64 a2_0, .int .i64 a2_1] 73 (0, 0)) (bk BK204.out) hb); have n3_ := Aside0.mk (blk_below (g := gb205) (o := .cells #[.int .i64 a3_0, .int .i64 a3_1] 73 (0, 0)) (bk BK205.out) hb); have n4_ := Aside0.mk (below_step bl hb); clear BK203; clear BK204; clear BK205; clear HB; have HO208 := n0_; have BK203 := n1_; have BK204 := n2_; have BK205 := n3_; have HB := n4_; clear n0_ n1_ n2_ n3_ n4_; (try clear hb); (try clear ho0); have hnb17 := NB204_205.out; have hnc17 := NB205_204.out; obtain ⟨hcz18_0, hcz18_1, hfz18_0, hfz18_1⟩ := cz2 (w := w16) BK204.out; obtain ⟨Ao19, co19, eo19⟩ := Kd.R_slice HO208.out; subst eo19) | ((with_reducible refine gate_callee (f := 62) rfl ?_); refine goesL_ (some 17) rfl rfl Try.func62 (by kernel_rfl) rfl #[.slice Ao19 t206.length co19, .agg #[.int .i64 a2_0, .int .i64 a2_1]] rfl ga ?_; (with_reducible refine (api_Ref_62.calls k _ _ t206 a2_0 a2_1 t209 _ ?side1 ?side2 A6.out).mono ?_); (case side1 => repeat (first | exact (Kd.R_reads' HO208.out).2.2 | (with_reducible refine Kd.C_alloc ?_ _) | (with_reducible refine Kd.C_drewN ?_ _) | (with_reducible refine Kd.C_drew ?_))); (case side2 => exact (Kd.R_reads' HO208.out).2.1); rintro e w20 ⟨rfl, hb⟩; refine ⟨_, rfl, ?_⟩; have n0_ := Aside0.mk (Kd.R_below (by (with_reducible repeat (first | apply Kd.R_alloc | apply Kd.R_drewN | apply Kd.R_drew)); exact HO208.out) hb); have n1_ := Aside0.mk (blk_below (g := gb203) (o := .cells #[.slice A0_0 l0_0.length c0_0, .slice A0_1 l0_1.length c0_1] 42 (0, 0)) (bk BK203.out) hb); have n2_ := Aside0.mk (blk_below (g := gb204) (o := .cells #[.int .i64 a2_0, .int .i64 a2_1] 73 (0, 0)) (bk BK204.out) hb); have n3_ := Aside0.mk (blk_below (g := gb205) (o := .cells #[.int .i64 a3_0, .int .i64 a3_1] 73 (0, 0)) (bk BK205.out) hb); have n4_ := Aside0.mk (below_step bl hb); clear HO208; clear BK203; clear BK204; clear BK205; clear HB; have HO208 := n0_; have BK203 := n1_; have BK204 := n2_; have BK205 := n3_; have HB := n4_; clear n0_ n1_ n2_ n3_ n4_; (try clear hb); obtain ⟨hcz21_0, hcz21_1, hfz21_0, hfz21_1⟩ := cz2 (w := w20) BK205.out) | ((with_reducible refine gate_callee (f := 62) rfl ?_); refine goesL_ (some 20) rfl rfl Try.func62 (by kernel_rfl) rfl #[.slice Ao19 t206.length co19, .agg #[.int .i64 a3_0, .int .i64 a3_1]] rfl ga ?_; (with_reducible refine (api_Ref_62.calls k _ _ t206 a3_0 a3_1 t210 _ ?side1 ?side2 A7.out).mono ?_); (case side1 => repeat (first | exact (Kd.R_reads' HO208.out).2.2 | (with_reducible refine Kd.C_alloc ?_ _) | (with_reducible refine Kd.C_drewN ?_ _) | (with_reducible refine Kd.C_drew ?_))); (case side2 => exact (Kd.R_reads' HO208.out).2.1); rintro e w22 ⟨rfl, hb⟩; refine ⟨_, rfl, ?_⟩; have n0_ := Aside0.mk (Kd.R_below (by (with_reducible repeat (first | apply Kd.R_alloc | apply Kd.R_drewN | apply Kd.R_drew)); exact HO208.out) hb); have n1_ := Aside0.mk (blk_below (g := gb203) (o := .cells #[.slice A0_0 l0_0.length c0_0, .slice A0_1 l0_1.length c0_1] 42 (0, 0)) (bk BK203.out) hb); have n2_ := Aside0.mk (blk_below (g := gb204) (o := .cells #[.int .i64 a2_0, .int .i64 a2_1] 73 (0, 0)) (bk BK204.out) hb); have n3_ := Aside0.mk (blk_below (g := gb205) (o := .cells #[.int .i64 a3_0, .int .i64 a3_1] 73 (0, 0)) (bk BK205.out) hb); have n4_ := Aside0.mk (below_step bl hb); clear HO208; clear BK203; clear BK204; clear BK205; clear HB; have HO208 := n0_; have BK203 := n1_; have BK204 := n2_; have BK205 := n3_; have HB := n4_; clear n0_ n1_ n2_ n3_ n4_; (try clear hb); obtain ⟨hcz23_0, hcz23_1, hfz23_0, hfz23_1⟩ := cz2 (w := w22) BK204.out))
  go_ret
  exact ⟨fi, bl⟩
 rw [if_neg c9] at H
 have c9b0 : (a2_0 == (-1)) = false := beq_eq_false_iff_ne.mpr c9
 have c9b1 : (a2_0 != (-1)) = true := bne_iff_ne.mpr c9
 by_cases c24 : t209 ≥ 0
 ·rw [if_pos c24] at H
  have c24b0 := decide_eq_true c24
  clear c24
  obtain rfl := Option.some.inj H
  go_enter Try.func38, Try.ntmps38
  go_wp2_with (first | ((with_reducible refine gate_dst (N := 4) rfl ?_); refine bv 4 #[.slice A0_0 l0_0.length c0_0, .slice A0_1 l0_1.length c0_1] 42 ?_; intro gb203 hg w25 hbox hb; obtain ⟨n0_, GW203⟩ := nb (w := w) hg hb; clear HB; have HB := n0_; have BK203 := Aside0.mk hbox; have GE203 := GW203; clear n0_ hb hbox hg) | ((with_reducible refine gate_dst (N := 6) rfl ?_); refine bv 6 #[.int .i64 a2_0, .int .i64 a2_1] 73 ?_; intro gb204 hg w26 hbox hb; have n0_ := Aside0.mk (blk_below (g := gb203) (o := .cells #[.slice A0_0 l0_0.length c0_0, .slice A0_1 l0_1.length c0_1] 42 (0, 0)) (bk BK203.out) hb); have n1_ := Aside0.mk (below_step bl hb); have n2_ := Aside0.mk (hbox); have n3_ := Aside0.mk ((by rw [hg]; exact (below_size bl) : w.heap.size ≤ gb204)); have n4_ := Aside0.mk ((by rw [hg]; exact (below_size bl) : w.heap.size ≤ gb204)); have n5_ := Aside0.mk ((nl hg (bk BK203.out) : gb203 ≠ gb204)); have n6_ := Aside0.mk ((ng hg (bk BK203.out) : gb204 ≠ gb203)); clear BK203; clear HB; have BK203 := n0_; have HB := n1_; have BK204 := n2_; have GW204 := n3_; have GE204 := n4_; have NB203_204 := n5_; have NB204_203 := n6_; clear n0_ n1_ n2_ n3_ n4_ n5_ n6_; clear hb hbox hg) | ((with_reducible refine gate_dst (N := 7) rfl ?_); refine bv 7 #[.int .i64 a3_0, .int .i64 a3_1] 73 ?_; intro gb205 hg w27 hbox hb; have n0_ := Aside0.mk (blk_below (g := gb203) (o := .cells #[.slice A0_0 l0_0.length c0_0, .slice A0_1 l0_1.length c0_1] 42 (0, 0)) (bk BK203.out) hb); have n1_ := Aside0.mk (blk_below (g := gb204) (o := .cells #[.int .i64 a2_0, .int .i64 a2_1] 73 (0, 0)) (bk BK204.out) hb); have n2_ := Aside0.mk (below_step bl hb); have n3_ := Aside0.mk (hbox); have n4_ := Aside0.mk ((by rw [hg]; exact (below_size bl) : w.heap.size ≤ gb205)); have n5_ := Aside0.mk ((by rw [hg]; exact (below_size bl) : w.heap.size ≤ gb205)); have n6_ := Aside0.mk ((nl hg (bk BK203.out) : gb203 ≠ gb205)); have n7_ := Aside0.mk ((ng hg (bk BK203.out) : gb205 ≠ gb203)); have n8_ := Aside0.mk ((nl hg (bk BK204.out) : gb204 ≠ gb205)); have n9_ := Aside0.mk ((ng hg (bk BK204.out) : gb205 ≠ gb204)); clear BK203; clear BK204; clear HB; have BK203 := n0_; have BK204 := n1_; have HB := n2_; have BK205 := n3_; have GW205 := n4_; have GE205 := n5_; have NB203_205 := n6_; have NB205_203 := n7_; have NB204_205 := n8_; have NB205_204 := n9_; clear n0_ n1_ n2_ n3_ n4_ n5_ n6_ n7_ n8_ n9_; clear hb hbox hg; have hnb28 := NB203_204.out; have hnc28 := NB204_203.out; have hnb29 := NB203_205.out; have hnc29 := NB205_203.out; obtain ⟨hcz30_0, hcz30_1, hfz30_0, hfz30_1⟩ := cz2 (w := w27) BK203.out) | ((with_reducible refine gate_callee (f := 61) rfl ?_); refine goesL_ (some 14) rfl rfl Try.func61 (by kernel_rfl) rfl #[.agg #[.slice A0_0 l0_0.length c0_0, .slice A0_1 l0_1.length c0_1], .int .i64 a1] rfl ga ?_; (with_reducible refine (cand_Stores.calls k _ _ l0_0 _ _ l0_1 a1 t206 _ ?side1 ?side2 ?side3 ?side4 A5.out).mono ?_); (case side1 => repeat (first | exact (Kd.C_below HR0_0.out HB.out) | (with_reducible refine Kd.C_alloc ?_ _) | (with_reducible refine Kd.C_drewN ?_ _) | (with_reducible refine Kd.C_drew ?_))); (case side2 => exact HC0_0.out); (case side3 => repeat (first | exact (Kd.C_below HR0_1.out HB.out) | (with_reducible refine Kd.C_alloc ?_ _) | (with_reducible refine Kd.C_drewN ?_ _) | (with_reducible refine Kd.C_drew ?_))); (case side4 => exact HC0_1.out); rintro e w31 ⟨v207, rfl, ho0, hb⟩; refine ⟨_, rfl, ?_⟩; have n0_ := Aside0.mk (Kd.R_lower (Kd.R_newB (Kd.R_newB ho0 (g := gb204) (o := .cells #[.int .i64 a2_0, .int .i64 a2_1] 73 (0, 0)) (bk BK204.out)) (g := gb205) (o := .cells #[.int .i64 a3_0, .int .i64 a3_1] 73 (0, 0)) (bk BK205.out)) (below_size bl)); have n1_ := Aside0.mk (blk_below (g := gb203) (o := .cells #[.slice A0_0 l0_0.length c0_0, .slice A0_1 l0_1.length c0_1] 42 (0, 0)) (bk BK203.out) hb); have n2_ := Aside0.mk (blk_below (g := gb204) (o := .cells #[.int .i64 a2_0, .int .i64 a2_1] 73 (0, 0)) (bk BK204.out) hb); have n3_ := Aside0.mk (blk_below (g := gb205) (o := .cells #[.int .i64 a3_0, .int .i64 a3_1] 73 (0, 0)) (bk BK205.out) hb); have n4_ := Aside0.mk (below_step bl hb); clear BK203; clear BK204; clear BK205; clear HB; have HO208 := n0_; have BK203 := n1_; have BK204 := n2_; have BK205 := n3_; have HB := n4_; clear n0_ n1_ n2_ n3_ n4_; (try clear hb); (try clear ho0); have hnb32 := NB204_205.out; have hnc32 := NB205_204.out; obtain ⟨hcz33_0, hcz33_1, hfz33_0, hfz33_1⟩ := cz2 (w := w31) BK204.out; obtain ⟨Ao34, co34, eo34⟩ := Kd.R_slice HO208.out; subst eo34) | ((with_reducible refine gate_callee (f := 62) rfl ?_); refine goesL_ (some 17) rfl rfl Try.func62 (by kernel_rfl) rfl #[.slice Ao34 t206.length co34, .agg #[.int .i64 a2_0, .int .i64 a2_1]] rfl ga ?_; (with_reducible refine (api_Ref_62.calls k _ _ t206 a2_0 a2_1 t209 _ ?side1 ?side2 A6.out).mono ?_); (case side1 => repeat (first | exact (Kd.R_reads' HO208.out).2.2 | (with_reducible refine Kd.C_alloc ?_ _) | (with_reducible refine Kd.C_drewN ?_ _) | (with_reducible refine Kd.C_drew ?_))); (case side2 => exact (Kd.R_reads' HO208.out).2.1); rintro e w35 ⟨rfl, hb⟩; refine ⟨_, rfl, ?_⟩; have n0_ := Aside0.mk (Kd.R_below (by (with_reducible repeat (first | apply Kd.R_alloc | apply Kd.R_drewN | apply Kd.R_drew)); exact HO208.out) hb); have n1_ := Aside0.mk (blk_below (g := gb203) (o := .cells #[.slice A0_0 l0_0.length c0_0, .slice A0_1 l0_1.length c0_1] 42 (0, 0)) (bk BK203.out) hb); have n2_ := Aside0.mk (blk_below (g := gb204) (o := .cells #[.int .i64 a2_0, .int .i64 a2_1] 73 (0, 0)) (bk BK204.out) hb); have n3_ := Aside0.mk (blk_below (g := gb205) (o := .cells #[.int .i64 a3_0, .int .i64 a3_1] 73 (0, 0)) (bk BK205.out) hb); have n4_ := Aside0.mk (below_step bl hb); clear HO208; clear BK203; clear BK204; clear BK205; clear HB; have HO208 := n0_; have BK203 := n1_; have BK204 := n2_; have BK205 := n3_; have HB := n4_; clear n0_ n1_ n2_ n3_ n4_; (try clear hb); obtain ⟨hcz36_0, hcz36_1, hfz36_0, hfz36_1⟩ := cz2 (w := w35) BK205.out) | ((with_reducible refine gate_callee (f := 62) rfl ?_); refine goesL_ (some 20) rfl rfl Try.func62 (by kernel_rfl) rfl #[.slice Ao34 t206.length co34, .agg #[.int .i64 a3_0, .int .i64 a3_1]] rfl ga ?_; (with_reducible refine (api_Ref_62.calls k _ _ t206 a3_0 a3_1 t210 _ ?side1 ?side2 A7.out).mono ?_); (case side1 => repeat (first | exact (Kd.R_reads' HO208.out).2.2 | (with_reducible refine Kd.C_alloc ?_ _) | (with_reducible refine Kd.C_drewN ?_ _) | (with_reducible refine Kd.C_drew ?_))); (case side2 => exact (Kd.R_reads' HO208.out).2.1); rintro e w37 ⟨rfl, hb⟩; refine ⟨_, rfl, ?_⟩; have n0_ := Aside0.mk (Kd.R_below (by (with_reducible repeat (first | apply Kd.R_alloc | apply Kd.R_drewN | apply Kd.R_drew)); exact HO208.out) hb); have n1_ := Aside0.mk (blk_below (g := gb203) (o := .cells #[.slice A0_0 l0_0.length c0_0, .slice A0_1 l0_1.length c0_1] 42 (0, 0)) (bk BK203.out) hb); have n2_ := Aside0.mk (blk_below (g := gb204) (o := .cells #[.int .i64 a2_0, .int .i64 a2_1] 73 (0, 0)) (bk BK204.out) hb); have n3_ := Aside0.mk (blk_below (g := gb205) (o := .cells #[.int .i64 a3_0, .int .i64 a3_1] 73 (0, 0)) (bk BK205.out) hb); have n4_ := Aside0.mk (below_step bl hb); clear HO208; clear BK203; clear BK204; clear BK205; clear HB; have HO208 := n0_; have BK203 := n1_; have BK204 := n2_; have BK205 := n3_; have HB := n4_; clear n0_ n1_ n2_ n3_ n4_; (try clear hb); obtain ⟨hcz38_0, hcz38_1, hfz38_0, hfz38_1⟩ := cz2 (w := w37) BK204.out))
  go_ret
  exact ⟨fi, bl⟩
 rw [if_neg c24] at H
 have c24b0 := decide_eq_false c24
 clear c24
 obtain rfl := Option.some.inj H
 go_enter Try.func38, Try.ntmps38
 go_wp2_with (first | ((with_reducible refine gate_dst (N := 4) rfl ?_); refine bv 4 #[.slice A0_0 l0_0.length c0_0, .slice A0_1 l0_1.length c0_1] 42 ?_; intro gb203 hg w39 hbox hb; obtain ⟨n0_, GW203⟩ := nb (w := w) hg hb; clear HB; have HB := n0_; have BK203 := Aside0.mk hbox; have GE203 := GW203; clear n0_ hb hbox hg) | ((with_reducible refine gate_dst (N := 6) rfl ?_); refine bv 6 #[.int .i64 a2_0, .int .i64 a2_1] 73 ?_; intro gb204 hg w40 hbox hb; have n0_ := Aside0.mk (blk_below (g := gb203) (o := .cells #[.slice A0_0 l0_0.length c0_0, .slice A0_1 l0_1.length c0_1] 42 (0, 0)) (bk BK203.out) hb); have n1_ := Aside0.mk (below_step bl hb); have n2_ := Aside0.mk (hbox); have n3_ := Aside0.mk ((by rw [hg]; exact (below_size bl) : w.heap.size ≤ gb204)); have n4_ := Aside0.mk ((by rw [hg]; exact (below_size bl) : w.heap.size ≤ gb204)); have n5_ := Aside0.mk ((nl hg (bk BK203.out) : gb203 ≠ gb204)); have n6_ := Aside0.mk ((ng hg (bk BK203.out) : gb204 ≠ gb203)); clear BK203; clear HB; have BK203 := n0_; have HB := n1_; have BK204 := n2_; have GW204 := n3_; have GE204 := n4_; have NB203_204 := n5_; have NB204_203 := n6_; clear n0_ n1_ n2_ n3_ n4_ n5_ n6_; clear hb hbox hg) | ((with_reducible refine gate_dst (N := 7) rfl ?_); refine bv 7 #[.int .i64 a3_0, .int .i64 a3_1] 73 ?_; intro gb205 hg w41 hbox hb; have n0_ := Aside0.mk (blk_below (g := gb203) (o := .cells #[.slice A0_0 l0_0.length c0_0, .slice A0_1 l0_1.length c0_1] 42 (0, 0)) (bk BK203.out) hb); have n1_ := Aside0.mk (blk_below (g := gb204) (o := .cells #[.int .i64 a2_0, .int .i64 a2_1] 73 (0, 0)) (bk BK204.out) hb); have n2_ := Aside0.mk (below_step bl hb); have n3_ := Aside0.mk (hbox); have n4_ := Aside0.mk ((by rw [hg]; exact (below_size bl) : w.heap.size ≤ gb205)); have n5_ := Aside0.mk ((by rw [hg]; exact (below_size bl) : w.heap.size ≤ gb205)); have n6_ := Aside0.mk ((nl hg (bk BK203.out) : gb203 ≠ gb205)); have n7_ := Aside0.mk ((ng hg (bk BK203.out) : gb205 ≠ gb203)); have n8_ := Aside0.mk ((nl hg (bk BK204.out) : gb204 ≠ gb205)); have n9_ := Aside0.mk ((ng hg (bk BK204.out) : gb205 ≠ gb204)); clear BK203; clear BK204; clear HB; have BK203 := n0_; have BK204 := n1_; have HB := n2_; have BK205 := n3_; have GW205 := n4_; have GE205 := n5_; have NB203_205 := n6_; have NB205_203 := n7_; have NB204_205 := n8_; have NB205_204 := n9_; clear n0_ n1_ n2_ n3_ n4_ n5_ n6_ n7_ n8_ n9_; clear hb hbox hg; have hnb42 := NB203_204.out; have hnc42 := NB204_203.out; have hnb43 := NB203_205.out; have hnc43 := NB205_203.out; obtain ⟨hcz44_0, hcz44_1, hfz44_0, hfz44_1⟩ := cz2 (w := w41) BK203.out) | ((with_reducible refine gate_callee (f := 61) rfl ?_); refine goesL_ (some 14) rfl rfl Try.func61 (by kernel_rfl) rfl #[.agg #[.slice A0_0 l0_0.length c0_0, .slice A0_1 l0_1.length c0_1], .int .i64 a1] rfl ga ?_; (with_reducible refine (cand_Stores.calls k _ _ l0_0 _ _ l0_1 a1 t206 _ ?side1 ?side2 ?side3 ?side4 A5.out).mono ?_); (case side1 => repeat (first | exact (Kd.C_below HR0_0.out HB.out) | (with_reducible refine Kd.C_alloc ?_ _) | (with_reducible refine Kd.C_drewN ?_ _) | (with_reducible refine Kd.C_drew ?_))); (case side2 => exact HC0_0.out); (case side3 => repeat (first | exact (Kd.C_below HR0_1.out HB.out) | (with_reducible refine Kd.C_alloc ?_ _) | (with_reducible refine Kd.C_drewN ?_ _) | (with_reducible refine Kd.C_drew ?_))); (case side4 => exact HC0_1.out); rintro e w45 ⟨v207, rfl, ho0, hb⟩; refine ⟨_, rfl, ?_⟩; have n0_ := Aside0.mk (Kd.R_lower (Kd.R_newB (Kd.R_newB ho0 (g := gb204) (o := .cells #[.int .i64 a2_0, .int .i64 a2_1] 73 (0, 0)) (bk BK204.out)) (g := gb205) (o := .cells #[.int .i64 a3_0, .int .i64 a3_1] 73 (0, 0)) (bk BK205.out)) (below_size bl)); have n1_ := Aside0.mk (blk_below (g := gb203) (o := .cells #[.slice A0_0 l0_0.length c0_0, .slice A0_1 l0_1.length c0_1] 42 (0, 0)) (bk BK203.out) hb); have n2_ := Aside0.mk (blk_below (g := gb204) (o := .cells #[.int .i64 a2_0, .int .i64 a2_1] 73 (0, 0)) (bk BK204.out) hb); have n3_ := Aside0.mk (blk_below (g := gb205) (o := .cells #[.int .i64 a3_0, .int .i64 a3_1] 73 (0, 0)) (bk BK205.out) hb); have n4_ := Aside0.mk (below_step bl hb); clear BK203; clear BK204; clear BK205; clear HB; have HO208 := n0_; have BK203 := n1_; have BK204 := n2_; have BK205 := n3_; have HB := n4_; clear n0_ n1_ n2_ n3_ n4_; (try clear hb); (try clear ho0); have hnb46 := NB204_205.out; have hnc46 := NB205_204.out; obtain ⟨hcz47_0, hcz47_1, hfz47_0, hfz47_1⟩ := cz2 (w := w45) BK204.out; obtain ⟨Ao48, co48, eo48⟩ := Kd.R_slice HO208.out; subst eo48) | ((with_reducible refine gate_callee (f := 62) rfl ?_); refine goesL_ (some 17) rfl rfl Try.func62 (by kernel_rfl) rfl #[.slice Ao48 t206.length co48, .agg #[.int .i64 a2_0, .int .i64 a2_1]] rfl ga ?_; (with_reducible refine (api_Ref_62.calls k _ _ t206 a2_0 a2_1 t209 _ ?side1 ?side2 A6.out).mono ?_); (case side1 => repeat (first | exact (Kd.R_reads' HO208.out).2.2 | (with_reducible refine Kd.C_alloc ?_ _) | (with_reducible refine Kd.C_drewN ?_ _) | (with_reducible refine Kd.C_drew ?_))); (case side2 => exact (Kd.R_reads' HO208.out).2.1); rintro e w49 ⟨rfl, hb⟩; refine ⟨_, rfl, ?_⟩; have n0_ := Aside0.mk (Kd.R_below (by (with_reducible repeat (first | apply Kd.R_alloc | apply Kd.R_drewN | apply Kd.R_drew)); exact HO208.out) hb); have n1_ := Aside0.mk (blk_below (g := gb203) (o := .cells #[.slice A0_0 l0_0.length c0_0, .slice A0_1 l0_1.length c0_1] 42 (0, 0)) (bk BK203.out) hb); have n2_ := Aside0.mk (blk_below (g := gb204) (o := .cells #[.int .i64 a2_0, .int .i64 a2_1] 73 (0, 0)) (bk BK204.out) hb); have n3_ := Aside0.mk (blk_below (g := gb205) (o := .cells #[.int .i64 a3_0, .int .i64 a3_1] 73 (0, 0)) (bk BK205.out) hb); have n4_ := Aside0.mk (below_step bl hb); clear HO208; clear BK203; clear BK204; clear BK205; clear HB; have HO208 := n0_; have BK203 := n1_; have BK204 := n2_; have BK205 := n3_; have HB := n4_; clear n0_ n1_ n2_ n3_ n4_; (try clear hb); obtain ⟨hcz50_0, hcz50_1, hfz50_0, hfz50_1⟩ := cz2 (w := w49) BK205.out) | ((with_reducible refine gate_callee (f := 62) rfl ?_); refine goesL_ (some 20) rfl rfl Try.func62 (by kernel_rfl) rfl #[.slice Ao48 t206.length co48, .agg #[.int .i64 a3_0, .int .i64 a3_1]] rfl ga ?_; (with_reducible refine (api_Ref_62.calls k _ _ t206 a3_0 a3_1 t210 _ ?side1 ?side2 A7.out).mono ?_); (case side1 => repeat (first | exact (Kd.R_reads' HO208.out).2.2 | (with_reducible refine Kd.C_alloc ?_ _) | (with_reducible refine Kd.C_drewN ?_ _) | (with_reducible refine Kd.C_drew ?_))); (case side2 => exact (Kd.R_reads' HO208.out).2.1); rintro e w51 ⟨rfl, hb⟩; refine ⟨_, rfl, ?_⟩; have n0_ := Aside0.mk (Kd.R_below (by (with_reducible repeat (first | apply Kd.R_alloc | apply Kd.R_drewN | apply Kd.R_drew)); exact HO208.out) hb); have n1_ := Aside0.mk (blk_below (g := gb203) (o := .cells #[.slice A0_0 l0_0.length c0_0, .slice A0_1 l0_1.length c0_1] 42 (0, 0)) (bk BK203.out) hb); have n2_ := Aside0.mk (blk_below (g := gb204) (o := .cells #[.int .i64 a2_0, .int .i64 a2_1] 73 (0, 0)) (bk BK204.out) hb); have n3_ := Aside0.mk (blk_below (g := gb205) (o := .cells #[.int .i64 a3_0, .int .i64 a3_1] 73 (0, 0)) (bk BK205.out) hb); have n4_ := Aside0.mk (below_step bl hb); clear HO208; clear BK203; clear BK204; clear BK205; clear HB; have HO208 := n0_; have BK203 := n1_; have BK204 := n2_; have BK205 := n3_; have HB := n4_; clear n0_ n1_ n2_ n3_ n4_; (try clear hb); obtain ⟨hcz52_0, hcz52_1, hfz52_0, hfz52_1⟩ := cz2 (w := w51) BK204.out))
 go_ret
 exact ⟨fi, bl⟩

/-! ### spinnakerlaw13_awake: function 18 -/
def spinnakerlaw13_awake.f (k : Nat)  : Option (Bool) := (cand_Encode.f k ([] : List (List (S75))) ([] : List (S70))).bind fun bt211 => (if bt211.2 = 0 then (if (bt211.1.length : Int) = 2 then ((cand_Behind.f k (([(([(⟨0, 0, (⟨0, 0⟩ : S73), false, false⟩ : S75)] : List (S75)))] : List (List (S75)))) (([(⟨0, (([(⟨0, 0⟩ : S73)] : List (S73)))⟩ : S70)] : List (S70))) 0 (-1) 0 0 0).bind fun t227 => (some t227)) else (some false)) else (some false))
theorem spinnakerlaw13_awake.mono : ∀ k, LeO (spinnakerlaw13_awake.f k ) (spinnakerlaw13_awake.f (k + 1) ) := by
 intro  k
 unfold spinnakerlaw13_awake.f
 repeat' first | (with_reducible first | exact cand_Behind.mono _ _ _ _ _ _ _ _ | exact cand_Encode.mono _ _ _ | exact LeO.refl _ | exact LeO.none _ | refine LeO.ite ?_ ?_ | refine LeO.bind ?_ (fun _ => ?_)) | exact cand_Behind.mono _ _ _ _ _ _ _ _ | exact cand_Encode.mono _ _ _ | exact LeO.none _ | refine LeO.ite ?_ ?_ | refine LeO.bind ?_ (fun _ => ?_)
set_option maxHeartbeats 8000000 in
set_option maxRecDepth 100000 in
theorem spinnakerlaw13_awake.calls (k : Nat)  (r : Bool) (w : World) (h : spinnakerlaw13_awake.f k  = some r) :
  Calls Try.prog 18 #[] w fun e w' => e = .returned (.bool r) ∧ Below w.heap.size w w' := by
 have hu42 := Try.underlying42
 have hu75 := Try.underlying75
 have hu73 := Try.underlying73
 have hu70 := Try.underlying70
 have HB := Aside0.mk (Below.refl w.heap.size w)
 have H : ((cand_Encode.f k ([] : List (List (S75))) ([] : List (S70))).bind fun bt211 => (if bt211.2 = 0 then (if (bt211.1.length : Int) = 2 then ((cand_Behind.f k (([(([(⟨0, 0, (⟨0, 0⟩ : S73), false, false⟩ : S75)] : List (S75)))] : List (List (S75)))) (([(⟨0, (([(⟨0, 0⟩ : S73)] : List (S73)))⟩ : S70)] : List (S70))) 0 (-1) 0 0 0).bind fun t227 => (some t227)) else (some false)) else (some false))) = some r := h
 clear h
 replace H := be H
 obtain ⟨⟨t211, t214⟩, A1, H⟩ := H
 dsimp only at H
 by_cases c2 : t214 = 0
 rotate_left
 ·rw [if_neg c2] at H
  have c2b0 : (t214 == 0) = false := beq_eq_false_iff_ne.mpr c2
  have c2b1 : (t214 != 0) = true := bne_iff_ne.mpr c2
  obtain rfl := Option.some.inj H
  go_enter Try.func18, Try.ntmps18
  go_wp2_with (first | ((with_reducible refine gate_callee (f := 23) rfl ?_); refine goesL_ (some 5) rfl rfl Try.func23 (by kernel_rfl) rfl #[.agg #[.slice none 0 0, .slice none 0 0]] rfl ga ?_; (refine (cand_Encode.calls k _ _ ([] : List (List (S75))) _ _ ([] : List (S70)) t211 t214 _ ?side1 ?side2 ?side3 ?side4 A1.out).mono ?_); (case side1 => exact Kd.C_nil _ _); (case side2 => exact Nat.le_refl _); (case side3 => exact Kd.C_nil _ _); (case side4 => exact Nat.le_refl _); rintro e w22 ⟨v212, rfl, ho0, hb⟩; refine ⟨_, rfl, ?_⟩; have n0_ := Aside0.mk (Kd.R_lower ho0 (below_size bl)); have n1_ := Aside0.mk (below_step bl hb); clear HB; have HO213 := n0_; have HB := n1_; clear n0_ n1_; (try clear hb); (try clear ho0)))
  go_ret
  exact ⟨fi, bl⟩
 rw [if_pos c2] at H
 obtain ⟨c2b0, c2b1⟩ := eqs c2
 clear c2
 by_cases c3 : (t211.length : Int) = 2
 rotate_left
 ·rw [if_neg c3] at H
  have c3b0 : ((t211.length : Int) == 2) = false := beq_eq_false_iff_ne.mpr c3
  have c3b1 : ((t211.length : Int) != 2) = true := bne_iff_ne.mpr c3
  obtain rfl := Option.some.inj H
  go_enter Try.func18, Try.ntmps18
  go_wp2_with (first | ((with_reducible refine gate_callee (f := 23) rfl ?_); refine goesL_ (some 5) rfl rfl Try.func23 (by kernel_rfl) rfl #[.agg #[.slice none 0 0, .slice none 0 0]] rfl ga ?_; (refine (cand_Encode.calls k _ _ ([] : List (List (S75))) _ _ ([] : List (S70)) t211 t214 _ ?side1 ?side2 ?side3 ?side4 A1.out).mono ?_); (case side1 => exact Kd.C_nil _ _); (case side2 => exact Nat.le_refl _); (case side3 => exact Kd.C_nil _ _); (case side4 => exact Nat.le_refl _); rintro e w20 ⟨v212, rfl, ho0, hb⟩; refine ⟨_, rfl, ?_⟩; have n0_ := Aside0.mk (Kd.R_lower ho0 (below_size bl)); have n1_ := Aside0.mk (below_step bl hb); clear HB; have HO213 := n0_; have HB := n1_; clear n0_ n1_; (try clear hb); (try clear ho0); obtain ⟨Ao21, co21, eo21⟩ := Kd.R_slice HO213.out; subst eo21))
  go_ret
  exact ⟨fi, bl⟩
 rw [if_pos c3] at H
 obtain ⟨c3b0, c3b1⟩ := eqs c3
 clear c3
 obtain ⟨y215, hy215⟩ : ∃ y_ : List (S75), y_ = (([(⟨0, 0, (⟨0, 0⟩ : S73), false, false⟩ : S75)] : List (S75))) := ⟨_, rfl⟩
 replace H : ((cand_Behind.f k (([y215] : List (List (S75)))) (([(⟨0, (([(⟨0, 0⟩ : S73)] : List (S73)))⟩ : S70)] : List (S70))) 0 (-1) 0 0 0).bind fun t227 => (some t227)) = some r := by first | (rw [hy215]; with_reducible exact H) | (have H2_ := (Option.bind_some _ _).symm.trans H; rw [hy215]; with_reducible exact H2_) | (have H2_ := (Option.bind_some _ _).symm.trans H; with_reducible exact H2_) | with_reducible exact H | (rw [hy215]; exact H) | exact H
 have Ny215 := Aside0.mk hy215
 clear hy215
 obtain ⟨y218, hy218⟩ : ∃ y_ : List (List (S75)), y_ = (([y215] : List (List (S75)))) := ⟨_, rfl⟩
 replace H : ((cand_Behind.f k y218 (([(⟨0, (([(⟨0, 0⟩ : S73)] : List (S73)))⟩ : S70)] : List (S70))) 0 (-1) 0 0 0).bind fun t227 => (some t227)) = some r := by first | (rw [hy218]; with_reducible exact H) | (have H2_ := (Option.bind_some _ _).symm.trans H; rw [hy218]; with_reducible exact H2_) | (have H2_ := (Option.bind_some _ _).symm.trans H; with_reducible exact H2_) | with_reducible exact H | (rw [hy218]; exact H) | exact H
 have Ny218 := Aside0.mk hy218
 clear hy218
 obtain ⟨y221, hy221⟩ : ∃ y_ : List (S73), y_ = (([(⟨0, 0⟩ : S73)] : List (S73))) := ⟨_, rfl⟩
 replace H : ((cand_Behind.f k y218 (([(⟨0, y221⟩ : S70)] : List (S70))) 0 (-1) 0 0 0).bind fun t227 => (some t227)) = some r := by first | (rw [hy221]; with_reducible exact H) | (have H2_ := (Option.bind_some _ _).symm.trans H; rw [hy221]; with_reducible exact H2_) | (have H2_ := (Option.bind_some _ _).symm.trans H; with_reducible exact H2_) | with_reducible exact H | (rw [hy221]; exact H) | exact H
 have Ny221 := Aside0.mk hy221
 clear hy221
 obtain ⟨y224, hy224⟩ : ∃ y_ : List (S70), y_ = (([(⟨0, y221⟩ : S70)] : List (S70))) := ⟨_, rfl⟩
 replace H : ((cand_Behind.f k y218 y224 0 (-1) 0 0 0).bind fun t227 => (some t227)) = some r := by first | (rw [hy224]; with_reducible exact H) | (have H2_ := (Option.bind_some _ _).symm.trans H; rw [hy224]; with_reducible exact H2_) | (have H2_ := (Option.bind_some _ _).symm.trans H; with_reducible exact H2_) | with_reducible exact H | (rw [hy224]; exact H) | exact H
 have Ny224 := Aside0.mk hy224
 clear hy224
 replace H := be H
 obtain ⟨t227, A4, H⟩ := H
 obtain rfl := Option.some.inj H
 go_enter Try.func18, Try.ntmps18
 go_wp2_with (first | ((with_reducible refine gate_callee (f := 23) rfl ?_); refine goesL_ (some 5) rfl rfl Try.func23 (by kernel_rfl) rfl #[.agg #[.slice none 0 0, .slice none 0 0]] rfl ga ?_; (refine (cand_Encode.calls k _ _ ([] : List (List (S75))) _ _ ([] : List (S70)) t211 t214 _ ?side1 ?side2 ?side3 ?side4 A1.out).mono ?_); (case side1 => exact Kd.C_nil _ _); (case side2 => exact Nat.le_refl _); (case side3 => exact Kd.C_nil _ _); (case side4 => exact Nat.le_refl _); rintro e w5 ⟨v212, rfl, ho0, hb⟩; refine ⟨_, rfl, ?_⟩; have n0_ := Aside0.mk (Kd.R_lower ho0 (below_size bl)); have n1_ := Aside0.mk (below_step bl hb); clear HB; have HO213 := n0_; have HB := n1_; clear n0_ n1_; (try clear hb); (try clear ho0); obtain ⟨Ao6, co6, eo6⟩ := Kd.R_slice HO213.out; subst eo6) | ((with_reducible refine gate_dst (N := 17) rfl ?_); (try (refine gate_guard (by rfl) ?_; dsimp only)); refine Kd.R_lit k75 _ 75 ?hg (N := 17) ?hd (xs := ([(⟨0, 0, (⟨0, 0⟩ : S73), false, false⟩ : S75)] : List (S75))) (inner := [.int .i64 0, .int .i64 0, .int .i64 0, .int .i64 0, .bool false, .bool false]) (ok := fun _ => True) (okp := fun _ => True) ?hr ?hp (fun _ hk => hk) trivial (Below.refl _ _) (Nat.le_refl _) (by simp) ?_; (case hd => rfl); (case hg => rfl); (case hr => first | (go_simp; done) | (go_simp; rfl)); (case hp => exact (Reps.c6 (show Kd.M k75 _ _ _ (⟨0, 0, (⟨0, 0⟩ : S73), false, false⟩ : S75) [.int .i64 0, .int .i64 0, .int .i64 0, .int .i64 0, .bool false, .bool false] from (k75_mkM _ _ _ (⟨0, 0, (⟨0, 0⟩ : S73), false, false⟩ : S75) )) (Reps.none _ _))); intro v216 w7 ho8 hb hg_ hnew_; clear hg_ hnew_; (first | rw [← Ny215.out] at ho8 | (simp only [Int.reduceToNat] at ho8; rw [← Ny215.out] at ho8)); have n0_ := Aside0.mk (Kd.R_below (by (with_reducible repeat (first | apply Kd.R_alloc | apply Kd.R_drewN | apply Kd.R_drew)); exact HO213.out) hb); have n1_ := Aside0.mk (Kd.R_lower ho8 (below_size bl)); have n2_ := Aside0.mk (below_step bl hb); clear HO213; clear HB; have HO213 := n0_; have HO217 := n1_; have HB := n2_; clear n0_ n1_ n2_; clear hb ho8; obtain ⟨Ao9, co9, eo9⟩ := Kd.R_slice HO217.out; subst eo9) | ((with_reducible refine gate_dst (N := 18) rfl ?_); (try (refine gate_guard (by rfl) ?_; dsimp only)); refine Kd.N_lit (Kd.slice 75 k75) _ 67 ?hg (N' := 18) ?hd (xs := ([y215] : List (List (S75)))) (inner := [.slice Ao9 y215.length co9]) (ok := (fun k_ => some k_ ≠ (.slice Ao6 t211.length co6 : Value).ownBlock)) (okp := (fun k_ => some k_ ≠ (.slice Ao6 t211.length co6 : Value).ownBlock)) ?hr ?hp (fun _ hk => hk) ((show ∀ k_, w7.heap.size ≤ k_ → (fun k_ => some k_ ≠ (.slice Ao6 t211.length co6 : Value).ownBlock) k_ from fun k_ hk => Kd.fresh' (Kd.R_lt (by (with_reducible repeat (first | apply Kd.R_alloc | apply Kd.R_drewN | apply Kd.R_drew)); exact HO213.out)) k_ hk) _ (Nat.le_refl _)) (Below.refl _ _) (Nat.le_refl _) (by simp) ?_; (case hd => rfl); (case hg => rfl); (case hr => first | (go_simp; done) | (go_simp; rfl)); (case hp => exact (Reps.one (show Kd.FK (Kd.slice 75 k75) _ _ y215 [.slice Ao9 y215.length co9] from (Kd.FK_slice_mk (Kd.R_reads' (Kd.R_mono (ok' := (fun k_ => some k_ ≠ (.slice Ao6 t211.length co6 : Value).ownBlock)) (Kd.R_apart' (HO217.out) (Kd.R_typed HO213.out) (by decide)) (fun k_ hk => hk.2))).2.1 (Kd.R_F (Kd.R_mono (ok' := (fun k_ => some k_ ≠ (.slice Ao6 t211.length co6 : Value).ownBlock)) (Kd.R_apart' (HO217.out) (Kd.R_typed HO213.out) (by decide)) (fun k_ hk => hk.2))))) (Reps.none _ _))); intro v219 w10 ho11 hb hg_ hnew_; clear hg_ hnew_; (first | rw [← Ny218.out] at ho11 | (simp only [Int.reduceToNat] at ho11; rw [← Ny218.out] at ho11)); have n0_ := Aside0.mk (Kd.R_below (by (with_reducible repeat (first | apply Kd.R_alloc | apply Kd.R_drewN | apply Kd.R_drew)); exact HO213.out) hb); have n1_ := Aside0.mk (Kd.N_lower ho11 (below_size bl)); have n2_ := Aside0.mk (below_step bl hb); clear HO213; clear HB; clear HO217; have HO213 := n0_; have HO220 := n1_; have HB := n2_; clear n0_ n1_ n2_; clear hb ho11) | ((with_reducible refine gate_dst (N := 20) rfl ?_); (try (refine gate_guard (by rfl) ?_; dsimp only)); refine Kd.R_lit k73 _ 73 ?hg (N := 20) ?hd (xs := ([(⟨0, 0⟩ : S73)] : List (S73))) (inner := [.int .i64 0, .int .i64 0]) (ok := fun _ => True) (okp := fun _ => True) ?hr ?hp (fun _ hk => hk) trivial (Below.refl _ _) (Nat.le_refl _) (by simp) ?_; (case hd => rfl); (case hg => rfl); (case hr => first | (go_simp; done) | (go_simp; rfl)); (case hp => exact (Reps.c2 (show Kd.M k73 _ _ _ (⟨0, 0⟩ : S73) [.int .i64 0, .int .i64 0] from (k73_mkM _ _ _ (⟨0, 0⟩ : S73) )) (Reps.none _ _))); intro v222 w12 ho13 hb hg_ hnew_; clear hg_ hnew_; (first | rw [← Ny221.out] at ho13 | (simp only [Int.reduceToNat] at ho13; rw [← Ny221.out] at ho13)); have n0_ := Aside0.mk (Kd.R_below (by (with_reducible repeat (first | apply Kd.R_alloc | apply Kd.R_drewN | apply Kd.R_drew)); exact HO213.out) hb); have n1_ := Aside0.mk (Kd.N_elder' (by (with_reducible repeat (first | apply Kd.N_alloc | apply Kd.N_drewN | apply Kd.N_drew)); exact HO220.out) (Kd.R_base ho13) hb); have n2_ := Aside0.mk (Kd.R_lower ho13 (below_size bl)); have n3_ := Aside0.mk (below_step bl hb); clear HO213; clear HO220; clear HB; have HO213 := n0_; have HO220 := n1_; have HO223 := n2_; have HB := n3_; clear n0_ n1_ n2_ n3_; clear hb ho13; obtain ⟨Ao14, co14, eo14⟩ := Kd.R_slice HO223.out; subst eo14) | ((with_reducible refine gate_dst (N := 22) rfl ?_); (try (refine gate_guard (by rfl) ?_; dsimp only)); refine Kd.N_lit k70 _ 70 ?hg (N' := 22) ?hd (xs := ([(⟨0, y221⟩ : S70)] : List (S70))) (inner := [.int .i64 0, .slice Ao14 y221.length co14]) (ok := (fun k_ => some k_ ≠ (.slice Ao6 t211.length co6 : Value).ownBlock ∧ some k_ ≠ (v219 : Value).ownBlock)) (okp := (fun k_ => some k_ ≠ (.slice Ao6 t211.length co6 : Value).ownBlock ∧ some k_ ≠ (v219 : Value).ownBlock)) ?hr ?hp (fun _ hk => hk) ((show ∀ k_, w12.heap.size ≤ k_ → (fun k_ => some k_ ≠ (.slice Ao6 t211.length co6 : Value).ownBlock ∧ some k_ ≠ (v219 : Value).ownBlock) k_ from fun k_ hk => ⟨Kd.fresh' (Kd.R_lt (by (with_reducible repeat (first | apply Kd.R_alloc | apply Kd.R_drewN | apply Kd.R_drew)); exact HO213.out)) k_ hk, Kd.fresh' (Kd.N_lt (by (with_reducible repeat (first | apply Kd.N_alloc | apply Kd.N_drewN | apply Kd.N_drew)); exact HO220.out)) k_ hk⟩) _ (Nat.le_refl _)) (Below.refl _ _) (Nat.le_refl _) (by simp) ?_; (case hd => rfl); (case hg => rfl); (case hr => first | (go_simp; done) | (go_simp; rfl)); (case hp => exact (Reps.c2 (show Kd.FK k70 _ _ (⟨0, y221⟩ : S70) [.int .i64 0, .slice Ao14 y221.length co14] from (k70_mkF _ _ (⟨0, y221⟩ : S70) (Kd.R_reads' (Kd.R_mono (ok' := (fun k_ => some k_ ≠ (.slice Ao6 t211.length co6 : Value).ownBlock ∧ some k_ ≠ (v219 : Value).ownBlock)) (Kd.R_apart' (Kd.R_apart' (HO223.out) (Kd.R_typed HO213.out) (by decide)) (Kd.N_typed HO220.out) (by decide)) (fun k_ hk => ⟨hk.1.2, hk.2⟩))).2.1 (Kd.R_F (Kd.R_mono (ok' := (fun k_ => some k_ ≠ (.slice Ao6 t211.length co6 : Value).ownBlock ∧ some k_ ≠ (v219 : Value).ownBlock)) (Kd.R_apart' (Kd.R_apart' (HO223.out) (Kd.R_typed HO213.out) (by decide)) (Kd.N_typed HO220.out) (by decide)) (fun k_ hk => ⟨hk.1.2, hk.2⟩))))) (Reps.none _ _))); intro v225 w15 ho16 hb hg_ hnew_; clear hg_ hnew_; (first | rw [← Ny224.out] at ho16 | (simp only [Int.reduceToNat] at ho16; rw [← Ny224.out] at ho16)); have n0_ := Aside0.mk (Kd.R_below (by (with_reducible repeat (first | apply Kd.R_alloc | apply Kd.R_drewN | apply Kd.R_drew)); exact HO213.out) hb); have n1_ := Aside0.mk (Kd.N_elder' (by (with_reducible repeat (first | apply Kd.N_alloc | apply Kd.N_drewN | apply Kd.N_drew)); exact HO220.out) (Kd.N_base ho16) hb); have n2_ := Aside0.mk (Kd.N_lower ho16 (below_size bl)); have n3_ := Aside0.mk (below_step bl hb); clear HO213; clear HO220; clear HB; clear HO223; have HO213 := n0_; have HO220 := n1_; have HO226 := n2_; have HB := n3_; clear n0_ n1_ n2_ n3_; clear hb ho16; obtain ⟨Ao17, co17, eo17⟩ := Kd.N_slice HO226.out; subst eo17; obtain ⟨Ao18, co18, eo18⟩ := Kd.N_slice HO220.out; subst eo18) | (go_at_call 38; (with_reducible refine (cand_Behind.calls k _ _ y218 _ _ y224 0 (-1) 0 0 0 t227 _ ?side1 ?side2 ?side3 ?side4 A4.out).mono ?_); (case side1 => repeat (first | exact (Kd.N_reads' HO220.out).2.2 | (with_reducible refine Kd.C_alloc ?_ _) | (with_reducible refine Kd.C_drewN ?_ _) | (with_reducible refine Kd.C_drew ?_))); (case side2 => exact (Kd.N_reads' HO220.out).2.1); (case side3 => repeat (first | exact (Kd.N_reads' HO226.out).2.2 | (with_reducible refine Kd.C_alloc ?_ _) | (with_reducible refine Kd.C_drewN ?_ _) | (with_reducible refine Kd.C_drew ?_))); (case side4 => exact (Kd.N_reads' HO226.out).2.1); rintro e w19 ⟨rfl, hb⟩; have n0_ := Aside0.mk (Kd.R_below (by (with_reducible repeat (first | apply Kd.R_alloc | apply Kd.R_drewN | apply Kd.R_drew)); exact HO213.out) hb); have n1_ := Aside0.mk (Kd.N_below (by (with_reducible repeat (first | apply Kd.N_alloc | apply Kd.N_drewN | apply Kd.N_drew)); exact HO220.out) hb); have n2_ := Aside0.mk (Kd.N_below (by (with_reducible repeat (first | apply Kd.N_alloc | apply Kd.N_drewN | apply Kd.N_drew)); exact HO226.out) hb); have n3_ := Aside0.mk (below_step bl hb); clear HO213; clear HO220; clear HO226; clear HB; have HO213 := n0_; have HO220 := n1_; have HO226 := n2_; have HB := n3_; clear n0_ n1_ n2_ n3_; (try clear hb)))
 go_ret
 exact ⟨fi, bl⟩

/-! ### spinnakerref13_Refs: function 43 -/
def spinnakerref13_Refs.l0 : Nat → List (S73) → List (S73) → Int → Option (Bool)
  | 0, _, _, _ => none
  | k + 1, x0, x1, x5 => if x5 < (x0.length : Int) then (if 0 ≤ x5 then (if x5 < (x1.length : Int) then (if (!(((rd_T73 x0 x5).f0) == ((rd_T73 x1 x5).f0)) || (!(((rd_T73 x0 x5).f1) == ((rd_T73 x1 x5).f1)))) = true then (some false) else (spinnakerref13_Refs.l0 k x0 x1 (wrap64 (x5 + 1)))) else (none)) else (none)) else (some true)
def spinnakerref13_Refs.f (k : Nat) (l0 : List (S73)) (l1 : List (S73)) : Option (Bool) := if (l0.length : Int) = (l1.length : Int) then (spinnakerref13_Refs.l0 k l0 l1 0) else (some false)
theorem spinnakerref13_Refs.mono_l : ∀ k, (∀ y0 y1 y2, LeO (spinnakerref13_Refs.l0 k y0 y1 y2) (spinnakerref13_Refs.l0 (k + 1) y0 y1 y2))
 | 0 => fun _ _ _ r h => by simp [spinnakerref13_Refs.l0] at h
 | k + 1 => by
  have ih0 := spinnakerref13_Refs.mono_l k
  ·intro y0 y1 y2
   unfold spinnakerref13_Refs.l0
   repeat' first | (with_reducible first | exact ih0 _ _ _ | exact LeO.refl _ | exact LeO.none _ | refine LeO.ite ?_ ?_ | refine LeO.bind ?_ (fun _ => ?_)) | exact ih0 _ _ _ | exact LeO.none _ | refine LeO.ite ?_ ?_ | refine LeO.bind ?_ (fun _ => ?_)
theorem spinnakerref13_Refs.mono : ∀ a0 a1 k, LeO (spinnakerref13_Refs.f k a0 a1) (spinnakerref13_Refs.f (k + 1) a0 a1) := by
 intro a0 a1 k
 have ih0 := spinnakerref13_Refs.mono_l k
 unfold spinnakerref13_Refs.f
 repeat' first | (with_reducible first | exact ih0 _ _ _ | exact LeO.refl _ | exact LeO.none _ | refine LeO.ite ?_ ?_ | refine LeO.bind ?_ (fun _ => ?_)) | exact ih0 _ _ _ | exact LeO.none _ | refine LeO.ite ?_ ?_ | refine LeO.bind ?_ (fun _ => ?_)
set_option maxHeartbeats 8000000 in
set_option maxRecDepth 100000 in
theorem spinnakerref13_Refs.calls (k : Nat) (A0 : Option Addr) (c0 : Nat) (l0 : List (S73)) (A1 : Option Addr) (c1 : Nat) (l1 : List (S73)) (r : Bool) (w : World) (hr0 : Kd.C k73 w A0 l0.length l0) (hc0 : l0.length ≤ c0) (hr1 : Kd.C k73 w A1 l1.length l1) (hc1 : l1.length ≤ c1) (h : spinnakerref13_Refs.f k l0 l1 = some r) :
  Calls Try.prog 43 #[.slice A0 l0.length c0, .slice A1 l1.length c1] w fun e w' => e = .returned (.bool r) ∧ Drawn0 w w' := by
 have hu73 := Try.underlying73
 have HR0 := Aside0.mk hr0
 have HC0 := Aside0.mk hc0
 clear hr0 hc0
 have HR1 := Aside0.mk hr1
 have HC1 := Aside0.mk hc1
 clear hr1 hc1
 have H : (if (l0.length : Int) = (l1.length : Int) then (spinnakerref13_Refs.l0 k l0 l1 0) else (some false)) = some r := h
 clear h
 by_cases c3 : (l0.length : Int) = (l1.length : Int)
 rotate_left
 ·rw [if_neg c3] at H
  have c3b0 : ((l0.length : Int) == (l1.length : Int)) = false := beq_eq_false_iff_ne.mpr c3
  have c3b1 : ((l0.length : Int) != (l1.length : Int)) = true := bne_iff_ne.mpr c3
  have c3b2 : (l0.length == l1.length) = false := by first | simpa using c3 | (simp at c3 ⊢; omega)
  obtain rfl := Option.some.inj H
  go_enter Try.func43, Try.ntmps43
  go_wp2
  repeat (go_quiet (fail); try go_wp2)
  go_ret
  exact ⟨fj, fd⟩
 rw [if_pos c3] at H
 have c3b0 : ((l0.length : Int) == (l1.length : Int)) = true := beq_iff_eq.mpr c3
 have c3b1 : ((l0.length : Int) != (l1.length : Int)) = false := bne_eq_false_iff_eq.mpr c3
 have c3b2 : (l0.length == l1.length) = true := by first | simpa using c3 | (simp at c3 ⊢; omega)
 clear c3
 have H' := Aside0.mk H
 clear H
 go_enter Try.func43, Try.ntmps43
 go_wp2
 repeat (go_quiet (fail); try go_wp2)
 go_loopg [5] k (fun kq v5 w' => ∃ (x5_1 : Int), v5 = .int .i64 x5_1 ∧ Aside0 (spinnakerref13_Refs.l0 kq l0 l1 x5_1 = some r) ∧ Aside0 (kq ≤ k) ∧ Drawn0 w w')
 case atStart => exact ⟨(0), fj, H', ⟨Nat.le_refl _⟩, fd⟩
 case round =>
  clear H'
  try clear c1
  try clear p2
  try clear c3
  try clear c3b0
  try clear c3b1
  try clear c3b2
  obtain ⟨x5_1, rfl, HA, HK1, ⟨m1, rfl⟩⟩ := hrel
  cases gk with
  | zero => exact absurd HA.out (by simp [spinnakerref13_Refs.l0])
  | succ k1 =>
   have H := HA.out
   clear HA
   simp only [spinnakerref13_Refs.l0] at H
   by_cases c4 : x5_1 < (l0.length : Int)
   rotate_left
   ·rw [if_neg c4] at H
    have c4b0 := decide_eq_false c4
    clear c4
    obtain rfl := Option.some.inj H
    go_wp2
    repeat (go_quiet (fail); try go_wp2)
    go_ret
    exact ⟨fj, fd⟩
   rw [if_pos c4] at H
   have c4b0 := decide_eq_true c4
   clear c4
   by_cases c5 : 0 ≤ x5_1
   rotate_left
   ·rw [if_neg c5] at H
    exact absurd H (by simp)
   rw [if_pos c5] at H
   have c5b0 := decide_eq_true c5
   clear c5
   by_cases c6 : x5_1 < (l1.length : Int)
   rotate_left
   ·rw [if_neg c6] at H
    exact absurd H (by simp)
   rw [if_pos c6] at H
   have c6b0 := decide_eq_true c6
   clear c6
   by_cases c7 : (!(((rd_T73 l0 x5_1).f0) == ((rd_T73 l1 x5_1).f0)) || (!(((rd_T73 l0 x5_1).f1) == ((rd_T73 l1 x5_1).f1)))) = true
   ·rw [if_pos c7] at H
    have c7b0 : (!(((rd_T73 l0 x5_1).f0) == ((rd_T73 l1 x5_1).f0)) || (!(((rd_T73 l0 x5_1).f1) == ((rd_T73 l1 x5_1).f1)))) = true := c7
    clear c7
    obtain rfl := Option.some.inj H
    have p228 : 0 ≤ (x5_1 : Int) := od
    have q228 : x5_1 < (l0.length : Int) := od
    obtain ⟨ad228, e228, hx228_0, hx228_1⟩ := at_T73 HR0.out x5_1 p228 q228
    cases e228
    replace p228 := eq_true p228
    replace q228 := eq_true q228
    have p229 : 0 ≤ (x5_1 : Int) := od
    have q229 : x5_1 < (l1.length : Int) := od
    obtain ⟨ad229, e229, hx229_0, hx229_1⟩ := at_T73 HR1.out x5_1 p229 q229
    cases e229
    replace p229 := eq_true p229
    replace q229 := eq_true q229
    go_wp2
    repeat (go_quiet (fail); try go_wp2)
    go_ret
    exact ⟨fj, fd⟩
   rw [if_neg c7] at H
   have c7b0 : (!(((rd_T73 l0 x5_1).f0) == ((rd_T73 l1 x5_1).f0)) || (!(((rd_T73 l0 x5_1).f1) == ((rd_T73 l1 x5_1).f1)))) = false := by simpa using c7
   clear c7
   have H' := Aside0.mk H
   clear H
   have p228 : 0 ≤ (x5_1 : Int) := od
   have q228 : x5_1 < (l0.length : Int) := od
   obtain ⟨ad228, e228, hx228_0, hx228_1⟩ := at_T73 HR0.out x5_1 p228 q228
   cases e228
   replace p228 := eq_true p228
   replace q228 := eq_true q228
   have p229 : 0 ≤ (x5_1 : Int) := od
   have q229 : x5_1 < (l1.length : Int) := od
   obtain ⟨ad229, e229, hx229_0, hx229_1⟩ := at_T73 HR1.out x5_1 p229 q229
   cases e229
   replace p229 := eq_true p229
   replace q229 := eq_true q229
   go_wp2
   repeat (go_quiet (fail); try go_wp2)
   go_roundg k1
   case measure => have := HK1.out; omega
   case rel => exact ⟨(wrap64 (x5_1 + 1)), fj, H', ⟨by have := HK1.out; omega⟩, fd⟩

end Go.Proofs.Ytfpphaflbmlpeaa.GCandChecks
