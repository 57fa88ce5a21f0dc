-- Written by wip/stub.py of this repo.
import Derived.Lib.SlBytesConst
import Derived.Test.YtfpphaflbmlpeaaGImageChecksx0
import Derived.Test.YtfpphaflbmlpeaaGImageChecksx1
namespace Go.Proofs.Ytfpphaflbmlpeaa.GImageChecks
open Go.RowKit Go.Proofs.YtfpphaflbmlpeaaW.PrintWords Go.Proofs.YtfpphaflbmlpeaaW.PrintLast Go.Proofs.YtfpphaflbmlpeaaW.PrintMore
attribute [local go_sem] max2_int min2_int max_two min_two max_three min_three max_four min_four   -- for this text's walks alone
set_option linter.unusedVariables false
set_option linter.unusedSimpArgs false

/-! ### image_Encode: function 11 -/
mutual
def image_Encode.l0 : Nat → List Int → List Int → Int → Int → List Int → List Int → List Int → Option (List Int × Int)
  | 0, _, _, _, _, _, _, _ => none
  | k + 1, x5, x30, x31, x32, x114000, x114001, x114002 => if x32 < x31 then (if 0 ≤ x32 then (if x32 < (x30.length : Int) then ((word_Bytes.f k ((rd x30 x32) % 4294967296)).bind fun t122 => (if x5.length + t122.length < 140737488355328 then (image_Encode.l0 k (x5 ++ t122) x30 x31 (wrap64 (x32 + 1)) x114000 x114001 x114002) else (none))) else (none)) else (none)) else (image_Encode.l1 k x5 x114000 (x114000.length : Int) 0 x114000 x114001 x114002)
def image_Encode.l1 : Nat → List Int → List Int → Int → Int → List Int → List Int → List Int → Option (List Int × Int)
  | 0, _, _, _, _, _, _, _ => none
  | k + 1, x5, x43, x44, x45, x114000, x114001, x114002 => if x45 < x44 then (if 0 ≤ x45 then (if x45 < (x43.length : Int) then ((word_Bytes.f k (rd x43 x45)).bind fun t129 => (if x5.length + t129.length < 140737488355328 then (image_Encode.l1 k (x5 ++ t129) x43 x44 (wrap64 (x45 + 1)) x114000 x114001 x114002) else (none))) else (none)) else (none)) else (image_Encode.l2 k x5 x114001 (x114001.length : Int) 0 x114000 x114001 x114002)
def image_Encode.l2 : Nat → List Int → List Int → Int → Int → List Int → List Int → List Int → Option (List Int × Int)
  | 0, _, _, _, _, _, _, _ => none
  | k + 1, x5, x55, x56, x57, x114000, x114001, x114002 => if x57 < x56 then (if 0 ≤ x57 then (if x57 < (x55.length : Int) then ((word_Long.f k (rd x55 x57)).bind fun t136 => (if x5.length + t136.length < 140737488355328 then (image_Encode.l2 k (x5 ++ t136) x55 x56 (wrap64 (x57 + 1)) x114000 x114001 x114002) else (none))) else (none)) else (none)) else (image_Encode.l3 k x5 x114002 (x114002.length : Int) 0)
def image_Encode.l3 : Nat → List Int → List Int → Int → Int → Option (List Int × Int)
  | 0, _, _, _, _ => none
  | k + 1, x5, x67, x68, x69 => if x69 < x68 then (if 0 ≤ x69 then (if x69 < (x67.length : Int) then ((word_Bytes.f k ((rd x67 x69) % 4294967296)).bind fun t143 => (if x5.length + t143.length < 140737488355328 then (image_Encode.l3 k (x5 ++ t143) x67 x68 (wrap64 (x69 + 1))) else (none))) else (none)) else (none)) else (some (x5, 0))
end
def image_Encode.f (k : Nat) (l0_0 : List Int) (l0_1 : List Int) (l0_2 : List Int) : Option (List Int × Int) := (image_Check.f k l0_0 l0_1 l0_2).bind fun t114 => (if t114 = 0 then ((some (([(l0_0.length : Int), (l0_1.length : Int), (l0_2.length : Int)] : List Int) : List Int)).bind fun y118 => (image_Encode.l0 k (([83, 80, 73, 78] : List Int)) y118 (y118.length : Int) 0 l0_0 l0_1 l0_2)) else (some (([] : List Int), t114)))
theorem image_Encode.mono_l : ∀ k, (∀ y0 y1 y2 y3 y4 y5 y6, LeO (image_Encode.l0 k y0 y1 y2 y3 y4 y5 y6) (image_Encode.l0 (k + 1) y0 y1 y2 y3 y4 y5 y6)) ∧ (∀ y0 y1 y2 y3 y4 y5 y6, LeO (image_Encode.l1 k y0 y1 y2 y3 y4 y5 y6) (image_Encode.l1 (k + 1) y0 y1 y2 y3 y4 y5 y6)) ∧ (∀ y0 y1 y2 y3 y4 y5 y6, LeO (image_Encode.l2 k y0 y1 y2 y3 y4 y5 y6) (image_Encode.l2 (k + 1) y0 y1 y2 y3 y4 y5 y6)) ∧ (∀ y0 y1 y2 y3, LeO (image_Encode.l3 k y0 y1 y2 y3) (image_Encode.l3 (k + 1) y0 y1 y2 y3))
 | 0 => ⟨fun _ _ _ _ _ _ _ r h => by simp [image_Encode.l0] at h, fun _ _ _ _ _ _ _ r h => by simp [image_Encode.l1] at h, fun _ _ _ _ _ _ _ r h => by simp [image_Encode.l2] at h, fun _ _ _ _ r h => by simp [image_Encode.l3] at h⟩
 | k + 1 => by
  obtain ⟨ih0, ih1, ih2, ih3⟩ := image_Encode.mono_l k
  refine ⟨?_, ?_, ?_, ?_⟩
  all_goals (intros; (first | unfold image_Encode.l0 | unfold image_Encode.l1 | unfold image_Encode.l2 | unfold image_Encode.l3); repeat' first | (with_reducible first | exact ih0 _ _ _ _ _ _ _ | exact ih1 _ _ _ _ _ _ _ | exact ih2 _ _ _ _ _ _ _ | exact ih3 _ _ _ _ | exact image_Check.mono _ _ _ _ | exact word_Bytes.mono _ _ | exact word_Long.mono _ _ | exact LeO.refl _ | exact LeO.none _ | refine LeO.ite ?_ ?_ | refine LeO.bind ?_ (fun _ => ?_)) | exact ih0 _ _ _ _ _ _ _ | exact ih1 _ _ _ _ _ _ _ | exact ih2 _ _ _ _ _ _ _ | exact ih3 _ _ _ _ | exact image_Check.mono _ _ _ _ | exact word_Bytes.mono _ _ | exact word_Long.mono _ _ | exact LeO.none _ | refine LeO.ite ?_ ?_ | refine LeO.bind ?_ (fun _ => ?_))
theorem image_Encode.mono : ∀ a0 a1 a2 k, LeO (image_Encode.f k a0 a1 a2) (image_Encode.f (k + 1) a0 a1 a2) := by
 intro a0 a1 a2 k
 obtain ⟨ih0, ih1, ih2, ih3⟩ := image_Encode.mono_l k
 unfold image_Encode.f
 repeat' first | (with_reducible first | exact ih0 _ _ _ _ _ _ _ | exact ih1 _ _ _ _ _ _ _ | exact ih2 _ _ _ _ _ _ _ | exact ih3 _ _ _ _ | exact image_Check.mono _ _ _ _ | exact word_Bytes.mono _ _ | exact word_Long.mono _ _ | exact LeO.refl _ | exact LeO.none _ | refine LeO.ite ?_ ?_ | refine LeO.bind ?_ (fun _ => ?_)) | exact ih0 _ _ _ _ _ _ _ | exact ih1 _ _ _ _ _ _ _ | exact ih2 _ _ _ _ _ _ _ | exact ih3 _ _ _ _ | exact image_Check.mono _ _ _ _ | exact word_Bytes.mono _ _ | exact word_Long.mono _ _ | exact LeO.none _ | refine LeO.ite ?_ ?_ | refine LeO.bind ?_ (fun _ => ?_)
/-- A literal that a conversion to its own type marks behind its end. -/
theorem lit_conv {P : Program} {ops : Array Oper} {rest : List Oper} {o o2 : Oper} {a : Act} {Q : Exit → Act → World → Prop} {W : World} (hgd : o.guard = none) {N : Tmp} (_hd : o.dst = some N) (hgd2 : o2.guard = none) (t e : TypeId)
  (ho2 : o2.op = .convert t t (.tmp N)) (ht : P.underlying t = some (.slice e)) (he : P.underlying e = some (.int .u8)) (xs : List Int)
  (hev : ∀ g, (a.put o.dst (.slice (some ⟨g, 0, none⟩) xs.length xs.length)).eval (.tmp N) = .slice (some ⟨g, 0, none⟩) xs.length xs.length)
  (hrun : (execOp a.eval o).run P W = .ok (.value (.slice (some ⟨W.heap.size, 0, none⟩) xs.length xs.length)) (W.alloc (.cells (nums .u8 xs).toArray e)))
  (h : ∀ g, g = W.heap.size → ∀ w1, w1.heap[g]? = some (.cells (nums .u8 xs).toArray e (xs.length, xs.length + 1)) → Below W.heap.size W w1 →
   wpList P ops Q rest ((a.put o.dst (.slice (some ⟨g, 0, none⟩) xs.length xs.length)).put o2.dst (.slice (some ⟨g, 0, none⟩) xs.length xs.length)) w1) : wpList P ops Q (o :: o2 :: rest) a W := by
 have hz : (nums .u8 xs).toArray.size = xs.length := by simp [nums]
 have hc := Lib.run_convert_bytes_const (P := P) W t e (nums .u8 xs).toArray xs.length xs.length ht he
 rw [hz] at hc
 refine Kd.event_run hgd hrun (Kd.event_run hgd2 ?_ (h _ rfl _ (blk_new W _) (below_alloc (Below.refl _ _) _)))
 unfold execOp
 simp [ho2, hev, hc, Result.andThen]
theorem app_marked {P : Program} {ops : Array Oper} {rest : List Oper} {o : Oper} {a : Act} {Q : Exit → Act → World → Prop} {w0 W : World} (base : Nat) (hgd : o.guard = none) (s x : Operand) (t e : TypeId)
  (ho : o.op = .call { callee := .builtin .append, args := #[s, x], argTypes := #[t, t] }) (ht : P.underlying t = some (.slice e)) (hinfo : (P.info? e).map (fun i => (i.zero, i.size, i.bytes)) = some (some (.int .u8 0), 1, 1))
  (g : Nat) (xs ys : List Int) (fr : Nat × Nat) (hg : W.heap[g]? = some (.cells (nums .u8 xs).toArray e fr)) (A : Option Addr) (m c : Nat) (hs : a.eval s = .slice (some ⟨g, 0, none⟩) xs.length xs.length) (hx : a.eval x = .slice A m c)
  (HR : Kd.C (Kd.int .u8) W A m ys) (h0 : 0 < ys.length) (HB : Below base w0 W) (hbase : base ≤ W.heap.size) (hl : xs.length + ys.length ≤ 140737488355328)
  (h : ∀ v1 w1, Kd.R (Kd.int .u8) e w1 base (fun _ => True) v1 (xs ++ ys) → Below base w0 w1 → W.grownBy w1 none → wpList P ops Q rest (a.put o.dst v1) w1) : wpList P ops Q (o :: rest) a W := by
 obtain ⟨i0, hi, hzz⟩ := Option.map_eq_some_iff.1 hinfo
 simp only [Prod.mk.injEq] at hzz
 obtain ⟨hz0, hz1, hz2⟩ := hzz
 have hR : ReadsInt W .u8 A m ys := Kd.reads_of_C (d := (0 : Int)) HR
 have hm : ys.length = m := hR.1
 obtain ⟨ad, rfl, hc⟩ := hR.2.2 (by omega)
 refine wpList_append_grows W hgd s x t ho e i0 (.int .u8 0) 1 1 ht hi hz0 hz1 hz2 rfl (by decide) (some ⟨g, 0, none⟩) xs.length xs.length (nums .u8 xs) hs (fun hn => by cases hn) (by simp [nums]) (fun b hb j u hu => ?_) ad m c (nums .u8 ys) hx (by simp [nums, hm]) (fun j u hu => ?_)
  (by intro u hu; simp only [nums, List.mem_map] at hu; obtain ⟨q, _, rfl⟩ := hu; rfl) (by omega) (by simp only [maxLen]; omega) (by omega) (fun v1 w1 hown hg1 => ?_)
 ·injection hb with hb
  subst hb
  unfold World.cell?
  have ha : (⟨g, 0, none⟩ : Addr).add j = ⟨g, 0 + j, none⟩ := by unfold Addr.add; split <;> simp_all
  rw [ha]
  simp only [hg]
  simpa using hu
 ·have hj : j < ys.length := by
   rcases Nat.lt_or_ge j ys.length with h | h
   ·exact h
   ·simp [nums, List.getElem?_eq_none h] at hu
  have := hc j (by omega)
  simp [nums, List.getElem?_eq_getElem hj] at hu
  subst hu
  rw [this]
  simp [List.getD_eq_getElem?_getD, List.getElem?_eq_getElem hj]
 ·refine h v1 w1 (Kd.R_of_own (own_weaken ?_ hbase) (fun _ _ => trivial)) (HB.grown hg1 hbase (fun k hk => by cases hk)) hg1
  have e1 : encs (Value.int .u8) (xs ++ ys) = nums .u8 xs ++ nums .u8 ys := by simp [encs, nums]
  rw [e1, List.length_append, hm]
  exact hown
/-- A row of the call's own, or the marked literal at the beginning. -/
def RM (e : TypeId) (w : World) (base : Nat) (x : Int) (v : Value) (l : List Int) : Prop :=
  Kd.R (Kd.int .u8) e w base (fun _ => True) v l ∨ (x = 0 ∧ l = [83, 80, 73, 78] ∧ ∃ g, v = .slice (some ⟨g, 0, none⟩) 4 4 ∧ base ≤ g ∧ w.heap[g]? = some (.cells (nums .u8 [83, 80, 73, 78]).toArray e (4, 5)))
theorem RM.last {e : TypeId} {w : World} {base : Nat} {x : Int} {v : Value} {l y : List Int} {a b c : Int} (h : RM e w base x v l) (hx : ¬ x < (y.length : Int)) (hy : y = [a, b, c]) : Kd.R (Kd.int .u8) e w base (fun _ => True) v l := by
 rcases h with h | ⟨h, _⟩
 ·exact h
 ·subst hy; subst h; exact absurd (show (0 : Int) < (([a, b, c] : List Int).length : Int) by simp) hx
theorem split_len : ∀ (k : Nat) (v n i : Int) (l r : List Int), word_split.l0 k v l n i = some r → l.length ≤ r.length := by
 intro k
 induction k with
 | zero => intro v n i l r h; simp [word_split.l0] at h
 | succ k ih =>
  intro v n i l r h
  simp only [word_split.l0] at h
  by_cases c : i < n
  ·rw [if_pos c] at h
   by_cases c2 : 0 ≤ wrap64 (8 * i)
   ·rw [if_pos c2] at h
    by_cases c3 : l.length < 140737488355328
    ·rw [if_pos c3] at h
     have := ih _ _ _ _ _ h
     rw [List.length_append] at this
     omega
    ·rw [if_neg c3] at h; cases h
   ·rw [if_neg c2] at h; cases h
  ·rw [if_neg c] at h; cases h; exact Nat.le_refl _
theorem bytes_pos {k : Nat} {v : Int} {r : List Int} (h : word_Bytes.f k v = some r) : 0 < r.length := by
 unfold word_Bytes.f at h
 obtain ⟨t, ht, e⟩ := Option.bind_eq_some_iff.mp h
 cases e
 unfold word_split.f at ht
 cases k with
 | zero => simp [word_split.l0] at ht
 | succ k =>
  simp only [word_split.l0] at ht
  rw [if_pos (by decide), if_pos (by unfold wrap64; decide), if_pos (by decide)] at ht
  have := split_len _ _ _ _ _ _ ht
  rw [List.length_append] at this
  exact Nat.lt_of_lt_of_le (Nat.zero_lt_one) (Nat.le_trans (Nat.le_add_left 1 _) this)
set_option maxHeartbeats 8000000 in
set_option maxRecDepth 100000 in
theorem image_Encode.calls (k : Nat) (A0_0 : Option Addr) (c0_0 : Nat) (l0_0 : List Int) (A0_1 : Option Addr) (c0_1 : Nat) (l0_1 : List Int) (A0_2 : Option Addr) (c0_2 : Nat) (l0_2 : List Int) (r1 : List Int) (r2 : Int) (w : World) (hr0_0 : Kd.C (Kd.int .u32) w A0_0 l0_0.length l0_0) (hc0_0 : l0_0.length ≤ c0_0) (hr0_1 : Kd.C (Kd.int .i64) w A0_1 l0_1.length l0_1) (hc0_1 : l0_1.length ≤ c0_1) (hr0_2 : Kd.C (Kd.int .i64) w A0_2 l0_2.length l0_2) (hc0_2 : l0_2.length ≤ c0_2) (h : image_Encode.f k l0_0 l0_1 l0_2 = some (r1, r2)) :
  Calls Try.prog 11 #[.agg #[.slice A0_0 l0_0.length c0_0, .slice A0_1 l0_1.length c0_1, .slice A0_2 l0_2.length c0_2]] w fun e w' => ∃ v0_ : Value, e = .returned (.tuple #[v0_, .int .i64 r2]) ∧ Kd.R (Kd.int .u8) 5 w' w.heap.size (fun _ => True) v0_ r1 ∧ Below w.heap.size w w' := by
 have hu25 := Try.underlying25
 have HR0_0 := Aside0.mk hr0_0
 have HC0_0 := Aside0.mk hc0_0
 clear hr0_0 hc0_0
 have HR0_1 := Aside0.mk hr0_1
 have HC0_1 := Aside0.mk hc0_1
 clear hr0_1 hc0_1
 have HR0_2 := Aside0.mk hr0_2
 have HC0_2 := Aside0.mk hc0_2
 clear hr0_2 hc0_2
 have HB := Aside0.mk (Below.refl w.heap.size w)
 have H : ((image_Check.f k l0_0 l0_1 l0_2).bind fun t114 => (if t114 = 0 then ((some (([(l0_0.length : Int), (l0_1.length : Int), (l0_2.length : Int)] : List Int) : List Int)).bind fun y118 => (image_Encode.l0 k (([83, 80, 73, 78] : List Int)) y118 (y118.length : Int) 0 l0_0 l0_1 l0_2)) else (some (([] : List Int), t114)))) = some (r1, r2) := h
 clear h
 replace H := be H
 obtain ⟨t114, A2, H⟩ := H
 by_cases c3 : t114 = 0
 ·rw [if_pos c3] at H
  obtain ⟨c3b0, c3b1⟩ := eqs c3
  clear c3
  obtain ⟨y115, hy115⟩ : ∃ y_ : List Int, y_ = (([83, 80, 73, 78] : List Int)) := ⟨_, rfl⟩
  replace H : ((some (([(l0_0.length : Int), (l0_1.length : Int), (l0_2.length : Int)] : List Int) : List Int)).bind fun y118 => (image_Encode.l0 k y115 y118 (y118.length : Int) 0 l0_0 l0_1 l0_2)) = some (r1, r2) := by first | (rw [hy115]; with_reducible exact H) | (have H2_ := (Option.bind_some _ _).symm.trans H; rw [hy115]; with_reducible exact H2_) | (have H2_ := (Option.bind_some _ _).symm.trans H; with_reducible exact H2_) | with_reducible exact H | (rw [hy115]; exact H) | exact H
  have Ny115 := Aside0.mk hy115
  clear hy115
  obtain ⟨y118, hy118⟩ : ∃ y_ : List Int, y_ = (([(l0_0.length : Int), (l0_1.length : Int), (l0_2.length : Int)] : List Int)) := ⟨_, rfl⟩
  replace H : (image_Encode.l0 k y115 y118 (y118.length : Int) 0 l0_0 l0_1 l0_2) = some (r1, r2) := by first | (rw [hy118]; with_reducible exact H) | (have H2_ := (Option.bind_some _ _).symm.trans H; rw [hy118]; with_reducible exact H2_) | (have H2_ := (Option.bind_some _ _).symm.trans H; with_reducible exact H2_) | with_reducible exact H | (rw [hy118]; exact H) | exact H
  have Ny118 := Aside0.mk hy118
  clear hy118
  have H' := Aside0.mk H
  clear H
  go_enter Try.func11, Try.ntmps11
  go_wp2_with (first | ((with_reducible refine gate_dst (N := 1) rfl ?_); refine box_event ?hg (N := 1) ?hd (cs := #[.slice A0_0 l0_0.length c0_0, .slice A0_1 l0_1.length c0_1, .slice A0_2 l0_2.length c0_2]) (t := 25) ?hr ?_; (case hd => rfl); (case hg => rfl); (case hr => first | (go_simp; done) | (go_simp; rfl)); intro gb113 hg w4 hbox hb; obtain ⟨n0_, GW113⟩ := nb (w := w) hg hb; clear HB; have HB := n0_; have BK113 := Aside0.mk hbox; have GE113 := GW113; clear n0_ hb hbox hg; obtain ⟨hcz5_0, hcz5_1, hcz5_2, hfz5_0, hfz5_1, hfz5_2⟩ := cz3 (w := w4) BK113.out) | ((with_reducible refine gate_callee (f := 12) rfl ?_); refine goesL_ (some 15) rfl rfl Try.func12 (by kernel_rfl) rfl #[.agg #[.slice A0_0 l0_0.length c0_0, .slice A0_1 l0_1.length c0_1, .slice A0_2 l0_2.length c0_2]] rfl ga ?_; (with_reducible refine (image_Check.calls k _ _ l0_0 _ _ l0_1 _ _ l0_2 t114 _ ?side1 ?side2 ?side3 ?side4 ?side5 ?side6 A2.out).mono ?_); (case side1 => repeat (first | exact (Kd.C_below HR0_0.out HB.out) | (with_reducible refine Kd.C_alloc ?_ _) | (with_reducible refine Kd.C_drewN ?_ _) | (with_reducible refine Kd.C_drew ?_))); (case side2 => exact HC0_0.out); (case side3 => repeat (first | exact (Kd.C_below HR0_1.out HB.out) | (with_reducible refine Kd.C_alloc ?_ _) | (with_reducible refine Kd.C_drewN ?_ _) | (with_reducible refine Kd.C_drew ?_))); (case side4 => exact HC0_1.out); (case side5 => repeat (first | exact (Kd.C_below HR0_2.out HB.out) | (with_reducible refine Kd.C_alloc ?_ _) | (with_reducible refine Kd.C_drewN ?_ _) | (with_reducible refine Kd.C_drew ?_))); (case side6 => exact HC0_2.out); rintro e w6 ⟨rfl, hb⟩; refine ⟨_, rfl, ?_⟩; have n0_ := Aside0.mk (blk_below (g := gb113) (o := .cells #[.slice A0_0 l0_0.length c0_0, .slice A0_1 l0_1.length c0_1, .slice A0_2 l0_2.length c0_2] 25 (0, 0)) (bk BK113.out) hb); have n1_ := Aside0.mk (below_step bl hb); clear BK113; clear HB; have BK113 := n0_; have HB := n1_; clear n0_ n1_; (try clear hb)) | ((with_reducible refine gate_dst (N := 19) rfl ?_); refine lit_conv ?hg (N := 19) ?hd ?hg2 30 5 ?ho2 Try.underlying30 Try.underlying5 ([83, 80, 73, 78] : List Int) ?hev ?hr ?_; (case hd => rfl); (case hg => rfl); (case hg2 => rfl); (case ho2 => rfl); (case hev => intro g_; first | rfl | (go_simp; done) | (go_simp; rfl)); (case hr => first | (go_simp; done) | (go_simp; rfl)); intro gm hgm w7 hbm hb; have n0_ := Aside0.mk hbm; have GM := Aside0.mk ((by rw [hgm]; exact (below_size bl) : w.heap.size ≤ gm)); have n1_ := Aside0.mk (blk_below (g := gb113) (o := .cells #[.slice A0_0 l0_0.length c0_0, .slice A0_1 l0_1.length c0_1, .slice A0_2 l0_2.length c0_2] 25 (0, 0)) (bk BK113.out) hb); have n2_ := Aside0.mk (below_step bl hb); clear BK113; clear HB; have BKM := n0_; have BK113 := n1_; have HB := n2_; clear n0_ n1_ n2_; clear hb hbm hgm; obtain ⟨hcz9_0, hcz9_1, hcz9_2, hfz9_0, hfz9_1, hfz9_2⟩ := cz3 (w := w7) BK113.out) | ((with_reducible refine gate_dst (N := 30) rfl ?_); refine Kd.R_lit (Kd.int .i64) _ 3 ?hg (N := 30) ?hd (xs := ([(l0_0.length : Int), (l0_1.length : Int), (l0_2.length : Int)] : List Int)) (inner := [.int .i64 (l0_0.length : Int), .int .i64 (l0_1.length : Int), .int .i64 (l0_2.length : Int)]) (ok := fun _ => True) (okp := fun _ => True) ?hr ?hp (fun _ hk => hk) trivial (Below.refl _ _) (Nat.le_refl _) (by simp) ?_; (case hd => rfl); (case hg => rfl); (case hr => first | (go_simp; done) | (go_simp; rfl)); (case hp => exact (Reps.one (show Kd.M (Kd.int .i64) _ _ _ (l0_0.length : Int) [.int .i64 (l0_0.length : Int)] from rfl) (Reps.one (show Kd.M (Kd.int .i64) _ _ _ (l0_1.length : Int) [.int .i64 (l0_1.length : Int)] from rfl) (Reps.one (show Kd.M (Kd.int .i64) _ _ _ (l0_2.length : Int) [.int .i64 (l0_2.length : Int)] from rfl) (Reps.none _ _))))); intro v119 w10 ho11 hb hg_ hnew_; clear hg_ hnew_; (first | rw [← Ny118.out] at ho11 | (simp only [Int.reduceToNat] at ho11; rw [← Ny118.out] at ho11)); have n0_ := Aside0.mk (blk_below (g := gm) (o := .cells (nums .u8 [83, 80, 73, 78]).toArray 5 (4, 5)) (bk BKM.out) hb); have n1_ := Aside0.mk (Kd.R_lower ho11 (below_size bl)); have n2_ := Aside0.mk (blk_below (g := gb113) (o := .cells #[.slice A0_0 l0_0.length c0_0, .slice A0_1 l0_1.length c0_1, .slice A0_2 l0_2.length c0_2] 25 (0, 0)) (bk BK113.out) hb); have n3_ := Aside0.mk (below_step bl hb); clear BKM; clear BK113; clear HB; have BKM := n0_; have HO120 := n1_; have BK113 := n2_; have HB := n3_; clear n0_ n1_ n2_ n3_; clear hb ho11; obtain ⟨Ao12, co12, eo12⟩ := Kd.R_slice HO120.out; subst eo12))
  go_loopg [5, 32] k (fun kq v5 v32 w' => ∃ (x5_1 : List Int) (x32_1 : Int), v32 = .int .i64 x32_1 ∧ Aside0 (image_Encode.l0 kq x5_1 y118 (y118.length : Int) x32_1 l0_0 l0_1 l0_2 = some (r1, r2)) ∧ Aside0 (kq ≤ k) ∧ Aside0 (RM 5 w' w.heap.size x32_1 v5 x5_1) ∧ Aside0 (Kd.R (Kd.int .i64) 3 w' w.heap.size (fun _ => True) (.slice Ao12 y118.length co12) y118) ∧ Aside0 (w'.heap[gb113]? = some (.cells #[(.slice A0_0 l0_0.length c0_0), (.slice A0_1 l0_1.length c0_1), (.slice A0_2 l0_2.length c0_2)] 25 (0, 0))) ∧ Aside0 (Below w.heap.size w w'))
  case atStart => exact ⟨(y115), (0), fj, H', ⟨Nat.le_refl _⟩, ⟨.inr ⟨rfl, Ny115.out, gm, rfl, GM.out, by refine bx ?_; exact BKM.out⟩⟩, ⟨by (with_reducible repeat (first | apply Kd.R_alloc | apply Kd.R_drewN | apply Kd.R_drew)); exact HO120.out⟩, ⟨by refine bx ?_; exact BK113.out⟩, ⟨bl⟩⟩
  case round =>
   clear H'
   try clear c1
   try clear p2
   try clear c3
   try clear c3b0
   try clear c3b1
   try clear c11
   try clear c12
   try clear hcz5_0 hcz5_1 hcz5_2
   try clear hcz9_0 hcz9_1 hcz9_2
   try clear hfz5_0 hfz5_1 hfz5_2
   try clear hfz9_0 hfz9_1 hfz9_2
   obtain ⟨x5_1, x32_1, rfl, HA, HK1, HO_5, HO_30, BK113, HB⟩ := hrel
   cases gk with
   | zero => exact absurd HA.out (by simp [image_Encode.l0])
   | succ k1 =>
    have H := HA.out
    clear HA
    simp only [image_Encode.l0] at H
    by_cases c13 : x32_1 < (y118.length : Int)
    ·rw [if_pos c13] at H
     have c13b0 := decide_eq_true c13
     clear c13
     by_cases c14 : 0 ≤ x32_1
     ·rw [if_pos c14] at H
      have c14b0 := decide_eq_true c14
      clear c14
      by_cases c15 : x32_1 < (y118.length : Int)
      ·rw [if_pos c15] at H
       have c15b0 := decide_eq_true c15
       clear c15
       replace H := be H
       obtain ⟨t122, A16, H⟩ := H
       by_cases c17 : x5_1.length + t122.length < 140737488355328
       ·rw [if_pos c17] at H
        have LMc17 := Aside0.mk c17
        clear c17
        obtain ⟨y125, hy125⟩ : ∃ y_ : List Int, y_ = (x5_1 ++ t122) := ⟨_, rfl⟩
        replace H : (image_Encode.l0 k1 y125 y118 (y118.length : Int) (wrap64 (x32_1 + 1)) l0_0 l0_1 l0_2) = some (r1, r2) := by first | (rw [hy125]; with_reducible exact H) | (have H2_ := (Option.bind_some _ _).symm.trans H; rw [hy125]; with_reducible exact H2_) | (have H2_ := (Option.bind_some _ _).symm.trans H; with_reducible exact H2_) | with_reducible exact H | (rw [hy125]; exact H) | exact H
        have Ny125 := Aside0.mk hy125
        clear hy125
        have H' := Aside0.mk H
        clear H
        have p121 : 0 ≤ (x32_1 : Int) := of_decide_eq_true (by first | (with_reducible assumption) | assumption)
        have q121 : x32_1 < (y118.length : Int) := of_decide_eq_true (by first | (with_reducible assumption) | assumption)
        obtain ⟨ad121, e121, hx121_0⟩ := Kd.at_int (Kd.R_reads' HO_30.out).2.2 x32_1 p121 q121
        cases e121
        replace p121 := eq_true p121
        replace q121 := eq_true q121
        rcases HO_5.out with hRM | ⟨hxm, hlm, gm, hvm, hgm, hbm⟩
        ·clear HO_5
         have HO_5 := Aside0.mk hRM
         clear hRM
         go_wp2_with (first | ((with_reducible refine gate_callee (f := 28) rfl ?_); refine goesL_ (some 39) rfl rfl Try.func28 (by kernel_rfl) rfl #[.int .u32 ((rd y118 x32_1) % 4294967296)] rfl ga ?_; (with_reducible refine (word_Bytes.calls k1 ((rd y118 x32_1) % 4294967296) t122 _ A16.out).mono ?_); rintro e w18 ⟨v123, rfl, ho0, hb⟩; refine ⟨_, rfl, ?_⟩; have n0_ := Aside0.mk (Kd.R_elder' (by (with_reducible repeat (first | apply Kd.R_alloc | apply Kd.R_drewN | apply Kd.R_drew)); exact HO_5.out) (Kd.R_base ho0) hb); have n1_ := Aside0.mk (Kd.R_below (by (with_reducible repeat (first | apply Kd.R_alloc | apply Kd.R_drewN | apply Kd.R_drew)); exact HO_30.out) hb); have n2_ := Aside0.mk (Kd.R_lower (Kd.R_new' ho0 (Kd.R_lt (by (with_reducible repeat (first | apply Kd.R_alloc | apply Kd.R_drewN | apply Kd.R_drew)); exact HO_5.out))) (below_size bl)); have n3_ := Aside0.mk (blk_below (g := gb113) (o := .cells #[.slice A0_0 l0_0.length c0_0, .slice A0_1 l0_1.length c0_1, .slice A0_2 l0_2.length c0_2] 25 (0, 0)) (bk BK113.out) hb); have n4_ := Aside0.mk (below_step bl hb); clear HO_5; clear HO_30; clear BK113; clear HB; have HO_5 := n0_; have HO_30 := n1_; have HO124 := n2_; have BK113 := n3_; have HB := n4_; clear n0_ n1_ n2_ n3_ n4_; (try clear hb); (try clear ho0); obtain ⟨Ao20, co20, eo20⟩ := Kd.R_slice HO124.out; subst eo20) | ((with_reducible refine gate_builtin (b := .append) (xs := #[.tmp 36, .tmp 39]) rfl ?_); at_builtin; refine Kd.R_append_rows (Kd.int .u8) (w0 := w) w.heap.size rfl (.tmp 36) (.tmp 39) 30 5 (.int .u8 0) 1 rfl Try.underlying30 info5 rfl (by decide) (by omega) u5 x5_1 t122 _ _ _ (fun k_ => some k_ ≠ (.slice Ao20 t122.length co20 : Value).ownBlock) (fun _ => False) rfl rfl ?aO ?aR (fun _ _ h => h) (fun _ h => h.elim) ?aF ?aB ?aS ?aL ?_; (case aR => repeat (first | exact (Kd.R_reads' HO124.out).2.2 | (with_reducible refine Kd.C_alloc ?_ _) | (with_reducible refine Kd.C_drewN ?_ _) | (with_reducible refine Kd.C_drew ?_))); (case aB => exact bl); (case aF => exact (fun k_ hk => Kd.fresh' (Kd.R_lt (by (with_reducible repeat (first | apply Kd.R_alloc | apply Kd.R_drewN | apply Kd.R_drew)); exact HO124.out)) k_ hk)); (case aO => exact (by (with_reducible repeat (first | apply Kd.R_alloc | apply Kd.R_drewN | apply Kd.R_drew)); exact Kd.R_mono HO_5.out (fun _ hk => hk.2))); (case aS => exact (below_size bl)); (case aL => have := LMc17.out; omega); intro v126 w19 ho hb hg hat; rw [← Ny125.out] at ho; have n0_ := Aside0.mk (Kd.R_over' (by (with_reducible repeat (first | apply Kd.R_alloc | apply Kd.R_drewN | apply Kd.R_drew)); exact HO_30.out) (Kd.R_typed (by (with_reducible repeat (first | apply Kd.R_alloc | apply Kd.R_drewN | apply Kd.R_drew)); exact HO_5.out)) (by decide) hg); have n1_ := Aside0.mk (blk_grown (g := gb113) (o := .cells #[.slice A0_0 l0_0.length c0_0, .slice A0_1 l0_1.length c0_1, .slice A0_2 l0_2.length c0_2] 25 (0, 0)) (bk BK113.out) hg (Kd.R_ne HO_5.out BK113.out (by decide))); have n2_ := Aside0.mk (Kd.R_after (ok := (fun _ => True)) (by (with_reducible repeat (first | apply Kd.R_alloc | apply Kd.R_drewN | apply Kd.R_drew)); exact HO124.out) hg hat); have n3_ := Aside0.mk (hb); have n4_ := Aside0.mk (ho); clear HO_30; clear BK113; clear HO124; clear HB; clear HO_5; have HO_30 := n0_; have BK113 := n1_; have HO124 := n2_; have HB := n3_; have HO127 := n4_; clear n0_ n1_ n2_ n3_ n4_; clear ho hb hg hat))
         go_roundg k1
         case measure => have := HK1.out; omega
         case rel => exact ⟨(y125), (wrap64 (x32_1 + 1)), fj, H', ⟨by have := HK1.out; omega⟩, ⟨.inl (by (with_reducible repeat (first | apply Kd.R_alloc | apply Kd.R_drewN | apply Kd.R_drew)); exact Kd.R_mono HO127.out (fun _ hk => trivial))⟩, ⟨by (with_reducible repeat (first | apply Kd.R_alloc | apply Kd.R_drewN | apply Kd.R_drew)); exact HO_30.out⟩, ⟨by refine bx ?_; exact BK113.out⟩, ⟨bl⟩⟩
        ·clear HO_5
         subst hvm
         have BKM := Aside0.mk hbm
         have HLM := Aside0.mk hlm
         clear hbm hgm hlm hxm
         go_wp2_with (first | ((with_reducible refine gate_callee (f := 28) rfl ?_); refine goesL_ (some 39) rfl rfl Try.func28 (by kernel_rfl) rfl #[.int .u32 ((rd y118 x32_1) % 4294967296)] rfl ga ?_; (with_reducible refine (word_Bytes.calls k1 ((rd y118 x32_1) % 4294967296) t122 _ A16.out).mono ?_); rintro e w18 ⟨v123, rfl, ho0, hb⟩; refine ⟨_, rfl, ?_⟩; have n0_ := Aside0.mk (blk_below (g := gm) (o := .cells (nums .u8 [83, 80, 73, 78]).toArray 5 (4, 5)) (bk BKM.out) hb); have n1_ := Aside0.mk (Kd.R_below (by (with_reducible repeat (first | apply Kd.R_alloc | apply Kd.R_drewN | apply Kd.R_drew)); exact HO_30.out) hb); have n2_ := Aside0.mk (Kd.R_lower ho0 (below_size bl)); have n3_ := Aside0.mk (blk_below (g := gb113) (o := .cells #[.slice A0_0 l0_0.length c0_0, .slice A0_1 l0_1.length c0_1, .slice A0_2 l0_2.length c0_2] 25 (0, 0)) (bk BK113.out) hb); have n4_ := Aside0.mk (below_step bl hb); clear BKM; clear HO_30; clear BK113; clear HB; have BKM := n0_; have HO_30 := n1_; have HO124 := n2_; have BK113 := n3_; have HB := n4_; clear n0_ n1_ n2_ n3_ n4_; (try clear hb); (try clear ho0); obtain ⟨Ao20, co20, eo20⟩ := Kd.R_slice HO124.out; subst eo20) | ((with_reducible refine gate_builtin (b := .append) (xs := #[.tmp 36, .tmp 39]) rfl ?_); at_builtin; refine app_marked (w0 := w) w.heap.size rfl (.tmp 36) (.tmp 39) 30 5 rfl Try.underlying30 info5 gm ([83, 80, 73, 78] : List Int) t122 (4, 5) ?aM _ _ _ rfl rfl ?aR (bytes_pos A16.out) ?aB ?aS ?aL ?_; (case aM => exact (bk BKM.out)); (case aR => repeat (first | exact (Kd.R_reads' HO124.out).2.2 | (with_reducible refine Kd.C_alloc ?_ _) | (with_reducible refine Kd.C_drewN ?_ _) | (with_reducible refine Kd.C_drew ?_))); (case aB => exact bl); (case aS => exact (below_size bl)); (case aL => have hl_ := LMc17.out; rw [HLM.out] at hl_; exact Nat.le_of_lt hl_); intro v126 w19 ho hb hg; rw [← HLM.out] at ho; rw [← Ny125.out] at ho; have n0_ := Aside0.mk (Kd.R_grown (by (with_reducible repeat (first | apply Kd.R_alloc | apply Kd.R_drewN | apply Kd.R_drew)); exact HO_30.out) hg (fun _ _ h_ => by cases h_)); have n1_ := Aside0.mk (blk_grown (g := gb113) (o := .cells #[.slice A0_0 l0_0.length c0_0, .slice A0_1 l0_1.length c0_1, .slice A0_2 l0_2.length c0_2] 25 (0, 0)) (bk BK113.out) hg (fun h_ => by cases h_)); have n2_ := Aside0.mk (Kd.R_grown (by (with_reducible repeat (first | apply Kd.R_alloc | apply Kd.R_drewN | apply Kd.R_drew)); exact HO124.out) hg (fun _ _ h_ => by cases h_)); have n3_ := Aside0.mk (hb); have n4_ := Aside0.mk (ho); clear HO_30; clear BK113; clear HO124; clear HB; clear BKM; have HO_30 := n0_; have BK113 := n1_; have HO124 := n2_; have HB := n3_; have HO127 := n4_; clear n0_ n1_ n2_ n3_ n4_; clear ho hb hg))
         go_roundg k1
         case measure => have := HK1.out; omega
         case rel => exact ⟨(y125), (wrap64 (x32_1 + 1)), fj, H', ⟨by have := HK1.out; omega⟩, ⟨.inl (by (with_reducible repeat (first | apply Kd.R_alloc | apply Kd.R_drewN | apply Kd.R_drew)); exact Kd.R_mono HO127.out (fun _ hk => trivial))⟩, ⟨by (with_reducible repeat (first | apply Kd.R_alloc | apply Kd.R_drewN | apply Kd.R_drew)); exact HO_30.out⟩, ⟨by refine bx ?_; exact BK113.out⟩, ⟨bl⟩⟩
       ·rw [if_neg c17] at H
        exact absurd H (by simp)
      ·rw [if_neg c15] at H
       exact absurd H (by simp)
     ·rw [if_neg c14] at H
      exact absurd H (by simp)
    ·rw [if_neg c13] at H
     have c13b0 := decide_eq_false c13
     have n0_ := Aside0.mk (RM.last HO_5.out c13 Ny118.out)
     clear HO_5
     have HO_5 := n0_
     clear n0_
     clear c13
     have H' := Aside0.mk H
     clear H
     obtain ⟨hcz21_0, hcz21_1, hcz21_2, hfz21_0, hfz21_1, hfz21_2⟩ := cz3 (w := wr) BK113.out
     go_wp2
     go_loopg [5, 45] k1 (fun kq v5 v45 w' => ∃ (x5_2 : List Int) (x45_2 : Int), v45 = .int .i64 x45_2 ∧ Aside0 (image_Encode.l1 kq x5_2 l0_0 (l0_0.length : Int) x45_2 l0_0 l0_1 l0_2 = some (r1, r2)) ∧ Aside0 (kq ≤ k1) ∧ Aside0 (Kd.R (Kd.int .u8) 5 w' w.heap.size (fun _ => True) v5 x5_2) ∧ Aside0 (w'.heap[gb113]? = some (.cells #[(.slice A0_0 l0_0.length c0_0), (.slice A0_1 l0_1.length c0_1), (.slice A0_2 l0_2.length c0_2)] 25 (0, 0))) ∧ Aside0 (Below w.heap.size w w'))
     case atStart => exact ⟨(x5_1), (0), fj, H', ⟨Nat.le_refl _⟩, ⟨by (with_reducible repeat (first | apply Kd.R_alloc | apply Kd.R_drewN | apply Kd.R_drew)); exact HO_5.out⟩, ⟨by refine bx ?_; exact BK113.out⟩, ⟨bl⟩⟩
     case round =>
      clear H'
      try clear c1
      try clear p1
      try clear q1
      try clear hx1
      try clear c2
      try clear p2
      try clear c3
      try clear c3b0
      try clear c3b1
      try clear p6
      try clear c11
      try clear c12
      try clear p12
      try clear q12
      try clear hx12
      try clear c13
      try clear c13b0
      try clear c14
      try clear c14b0
      try clear c15
      try clear c15b0
      try clear c17
      try clear hcz21_0 hcz21_1 hcz21_2
      try clear hcz5_0 hcz5_1 hcz5_2
      try clear hcz9_0 hcz9_1 hcz9_2
      try clear hfz21_0 hfz21_1 hfz21_2
      try clear hfz5_0 hfz5_1 hfz5_2
      try clear hfz9_0 hfz9_1 hfz9_2
      try clear hx121_0
      try clear p121
      try clear p2
      try clear q121
      obtain ⟨x5_2, x45_2, rfl, HA, HK2, HO_5, BK113, HB⟩ := hrel
      cases gk with
      | zero => exact absurd HA.out (by simp [image_Encode.l1])
      | succ k2 =>
       have H := HA.out
       clear HA
       simp only [image_Encode.l1] at H
       by_cases c22 : x45_2 < (l0_0.length : Int)
       ·rw [if_pos c22] at H
        have c22b0 := decide_eq_true c22
        clear c22
        by_cases c23 : 0 ≤ x45_2
        ·rw [if_pos c23] at H
         have c23b0 := decide_eq_true c23
         clear c23
         by_cases c24 : x45_2 < (l0_0.length : Int)
         ·rw [if_pos c24] at H
          have c24b0 := decide_eq_true c24
          clear c24
          replace H := be H
          obtain ⟨t129, A25, H⟩ := H
          by_cases c26 : x5_2.length + t129.length < 140737488355328
          ·rw [if_pos c26] at H
           have LMc26 := Aside0.mk c26
           clear c26
           obtain ⟨y132, hy132⟩ : ∃ y_ : List Int, y_ = (x5_2 ++ t129) := ⟨_, rfl⟩
           replace H : (image_Encode.l1 k2 y132 l0_0 (l0_0.length : Int) (wrap64 (x45_2 + 1)) l0_0 l0_1 l0_2) = some (r1, r2) := by first | (rw [hy132]; with_reducible exact H) | (have H2_ := (Option.bind_some _ _).symm.trans H; rw [hy132]; with_reducible exact H2_) | (have H2_ := (Option.bind_some _ _).symm.trans H; with_reducible exact H2_) | with_reducible exact H | (rw [hy132]; exact H) | exact H
           have Ny132 := Aside0.mk hy132
           clear hy132
           have H' := Aside0.mk H
           clear H
           have p128 : 0 ≤ (x45_2 : Int) := of_decide_eq_true (by first | (with_reducible assumption) | assumption)
           have q128 : x45_2 < (l0_0.length : Int) := of_decide_eq_true (by first | (with_reducible assumption) | assumption)
           obtain ⟨ad128, e128, hx128_0⟩ := Kd.at_int HR0_0.out x45_2 p128 q128
           cases e128
           replace hx128_0 := (HB.out.cell (World.block_lt_of_cell? w _ hx128_0)).trans hx128_0
           replace p128 := eq_true p128
           replace q128 := eq_true q128
           go_wp2_with (first | ((with_reducible refine gate_callee (f := 28) rfl ?_); refine goesL_ (some 51) rfl rfl Try.func28 (by kernel_rfl) rfl #[.int .u32 (rd l0_0 x45_2)] rfl ga ?_; (with_reducible refine (word_Bytes.calls k2 (rd l0_0 x45_2) t129 _ A25.out).mono ?_); rintro e w27 ⟨v130, rfl, ho0, hb⟩; refine ⟨_, rfl, ?_⟩; have n0_ := Aside0.mk (Kd.R_elder' (by (with_reducible repeat (first | apply Kd.R_alloc | apply Kd.R_drewN | apply Kd.R_drew)); exact HO_5.out) (Kd.R_base ho0) hb); have n1_ := Aside0.mk (Kd.R_lower (Kd.R_new' ho0 (Kd.R_lt (by (with_reducible repeat (first | apply Kd.R_alloc | apply Kd.R_drewN | apply Kd.R_drew)); exact HO_5.out))) (below_size bl)); have n2_ := Aside0.mk (blk_below (g := gb113) (o := .cells #[.slice (some ad128) l0_0.length c0_0, .slice A0_1 l0_1.length c0_1, .slice A0_2 l0_2.length c0_2] 25 (0, 0)) (bk BK113.out) hb); have n3_ := Aside0.mk (below_step bl hb); clear HO_5; clear BK113; clear HB; have HO_5 := n0_; have HO131 := n1_; have BK113 := n2_; have HB := n3_; clear n0_ n1_ n2_ n3_; (try clear hb); (try clear ho0); obtain ⟨Ao29, co29, eo29⟩ := Kd.R_slice HO131.out; subst eo29) | ((with_reducible refine gate_builtin (b := .append) (xs := #[.tmp 49, .tmp 51]) rfl ?_); at_builtin; refine Kd.R_append_rows (Kd.int .u8) (w0 := w) w.heap.size rfl (.tmp 49) (.tmp 51) 30 5 (.int .u8 0) 1 rfl Try.underlying30 info5 rfl (by decide) (by omega) u5 x5_2 t129 _ _ _ (fun k_ => some k_ ≠ (.slice Ao29 t129.length co29 : Value).ownBlock) (fun _ => False) rfl rfl ?aO ?aR (fun _ _ h => h) (fun _ h => h.elim) ?aF ?aB ?aS ?aL ?_; (case aR => repeat (first | exact (Kd.R_reads' HO131.out).2.2 | (with_reducible refine Kd.C_alloc ?_ _) | (with_reducible refine Kd.C_drewN ?_ _) | (with_reducible refine Kd.C_drew ?_))); (case aB => exact bl); (case aF => exact (fun k_ hk => Kd.fresh' (Kd.R_lt (by (with_reducible repeat (first | apply Kd.R_alloc | apply Kd.R_drewN | apply Kd.R_drew)); exact HO131.out)) k_ hk)); (case aO => exact (by (with_reducible repeat (first | apply Kd.R_alloc | apply Kd.R_drewN | apply Kd.R_drew)); exact Kd.R_mono HO_5.out (fun _ hk => hk.2))); (case aS => exact (below_size bl)); (case aL => have := LMc26.out; omega); intro v133 w28 ho hb hg hat; rw [← Ny132.out] at ho; have n0_ := Aside0.mk (blk_grown (g := gb113) (o := .cells #[.slice (some ad128) l0_0.length c0_0, .slice A0_1 l0_1.length c0_1, .slice A0_2 l0_2.length c0_2] 25 (0, 0)) (bk BK113.out) hg (Kd.R_ne HO_5.out BK113.out (by decide))); have n1_ := Aside0.mk (Kd.R_after (ok := (fun _ => True)) (by (with_reducible repeat (first | apply Kd.R_alloc | apply Kd.R_drewN | apply Kd.R_drew)); exact HO131.out) hg hat); have n2_ := Aside0.mk (hb); have n3_ := Aside0.mk (ho); clear BK113; clear HO131; clear HB; clear HO_5; have BK113 := n0_; have HO131 := n1_; have HB := n2_; have HO134 := n3_; clear n0_ n1_ n2_ n3_; clear ho hb hg hat))
           go_roundg k2
           case measure => have := HK1.out; have := HK2.out; omega
           case rel => exact ⟨(y132), (wrap64 (x45_2 + 1)), fj, H', ⟨by have := HK1.out; have := HK2.out; omega⟩, ⟨by (with_reducible repeat (first | apply Kd.R_alloc | apply Kd.R_drewN | apply Kd.R_drew)); exact Kd.R_mono HO134.out (fun _ hk => trivial)⟩, ⟨by refine bx ?_; exact BK113.out⟩, ⟨bl⟩⟩
          ·rw [if_neg c26] at H
           exact absurd H (by simp)
         ·rw [if_neg c24] at H
          exact absurd H (by simp)
        ·rw [if_neg c23] at H
         exact absurd H (by simp)
       ·rw [if_neg c22] at H
        have c22b0 := decide_eq_false c22
        clear c22
        have H' := Aside0.mk H
        clear H
        obtain ⟨hcz30_0, hcz30_1, hcz30_2, hfz30_0, hfz30_1, hfz30_2⟩ := cz3 (w := wr) BK113.out
        go_wp2
        go_loopg [5, 57] k2 (fun kq v5 v57 w' => ∃ (x5_3 : List Int) (x57_3 : Int), v57 = .int .i64 x57_3 ∧ Aside0 (image_Encode.l2 kq x5_3 l0_1 (l0_1.length : Int) x57_3 l0_0 l0_1 l0_2 = some (r1, r2)) ∧ Aside0 (kq ≤ k2) ∧ Aside0 (Kd.R (Kd.int .u8) 5 w' w.heap.size (fun _ => True) v5 x5_3) ∧ Aside0 (w'.heap[gb113]? = some (.cells #[(.slice A0_0 l0_0.length c0_0), (.slice A0_1 l0_1.length c0_1), (.slice A0_2 l0_2.length c0_2)] 25 (0, 0))) ∧ Aside0 (Below w.heap.size w w'))
        case atStart => exact ⟨(x5_2), (0), fj, H', ⟨Nat.le_refl _⟩, ⟨by (with_reducible repeat (first | apply Kd.R_alloc | apply Kd.R_drewN | apply Kd.R_drew)); exact HO_5.out⟩, ⟨by refine bx ?_; exact BK113.out⟩, ⟨bl⟩⟩
        case round =>
         clear H'
         try clear c1
         try clear p1
         try clear q1
         try clear hx1
         try clear c2
         try clear p2
         try clear c3
         try clear c3b0
         try clear c3b1
         try clear p6
         try clear c11
         try clear c12
         try clear p12
         try clear q12
         try clear hx12
         try clear c13
         try clear c13b0
         try clear c14
         try clear c14b0
         try clear c15
         try clear c15b0
         try clear c17
         try clear c22
         try clear c22b0
         try clear c23
         try clear c23b0
         try clear c24
         try clear c24b0
         try clear c26
         try clear c28
         try clear hcz21_0 hcz21_1 hcz21_2
         try clear hcz30_0 hcz30_1 hcz30_2
         try clear hcz5_0 hcz5_1 hcz5_2
         try clear hcz9_0 hcz9_1 hcz9_2
         try clear hfz21_0 hfz21_1 hfz21_2
         try clear hfz30_0 hfz30_1 hfz30_2
         try clear hfz5_0 hfz5_1 hfz5_2
         try clear hfz9_0 hfz9_1 hfz9_2
         try clear hx121_0
         try clear hx128_0
         try clear p1
         try clear p12
         try clear p121
         try clear p128
         try clear p2
         try clear p6
         try clear q1
         try clear q12
         try clear q121
         try clear q128
         obtain ⟨x5_3, x57_3, rfl, HA, HK3, HO_5, BK113, HB⟩ := hrel
         cases gk with
         | zero => exact absurd HA.out (by simp [image_Encode.l2])
         | succ k3 =>
          have H := HA.out
          clear HA
          simp only [image_Encode.l2] at H
          by_cases c31 : x57_3 < (l0_1.length : Int)
          ·rw [if_pos c31] at H
           have c31b0 := decide_eq_true c31
           clear c31
           by_cases c32 : 0 ≤ x57_3
           ·rw [if_pos c32] at H
            have c32b0 := decide_eq_true c32
            clear c32
            by_cases c33 : x57_3 < (l0_1.length : Int)
            ·rw [if_pos c33] at H
             have c33b0 := decide_eq_true c33
             clear c33
             replace H := be H
             obtain ⟨t136, A34, H⟩ := H
             by_cases c35 : x5_3.length + t136.length < 140737488355328
             ·rw [if_pos c35] at H
              have LMc35 := Aside0.mk c35
              clear c35
              obtain ⟨y139, hy139⟩ : ∃ y_ : List Int, y_ = (x5_3 ++ t136) := ⟨_, rfl⟩
              replace H : (image_Encode.l2 k3 y139 l0_1 (l0_1.length : Int) (wrap64 (x57_3 + 1)) l0_0 l0_1 l0_2) = some (r1, r2) := by first | (rw [hy139]; with_reducible exact H) | (have H2_ := (Option.bind_some _ _).symm.trans H; rw [hy139]; with_reducible exact H2_) | (have H2_ := (Option.bind_some _ _).symm.trans H; with_reducible exact H2_) | with_reducible exact H | (rw [hy139]; exact H) | exact H
              have Ny139 := Aside0.mk hy139
              clear hy139
              have H' := Aside0.mk H
              clear H
              have p135 : 0 ≤ (x57_3 : Int) := of_decide_eq_true (by first | (with_reducible assumption) | assumption)
              have q135 : x57_3 < (l0_1.length : Int) := of_decide_eq_true (by first | (with_reducible assumption) | assumption)
              obtain ⟨ad135, e135, hx135_0⟩ := Kd.at_int HR0_1.out x57_3 p135 q135
              cases e135
              replace hx135_0 := (HB.out.cell (World.block_lt_of_cell? w _ hx135_0)).trans hx135_0
              replace p135 := eq_true p135
              replace q135 := eq_true q135
              go_wp2_with (first | ((with_reducible refine gate_callee (f := 29) rfl ?_); refine goesL_ (some 63) rfl rfl Try.func29 (by kernel_rfl) rfl #[.int .i64 (rd l0_1 x57_3)] rfl ga ?_; (with_reducible refine (word_Long.calls k3 (rd l0_1 x57_3) t136 _ A34.out).mono ?_); rintro e w36 ⟨v137, rfl, ho0, hb⟩; refine ⟨_, rfl, ?_⟩; have n0_ := Aside0.mk (Kd.R_elder' (by (with_reducible repeat (first | apply Kd.R_alloc | apply Kd.R_drewN | apply Kd.R_drew)); exact HO_5.out) (Kd.R_base ho0) hb); have n1_ := Aside0.mk (Kd.R_lower (Kd.R_new' ho0 (Kd.R_lt (by (with_reducible repeat (first | apply Kd.R_alloc | apply Kd.R_drewN | apply Kd.R_drew)); exact HO_5.out))) (below_size bl)); have n2_ := Aside0.mk (blk_below (g := gb113) (o := .cells #[.slice A0_0 l0_0.length c0_0, .slice (some ad135) l0_1.length c0_1, .slice A0_2 l0_2.length c0_2] 25 (0, 0)) (bk BK113.out) hb); have n3_ := Aside0.mk (below_step bl hb); clear HO_5; clear BK113; clear HB; have HO_5 := n0_; have HO138 := n1_; have BK113 := n2_; have HB := n3_; clear n0_ n1_ n2_ n3_; (try clear hb); (try clear ho0); obtain ⟨Ao38, co38, eo38⟩ := Kd.R_slice HO138.out; subst eo38) | ((with_reducible refine gate_builtin (b := .append) (xs := #[.tmp 61, .tmp 63]) rfl ?_); at_builtin; refine Kd.R_append_rows (Kd.int .u8) (w0 := w) w.heap.size rfl (.tmp 61) (.tmp 63) 30 5 (.int .u8 0) 1 rfl Try.underlying30 info5 rfl (by decide) (by omega) u5 x5_3 t136 _ _ _ (fun k_ => some k_ ≠ (.slice Ao38 t136.length co38 : Value).ownBlock) (fun _ => False) rfl rfl ?aO ?aR (fun _ _ h => h) (fun _ h => h.elim) ?aF ?aB ?aS ?aL ?_; (case aR => repeat (first | exact (Kd.R_reads' HO138.out).2.2 | (with_reducible refine Kd.C_alloc ?_ _) | (with_reducible refine Kd.C_drewN ?_ _) | (with_reducible refine Kd.C_drew ?_))); (case aB => exact bl); (case aF => exact (fun k_ hk => Kd.fresh' (Kd.R_lt (by (with_reducible repeat (first | apply Kd.R_alloc | apply Kd.R_drewN | apply Kd.R_drew)); exact HO138.out)) k_ hk)); (case aO => exact (by (with_reducible repeat (first | apply Kd.R_alloc | apply Kd.R_drewN | apply Kd.R_drew)); exact Kd.R_mono HO_5.out (fun _ hk => hk.2))); (case aS => exact (below_size bl)); (case aL => have := LMc35.out; omega); intro v140 w37 ho hb hg hat; rw [← Ny139.out] at ho; have n0_ := Aside0.mk (blk_grown (g := gb113) (o := .cells #[.slice A0_0 l0_0.length c0_0, .slice (some ad135) l0_1.length c0_1, .slice A0_2 l0_2.length c0_2] 25 (0, 0)) (bk BK113.out) hg (Kd.R_ne HO_5.out BK113.out (by decide))); have n1_ := Aside0.mk (Kd.R_after (ok := (fun _ => True)) (by (with_reducible repeat (first | apply Kd.R_alloc | apply Kd.R_drewN | apply Kd.R_drew)); exact HO138.out) hg hat); have n2_ := Aside0.mk (hb); have n3_ := Aside0.mk (ho); clear BK113; clear HO138; clear HB; clear HO_5; have BK113 := n0_; have HO138 := n1_; have HB := n2_; have HO141 := n3_; clear n0_ n1_ n2_ n3_; clear ho hb hg hat))
              go_roundg k3
              case measure => have := HK1.out; have := HK2.out; have := HK3.out; omega
              case rel => exact ⟨(y139), (wrap64 (x57_3 + 1)), fj, H', ⟨by have := HK1.out; have := HK2.out; have := HK3.out; omega⟩, ⟨by (with_reducible repeat (first | apply Kd.R_alloc | apply Kd.R_drewN | apply Kd.R_drew)); exact Kd.R_mono HO141.out (fun _ hk => trivial)⟩, ⟨by refine bx ?_; exact BK113.out⟩, ⟨bl⟩⟩
             ·rw [if_neg c35] at H
              exact absurd H (by simp)
            ·rw [if_neg c33] at H
             exact absurd H (by simp)
           ·rw [if_neg c32] at H
            exact absurd H (by simp)
          ·rw [if_neg c31] at H
           have c31b0 := decide_eq_false c31
           clear c31
           have H' := Aside0.mk H
           clear H
           obtain ⟨hcz39_0, hcz39_1, hcz39_2, hfz39_0, hfz39_1, hfz39_2⟩ := cz3 (w := wr) BK113.out
           go_wp2
           go_loopg [5, 69] k3 (fun kq v5 v69 w' => ∃ (x5_4 : List Int) (x69_4 : Int), v69 = .int .i64 x69_4 ∧ Aside0 (image_Encode.l3 kq x5_4 l0_2 (l0_2.length : Int) x69_4 = some (r1, r2)) ∧ Aside0 (kq ≤ k3) ∧ Aside0 (Kd.R (Kd.int .u8) 5 w' w.heap.size (fun _ => True) v5 x5_4) ∧ Aside0 (w'.heap[gb113]? = some (.cells #[(.slice A0_0 l0_0.length c0_0), (.slice A0_1 l0_1.length c0_1), (.slice A0_2 l0_2.length c0_2)] 25 (0, 0))) ∧ Aside0 (Below w.heap.size w w'))
           case atStart => exact ⟨(x5_3), (0), fj, H', ⟨Nat.le_refl _⟩, ⟨by (with_reducible repeat (first | apply Kd.R_alloc | apply Kd.R_drewN | apply Kd.R_drew)); exact HO_5.out⟩, ⟨by refine bx ?_; exact BK113.out⟩, ⟨bl⟩⟩
           case round =>
            clear H'
            try clear c1
            try clear p1
            try clear q1
            try clear hx1
            try clear c2
            try clear p2
            try clear c3
            try clear c3b0
            try clear c3b1
            try clear p6
            try clear c11
            try clear c12
            try clear p12
            try clear q12
            try clear hx12
            try clear c13
            try clear c13b0
            try clear p13
            try clear q13
            try clear hx13
            try clear c14
            try clear c14b0
            try clear c15
            try clear c15b0
            try clear c17
            try clear c22
            try clear c22b0
            try clear c23
            try clear c23b0
            try clear c24
            try clear c24b0
            try clear c26
            try clear c28
            try clear c29
            try clear c31
            try clear c31b0
            try clear c32
            try clear c32b0
            try clear c33
            try clear c33b0
            try clear c35
            try clear hcz21_0 hcz21_1 hcz21_2
            try clear hcz30_0 hcz30_1 hcz30_2
            try clear hcz39_0 hcz39_1 hcz39_2
            try clear hcz5_0 hcz5_1 hcz5_2
            try clear hcz9_0 hcz9_1 hcz9_2
            try clear hfz21_0 hfz21_1 hfz21_2
            try clear hfz30_0 hfz30_1 hfz30_2
            try clear hfz39_0 hfz39_1 hfz39_2
            try clear hfz5_0 hfz5_1 hfz5_2
            try clear hfz9_0 hfz9_1 hfz9_2
            try clear hx121_0
            try clear hx128_0
            try clear hx135_0
            try clear p1
            try clear p12
            try clear p121
            try clear p128
            try clear p135
            try clear p2
            try clear p6
            try clear q1
            try clear q12
            try clear q121
            try clear q128
            try clear q135
            obtain ⟨x5_4, x69_4, rfl, HA, HK4, HO_5, BK113, HB⟩ := hrel
            cases gk with
            | zero => exact absurd HA.out (by simp [image_Encode.l3])
            | succ k4 =>
             have H := HA.out
             clear HA
             simp only [image_Encode.l3] at H
             by_cases c40 : x69_4 < (l0_2.length : Int)
             ·rw [if_pos c40] at H
              have c40b0 := decide_eq_true c40
              clear c40
              by_cases c41 : 0 ≤ x69_4
              ·rw [if_pos c41] at H
               have c41b0 := decide_eq_true c41
               clear c41
               by_cases c42 : x69_4 < (l0_2.length : Int)
               ·rw [if_pos c42] at H
                have c42b0 := decide_eq_true c42
                clear c42
                replace H := be H
                obtain ⟨t143, A43, H⟩ := H
                by_cases c44 : x5_4.length + t143.length < 140737488355328
                ·rw [if_pos c44] at H
                 have LMc44 := Aside0.mk c44
                 clear c44
                 obtain ⟨y146, hy146⟩ : ∃ y_ : List Int, y_ = (x5_4 ++ t143) := ⟨_, rfl⟩
                 replace H : (image_Encode.l3 k4 y146 l0_2 (l0_2.length : Int) (wrap64 (x69_4 + 1))) = some (r1, r2) := by first | (rw [hy146]; with_reducible exact H) | (have H2_ := (Option.bind_some _ _).symm.trans H; rw [hy146]; with_reducible exact H2_) | (have H2_ := (Option.bind_some _ _).symm.trans H; with_reducible exact H2_) | with_reducible exact H | (rw [hy146]; exact H) | exact H
                 have Ny146 := Aside0.mk hy146
                 clear hy146
                 have H' := Aside0.mk H
                 clear H
                 have p142 : 0 ≤ (x69_4 : Int) := of_decide_eq_true (by first | (with_reducible assumption) | assumption)
                 have q142 : x69_4 < (l0_2.length : Int) := of_decide_eq_true (by first | (with_reducible assumption) | assumption)
                 obtain ⟨ad142, e142, hx142_0⟩ := Kd.at_int HR0_2.out x69_4 p142 q142
                 cases e142
                 replace hx142_0 := (HB.out.cell (World.block_lt_of_cell? w _ hx142_0)).trans hx142_0
                 replace p142 := eq_true p142
                 replace q142 := eq_true q142
                 go_wp2_with (first | ((with_reducible refine gate_callee (f := 28) rfl ?_); refine goesL_ (some 76) rfl rfl Try.func28 (by kernel_rfl) rfl #[.int .u32 ((rd l0_2 x69_4) % 4294967296)] rfl ga ?_; (with_reducible refine (word_Bytes.calls k4 ((rd l0_2 x69_4) % 4294967296) t143 _ A43.out).mono ?_); rintro e w45 ⟨v144, rfl, ho0, hb⟩; refine ⟨_, rfl, ?_⟩; have n0_ := Aside0.mk (Kd.R_elder' (by (with_reducible repeat (first | apply Kd.R_alloc | apply Kd.R_drewN | apply Kd.R_drew)); exact HO_5.out) (Kd.R_base ho0) hb); have n1_ := Aside0.mk (Kd.R_lower (Kd.R_new' ho0 (Kd.R_lt (by (with_reducible repeat (first | apply Kd.R_alloc | apply Kd.R_drewN | apply Kd.R_drew)); exact HO_5.out))) (below_size bl)); have n2_ := Aside0.mk (blk_below (g := gb113) (o := .cells #[.slice A0_0 l0_0.length c0_0, .slice A0_1 l0_1.length c0_1, .slice (some ad142) l0_2.length c0_2] 25 (0, 0)) (bk BK113.out) hb); have n3_ := Aside0.mk (below_step bl hb); clear HO_5; clear BK113; clear HB; have HO_5 := n0_; have HO145 := n1_; have BK113 := n2_; have HB := n3_; clear n0_ n1_ n2_ n3_; (try clear hb); (try clear ho0); obtain ⟨Ao47, co47, eo47⟩ := Kd.R_slice HO145.out; subst eo47) | ((with_reducible refine gate_builtin (b := .append) (xs := #[.tmp 73, .tmp 76]) rfl ?_); at_builtin; refine Kd.R_append_rows (Kd.int .u8) (w0 := w) w.heap.size rfl (.tmp 73) (.tmp 76) 30 5 (.int .u8 0) 1 rfl Try.underlying30 info5 rfl (by decide) (by omega) u5 x5_4 t143 _ _ _ (fun k_ => some k_ ≠ (.slice Ao47 t143.length co47 : Value).ownBlock) (fun _ => False) rfl rfl ?aO ?aR (fun _ _ h => h) (fun _ h => h.elim) ?aF ?aB ?aS ?aL ?_; (case aR => repeat (first | exact (Kd.R_reads' HO145.out).2.2 | (with_reducible refine Kd.C_alloc ?_ _) | (with_reducible refine Kd.C_drewN ?_ _) | (with_reducible refine Kd.C_drew ?_))); (case aB => exact bl); (case aF => exact (fun k_ hk => Kd.fresh' (Kd.R_lt (by (with_reducible repeat (first | apply Kd.R_alloc | apply Kd.R_drewN | apply Kd.R_drew)); exact HO145.out)) k_ hk)); (case aO => exact (by (with_reducible repeat (first | apply Kd.R_alloc | apply Kd.R_drewN | apply Kd.R_drew)); exact Kd.R_mono HO_5.out (fun _ hk => hk.2))); (case aS => exact (below_size bl)); (case aL => have := LMc44.out; omega); intro v147 w46 ho hb hg hat; rw [← Ny146.out] at ho; have n0_ := Aside0.mk (blk_grown (g := gb113) (o := .cells #[.slice A0_0 l0_0.length c0_0, .slice A0_1 l0_1.length c0_1, .slice (some ad142) l0_2.length c0_2] 25 (0, 0)) (bk BK113.out) hg (Kd.R_ne HO_5.out BK113.out (by decide))); have n1_ := Aside0.mk (Kd.R_after (ok := (fun _ => True)) (by (with_reducible repeat (first | apply Kd.R_alloc | apply Kd.R_drewN | apply Kd.R_drew)); exact HO145.out) hg hat); have n2_ := Aside0.mk (hb); have n3_ := Aside0.mk (ho); clear BK113; clear HO145; clear HB; clear HO_5; have BK113 := n0_; have HO145 := n1_; have HB := n2_; have HO148 := n3_; clear n0_ n1_ n2_ n3_; clear ho hb hg hat))
                 go_roundg k4
                 case measure => have := HK1.out; have := HK2.out; have := HK3.out; have := HK4.out; omega
                 case rel => exact ⟨(y146), (wrap64 (x69_4 + 1)), fj, H', ⟨by have := HK1.out; have := HK2.out; have := HK3.out; have := HK4.out; omega⟩, ⟨by (with_reducible repeat (first | apply Kd.R_alloc | apply Kd.R_drewN | apply Kd.R_drew)); exact Kd.R_mono HO148.out (fun _ hk => trivial)⟩, ⟨by refine bx ?_; exact BK113.out⟩, ⟨bl⟩⟩
                ·rw [if_neg c44] at H
                 exact absurd H (by simp)
               ·rw [if_neg c42] at H
                exact absurd H (by simp)
              ·rw [if_neg c41] at H
               exact absurd H (by simp)
             ·rw [if_neg c40] at H
              have c40b0 := decide_eq_false c40
              clear c40
              simp only [Option.some.injEq, Prod.mk.injEq] at H
              obtain ⟨rfl, rfl⟩ := H
              go_wp2
              go_ret2
              exact ⟨_, fi, by (with_reducible repeat (first | apply Kd.R_alloc | apply Kd.R_drewN | apply Kd.R_drew)); exact HO_5.out, bl⟩
 ·rw [if_neg c3] at H
  have c3b0 : (t114 == 0) = false := beq_eq_false_iff_ne.mpr c3
  have c3b1 : (t114 != 0) = true := bne_iff_ne.mpr c3
  simp only [Option.some.injEq, Prod.mk.injEq] at H
  obtain ⟨rfl, rfl⟩ := H
  go_enter Try.func11, Try.ntmps11
  go_wp2_with (first | ((with_reducible refine gate_dst (N := 1) rfl ?_); refine box_event ?hg (N := 1) ?hd (cs := #[.slice A0_0 l0_0.length c0_0, .slice A0_1 l0_1.length c0_1, .slice A0_2 l0_2.length c0_2]) (t := 25) ?hr ?_; (case hd => rfl); (case hg => rfl); (case hr => first | (go_simp; done) | (go_simp; rfl)); intro gb113 hg w48 hbox hb; obtain ⟨n0_, GW113⟩ := nb (w := w) hg hb; clear HB; have HB := n0_; have BK113 := Aside0.mk hbox; have GE113 := GW113; clear n0_ hb hbox hg; obtain ⟨hcz49_0, hcz49_1, hcz49_2, hfz49_0, hfz49_1, hfz49_2⟩ := cz3 (w := w48) BK113.out) | ((with_reducible refine gate_callee (f := 12) rfl ?_); refine goesL_ (some 15) rfl rfl Try.func12 (by kernel_rfl) rfl #[.agg #[.slice A0_0 l0_0.length c0_0, .slice A0_1 l0_1.length c0_1, .slice A0_2 l0_2.length c0_2]] rfl ga ?_; (with_reducible refine (image_Check.calls k _ _ l0_0 _ _ l0_1 _ _ l0_2 t114 _ ?side1 ?side2 ?side3 ?side4 ?side5 ?side6 A2.out).mono ?_); (case side1 => repeat (first | exact (Kd.C_below HR0_0.out HB.out) | (with_reducible refine Kd.C_alloc ?_ _) | (with_reducible refine Kd.C_drewN ?_ _) | (with_reducible refine Kd.C_drew ?_))); (case side2 => exact HC0_0.out); (case side3 => repeat (first | exact (Kd.C_below HR0_1.out HB.out) | (with_reducible refine Kd.C_alloc ?_ _) | (with_reducible refine Kd.C_drewN ?_ _) | (with_reducible refine Kd.C_drew ?_))); (case side4 => exact HC0_1.out); (case side5 => repeat (first | exact (Kd.C_below HR0_2.out HB.out) | (with_reducible refine Kd.C_alloc ?_ _) | (with_reducible refine Kd.C_drewN ?_ _) | (with_reducible refine Kd.C_drew ?_))); (case side6 => exact HC0_2.out); rintro e w50 ⟨rfl, hb⟩; refine ⟨_, rfl, ?_⟩; have n0_ := Aside0.mk (blk_below (g := gb113) (o := .cells #[.slice A0_0 l0_0.length c0_0, .slice A0_1 l0_1.length c0_1, .slice A0_2 l0_2.length c0_2] 25 (0, 0)) (bk BK113.out) hb); have n1_ := Aside0.mk (below_step bl hb); clear BK113; clear HB; have BK113 := n0_; have HB := n1_; clear n0_ n1_; (try clear hb)))
  go_ret2
  exact ⟨_, fi, by first | exact Kd.R_nil _ _ _ _ _ | exact Kd.N_nil _ _ _ _ _ | exact Kd.V_nil _ _ _ _ _ | exact Kd.Q_nil _ _ _ _ _ | exact Kd.S_nil _ _ _ _ _, bl⟩

/-! ### image_PC: function 27 -/
def image_PC.f (a0 : Int) : Option (Int) := some (wrap64 (65536 + (wrap64 (4 * a0))))
set_option maxHeartbeats 8000000 in
set_option maxRecDepth 100000 in
theorem image_PC.calls (a0 : Int) (r : Int) (w : World) (h : image_PC.f a0 = some r) :
  Calls Try.prog 27 #[.int .i64 a0] w fun e w' => e = .returned (.int .i64 r) ∧ Drawn0 w w' := by
 have H : (some (wrap64 (65536 + (wrap64 (4 * a0))))) = some r := h
 clear h
 obtain rfl := Option.some.inj H
 go_enter Try.func27, Try.ntmps27
 go_wp2
 go_ret
 exact ⟨fj, fd⟩

/-! ### spinnakerlaw08_awake: function 9 -/
def spinnakerlaw08_awake.f (k : Nat)  : Option (Bool) := (image_Encode.f k (([115] : List Int)) ([] : List Int) (([0] : List Int))).bind fun bt155 => (if bt155.2 = 0 then (if (bt155.1.length : Int) = 24 then ((image_PC.f 2).bind fun t159 => (some (t159 == 65544))) else (some false)) else (some false))
theorem spinnakerlaw08_awake.mono : ∀ k, LeO (spinnakerlaw08_awake.f k ) (spinnakerlaw08_awake.f (k + 1) ) := by
 intro  k
 unfold spinnakerlaw08_awake.f
 repeat' first | (with_reducible first | exact image_Encode.mono _ _ _ _ | exact LeO.refl _ | exact LeO.none _ | refine LeO.ite ?_ ?_ | refine LeO.bind ?_ (fun _ => ?_)) | exact image_Encode.mono _ _ _ _ | exact LeO.none _ | refine LeO.ite ?_ ?_ | refine LeO.bind ?_ (fun _ => ?_)
set_option maxHeartbeats 8000000 in
set_option maxRecDepth 100000 in
theorem spinnakerlaw08_awake.calls (k : Nat)  (r : Bool) (w : World) (h : spinnakerlaw08_awake.f k  = some r) :
  Calls Try.prog 9 #[] w fun e w' => e = .returned (.bool r) ∧ Below w.heap.size w w' := by
 have hu25 := Try.underlying25
 have HB := Aside0.mk (Below.refl w.heap.size w)
 have H : ((image_Encode.f k (([115] : List Int)) ([] : List Int) (([0] : List Int))).bind fun bt155 => (if bt155.2 = 0 then (if (bt155.1.length : Int) = 24 then ((image_PC.f 2).bind fun t159 => (some (t159 == 65544))) else (some false)) else (some false))) = some r := h
 clear h
 obtain ⟨y149, hy149⟩ : ∃ y_ : List Int, y_ = (([115] : List Int)) := ⟨_, rfl⟩
 replace H : ((image_Encode.f k y149 ([] : List Int) (([0] : List Int))).bind fun bt155 => (if bt155.2 = 0 then (if (bt155.1.length : Int) = 24 then ((image_PC.f 2).bind fun t159 => (some (t159 == 65544))) else (some false)) else (some false))) = some r := by first | (rw [hy149]; with_reducible exact H) | (have H2_ := (Option.bind_some _ _).symm.trans H; rw [hy149]; with_reducible exact H2_) | (have H2_ := (Option.bind_some _ _).symm.trans H; with_reducible exact H2_) | with_reducible exact H | (rw [hy149]; exact H) | exact H
 have Ny149 := Aside0.mk hy149
 clear hy149
 obtain ⟨y152, hy152⟩ : ∃ y_ : List Int, y_ = (([0] : List Int)) := ⟨_, rfl⟩
 replace H : ((image_Encode.f k y149 ([] : List Int) y152).bind fun bt155 => (if bt155.2 = 0 then (if (bt155.1.length : Int) = 24 then ((image_PC.f 2).bind fun t159 => (some (t159 == 65544))) else (some false)) else (some false))) = some r := by first | (rw [hy152]; with_reducible exact H) | (have H2_ := (Option.bind_some _ _).symm.trans H; rw [hy152]; with_reducible exact H2_) | (have H2_ := (Option.bind_some _ _).symm.trans H; with_reducible exact H2_) | with_reducible exact H | (rw [hy152]; exact H) | exact H
 have Ny152 := Aside0.mk hy152
 clear hy152
 replace H := be H
 obtain ⟨⟨t155, t158⟩, A1, H⟩ := H
 dsimp only at H
 by_cases c2 : t158 = 0
 ·rw [if_pos c2] at H
  obtain ⟨c2b0, c2b1⟩ := eqs c2
  clear c2
  by_cases c3 : (t155.length : Int) = 24
  ·rw [if_pos c3] at H
   obtain ⟨c3b0, c3b1⟩ := eqs c3
   clear c3
   replace H := be H
   obtain ⟨t159, A4, H⟩ := H
   obtain rfl := Option.some.inj H
   go_enter Try.func9, Try.ntmps9
   go_wp2_with (first | ((with_reducible refine gate_dst (N := 4) rfl ?_); (try (refine gate_guard (by rfl) ?_; dsimp only)); refine Kd.R_lit (Kd.int .u32) _ 51 ?hg (N := 4) ?hd (xs := ([115] : List Int)) (inner := [.int .u32 115]) (ok := fun _ => True) (okp := fun _ => True) ?hr ?hp (fun _ hk => hk) trivial (Below.refl _ _) (Nat.le_refl _) (by simp) ?_; (case hd => rfl); (case hg => rfl); (case hr => first | (go_simp; done) | (go_simp; rfl)); (case hp => exact (Reps.one (show Kd.M (Kd.int .u32) _ _ _ 115 [.int .u32 115] from rfl) (Reps.none _ _))); intro v150 w5 ho6 hb hg_ hnew_; clear hg_ hnew_; (first | rw [← Ny149.out] at ho6 | (simp only [Int.reduceToNat] at ho6; rw [← Ny149.out] at ho6)); have n0_ := Aside0.mk (Kd.R_lower ho6 (below_size bl)); have n1_ := Aside0.mk (below_step bl hb); clear HB; have HO151 := n0_; have HB := n1_; clear n0_ n1_; clear hb ho6) | ((with_reducible refine gate_dst (N := 5) rfl ?_); (try (refine gate_guard (by rfl) ?_; dsimp only)); refine Kd.R_lit (Kd.int .i64) _ 3 ?hg (N := 5) ?hd (xs := ([0] : List Int)) (inner := [.int .i64 0]) (ok := fun _ => True) (okp := fun _ => True) ?hr ?hp (fun _ hk => hk) trivial (Below.refl _ _) (Nat.le_refl _) (by simp) ?_; (case hd => rfl); (case hg => rfl); (case hr => first | (go_simp; done) | (go_simp; rfl)); (case hp => exact (Reps.one (show Kd.M (Kd.int .i64) _ _ _ 0 [.int .i64 0] from rfl) (Reps.none _ _))); intro v153 w7 ho8 hb hg_ hnew_; clear hg_ hnew_; (first | rw [← Ny152.out] at ho8 | (simp only [Int.reduceToNat] at ho8; rw [← Ny152.out] at ho8)); have n0_ := Aside0.mk (Kd.R_below (by (with_reducible repeat (first | apply Kd.R_alloc | apply Kd.R_drewN | apply Kd.R_drew)); exact HO151.out) hb); have n1_ := Aside0.mk (Kd.R_lower ho8 (below_size bl)); have n2_ := Aside0.mk (below_step bl hb); clear HO151; clear HB; have HO151 := n0_; have HO154 := n1_; have HB := n2_; clear n0_ n1_ n2_; clear hb ho8; obtain ⟨Ao9, co9, eo9⟩ := Kd.R_slice HO154.out; subst eo9; obtain ⟨Ao10, co10, eo10⟩ := Kd.R_slice HO151.out; subst eo10) | ((with_reducible refine gate_callee (f := 11) rfl ?_); refine goesL_ (some 7) rfl rfl Try.func11 (by kernel_rfl) rfl #[.agg #[.slice Ao10 y149.length co10, .slice none 0 0, .slice Ao9 y152.length co9]] rfl ga ?_; (refine (image_Encode.calls k _ _ y149 _ _ ([] : List Int) _ _ y152 t155 t158 _ ?side1 ?side2 ?side3 ?side4 ?side5 ?side6 A1.out).mono ?_); (case side1 => repeat (first | exact (Kd.R_reads' HO151.out).2.2 | (with_reducible refine Kd.C_alloc ?_ _) | (with_reducible refine Kd.C_drewN ?_ _) | (with_reducible refine Kd.C_drew ?_))); (case side2 => exact (Kd.R_reads' HO151.out).2.1); (case side3 => exact Kd.C_nil _ _); (case side4 => exact Nat.le_refl _); (case side5 => repeat (first | exact (Kd.R_reads' HO154.out).2.2 | (with_reducible refine Kd.C_alloc ?_ _) | (with_reducible refine Kd.C_drewN ?_ _) | (with_reducible refine Kd.C_drew ?_))); (case side6 => exact (Kd.R_reads' HO154.out).2.1); rintro e w11 ⟨v156, rfl, ho0, hb⟩; refine ⟨_, rfl, ?_⟩; have n0_ := Aside0.mk (Kd.R_below (by (with_reducible repeat (first | apply Kd.R_alloc | apply Kd.R_drewN | apply Kd.R_drew)); exact HO151.out) hb); have n1_ := Aside0.mk (Kd.R_below (by (with_reducible repeat (first | apply Kd.R_alloc | apply Kd.R_drewN | apply Kd.R_drew)); exact HO154.out) hb); have n2_ := Aside0.mk (Kd.R_lower ho0 (below_size bl)); have n3_ := Aside0.mk (below_step bl hb); clear HO151; clear HO154; clear HB; have HO151 := n0_; have HO154 := n1_; have HO157 := n2_; have HB := n3_; clear n0_ n1_ n2_ n3_; (try clear hb); (try clear ho0); obtain ⟨Ao12, co12, eo12⟩ := Kd.R_slice HO157.out; subst eo12) | (go_at_call 27; (with_reducible refine (image_PC.calls 2 t159 _ A4.out).mono ?_); rintro e w' ⟨rfl, ⟨nd, rfl⟩⟩))
   go_ret
   exact ⟨fi, bl⟩
  ·rw [if_neg c3] at H
   have c3b0 : ((t155.length : Int) == 24) = false := beq_eq_false_iff_ne.mpr c3
   have c3b1 : ((t155.length : Int) != 24) = true := bne_iff_ne.mpr c3
   obtain rfl := Option.some.inj H
   go_enter Try.func9, Try.ntmps9
   go_wp2_with (first | ((with_reducible refine gate_dst (N := 4) rfl ?_); (try (refine gate_guard (by rfl) ?_; dsimp only)); refine Kd.R_lit (Kd.int .u32) _ 51 ?hg (N := 4) ?hd (xs := ([115] : List Int)) (inner := [.int .u32 115]) (ok := fun _ => True) (okp := fun _ => True) ?hr ?hp (fun _ hk => hk) trivial (Below.refl _ _) (Nat.le_refl _) (by simp) ?_; (case hd => rfl); (case hg => rfl); (case hr => first | (go_simp; done) | (go_simp; rfl)); (case hp => exact (Reps.one (show Kd.M (Kd.int .u32) _ _ _ 115 [.int .u32 115] from rfl) (Reps.none _ _))); intro v150 w13 ho14 hb hg_ hnew_; clear hg_ hnew_; (first | rw [← Ny149.out] at ho14 | (simp only [Int.reduceToNat] at ho14; rw [← Ny149.out] at ho14)); have n0_ := Aside0.mk (Kd.R_lower ho14 (below_size bl)); have n1_ := Aside0.mk (below_step bl hb); clear HB; have HO151 := n0_; have HB := n1_; clear n0_ n1_; clear hb ho14) | ((with_reducible refine gate_dst (N := 5) rfl ?_); (try (refine gate_guard (by rfl) ?_; dsimp only)); refine Kd.R_lit (Kd.int .i64) _ 3 ?hg (N := 5) ?hd (xs := ([0] : List Int)) (inner := [.int .i64 0]) (ok := fun _ => True) (okp := fun _ => True) ?hr ?hp (fun _ hk => hk) trivial (Below.refl _ _) (Nat.le_refl _) (by simp) ?_; (case hd => rfl); (case hg => rfl); (case hr => first | (go_simp; done) | (go_simp; rfl)); (case hp => exact (Reps.one (show Kd.M (Kd.int .i64) _ _ _ 0 [.int .i64 0] from rfl) (Reps.none _ _))); intro v153 w15 ho16 hb hg_ hnew_; clear hg_ hnew_; (first | rw [← Ny152.out] at ho16 | (simp only [Int.reduceToNat] at ho16; rw [← Ny152.out] at ho16)); have n0_ := Aside0.mk (Kd.R_below (by (with_reducible repeat (first | apply Kd.R_alloc | apply Kd.R_drewN | apply Kd.R_drew)); exact HO151.out) hb); have n1_ := Aside0.mk (Kd.R_lower ho16 (below_size bl)); have n2_ := Aside0.mk (below_step bl hb); clear HO151; clear HB; have HO151 := n0_; have HO154 := n1_; have HB := n2_; clear n0_ n1_ n2_; clear hb ho16; obtain ⟨Ao17, co17, eo17⟩ := Kd.R_slice HO154.out; subst eo17; obtain ⟨Ao18, co18, eo18⟩ := Kd.R_slice HO151.out; subst eo18) | ((with_reducible refine gate_callee (f := 11) rfl ?_); refine goesL_ (some 7) rfl rfl Try.func11 (by kernel_rfl) rfl #[.agg #[.slice Ao18 y149.length co18, .slice none 0 0, .slice Ao17 y152.length co17]] rfl ga ?_; (refine (image_Encode.calls k _ _ y149 _ _ ([] : List Int) _ _ y152 t155 t158 _ ?side1 ?side2 ?side3 ?side4 ?side5 ?side6 A1.out).mono ?_); (case side1 => repeat (first | exact (Kd.R_reads' HO151.out).2.2 | (with_reducible refine Kd.C_alloc ?_ _) | (with_reducible refine Kd.C_drewN ?_ _) | (with_reducible refine Kd.C_drew ?_))); (case side2 => exact (Kd.R_reads' HO151.out).2.1); (case side3 => exact Kd.C_nil _ _); (case side4 => exact Nat.le_refl _); (case side5 => repeat (first | exact (Kd.R_reads' HO154.out).2.2 | (with_reducible refine Kd.C_alloc ?_ _) | (with_reducible refine Kd.C_drewN ?_ _) | (with_reducible refine Kd.C_drew ?_))); (case side6 => exact (Kd.R_reads' HO154.out).2.1); rintro e w19 ⟨v156, rfl, ho0, hb⟩; refine ⟨_, rfl, ?_⟩; have n0_ := Aside0.mk (Kd.R_below (by (with_reducible repeat (first | apply Kd.R_alloc | apply Kd.R_drewN | apply Kd.R_drew)); exact HO151.out) hb); have n1_ := Aside0.mk (Kd.R_below (by (with_reducible repeat (first | apply Kd.R_alloc | apply Kd.R_drewN | apply Kd.R_drew)); exact HO154.out) hb); have n2_ := Aside0.mk (Kd.R_lower ho0 (below_size bl)); have n3_ := Aside0.mk (below_step bl hb); clear HO151; clear HO154; clear HB; have HO151 := n0_; have HO154 := n1_; have HO157 := n2_; have HB := n3_; clear n0_ n1_ n2_ n3_; (try clear hb); (try clear ho0); obtain ⟨Ao20, co20, eo20⟩ := Kd.R_slice HO157.out; subst eo20))
   go_ret
   exact ⟨fi, bl⟩
 ·rw [if_neg c2] at H
  have c2b0 : (t158 == 0) = false := beq_eq_false_iff_ne.mpr c2
  have c2b1 : (t158 != 0) = true := bne_iff_ne.mpr c2
  obtain rfl := Option.some.inj H
  go_enter Try.func9, Try.ntmps9
  go_wp2_with (first | ((with_reducible refine gate_dst (N := 4) rfl ?_); (try (refine gate_guard (by rfl) ?_; dsimp only)); refine Kd.R_lit (Kd.int .u32) _ 51 ?hg (N := 4) ?hd (xs := ([115] : List Int)) (inner := [.int .u32 115]) (ok := fun _ => True) (okp := fun _ => True) ?hr ?hp (fun _ hk => hk) trivial (Below.refl _ _) (Nat.le_refl _) (by simp) ?_; (case hd => rfl); (case hg => rfl); (case hr => first | (go_simp; done) | (go_simp; rfl)); (case hp => exact (Reps.one (show Kd.M (Kd.int .u32) _ _ _ 115 [.int .u32 115] from rfl) (Reps.none _ _))); intro v150 w21 ho22 hb hg_ hnew_; clear hg_ hnew_; (first | rw [← Ny149.out] at ho22 | (simp only [Int.reduceToNat] at ho22; rw [← Ny149.out] at ho22)); have n0_ := Aside0.mk (Kd.R_lower ho22 (below_size bl)); have n1_ := Aside0.mk (below_step bl hb); clear HB; have HO151 := n0_; have HB := n1_; clear n0_ n1_; clear hb ho22) | ((with_reducible refine gate_dst (N := 5) rfl ?_); (try (refine gate_guard (by rfl) ?_; dsimp only)); refine Kd.R_lit (Kd.int .i64) _ 3 ?hg (N := 5) ?hd (xs := ([0] : List Int)) (inner := [.int .i64 0]) (ok := fun _ => True) (okp := fun _ => True) ?hr ?hp (fun _ hk => hk) trivial (Below.refl _ _) (Nat.le_refl _) (by simp) ?_; (case hd => rfl); (case hg => rfl); (case hr => first | (go_simp; done) | (go_simp; rfl)); (case hp => exact (Reps.one (show Kd.M (Kd.int .i64) _ _ _ 0 [.int .i64 0] from rfl) (Reps.none _ _))); intro v153 w23 ho24 hb hg_ hnew_; clear hg_ hnew_; (first | rw [← Ny152.out] at ho24 | (simp only [Int.reduceToNat] at ho24; rw [← Ny152.out] at ho24)); have n0_ := Aside0.mk (Kd.R_below (by (with_reducible repeat (first | apply Kd.R_alloc | apply Kd.R_drewN | apply Kd.R_drew)); exact HO151.out) hb); have n1_ := Aside0.mk (Kd.R_lower ho24 (below_size bl)); have n2_ := Aside0.mk (below_step bl hb); clear HO151; clear HB; have HO151 := n0_; have HO154 := n1_; have HB := n2_; clear n0_ n1_ n2_; clear hb ho24; obtain ⟨Ao25, co25, eo25⟩ := Kd.R_slice HO154.out; subst eo25; obtain ⟨Ao26, co26, eo26⟩ := Kd.R_slice HO151.out; subst eo26) | ((with_reducible refine gate_callee (f := 11) rfl ?_); refine goesL_ (some 7) rfl rfl Try.func11 (by kernel_rfl) rfl #[.agg #[.slice Ao26 y149.length co26, .slice none 0 0, .slice Ao25 y152.length co25]] rfl ga ?_; (refine (image_Encode.calls k _ _ y149 _ _ ([] : List Int) _ _ y152 t155 t158 _ ?side1 ?side2 ?side3 ?side4 ?side5 ?side6 A1.out).mono ?_); (case side1 => repeat (first | exact (Kd.R_reads' HO151.out).2.2 | (with_reducible refine Kd.C_alloc ?_ _) | (with_reducible refine Kd.C_drewN ?_ _) | (with_reducible refine Kd.C_drew ?_))); (case side2 => exact (Kd.R_reads' HO151.out).2.1); (case side3 => exact Kd.C_nil _ _); (case side4 => exact Nat.le_refl _); (case side5 => repeat (first | exact (Kd.R_reads' HO154.out).2.2 | (with_reducible refine Kd.C_alloc ?_ _) | (with_reducible refine Kd.C_drewN ?_ _) | (with_reducible refine Kd.C_drew ?_))); (case side6 => exact (Kd.R_reads' HO154.out).2.1); rintro e w27 ⟨v156, rfl, ho0, hb⟩; refine ⟨_, rfl, ?_⟩; have n0_ := Aside0.mk (Kd.R_below (by (with_reducible repeat (first | apply Kd.R_alloc | apply Kd.R_drewN | apply Kd.R_drew)); exact HO151.out) hb); have n1_ := Aside0.mk (Kd.R_below (by (with_reducible repeat (first | apply Kd.R_alloc | apply Kd.R_drewN | apply Kd.R_drew)); exact HO154.out) hb); have n2_ := Aside0.mk (Kd.R_lower ho0 (below_size bl)); have n3_ := Aside0.mk (below_step bl hb); clear HO151; clear HO154; clear HB; have HO151 := n0_; have HO154 := n1_; have HO157 := n2_; have HB := n3_; clear n0_ n1_ n2_ n3_; (try clear hb); (try clear ho0)))
  go_ret
  exact ⟨fi, bl⟩

end Go.Proofs.Ytfpphaflbmlpeaa.GImageChecks
