-- Written by wip/stub.py of this repo.
import Derived.Carry
import Derived.DeepKeys4
import Derived.Maps.Keyed
import Derived.Maps.Views
import Derived.Maps.OwnSet
import Derived.Maps.OwnOps
import Derived.Maps.Own
import Derived.Test.YtfpphaflbmlpeaaGCandChecksx0
import Derived.Test.YtfpphaflbmlpeaaGCandChecksx3
import Derived.Test.YtfpphaflbmlpeaaGCandChecksx4
namespace Go.Proofs.Ytfpphaflbmlpeaa.GCandChecks
open Go.RowKit Go.Proofs.YtfpphaflbmlpeaaW.PrintWords Go.Proofs.YtfpphaflbmlpeaaW.PrintLast Go.Proofs.YtfpphaflbmlpeaaW.PrintMore
attribute [local go_sem] max2_int min2_int max_two min_two max_three min_three max_four min_four   -- for this text's walks alone
set_option linter.unusedVariables false
set_option linter.unusedSimpArgs false

/-! ### cand_met: function 87 (by hand) -/
/-- Does a store stand in the rows ahead of a place? -/
def cmet (l : List S70) (i k r0 r1 : Int) : Bool :=
  ((l.take i.toNat).any fun x => x.f1.any fun y => y.f0 == r0 && y.f1 == r1) || (((rd_T70 l i).f1.take k.toNat).any fun y => y.f0 == r0 && y.f1 == r1)
/-- How many stores stand ahead of a place. -/
def camt (l : List S70) (i k : Int) : Nat := ((l.take i.toNat).map fun x => x.f1.length).sum + ((rd_T70 l i).f1.take k.toNat).length
def cand_met.f (l0 : List S70) (a1 a2 a3_0 a3_1 : Int) : Option Int := if (Lit.int .i64 a3_0).wf = true ∧ (Lit.int .i64 a3_1).wf = true ∧ camt l0 a1 a2 < 1000000 then some (if cmet l0 a1 a2 a3_0 a3_1 = true then 1 else 0) else none
theorem cmet_next {l : List S70} {i k : Int} (h0 : 0 ≤ k) (h1 : k < ((rd_T70 l i).f1.length : Int)) (r0 r1 : Int) : cmet l i (k + 1) r0 r1 = (cmet l i k r0 r1 || ((rd_T73 (rd_T70 l i).f1 k).f0 == r0 && (rd_T73 (rd_T70 l i).f1 k).f1 == r1)) := by
 have hl : k.toNat < (rd_T70 l i).f1.length := by omega
 have e : rd_T73 (rd_T70 l i).f1 k = (rd_T70 l i).f1[k.toNat] := by unfold rd_T73; simp [hl]
 unfold cmet
 rw [show (k + 1).toNat = k.toNat + 1 from by omega, List.take_succ_eq_append_getElem hl, List.any_append, e, Bool.or_assoc]
 simp
theorem camt_next {l : List S70} {i k : Int} (h0 : 0 ≤ k) (h1 : k < ((rd_T70 l i).f1.length : Int)) : camt l i (k + 1) = camt l i k + 1 := by
 unfold camt
 rw [List.length_take, List.length_take]
 omega
theorem cmet_row {l : List S70} {i k : Int} (h0 : 0 ≤ i) (h1 : i < (l.length : Int)) (hk : ¬ k < ((rd_T70 l i).f1.length : Int)) (r0 r1 : Int) : cmet l (i + 1) 0 r0 r1 = cmet l i k r0 r1 := by
 have hl : i.toNat < l.length := by omega
 have e : rd_T70 l i = l[i.toNat] := by unfold rd_T70; simp [hl]
 unfold cmet
 rw [show (i + 1).toNat = i.toNat + 1 from by omega, List.take_succ_eq_append_getElem hl, List.any_append, e] 
 rw [e] at hk
 rw [List.take_of_length_le (l := l[i.toNat].f1) (by omega)]
 simp
theorem camt_row {l : List S70} {i k : Int} (h0 : 0 ≤ i) (h1 : i < (l.length : Int)) : camt l i k ≤ camt l (i + 1) 0 := by
 have hl : i.toNat < l.length := by omega
 have e : rd_T70 l i = l[i.toNat] := by unfold rd_T70; simp [hl]
 unfold camt
 rw [show (i + 1).toNat = i.toNat + 1 from by omega, List.take_succ_eq_append_getElem hl, List.map_append, List.sum_append, e, List.length_take]
 simp
 omega
theorem cm_zero (w : World) : (zeroValue 3).run Try.prog w = .ok (.int .i64 0) w := by kernel_rfl
theorem cm_laidOut : laidOutB Try.prog = true := by kernel_rfl
theorem cm_row : (73 : TypeId) < Try.prog.types.size := of_decide_eq_true (by kernel_rfl)
theorem cm_deep : Try.prog.keyTypeAt 2 73 = true := by kernel_rfl
theorem cm_keyed : Maps.Keyed Try.prog 73 := Maps.Keyed.of_law (deep_law_laid cm_laidOut (m := 2) (by omega) cm_row cm_deep (by have hu := Try.underlying73; simp [hu]))
theorem cm_type : Try.prog.keyType 73 = true := by kernel_rfl
theorem cm_cells : Try.prog.cellsOf 73 = 2 := by kernel_rfl
theorem cm_cellsI : Try.prog.cellsOf 3 = 1 := by kernel_rfl
theorem cm_size : ∃ m, Try.prog.types.size = m + 1 := ⟨_, (Nat.succ_pred_eq_of_pos (Nat.lt_of_le_of_lt (Nat.zero_le _) cm_row)).symm⟩
set_option maxRecDepth 100000 in
theorem cm_key {a b : Int} (wa : (Lit.int .i64 a).wf = true) (wb : (Lit.int .i64 b).wf = true) : ∃ kl, keyOf Try.prog 73 (.agg #[.int .i64 a, .int .i64 b]) = some kl := by
 obtain ⟨m, hm⟩ := cm_size
 have hu := Try.underlying73
 have hI := Try.underlying3
 unfold keyOf
 simp only [hu]
 rw [if_pos (by simp [cm_type, Value.formed, hu, cm_cells]), hm]
 unfold Program.keyLits
 simp only [hu, Value.cells]
 rw [if_pos ⟨by rw [cm_cells]; rfl, by simp⟩]
 simp only [List.mapM_cons, List.mapM_nil, cm_cellsI]
 simp [Program.keyLits, hI, wa, wb]
/-- The map's block tells which stores stand ahead of a place. -/
def MapAt (l : List S70) (x y : Int) (B : Nat) (w : World) : Prop :=
  ∃ (n : Nat) (D : DataW Unit), n ≤ camt l x y ∧ w.ownsMap Try.prog 73 (plainElem Try.prog 3) B n D ∧ ∀ (r0 r1 : Int) (kl : Lit), keyOf Try.prog 73 (.agg #[.int .i64 r0, .int .i64 r1]) = some kl → D.atKey kl (.lit (.int .i64 0)) = .lit (.int .i64 (if cmet l x y r0 r1 = true then 1 else 0))
theorem MapAt.made (l : List S70) (w : World) : MapAt l 0 0 w.heap.size (w.alloc (.map #[] 0)) :=
 ⟨0, .map [], Nat.zero_le _, World.ownsMap_made _ _ _ _, fun _ _ _ _ => by simp [cmet, DataW.atKey]⟩
section
variable {l : List S70} {x y : Int} {B : Nat} {w w1 : World}
theorem MapAt.lt (h : MapAt l x y B w) : B < w.heap.size := by obtain ⟨n, D, _, h, _⟩ := h; exact h.lt
theorem MapAt.below (h : MapAt l x y B w) (hb : Below w.heap.size w w1) : MapAt l x y B w1 := by
 obtain ⟨n, D, h1, h2, h3⟩ := h
 exact ⟨n, D, h1, h2.kept (grown_of_below hb none) (by simp), h3⟩
theorem MapAt.alloc (h : MapAt l x y B w) (o : Obj) : MapAt l x y B (w.alloc o) := h.below (below_alloc (Below.refl _ _) o)
theorem MapAt.drewN (h : MapAt l x y B w) (n : Nat) : MapAt l x y B (w.drewN n) := h.below (pw_below_drewN (Below.refl _ _) n)
theorem MapAt.drew1 (h : MapAt l x y B w) : MapAt l x y B w.drew := h.below (below_drew (Below.refl _ _))
theorem grown_set (w : World) (a : Addr) (u : Value) : w.grownBy (w.setCell a u) (some a.block) :=
 ⟨rfl, rfl, rfl, by simp, fun k _ hk => heap_setCell_other w a k u (fun e => hk (by rw [e]))⟩
theorem MapAt.set (h : MapAt l x y B w) {g : Nat} (hne : g ≠ B) {i : Nat} {v : Value} : MapAt l x y B (w.setCell ⟨g, i, none⟩ v) := by
 obtain ⟨n, D, h1, h2, h3⟩ := h
 exact ⟨n, D, h1, h2.kept (grown_set w ⟨g, i, none⟩ v) (by intro e; exact hne (Option.some.inj e).symm), h3⟩
theorem MapAt.ne (h : MapAt l x y B w) {g : Nat} (hg : g = w.heap.size) : g ≠ B := by have := h.lt; omega
theorem MapAt.row (h : MapAt l x y B w) (h0 : decide (0 ≤ x) = true) (h1 : decide (x < (l.length : Int)) = true) (hk : decide (y < ((rd_T70 l x).f1.length : Int)) = false) : MapAt l (x + 1) 0 B w := by
 obtain ⟨n, D, g1, g2, g3⟩ := h
 have a := of_decide_eq_true h0
 have b := of_decide_eq_true h1
 have c := of_decide_eq_false hk
 exact ⟨n, D, Nat.le_trans g1 (camt_row a b), g2, fun r0 r1 kl hkl => by rw [cmet_row a b c]; exact g3 r0 r1 kl hkl⟩
set_option maxRecDepth 100000 in
theorem wrap_up {n : Nat} (hn : n ≤ 9223372036854775807) (h0 : decide (0 ≤ x) = true) (h1 : decide (x < (n : Int)) = true) : wrap64 (x + 1) = x + 1 := by
 have a := of_decide_eq_true h0
 have b := of_decide_eq_true h1
 have c : (n : Int) ≤ 9223372036854775807 := Int.ofNat_le.2 hn
 unfold wrap64
 rw [Int.emod_eq_of_lt (by omega) (by omega)]
 omega
set_option maxRecDepth 100000 in
theorem MapAt.look (h : MapAt l x y B w) {r0 r1 t : Int} (hf : cand_met.f l x y r0 r1 = some t) : (Instr.lookup 102 (.map (some B)) (.agg #[.int .i64 r0, .int .i64 r1]) false).run Try.prog w = .ok (.int .i64 t) w := by
 obtain ⟨n, D, g1, g2, g3⟩ := h
 unfold cand_met.f at hf
 by_cases hw : (Lit.int .i64 r0).wf = true ∧ (Lit.int .i64 r1).wf = true ∧ camt l x y < 1000000
 ·rw [if_pos hw] at hf
  obtain rfl := Option.some.inj hf
  obtain ⟨kl, hkl⟩ := cm_key hw.1 hw.2.1
  obtain ⟨c, hrun, hat, _⟩ := g2.lookup_int (t := 102) (e := 3) cm_keyed Try.underlying102 Try.underlying3 (cm_zero w) hkl
  rw [g3 r0 r1 kl hkl] at hat
  injection hat with hat
  injection hat with _ hat
  subst hat
  exact hrun
 ·rw [if_neg hw] at hf; cases hf
set_option maxRecDepth 100000 in
theorem MapAt.put_ (h : MapAt l x y B w) (h0 : decide (0 ≤ y) = true) (h1 : decide (y < ((rd_T70 l x).f1.length : Int)) = true)
  {t : Int} (hf : cand_met.f l x y (rd_T73 (rd_T70 l x).f1 y).f0 (rd_T73 (rd_T70 l x).f1 y).f1 = some t) :
  ∃ w1, (Instr.mapUpdate 102 (.map (some B)) (.agg #[.int .i64 (rd_T73 (rd_T70 l x).f1 y).f0, .int .i64 (rd_T73 (rd_T70 l x).f1 y).f1]) (.int .i64 1)).run Try.prog w = .ok () w1 ∧ MapAt l x (y + 1) B w1 ∧ w.grownBy w1 (some B) := by
 obtain ⟨n, D, g1, g2, g3⟩ := h
 have a := of_decide_eq_true h0
 have b := of_decide_eq_true h1
 unfold cand_met.f at hf
 by_cases hw : (Lit.int .i64 (rd_T73 (rd_T70 l x).f1 y).f0).wf = true ∧ (Lit.int .i64 (rd_T73 (rd_T70 l x).f1 y).f1).wf = true ∧ camt l x y < 1000000
 ·obtain ⟨kl, hkl⟩ := cm_key hw.1 hw.2.1
  obtain ⟨w1, hrun, ho, hg⟩ := g2.update (t := 102) (e := 3) cm_keyed Try.underlying102 (Nat.lt_of_le_of_lt g1 (Nat.lt_trans hw.2.2 (by decide))) hkl (plainElem_int Try.underlying3 (a := 1) (by decide))
  refine ⟨w1, hrun, ⟨n + 1, _, by rw [camt_next a b]; omega, ho, fun r0 r1 kl' hkl' => ?_⟩, hg⟩
  rw [cmet_next a b]
  by_cases hk : kl' = kl
  ·subst hk
   have e := cm_keyed.inj hkl hkl'
   simp only [Value.agg.injEq, Array.mk.injEq, List.cons.injEq, Value.int.injEq, true_and, and_true] at e
   rw [Maps.atKey_put_same g2.isMap (cm_keyed.key hkl)]
   simp [e.1, e.2]
  ·rw [Maps.atKey_put_other hk, g3 r0 r1 kl' hkl']
   have hne : ((rd_T73 (rd_T70 l x).f1 y).f0 == r0 && (rd_T73 (rd_T70 l x).f1 y).f1 == r1) = false := by
    rw [Bool.eq_false_iff]
    intro hh
    simp only [Bool.and_eq_true, beq_iff_eq] at hh
    rw [hh.1, hh.2, hkl'] at hkl
    exact hk (Option.some.inj hkl)
   rw [hne, Bool.or_false]
 ·rw [if_neg hw] at hf; cases hf
theorem below_of_eq (h : w1 = w) : Below w.heap.size w w1 := by rw [h]; exact Below.refl _ _
theorem blk_map {W : World} {g : Nat} {o : Obj} (h : W.heap[g]? = some o) (hg : W.grownBy w1 (some B)) (hne : g ≠ B) : w1.heap[g]? = some o :=
 (hg.block g (Array.getElem?_eq_some_iff.1 h).1 (fun e => hne (Option.some.inj e))).trans h
end
section
variable {ops : Array Oper} {rest : List Oper} {o : Oper} {a : Act} {Q : Exit → Act → World → Prop} {W : World} {l : List S70} {x y : Int} {B : Nat}
theorem look_map (hgd : o.guard = none) {m x' : Operand} (ho : o.op = .lookup 102 m x' false) {r0 r1 t : Int} (hm : a.eval m = .map (some B)) (hx : a.eval x' = .agg #[.int .i64 r0, .int .i64 r1])
  (hM : MapAt l x y B W) (hf : cand_met.f l x y r0 r1 = some t) (h : ∀ w', MapAt l x y B w' → Below W.heap.size W w' → wpList Try.prog ops Q rest (a.put o.dst (.int .i64 t)) w') : wpList Try.prog ops Q (o :: rest) a W := by
 have hrun := hM.look hf
 refine wpList_plain hgd fun K' hK' => ?_
 unfold Oper.wp
 simp [execOp, ho, hm, hx, hrun, Result.andThen]
 exact hK' _ _ (h W hM (Below.refl _ _))
theorem put_map (hgd : o.guard = none) {m x' v : Operand} (ho : o.op = .mapUpdate 102 m x' v) (hm : a.eval m = .map (some B)) (hx : a.eval x' = .agg #[.int .i64 (rd_T73 (rd_T70 l x).f1 y).f0, .int .i64 (rd_T73 (rd_T70 l x).f1 y).f1]) (hv : a.eval v = .int .i64 1)
  (hM : MapAt l x y B W) (h0 : decide (0 ≤ y) = true) (h1 : decide (y < ((rd_T70 l x).f1.length : Int)) = true)
  {t : Int} (hf : cand_met.f l x y (rd_T73 (rd_T70 l x).f1 y).f0 (rd_T73 (rd_T70 l x).f1 y).f1 = some t) (h : ∀ w1, MapAt l x (y + 1) B w1 → W.grownBy w1 (some B) → wpList Try.prog ops Q rest (a.put o.dst undef) w1) : wpList Try.prog ops Q (o :: rest) a W := by
 obtain ⟨w1, hrun, h2, h3⟩ := hM.put_ h0 h1 hf
 refine wpList_plain hgd fun K' hK' => ?_
 unfold Oper.wp
 simp [execOp, ho, hm, hx, hv, hrun, Result.andThen]
 exact hK' _ _ (h w1 h2 h3)
end

/-! ### cand_rows: function 51 -/
mutual
def cand_rows.l0 : Nat → List (S70) → Int → Int → List (List (S75)) → List (S70) → Option (Bool)
  | 0, _, _, _, _, _ => none
  | k + 1, x10, x11, x12, x120000, x120001 => if x12 < x11 then (if 0 ≤ x12 then (if x12 < (x10.length : Int) then (if (((rd_T70 x10 x12).f1).length : Int) = 0 then (cand_rows.j1 k x10 x11 x12 true x120000 x120001 ((rd_T70 x10 x12).f0) ((rd_T70 x10 x12).f1)) else (if x12 > 0 then (if 0 ≤ (wrap64 (x12 - 1)) then (if (wrap64 (x12 - 1)) < (x120001.length : Int) then (cand_rows.j1 k x10 x11 x12 (decide (((rd_T70 x10 x12).f0) ≤ ((rd_T70 x120001 (wrap64 (x12 - 1))).f0))) x120000 x120001 ((rd_T70 x10 x12).f0) ((rd_T70 x10 x12).f1)) else (none)) else (none)) else (cand_rows.j1 k x10 x11 x12 false x120000 x120001 ((rd_T70 x10 x12).f0) ((rd_T70 x10 x12).f1)))) else (none)) else (none)) else (some true)
def cand_rows.j1 : Nat → List (S70) → Int → Int → Bool → List (List (S75)) → List (S70) → Int → List (S73) → Option (Bool)
  | 0, _, _, _, _, _, _, _, _ => none
  | k + 1, x10, x11, x12, x36, x120000, x120001, x122000, x122001 => if x36 = true then (some false) else (cand_rows.l1 k x10 x11 x12 x122001 (x122001.length : Int) 0 x120000 x120001)
def cand_rows.l1 : Nat → List (S70) → Int → Int → List (S73) → Int → Int → List (List (S75)) → List (S70) → Option (Bool)
  | 0, _, _, _, _, _, _, _, _ => none
  | k + 1, x10, x11, x12, x38, x39, x40, x120000, x120001 => if x40 < x39 then (if 0 ≤ x40 then (if x40 < (x38.length : Int) then ((cand_met.f x10 x12 x40 ((rd_T73 x38 x40).f0) ((rd_T73 x38 x40).f1)).bind fun t125 => (if t125 > 0 then (some false) else ((cand_there.f x120000 x120001 ((rd_T73 x38 x40).f0) ((rd_T73 x38 x40).f1)).bind fun t126 => (if t126 = true then (cand_rows.l1 k x10 x11 x12 x38 x39 (wrap64 (x40 + 1)) x120000 x120001) else (some false))))) else (none)) else (none)) else (cand_rows.l0 k x10 x11 (wrap64 (x12 + 1)) x120000 x120001)
end
def cand_rows.f (k : Nat) (l0_0 : List (List (S75))) (l0_1 : List (S70)) : Option (Bool) := cand_rows.l0 k l0_1 (l0_1.length : Int) 0 l0_0 l0_1
theorem cand_rows.mono_l : ∀ k, (∀ y0 y1 y2 y3 y4, LeO (cand_rows.l0 k y0 y1 y2 y3 y4) (cand_rows.l0 (k + 1) y0 y1 y2 y3 y4)) ∧ (∀ y0 y1 y2 y3 y4 y5 y6 y7, LeO (cand_rows.j1 k y0 y1 y2 y3 y4 y5 y6 y7) (cand_rows.j1 (k + 1) y0 y1 y2 y3 y4 y5 y6 y7)) ∧ (∀ y0 y1 y2 y3 y4 y5 y6 y7, LeO (cand_rows.l1 k y0 y1 y2 y3 y4 y5 y6 y7) (cand_rows.l1 (k + 1) y0 y1 y2 y3 y4 y5 y6 y7))
 | 0 => ⟨fun _ _ _ _ _ r h => by simp [cand_rows.l0] at h, fun _ _ _ _ _ _ _ _ r h => by simp [cand_rows.j1] at h, fun _ _ _ _ _ _ _ _ r h => by simp [cand_rows.l1] at h⟩
 | k + 1 => by
  obtain ⟨ih0, ih1, ih2⟩ := cand_rows.mono_l k
  refine ⟨?_, ?_, ?_⟩
  all_goals (intros; (first | unfold cand_rows.l0 | unfold cand_rows.j1 | unfold cand_rows.l1); repeat' first | (with_reducible first | exact ih0 _ _ _ _ _ | exact ih1 _ _ _ _ _ _ _ _ | exact ih2 _ _ _ _ _ _ _ _ | exact LeO.refl _ | exact LeO.none _ | refine LeO.ite ?_ ?_ | refine LeO.bind ?_ (fun _ => ?_)) | exact ih0 _ _ _ _ _ | exact ih1 _ _ _ _ _ _ _ _ | exact ih2 _ _ _ _ _ _ _ _ | exact LeO.none _ | refine LeO.ite ?_ ?_ | refine LeO.bind ?_ (fun _ => ?_))
theorem cand_rows.mono : ∀ a0 a1 k, LeO (cand_rows.f k a0 a1) (cand_rows.f (k + 1) a0 a1) := by
 intro a0 a1 k
 obtain ⟨ih0, ih1, ih2⟩ := cand_rows.mono_l k
 unfold cand_rows.f
 repeat' first | (with_reducible first | exact ih0 _ _ _ _ _ | exact ih1 _ _ _ _ _ _ _ _ | exact ih2 _ _ _ _ _ _ _ _ | exact LeO.refl _ | exact LeO.none _ | refine LeO.ite ?_ ?_ | refine LeO.bind ?_ (fun _ => ?_)) | exact ih0 _ _ _ _ _ | exact ih1 _ _ _ _ _ _ _ _ | exact ih2 _ _ _ _ _ _ _ _ | exact LeO.none _ | refine LeO.ite ?_ ?_ | refine LeO.bind ?_ (fun _ => ?_)
set_option maxHeartbeats 8000000 in
set_option maxRecDepth 100000 in
theorem cand_rows.calls (k : Nat) (A0_0 : Option Addr) (c0_0 : Nat) (l0_0 : List (List (S75))) (A0_1 : Option Addr) (c0_1 : Nat) (l0_1 : List (S70)) (r : Bool) (w : World) (hr0_0 : Kd.C (Kd.slice 75 k75) w A0_0 l0_0.length l0_0) (hc0_0 : l0_0.length ≤ c0_0) (hr0_1 : Kd.C k70 w A0_1 l0_1.length l0_1) (hc0_1 : l0_1.length ≤ c0_1) (h : cand_rows.f k l0_0 l0_1 = some r) :
  Calls Try.prog 51 #[.agg #[.slice A0_0 l0_0.length c0_0, .slice A0_1 l0_1.length c0_1]] w fun e w' => e = .returned (.bool r) ∧ Below w.heap.size w w' := by
 have hu42 := Try.underlying42
 have hu70 := Try.underlying70
 have hu73 := Try.underlying73
 have HR0_0 := Aside0.mk hr0_0
 have HC0_0 := Aside0.mk hc0_0
 clear hr0_0 hc0_0
 have HR0_1 := Aside0.mk hr0_1
 have HC0_1 := Aside0.mk hc0_1
 clear hr0_1 hc0_1
 have HB := Aside0.mk (Below.refl w.heap.size w)
 have H : (cand_rows.l0 k l0_1 (l0_1.length : Int) 0 l0_0 l0_1) = some r := h
 clear h
 have H' := Aside0.mk H
 clear H
 have hmm := @run_makeMap Try.prog
 go_enter Try.func51, Try.ntmps51
 go_wp2_with (first | ((with_reducible refine gate_dst (N := 1) rfl ?_); refine bv 1 #[.slice A0_0 l0_0.length c0_0, .slice A0_1 l0_1.length c0_1] 42 ?_; intro gb119 hg w2 hbox hb; obtain ⟨n0_, GW119⟩ := nb (w := w) hg hb; clear HB; have HB := n0_; have BK119 := Aside0.mk hbox; have GE119 := GW119; clear n0_ hb hbox hg; obtain ⟨hcz3_0, hcz3_1, hfz3_0, hfz3_1⟩ := cz2 (w := w2) BK119.out; have hmz0 := (blk_cell (blk_alloc BK119.out (.map #[] 0)) 0).trans rfl; have hmf0 := blk_frozen (blk_alloc BK119.out (.map #[] 0)) 0; have hmz1 := (blk_cell (blk_alloc BK119.out (.map #[] 0)) 1).trans rfl; have hmf1 := blk_frozen (blk_alloc BK119.out (.map #[] 0)) 1))
 repeat (go_quiet (first | ((with_reducible refine gate_dst (N := 1) rfl ?_); refine bv 1 #[.slice A0_0 l0_0.length c0_0, .slice A0_1 l0_1.length c0_1] 42 ?_; intro gb119 hg w2 hbox hb; obtain ⟨n0_, GW119⟩ := nb (w := w) hg hb; clear HB; have HB := n0_; have BK119 := Aside0.mk hbox; have GE119 := GW119; clear n0_ hb hbox hg; obtain ⟨hcz3_0, hcz3_1, hfz3_0, hfz3_1⟩ := cz2 (w := w2) BK119.out; have hmz0 := (blk_cell (blk_alloc BK119.out (.map #[] 0)) 0).trans rfl; have hmf0 := blk_frozen (blk_alloc BK119.out (.map #[] 0)) 0; have hmz1 := (blk_cell (blk_alloc BK119.out (.map #[] 0)) 1).trans rfl; have hmf1 := blk_frozen (blk_alloc BK119.out (.map #[] 0)) 1)); try go_wp2_with (first | ((with_reducible refine gate_dst (N := 1) rfl ?_); refine bv 1 #[.slice A0_0 l0_0.length c0_0, .slice A0_1 l0_1.length c0_1] 42 ?_; intro gb119 hg w2 hbox hb; obtain ⟨n0_, GW119⟩ := nb (w := w) hg hb; clear HB; have HB := n0_; have BK119 := Aside0.mk hbox; have GE119 := GW119; clear n0_ hb hbox hg; obtain ⟨hcz3_0, hcz3_1, hfz3_0, hfz3_1⟩ := cz2 (w := w2) BK119.out; have hmz0 := (blk_cell (blk_alloc BK119.out (.map #[] 0)) 0).trans rfl; have hmf0 := blk_frozen (blk_alloc BK119.out (.map #[] 0)) 0; have hmz1 := (blk_cell (blk_alloc BK119.out (.map #[] 0)) 1).trans rfl; have hmf1 := blk_frozen (blk_alloc BK119.out (.map #[] 0)) 1)))
 have HMB := Aside0.mk (below_size HB.out)
 have NM119 : Aside0 (gb119 ≠ w2.heap.size) := ⟨Nat.ne_of_lt (blk_lt BK119.out)⟩
 go_loopg [12] k (fun kq v12 w' => ∃ (x12_1 : Int), v12 = .int .i64 x12_1 ∧ Aside0 (cand_rows.l0 kq l0_1 (l0_1.length : Int) x12_1 l0_0 l0_1 = some r) ∧ Aside0 (kq ≤ k) ∧ Aside0 (w'.heap[gb119]? = some (.cells #[(.slice A0_0 l0_0.length c0_0), (.slice A0_1 l0_1.length c0_1)] 42 (0, 0))) ∧ Aside0 (Below w.heap.size w w') ∧ Aside0 (MapAt l0_1 x12_1 0 w2.heap.size w'))
 case atStart => exact ⟨(0), fj, H', ⟨Nat.le_refl _⟩, ⟨by refine bx ?_; exact BK119.out⟩, ⟨bl⟩, ⟨(by first | (with_reducible exact MapAt.made l0_1 w2) | exact (by with_reducible repeat (first | exact HM.out | refine MapAt.set ?_ (Aside0.out (by assumption)) | refine MapAt.drewN ?_ _ | refine MapAt.drew1 ?_ | refine MapAt.alloc ?_ _)))⟩⟩
 case round =>
  clear H'
  try clear p2
  try clear hcz3_0 hcz3_1
  try clear hfz3_0 hfz3_1
  obtain ⟨x12_1, rfl, HA, HK1, BK119, HB, HM⟩ := hrel
  cases gk with
  | zero => exact absurd HA.out (by simp [cand_rows.l0])
  | succ k1 =>
   have H := HA.out
   clear HA
   simp only [cand_rows.l0] at H
   by_cases c4 : x12_1 < (l0_1.length : Int)
   rotate_left
   ·rw [if_neg c4] at H
    have c4b0 := decide_eq_false c4
    clear c4
    obtain rfl := Option.some.inj H
    go_wp2
    repeat (go_quiet (fail); try go_wp2)
    go_ret
    exact ⟨fi, bl⟩
   rw [if_pos c4] at H
   have c4b0 := decide_eq_true c4
   clear c4
   by_cases c5 : 0 ≤ x12_1
   rotate_left
   ·rw [if_neg c5] at H
    exact absurd H (by simp)
   rw [if_pos c5] at H
   have c5b0 := decide_eq_true c5
   clear c5
   by_cases c6 : x12_1 < (l0_1.length : Int)
   rotate_left
   ·rw [if_neg c6] at H
    exact absurd H (by simp)
   rw [if_pos c6] at H
   have c6b0 := decide_eq_true c6
   clear c6
   have HC7 := Aside0.mk H
   clear H
   have p120 : 0 ≤ (x12_1 : Int) := od
   have q120 : x12_1 < (l0_1.length : Int) := od
   obtain ⟨ad120, A120_1, c120_1, e120, hx120_0, hx120_1, hl120_1, hi120_1⟩ := at_T70 HR0_1.out x12_1 p120 q120
   cases e120
   replace hx120_0 := cb HB.out hx120_0
   replace hx120_1 := cb HB.out hx120_1
   have HR120_1 := Aside0.mk hi120_1
   have HC120_1 := Aside0.mk hl120_1
   clear hi120_1 hl120_1
   replace p120 := eq_true p120
   replace q120 := eq_true q120
   go_upto_region 5 with (first | ((with_reducible refine gate_dst (N := 5) rfl ?_); refine bv 5 #[.int .i64 0, .slice none 0 0] 70 ?_; intro gb121 hg w8 hbox hb; have NEB121 := Aside0.mk (MapAt.ne HM.out hg); have mz_ := Aside0.mk (MapAt.below HM.out hb); clear HM; have HM := mz_; clear mz_; have n0_ := Aside0.mk (blk_below (g := gb119) (o := .cells #[.slice A0_0 l0_0.length c0_0, .slice (some ad120) l0_1.length c0_1] 42 (0, 0)) (bk BK119.out) hb); have n1_ := Aside0.mk (below_step bl hb); have n2_ := Aside0.mk (hbox); have n3_ := Aside0.mk ((by rw [hg]; exact (below_size bl) : w.heap.size ≤ gb121)); have n4_ := Aside0.mk ((by rw [hg]; exact (below_size bl) : w.heap.size ≤ gb121)); have n5_ := Aside0.mk ((nl hg (bk BK119.out) : gb119 ≠ gb121)); have n6_ := Aside0.mk ((ng hg (bk BK119.out) : gb121 ≠ gb119)); clear BK119; clear HB; have BK119 := n0_; have HB := n1_; have BK121 := n2_; have GW121 := n3_; have GE121 := n4_; have NB119_121 := n5_; have NB121_119 := n6_; clear n0_ n1_ n2_ n3_ n4_ n5_ n6_; clear hb hbox hg; have hnb9 := NB121_119.out; have hnc9 := NB119_121.out; obtain ⟨hcz10_0, hcz10_1, hfz10_0, hfz10_1⟩ := cz2 (w := w8) BK121.out))
   repeat (go_quiet (first | ((with_reducible refine gate_dst (N := 5) rfl ?_); refine bv 5 #[.int .i64 0, .slice none 0 0] 70 ?_; intro gb121 hg w8 hbox hb; have NEB121 := Aside0.mk (MapAt.ne HM.out hg); have mz_ := Aside0.mk (MapAt.below HM.out hb); clear HM; have HM := mz_; clear mz_; have n0_ := Aside0.mk (blk_below (g := gb119) (o := .cells #[.slice A0_0 l0_0.length c0_0, .slice (some ad120) l0_1.length c0_1] 42 (0, 0)) (bk BK119.out) hb); have n1_ := Aside0.mk (below_step bl hb); have n2_ := Aside0.mk (hbox); have n3_ := Aside0.mk ((by rw [hg]; exact (below_size bl) : w.heap.size ≤ gb121)); have n4_ := Aside0.mk ((by rw [hg]; exact (below_size bl) : w.heap.size ≤ gb121)); have n5_ := Aside0.mk ((nl hg (bk BK119.out) : gb119 ≠ gb121)); have n6_ := Aside0.mk ((ng hg (bk BK119.out) : gb121 ≠ gb119)); clear BK119; clear HB; have BK119 := n0_; have HB := n1_; have BK121 := n2_; have GW121 := n3_; have GE121 := n4_; have NB119_121 := n5_; have NB121_119 := n6_; clear n0_ n1_ n2_ n3_ n4_ n5_ n6_; clear hb hbox hg; have hnb9 := NB121_119.out; have hnc9 := NB119_121.out; obtain ⟨hcz10_0, hcz10_1, hfz10_0, hfz10_1⟩ := cz2 (w := w8) BK121.out)); go_upto_region 5 with (first | ((with_reducible refine gate_dst (N := 5) rfl ?_); refine bv 5 #[.int .i64 0, .slice none 0 0] 70 ?_; intro gb121 hg w8 hbox hb; have NEB121 := Aside0.mk (MapAt.ne HM.out hg); have mz_ := Aside0.mk (MapAt.below HM.out hb); clear HM; have HM := mz_; clear mz_; have n0_ := Aside0.mk (blk_below (g := gb119) (o := .cells #[.slice A0_0 l0_0.length c0_0, .slice (some ad120) l0_1.length c0_1] 42 (0, 0)) (bk BK119.out) hb); have n1_ := Aside0.mk (below_step bl hb); have n2_ := Aside0.mk (hbox); have n3_ := Aside0.mk ((by rw [hg]; exact (below_size bl) : w.heap.size ≤ gb121)); have n4_ := Aside0.mk ((by rw [hg]; exact (below_size bl) : w.heap.size ≤ gb121)); have n5_ := Aside0.mk ((nl hg (bk BK119.out) : gb119 ≠ gb121)); have n6_ := Aside0.mk ((ng hg (bk BK119.out) : gb121 ≠ gb119)); clear BK119; clear HB; have BK119 := n0_; have HB := n1_; have BK121 := n2_; have GW121 := n3_; have GE121 := n4_; have NB119_121 := n5_; have NB121_119 := n6_; clear n0_ n1_ n2_ n3_ n4_ n5_ n6_; clear hb hbox hg; have hnb9 := NB121_119.out; have hnc9 := NB119_121.out; obtain ⟨hcz10_0, hcz10_1, hfz10_0, hfz10_1⟩ := cz2 (w := w8) BK121.out)))
   (try simp only [Act.put, List.setIfInBounds_toArray, List.set_cons_zero, List.set_cons_succ])
   go_cut [36] (fun v36 wc => ∃ (kq : Nat) (x36_6 : Bool), v36 = .bool x36_6 ∧ Aside0 (cand_rows.j1 kq l0_1 (l0_1.length : Int) x12_1 x36_6 l0_0 l0_1 ((rd_T70 l0_1 x12_1).f0) ((rd_T70 l0_1 x12_1).f1) = some r) ∧ Aside0 (kq ≤ k1) ∧ Aside0 (wc.heap[gb119]? = some (.cells #[(.slice A0_0 l0_0.length c0_0), (.slice (some ad120) l0_1.length c0_1)] 42 (0, 0))) ∧ Aside0 (wc.heap[gb121]? = some (.cells #[.int .i64 ((rd_T70 l0_1 x12_1).f0), (.slice A120_1 ((rd_T70 l0_1 x12_1).f1).length c120_1)] 70 (0, 0))) ∧ Aside0 (Below w.heap.size w wc) ∧ Aside0 (MapAt l0_1 x12_1 0 w2.heap.size wc))
   case first =>
    have H := HC7.out
    clear HC7
    by_cases c11 : (((rd_T70 l0_1 x12_1).f1).length : Int) = 0
    ·rw [if_pos c11] at H
     obtain ⟨c11b0, c11b1⟩ := eqs c11
     clear c11
     (first | rw [c11b0] | (simp only [i64_w, i32_w]; rw [c11b0]) | skip)
     have H' := Aside0.mk H
     clear H
     have hnb12 := NB121_119.out
     have hnc12 := NB119_121.out
     obtain ⟨hcz13_0, hcz13_1, hfz13_0, hfz13_1⟩ := cz2 (w := w8) BK121.out
     go_wp2
     repeat (go_quiet (fail); try go_wp2)
     go_meet
     case rel => exact ⟨_, (true), fj, H', ⟨by have := HK1.out; first | omega | exact Nat.le_refl _⟩, ⟨by refine bx ?_; refine blk_far ?_ NB119_121.out _; refine bx ?_; refine blk_far ?_ NB119_121.out _; refine bx ?_; exact BK119.out⟩, ⟨by refine bx ?_; refine blk_put (cs := #[.int .i64 ((rd_T70 l0_1 x12_1).f0), .slice none 0 0]) ?_ 1 _ rfl; refine bx ?_; refine blk_put (cs := #[.int .i64 0, .slice none 0 0]) ?_ 0 _ rfl; refine bx ?_; exact BK121.out⟩, ⟨bl⟩, ⟨(by with_reducible repeat (first | exact HM.out | refine MapAt.set ?_ (Aside0.out (by assumption)) | refine MapAt.drewN ?_ _ | refine MapAt.drew1 ?_ | refine MapAt.alloc ?_ _))⟩⟩
    rw [if_neg c11] at H
    have c11b0 : ((((rd_T70 l0_1 x12_1).f1).length : Int) == 0) = false := beq_eq_false_iff_ne.mpr c11
    have c11b1 : ((((rd_T70 l0_1 x12_1).f1).length : Int) != 0) = true := bne_iff_ne.mpr c11
    have c11b2 : ¬ (((rd_T70 l0_1 x12_1).f1) = []) := fun h_ => c11 (by rw [h_]; rfl)
    (first | rw [c11b0] | (simp only [i64_w, i32_w]; rw [c11b0]) | skip)
    by_cases c14 : x12_1 > 0
    rotate_left
    ·rw [if_neg c14] at H
     have c14b0 := decide_eq_false c14
     clear c14
     have H' := Aside0.mk H
     clear H
     have hnb21 := NB121_119.out
     have hnc21 := NB119_121.out
     obtain ⟨hcz22_0, hcz22_1, hfz22_0, hfz22_1⟩ := cz2 (w := w8) BK121.out
     go_wp2
     repeat (go_quiet (fail); try go_wp2)
     go_meet
     case rel => exact ⟨_, (false), fj, H', ⟨by have := HK1.out; first | omega | exact Nat.le_refl _⟩, ⟨by refine bx ?_; refine blk_far ?_ NB119_121.out _; refine bx ?_; refine blk_far ?_ NB119_121.out _; refine bx ?_; exact BK119.out⟩, ⟨by refine bx ?_; refine blk_put (cs := #[.int .i64 ((rd_T70 l0_1 x12_1).f0), .slice none 0 0]) ?_ 1 _ rfl; refine bx ?_; refine blk_put (cs := #[.int .i64 0, .slice none 0 0]) ?_ 0 _ rfl; refine bx ?_; exact BK121.out⟩, ⟨bl⟩, ⟨(by with_reducible repeat (first | exact HM.out | refine MapAt.set ?_ (Aside0.out (by assumption)) | refine MapAt.drewN ?_ _ | refine MapAt.drew1 ?_ | refine MapAt.alloc ?_ _))⟩⟩
    rw [if_pos c14] at H
    have c14b0 := decide_eq_true c14
    clear c14
    obtain ⟨ji15, hji15⟩ : ∃ j_ : Int, (wrap64 (x12_1 - 1)) = j_ := ⟨_, rfl⟩
    replace H : (if 0 ≤ (ji15) then (if (ji15) < (l0_1.length : Int) then (cand_rows.j1 k1 l0_1 (l0_1.length : Int) x12_1 (decide (((rd_T70 l0_1 x12_1).f0) ≤ ((rd_T70 l0_1 (ji15)).f0))) l0_0 l0_1 ((rd_T70 l0_1 x12_1).f0) ((rd_T70 l0_1 x12_1).f1)) else (none)) else (none)) = some r := by first | (rw [hji15] at H; exact H) | (simp only [hji15] at H ⊢; exact H)
    have hji15w : (IntKind.i64.wrap (x12_1 - 1)) = ji15 := (i64_w _).trans hji15
    by_cases c16 : 0 ≤ (ji15)
    rotate_left
    ·rw [if_neg c16] at H
     exact absurd H (by simp)
    rw [if_pos c16] at H
    have c16b0 := decide_eq_true c16
    clear c16
    by_cases c17 : (ji15) < (l0_1.length : Int)
    rotate_left
    ·rw [if_neg c17] at H
     exact absurd H (by simp)
    rw [if_pos c17] at H
    have c17b0 := decide_eq_true c17
    clear c17
    have H' := Aside0.mk H
    clear H
    have hnb18 := NB121_119.out
    have hnc18 := NB119_121.out
    obtain ⟨hcz19_0, hcz19_1, hfz19_0, hfz19_1⟩ := cz2 (w := w8) BK121.out
    obtain ⟨hcz20_0, hcz20_1, hfz20_0, hfz20_1⟩ := cz2 (w := w8) BK119.out
    have p122 : 0 ≤ ((ji15) : Int) := od
    have q122 : (ji15) < (l0_1.length : Int) := od
    obtain ⟨ad122, A122_1, c122_1, e122, hx122_0, hx122_1, hl122_1, hi122_1⟩ := at_T70 HR0_1.out (ji15) p122 q122
    obtain rfl : ad120 = ad122 := (by injection e122)
    have hn122_0 : ad120.block ≠ gb121 := Nat.ne_of_lt (Nat.lt_of_lt_of_le (by have := World.block_lt_of_cell? _ _ hx122_0; first | rwa [add_block] at this | exact this) GW121.out)
    have hn122_1 : ad120.block ≠ gb121 := Nat.ne_of_lt (Nat.lt_of_lt_of_le (by have := World.block_lt_of_cell? _ _ hx122_0; first | rwa [add_block] at this | exact this) GW121.out)
    replace hx122_0 := cb HB.out hx122_0
    replace hx122_1 := cb HB.out hx122_1
    have HR122_1 := Aside0.mk hi122_1
    have HC122_1 := Aside0.mk hl122_1
    clear hi122_1 hl122_1
    replace hx122_0 := (cell_far (p := ⟨gb121, 0, none⟩) (by first | (rw [add_block]; exact hn122_0) | (show (Addr.add _ _).block ≠ _; rw [add_block]; exact hn122_0) | exact hn122_0) (.int .i64 ((rd_T70 l0_1 x12_1).f0))).trans hx122_0
    replace hx122_1 := (cell_far (p := ⟨gb121, 0, none⟩) (by first | (rw [add_block]; exact hn122_0) | (show (Addr.add _ _).block ≠ _; rw [add_block]; exact hn122_0) | exact hn122_0) (.int .i64 ((rd_T70 l0_1 x12_1).f0))).trans hx122_1
    replace hx122_0 := (cell_far (p := ⟨gb121, 1, none⟩) (by first | (rw [add_block]; exact hn122_1) | (show (Addr.add _ _).block ≠ _; rw [add_block]; exact hn122_1) | exact hn122_1) (.slice A120_1 ((rd_T70 l0_1 x12_1).f1).length c120_1)).trans hx122_0
    replace hx122_1 := (cell_far (p := ⟨gb121, 1, none⟩) (by first | (rw [add_block]; exact hn122_1) | (show (Addr.add _ _).block ≠ _; rw [add_block]; exact hn122_1) | exact hn122_1) (.slice A120_1 ((rd_T70 l0_1 x12_1).f1).length c120_1)).trans hx122_1
    (try have hy122_0 := fun (n_ : Nat) => (show ((((w8.drewN n_).setCell ⟨gb121, 0, none⟩ (.int .i64 ((rd_T70 l0_1 x12_1).f0))).setCell ⟨gb121, 1, none⟩ (.slice A120_1 ((rd_T70 l0_1 x12_1).f1).length c120_1))).cell? _ = some _ from hx122_0))
    (try have hy122_1 := fun (n_ : Nat) => (show ((((w8.drewN n_).setCell ⟨gb121, 0, none⟩ (.int .i64 ((rd_T70 l0_1 x12_1).f0))).setCell ⟨gb121, 1, none⟩ (.slice A120_1 ((rd_T70 l0_1 x12_1).f1).length c120_1))).cell? _ = some _ from hx122_1))
    clear hn122_0
    clear hn122_1
    replace p122 := eq_true p122
    replace q122 := eq_true q122
    go_wp2
    repeat (go_quiet (fail); try go_wp2)
    go_meet
    case rel => exact ⟨_, (decide (((rd_T70 l0_1 x12_1).f0) ≤ ((rd_T70 l0_1 (ji15)).f0))), (by first | rfl | (simp; done) | (simp only [← hji15] <;> (first | rfl | simp)) | (simp [*]; done)), H', ⟨by have := HK1.out; first | omega | exact Nat.le_refl _⟩, ⟨by refine bx ?_; refine blk_far ?_ NB119_121.out _; refine bx ?_; refine blk_far ?_ NB119_121.out _; refine bx ?_; exact BK119.out⟩, ⟨by refine bx ?_; refine blk_put (cs := #[.int .i64 ((rd_T70 l0_1 x12_1).f0), .slice none 0 0]) ?_ 1 _ rfl; refine bx ?_; refine blk_put (cs := #[.int .i64 0, .slice none 0 0]) ?_ 0 _ rfl; refine bx ?_; exact BK121.out⟩, ⟨bl⟩, ⟨(by with_reducible repeat (first | exact HM.out | refine MapAt.set ?_ (Aside0.out (by assumption)) | refine MapAt.drewN ?_ _ | refine MapAt.drew1 ?_ | refine MapAt.alloc ?_ _))⟩⟩
   case rest =>
    clear HC7
    try clear c1
    try clear p1
    try clear q1
    try clear hx1
    try clear c2
    try clear p2
    try clear c4
    try clear c5
    try clear c6
    try clear p6
    try clear c9
    try clear c11
    try clear c11b0
    try clear c11b1
    try clear c11b2
    try clear c12
    try clear p12
    try clear q12
    try clear hx12
    try clear c14
    try clear c14b0
    try clear c16
    try clear c16b0
    try clear c17
    try clear c17b0
    try clear c18
    try clear c21
    try clear hcz10_0 hcz10_1
    try clear hcz13_0 hcz13_1
    try clear hcz19_0 hcz19_1
    try clear hcz20_0 hcz20_1
    try clear hcz22_0 hcz22_1
    try clear hcz3_0 hcz3_1
    try clear hfz10_0 hfz10_1
    try clear hfz13_0 hfz13_1
    try clear hfz19_0 hfz19_1
    try clear hfz20_0 hfz20_1
    try clear hfz22_0 hfz22_1
    try clear hfz3_0 hfz3_1
    try clear hx120_0
    try clear hx120_1
    try clear hx122_0
    try clear hx122_1
    try clear p120
    try clear p122
    try clear p2
    try clear q120
    try clear q122
    obtain ⟨kq, x36_6, rfl, HA, HJ6, BK119, BK121, HB, HM⟩ := hcut
    cases kq with
    | zero => exact absurd HA.out (by simp [cand_rows.j1])
    | succ kj6 =>
     have H := HA.out
     clear HA
     simp only [cand_rows.j1] at H
     by_cases c23 : x36_6 = true
     ·subst c23
      have H1 : (some false) = some r := by rw [if_pos rfl] at H; exact H
      clear H
      have H := H1
      clear H1
      obtain rfl := Option.some.inj H
      go_wp2
      repeat (go_quiet (fail); try go_wp2)
      go_ret
      exact ⟨fi, bl⟩
     replace c23 := Bool.eq_false_iff.mpr c23
     subst c23
     have H1 : (cand_rows.l1 kj6 l0_1 (l0_1.length : Int) x12_1 ((rd_T70 l0_1 x12_1).f1) (((rd_T70 l0_1 x12_1).f1).length : Int) 0 l0_0 l0_1) = some r := by rw [if_neg (show ¬ (false = true) by decide)] at H; exact H
     clear H
     have H := H1
     clear H1
     have H' := Aside0.mk H
     clear H
     have hnb24 := NB121_119.out
     have hnc24 := NB119_121.out
     obtain ⟨hcz25_0, hcz25_1, hfz25_0, hfz25_1⟩ := cz2 (w := wc) BK121.out
     go_wp2
     repeat (go_quiet (fail); try go_wp2)
     go_loopg [40] kj6 (fun kq v40 w' => ∃ (x40_3 : Int), v40 = .int .i64 x40_3 ∧ Aside0 (cand_rows.l1 kq l0_1 (l0_1.length : Int) x12_1 ((rd_T70 l0_1 x12_1).f1) (((rd_T70 l0_1 x12_1).f1).length : Int) x40_3 l0_0 l0_1 = some r) ∧ Aside0 (kq ≤ kj6) ∧ Aside0 (w'.heap[gb119]? = some (.cells #[(.slice A0_0 l0_0.length c0_0), (.slice (some ad120) l0_1.length c0_1)] 42 (0, 0))) ∧ Aside0 (w'.heap[gb121]? = some (.cells #[.int .i64 ((rd_T70 l0_1 x12_1).f0), (.slice A120_1 ((rd_T70 l0_1 x12_1).f1).length c120_1)] 70 (0, 0))) ∧ Aside0 (Below w.heap.size w w') ∧ Aside0 (MapAt l0_1 x12_1 x40_3 w2.heap.size w'))
     case atStart => exact ⟨(0), fj, H', ⟨Nat.le_refl _⟩, ⟨by refine bx ?_; exact BK119.out⟩, ⟨by refine bx ?_; exact BK121.out⟩, ⟨bl⟩, ⟨(by first | (with_reducible exact MapAt.made l0_1 w2) | exact (by with_reducible repeat (first | exact HM.out | refine MapAt.set ?_ (Aside0.out (by assumption)) | refine MapAt.drewN ?_ _ | refine MapAt.drew1 ?_ | refine MapAt.alloc ?_ _)))⟩⟩
     case round =>
      clear H'
      try clear c1
      try clear p1
      try clear q1
      try clear hx1
      try clear c2
      try clear p2
      try clear c4
      try clear c5
      try clear c6
      try clear p6
      try clear c9
      try clear c11
      try clear c11b0
      try clear c11b1
      try clear c11b2
      try clear c12
      try clear p12
      try clear q12
      try clear hx12
      try clear c14
      try clear c14b0
      try clear c16
      try clear c16b0
      try clear c17
      try clear c17b0
      try clear c18
      try clear c21
      try clear c23
      try clear c24
      try clear hcz10_0 hcz10_1
      try clear hcz13_0 hcz13_1
      try clear hcz19_0 hcz19_1
      try clear hcz20_0 hcz20_1
      try clear hcz22_0 hcz22_1
      try clear hcz25_0 hcz25_1
      try clear hcz3_0 hcz3_1
      try clear hfz10_0 hfz10_1
      try clear hfz13_0 hfz13_1
      try clear hfz19_0 hfz19_1
      try clear hfz20_0 hfz20_1
      try clear hfz22_0 hfz22_1
      try clear hfz25_0 hfz25_1
      try clear hfz3_0 hfz3_1
      try clear hx120_0
      try clear hx120_1
      try clear hx122_0
      try clear hx122_1
      try clear p1
      try clear p12
      try clear p120
      try clear p122
      try clear p2
      try clear p6
      try clear q1
      try clear q12
      try clear q120
      try clear q122
      obtain ⟨x40_3, rfl, HA, HK3, BK119, BK121, HB, HM⟩ := hrel
      cases gk with
      | zero => exact absurd HA.out (by simp [cand_rows.l1])
      | succ k3 =>
       have H := HA.out
       clear HA
       simp only [cand_rows.l1] at H
       by_cases c26 : x40_3 < (((rd_T70 l0_1 x12_1).f1).length : Int)
       rotate_left
       ·rw [if_neg c26] at H
        have c26b0 := decide_eq_false c26
        clear c26
        have H' := Aside0.mk H
        clear H
        go_wp2
        repeat (go_quiet (fail); try go_wp2)
        go_roundg k3
        case measure => have := HK1.out; have := HJ6.out; have := HK3.out; omega
        case rel => exact ⟨(wrap64 (x12_1 + 1)), fj, H', ⟨by have := HK1.out; have := HJ6.out; have := HK3.out; omega⟩, ⟨by refine bx ?_; exact BK119.out⟩, ⟨bl⟩, ⟨(by rw [wrap_up HR0_1.out.2.1 (by assumption) (by assumption)]; refine MapAt.row ?_ (by assumption) (by assumption) (by assumption); exact (by with_reducible repeat (first | exact HM.out | refine MapAt.set ?_ (Aside0.out (by assumption)) | refine MapAt.drewN ?_ _ | refine MapAt.drew1 ?_ | refine MapAt.alloc ?_ _)))⟩⟩
       rw [if_pos c26] at H
       have c26b0 := decide_eq_true c26
       clear c26
       by_cases c27 : 0 ≤ x40_3
       rotate_left
       ·rw [if_neg c27] at H
        exact absurd H (by simp)
       rw [if_pos c27] at H
       have c27b0 := decide_eq_true c27
       clear c27
       by_cases c28 : x40_3 < (((rd_T70 l0_1 x12_1).f1).length : Int)
       rotate_left
       ·rw [if_neg c28] at H
        exact absurd H (by simp)
       rw [if_pos c28] at H
       have c28b0 := decide_eq_true c28
       clear c28
       replace H := be H
       obtain ⟨t125, A29, H⟩ := H
       by_cases c30 : t125 > 0
       ·rw [if_pos c30] at H
        have c30b0 := decide_eq_true c30
        clear c30
        obtain rfl := Option.some.inj H
        have p123 : 0 ≤ (x40_3 : Int) := od
        have q123 : x40_3 < (((rd_T70 l0_1 x12_1).f1).length : Int) := od
        obtain ⟨ad123, e123, hx123_0, hx123_1⟩ := at_T73 HR120_1.out x40_3 p123 q123
        cases e123
        replace hx123_0 := cb HB.out hx123_0
        replace hx123_1 := cb HB.out hx123_1
        replace p123 := eq_true p123
        replace q123 := eq_true q123
        go_wp2_with (first | ((with_reducible refine gate_dst (N := 7) rfl ?_); refine bv 7 #[.int .i64 0, .int .i64 0] 73 ?_; intro gb124 hg w31 hbox hb; have NEB124 := Aside0.mk (MapAt.ne HM.out hg); have mz_ := Aside0.mk (MapAt.below HM.out hb); clear HM; have HM := mz_; clear mz_; have n0_ := Aside0.mk (blk_below (g := gb119) (o := .cells #[.slice A0_0 l0_0.length c0_0, .slice (some ad120) l0_1.length c0_1] 42 (0, 0)) (bk BK119.out) hb); have n1_ := Aside0.mk (blk_below (g := gb121) (o := .cells #[.int .i64 ((rd_T70 l0_1 x12_1).f0), .slice (some ad123) ((rd_T70 l0_1 x12_1).f1).length c120_1] 70 (0, 0)) (bk BK121.out) hb); have n2_ := Aside0.mk (below_step bl hb); have n3_ := Aside0.mk (hbox); have n4_ := Aside0.mk ((by rw [hg]; exact (below_size bl) : w.heap.size ≤ gb124)); have n5_ := Aside0.mk ((by rw [hg]; exact (below_size bl) : w.heap.size ≤ gb124)); have n6_ := Aside0.mk ((nl hg (bk BK119.out) : gb119 ≠ gb124)); have n7_ := Aside0.mk ((ng hg (bk BK119.out) : gb124 ≠ gb119)); have n8_ := Aside0.mk ((nl hg (bk BK121.out) : gb121 ≠ gb124)); have n9_ := Aside0.mk ((ng hg (bk BK121.out) : gb124 ≠ gb121)); clear BK119; clear BK121; clear HB; have BK119 := n0_; have BK121 := n1_; have HB := n2_; have BK124 := n3_; have GW124 := n4_; have GE124 := n5_; have NB119_124 := n6_; have NB124_119 := n7_; have NB121_124 := n8_; have NB124_121 := n9_; clear n0_ n1_ n2_ n3_ n4_ n5_ n6_ n7_ n8_ n9_; clear hb hbox hg; have hnb32 := NB124_119.out; have hnc32 := NB119_124.out; have hnb33 := NB124_121.out; have hnc33 := NB121_124.out; obtain ⟨hcz34_0, hcz34_1, hfz34_0, hfz34_1⟩ := cz2 (w := w31) BK124.out) | ((with_reducible refine gate_dst (N := 46) rfl ?_); refine look_map rfl rfl (l := l0_1) (x := x12_1) (y := x40_3) (B := w2.heap.size) ?hm ?hx ?hM A29.out ?_; (case hM => exact (by with_reducible repeat (first | exact HM.out | refine MapAt.set ?_ (Aside0.out (by assumption)) | refine MapAt.drewN ?_ _ | refine MapAt.drew1 ?_ | refine MapAt.alloc ?_ _))); (case hm => first | rfl | (go_simp; done) | (go_simp; rfl)); (case hx => first | rfl | (go_simp; done) | (go_simp; rfl)); intro w35 hM_ hb; clear HM; have HM := Aside0.mk hM_; clear hM_; have n0_ := Aside0.mk (blk_below (g := gb119) (o := .cells #[.slice A0_0 l0_0.length c0_0, .slice (some ad120) l0_1.length c0_1] 42 (0, 0)) (by refine bx ?_; refine blk_far ?_ NB119_124.out _; refine bx ?_; refine blk_far ?_ NB119_124.out _; refine bx ?_; exact BK119.out) hb); have n1_ := Aside0.mk (blk_below (g := gb121) (o := .cells #[.int .i64 ((rd_T70 l0_1 x12_1).f0), .slice (some ad123) ((rd_T70 l0_1 x12_1).f1).length c120_1] 70 (0, 0)) (by refine bx ?_; refine blk_far ?_ NB121_124.out _; refine bx ?_; refine blk_far ?_ NB121_124.out _; refine bx ?_; exact BK121.out) hb); have n2_ := Aside0.mk (blk_below (g := gb124) (o := .cells #[.int .i64 ((rd_T73 ((rd_T70 l0_1 x12_1).f1) x40_3).f0), .int .i64 ((rd_T73 ((rd_T70 l0_1 x12_1).f1) x40_3).f1)] 73 (0, 0)) (by refine bx ?_; refine blk_put (cs := #[.int .i64 ((rd_T73 ((rd_T70 l0_1 x12_1).f1) x40_3).f0), .int .i64 0]) ?_ 1 _ rfl; refine bx ?_; refine blk_put (cs := #[.int .i64 0, .int .i64 0]) ?_ 0 _ rfl; refine bx ?_; exact BK124.out) hb); have n3_ := Aside0.mk (below_step bl hb); clear BK119; clear BK121; clear BK124; clear HB; have BK119 := n0_; have BK121 := n1_; have BK124 := n2_; have HB := n3_; clear n0_ n1_ n2_ n3_; (try clear hb)))
        repeat (go_quiet (first | ((with_reducible refine gate_dst (N := 7) rfl ?_); refine bv 7 #[.int .i64 0, .int .i64 0] 73 ?_; intro gb124 hg w31 hbox hb; have NEB124 := Aside0.mk (MapAt.ne HM.out hg); have mz_ := Aside0.mk (MapAt.below HM.out hb); clear HM; have HM := mz_; clear mz_; have n0_ := Aside0.mk (blk_below (g := gb119) (o := .cells #[.slice A0_0 l0_0.length c0_0, .slice (some ad120) l0_1.length c0_1] 42 (0, 0)) (bk BK119.out) hb); have n1_ := Aside0.mk (blk_below (g := gb121) (o := .cells #[.int .i64 ((rd_T70 l0_1 x12_1).f0), .slice (some ad123) ((rd_T70 l0_1 x12_1).f1).length c120_1] 70 (0, 0)) (bk BK121.out) hb); have n2_ := Aside0.mk (below_step bl hb); have n3_ := Aside0.mk (hbox); have n4_ := Aside0.mk ((by rw [hg]; exact (below_size bl) : w.heap.size ≤ gb124)); have n5_ := Aside0.mk ((by rw [hg]; exact (below_size bl) : w.heap.size ≤ gb124)); have n6_ := Aside0.mk ((nl hg (bk BK119.out) : gb119 ≠ gb124)); have n7_ := Aside0.mk ((ng hg (bk BK119.out) : gb124 ≠ gb119)); have n8_ := Aside0.mk ((nl hg (bk BK121.out) : gb121 ≠ gb124)); have n9_ := Aside0.mk ((ng hg (bk BK121.out) : gb124 ≠ gb121)); clear BK119; clear BK121; clear HB; have BK119 := n0_; have BK121 := n1_; have HB := n2_; have BK124 := n3_; have GW124 := n4_; have GE124 := n5_; have NB119_124 := n6_; have NB124_119 := n7_; have NB121_124 := n8_; have NB124_121 := n9_; clear n0_ n1_ n2_ n3_ n4_ n5_ n6_ n7_ n8_ n9_; clear hb hbox hg; have hnb32 := NB124_119.out; have hnc32 := NB119_124.out; have hnb33 := NB124_121.out; have hnc33 := NB121_124.out; obtain ⟨hcz34_0, hcz34_1, hfz34_0, hfz34_1⟩ := cz2 (w := w31) BK124.out) | ((with_reducible refine gate_dst (N := 46) rfl ?_); refine look_map rfl rfl (l := l0_1) (x := x12_1) (y := x40_3) (B := w2.heap.size) ?hm ?hx ?hM A29.out ?_; (case hM => exact (by with_reducible repeat (first | exact HM.out | refine MapAt.set ?_ (Aside0.out (by assumption)) | refine MapAt.drewN ?_ _ | refine MapAt.drew1 ?_ | refine MapAt.alloc ?_ _))); (case hm => first | rfl | (go_simp; done) | (go_simp; rfl)); (case hx => first | rfl | (go_simp; done) | (go_simp; rfl)); intro w35 hM_ hb; clear HM; have HM := Aside0.mk hM_; clear hM_; have n0_ := Aside0.mk (blk_below (g := gb119) (o := .cells #[.slice A0_0 l0_0.length c0_0, .slice (some ad120) l0_1.length c0_1] 42 (0, 0)) (by refine bx ?_; refine blk_far ?_ NB119_124.out _; refine bx ?_; refine blk_far ?_ NB119_124.out _; refine bx ?_; exact BK119.out) hb); have n1_ := Aside0.mk (blk_below (g := gb121) (o := .cells #[.int .i64 ((rd_T70 l0_1 x12_1).f0), .slice (some ad123) ((rd_T70 l0_1 x12_1).f1).length c120_1] 70 (0, 0)) (by refine bx ?_; refine blk_far ?_ NB121_124.out _; refine bx ?_; refine blk_far ?_ NB121_124.out _; refine bx ?_; exact BK121.out) hb); have n2_ := Aside0.mk (blk_below (g := gb124) (o := .cells #[.int .i64 ((rd_T73 ((rd_T70 l0_1 x12_1).f1) x40_3).f0), .int .i64 ((rd_T73 ((rd_T70 l0_1 x12_1).f1) x40_3).f1)] 73 (0, 0)) (by refine bx ?_; refine blk_put (cs := #[.int .i64 ((rd_T73 ((rd_T70 l0_1 x12_1).f1) x40_3).f0), .int .i64 0]) ?_ 1 _ rfl; refine bx ?_; refine blk_put (cs := #[.int .i64 0, .int .i64 0]) ?_ 0 _ rfl; refine bx ?_; exact BK124.out) hb); have n3_ := Aside0.mk (below_step bl hb); clear BK119; clear BK121; clear BK124; clear HB; have BK119 := n0_; have BK121 := n1_; have BK124 := n2_; have HB := n3_; clear n0_ n1_ n2_ n3_; (try clear hb))); try go_wp2_with (first | ((with_reducible refine gate_dst (N := 7) rfl ?_); refine bv 7 #[.int .i64 0, .int .i64 0] 73 ?_; intro gb124 hg w31 hbox hb; have NEB124 := Aside0.mk (MapAt.ne HM.out hg); have mz_ := Aside0.mk (MapAt.below HM.out hb); clear HM; have HM := mz_; clear mz_; have n0_ := Aside0.mk (blk_below (g := gb119) (o := .cells #[.slice A0_0 l0_0.length c0_0, .slice (some ad120) l0_1.length c0_1] 42 (0, 0)) (bk BK119.out) hb); have n1_ := Aside0.mk (blk_below (g := gb121) (o := .cells #[.int .i64 ((rd_T70 l0_1 x12_1).f0), .slice (some ad123) ((rd_T70 l0_1 x12_1).f1).length c120_1] 70 (0, 0)) (bk BK121.out) hb); have n2_ := Aside0.mk (below_step bl hb); have n3_ := Aside0.mk (hbox); have n4_ := Aside0.mk ((by rw [hg]; exact (below_size bl) : w.heap.size ≤ gb124)); have n5_ := Aside0.mk ((by rw [hg]; exact (below_size bl) : w.heap.size ≤ gb124)); have n6_ := Aside0.mk ((nl hg (bk BK119.out) : gb119 ≠ gb124)); have n7_ := Aside0.mk ((ng hg (bk BK119.out) : gb124 ≠ gb119)); have n8_ := Aside0.mk ((nl hg (bk BK121.out) : gb121 ≠ gb124)); have n9_ := Aside0.mk ((ng hg (bk BK121.out) : gb124 ≠ gb121)); clear BK119; clear BK121; clear HB; have BK119 := n0_; have BK121 := n1_; have HB := n2_; have BK124 := n3_; have GW124 := n4_; have GE124 := n5_; have NB119_124 := n6_; have NB124_119 := n7_; have NB121_124 := n8_; have NB124_121 := n9_; clear n0_ n1_ n2_ n3_ n4_ n5_ n6_ n7_ n8_ n9_; clear hb hbox hg; have hnb32 := NB124_119.out; have hnc32 := NB119_124.out; have hnb33 := NB124_121.out; have hnc33 := NB121_124.out; obtain ⟨hcz34_0, hcz34_1, hfz34_0, hfz34_1⟩ := cz2 (w := w31) BK124.out) | ((with_reducible refine gate_dst (N := 46) rfl ?_); refine look_map rfl rfl (l := l0_1) (x := x12_1) (y := x40_3) (B := w2.heap.size) ?hm ?hx ?hM A29.out ?_; (case hM => exact (by with_reducible repeat (first | exact HM.out | refine MapAt.set ?_ (Aside0.out (by assumption)) | refine MapAt.drewN ?_ _ | refine MapAt.drew1 ?_ | refine MapAt.alloc ?_ _))); (case hm => first | rfl | (go_simp; done) | (go_simp; rfl)); (case hx => first | rfl | (go_simp; done) | (go_simp; rfl)); intro w35 hM_ hb; clear HM; have HM := Aside0.mk hM_; clear hM_; have n0_ := Aside0.mk (blk_below (g := gb119) (o := .cells #[.slice A0_0 l0_0.length c0_0, .slice (some ad120) l0_1.length c0_1] 42 (0, 0)) (by refine bx ?_; refine blk_far ?_ NB119_124.out _; refine bx ?_; refine blk_far ?_ NB119_124.out _; refine bx ?_; exact BK119.out) hb); have n1_ := Aside0.mk (blk_below (g := gb121) (o := .cells #[.int .i64 ((rd_T70 l0_1 x12_1).f0), .slice (some ad123) ((rd_T70 l0_1 x12_1).f1).length c120_1] 70 (0, 0)) (by refine bx ?_; refine blk_far ?_ NB121_124.out _; refine bx ?_; refine blk_far ?_ NB121_124.out _; refine bx ?_; exact BK121.out) hb); have n2_ := Aside0.mk (blk_below (g := gb124) (o := .cells #[.int .i64 ((rd_T73 ((rd_T70 l0_1 x12_1).f1) x40_3).f0), .int .i64 ((rd_T73 ((rd_T70 l0_1 x12_1).f1) x40_3).f1)] 73 (0, 0)) (by refine bx ?_; refine blk_put (cs := #[.int .i64 ((rd_T73 ((rd_T70 l0_1 x12_1).f1) x40_3).f0), .int .i64 0]) ?_ 1 _ rfl; refine bx ?_; refine blk_put (cs := #[.int .i64 0, .int .i64 0]) ?_ 0 _ rfl; refine bx ?_; exact BK124.out) hb); have n3_ := Aside0.mk (below_step bl hb); clear BK119; clear BK121; clear BK124; clear HB; have BK119 := n0_; have BK121 := n1_; have BK124 := n2_; have HB := n3_; clear n0_ n1_ n2_ n3_; (try clear hb))))
        go_ret
        exact ⟨fi, bl⟩
       rw [if_neg c30] at H
       have c30b0 := decide_eq_false c30
       clear c30
       replace H := be H
       obtain ⟨t126, A36, H⟩ := H
       by_cases c37 : t126 = true
       rotate_left
       ·replace c37 := Bool.eq_false_iff.mpr c37
        subst c37
        have H1 : (some false) = some r := by rw [if_neg (show ¬ (false = true) by decide)] at H; exact H
        clear H
        have H := H1
        clear H1
        obtain rfl := Option.some.inj H
        have p123 : 0 ≤ (x40_3 : Int) := od
        have q123 : x40_3 < (((rd_T70 l0_1 x12_1).f1).length : Int) := od
        obtain ⟨ad123, e123, hx123_0, hx123_1⟩ := at_T73 HR120_1.out x40_3 p123 q123
        cases e123
        replace hx123_0 := cb HB.out hx123_0
        replace hx123_1 := cb HB.out hx123_1
        replace p123 := eq_true p123
        replace q123 := eq_true q123
        go_wp2_with (first | ((with_reducible refine gate_dst (N := 7) rfl ?_); refine bv 7 #[.int .i64 0, .int .i64 0] 73 ?_; intro gb124 hg w48 hbox hb; have NEB124 := Aside0.mk (MapAt.ne HM.out hg); have mz_ := Aside0.mk (MapAt.below HM.out hb); clear HM; have HM := mz_; clear mz_; have n0_ := Aside0.mk (blk_below (g := gb119) (o := .cells #[.slice A0_0 l0_0.length c0_0, .slice (some ad120) l0_1.length c0_1] 42 (0, 0)) (bk BK119.out) hb); have n1_ := Aside0.mk (blk_below (g := gb121) (o := .cells #[.int .i64 ((rd_T70 l0_1 x12_1).f0), .slice (some ad123) ((rd_T70 l0_1 x12_1).f1).length c120_1] 70 (0, 0)) (bk BK121.out) hb); have n2_ := Aside0.mk (below_step bl hb); have n3_ := Aside0.mk (hbox); have n4_ := Aside0.mk ((by rw [hg]; exact (below_size bl) : w.heap.size ≤ gb124)); have n5_ := Aside0.mk ((by rw [hg]; exact (below_size bl) : w.heap.size ≤ gb124)); have n6_ := Aside0.mk ((nl hg (bk BK119.out) : gb119 ≠ gb124)); have n7_ := Aside0.mk ((ng hg (bk BK119.out) : gb124 ≠ gb119)); have n8_ := Aside0.mk ((nl hg (bk BK121.out) : gb121 ≠ gb124)); have n9_ := Aside0.mk ((ng hg (bk BK121.out) : gb124 ≠ gb121)); clear BK119; clear BK121; clear HB; have BK119 := n0_; have BK121 := n1_; have HB := n2_; have BK124 := n3_; have GW124 := n4_; have GE124 := n5_; have NB119_124 := n6_; have NB124_119 := n7_; have NB121_124 := n8_; have NB124_121 := n9_; clear n0_ n1_ n2_ n3_ n4_ n5_ n6_ n7_ n8_ n9_; clear hb hbox hg; have hnb49 := NB124_119.out; have hnc49 := NB119_124.out; have hnb50 := NB124_121.out; have hnc50 := NB121_124.out; obtain ⟨hcz51_0, hcz51_1, hfz51_0, hfz51_1⟩ := cz2 (w := w48) BK124.out) | ((with_reducible refine gate_dst (N := 46) rfl ?_); refine look_map rfl rfl (l := l0_1) (x := x12_1) (y := x40_3) (B := w2.heap.size) ?hm ?hx ?hM A29.out ?_; (case hM => exact (by with_reducible repeat (first | exact HM.out | refine MapAt.set ?_ (Aside0.out (by assumption)) | refine MapAt.drewN ?_ _ | refine MapAt.drew1 ?_ | refine MapAt.alloc ?_ _))); (case hm => first | rfl | (go_simp; done) | (go_simp; rfl)); (case hx => first | rfl | (go_simp; done) | (go_simp; rfl)); intro w52 hM_ hb; clear HM; have HM := Aside0.mk hM_; clear hM_; have n0_ := Aside0.mk (blk_below (g := gb119) (o := .cells #[.slice A0_0 l0_0.length c0_0, .slice (some ad120) l0_1.length c0_1] 42 (0, 0)) (by refine bx ?_; refine blk_far ?_ NB119_124.out _; refine bx ?_; refine blk_far ?_ NB119_124.out _; refine bx ?_; exact BK119.out) hb); have n1_ := Aside0.mk (blk_below (g := gb121) (o := .cells #[.int .i64 ((rd_T70 l0_1 x12_1).f0), .slice (some ad123) ((rd_T70 l0_1 x12_1).f1).length c120_1] 70 (0, 0)) (by refine bx ?_; refine blk_far ?_ NB121_124.out _; refine bx ?_; refine blk_far ?_ NB121_124.out _; refine bx ?_; exact BK121.out) hb); have n2_ := Aside0.mk (blk_below (g := gb124) (o := .cells #[.int .i64 ((rd_T73 ((rd_T70 l0_1 x12_1).f1) x40_3).f0), .int .i64 ((rd_T73 ((rd_T70 l0_1 x12_1).f1) x40_3).f1)] 73 (0, 0)) (by refine bx ?_; refine blk_put (cs := #[.int .i64 ((rd_T73 ((rd_T70 l0_1 x12_1).f1) x40_3).f0), .int .i64 0]) ?_ 1 _ rfl; refine bx ?_; refine blk_put (cs := #[.int .i64 0, .int .i64 0]) ?_ 0 _ rfl; refine bx ?_; exact BK124.out) hb); have n3_ := Aside0.mk (below_step bl hb); clear BK119; clear BK121; clear BK124; clear HB; have BK119 := n0_; have BK121 := n1_; have BK124 := n2_; have HB := n3_; clear n0_ n1_ n2_ n3_; (try clear hb); have hnb53 := NB119_121.out; have hnc53 := NB121_119.out; obtain ⟨hcz54_0, hcz54_1, hfz54_0, hfz54_1⟩ := cz2 (w := w52) BK119.out; obtain ⟨hcz55_0, hcz55_1, hfz55_0, hfz55_1⟩ := cz2 (w := w52) BK124.out) | (go_at_call 65; (with_reducible refine (cand_there.calls _ _ l0_0 _ _ l0_1 ((rd_T73 ((rd_T70 l0_1 x12_1).f1) x40_3).f0) ((rd_T73 ((rd_T70 l0_1 x12_1).f1) x40_3).f1) false _ ?side1 ?side2 ?side3 ?side4 A36.out).mono ?_); (case side1 => repeat (first | exact (Kd.C_below HR0_0.out HB.out) | (with_reducible refine Kd.C_alloc ?_ _) | (with_reducible refine Kd.C_drewN ?_ _) | (with_reducible refine Kd.C_drew ?_))); (case side2 => exact HC0_0.out); (case side3 => repeat (first | exact (Kd.C_below HR0_1.out HB.out) | (with_reducible refine Kd.C_alloc ?_ _) | (with_reducible refine Kd.C_drewN ?_ _) | (with_reducible refine Kd.C_drew ?_))); (case side4 => exact HC0_1.out); rintro e w56 ⟨rfl, hb⟩; have mz_ := Aside0.mk (MapAt.below (l := l0_1) (x := x12_1) (y := x40_3) (B := w2.heap.size) (by with_reducible repeat (first | exact HM.out | refine MapAt.set ?_ (Aside0.out (by assumption)) | refine MapAt.drewN ?_ _ | refine MapAt.drew1 ?_ | refine MapAt.alloc ?_ _)) hb); clear HM; have HM := mz_; clear mz_; have n0_ := Aside0.mk (blk_below (g := gb119) (o := .cells #[.slice A0_0 l0_0.length c0_0, .slice (some ad120) l0_1.length c0_1] 42 (0, 0)) (bk BK119.out) hb); have n1_ := Aside0.mk (blk_below (g := gb121) (o := .cells #[.int .i64 ((rd_T70 l0_1 x12_1).f0), .slice (some ad123) ((rd_T70 l0_1 x12_1).f1).length c120_1] 70 (0, 0)) (bk BK121.out) hb); have n2_ := Aside0.mk (blk_below (g := gb124) (o := .cells #[.int .i64 ((rd_T73 ((rd_T70 l0_1 x12_1).f1) x40_3).f0), .int .i64 ((rd_T73 ((rd_T70 l0_1 x12_1).f1) x40_3).f1)] 73 (0, 0)) (bk BK124.out) hb); have n3_ := Aside0.mk (below_step bl hb); clear BK119; clear BK121; clear BK124; clear HB; have BK119 := n0_; have BK121 := n1_; have BK124 := n2_; have HB := n3_; clear n0_ n1_ n2_ n3_; (try clear hb)))
        repeat (go_quiet (first | ((with_reducible refine gate_dst (N := 7) rfl ?_); refine bv 7 #[.int .i64 0, .int .i64 0] 73 ?_; intro gb124 hg w48 hbox hb; have NEB124 := Aside0.mk (MapAt.ne HM.out hg); have mz_ := Aside0.mk (MapAt.below HM.out hb); clear HM; have HM := mz_; clear mz_; have n0_ := Aside0.mk (blk_below (g := gb119) (o := .cells #[.slice A0_0 l0_0.length c0_0, .slice (some ad120) l0_1.length c0_1] 42 (0, 0)) (bk BK119.out) hb); have n1_ := Aside0.mk (blk_below (g := gb121) (o := .cells #[.int .i64 ((rd_T70 l0_1 x12_1).f0), .slice (some ad123) ((rd_T70 l0_1 x12_1).f1).length c120_1] 70 (0, 0)) (bk BK121.out) hb); have n2_ := Aside0.mk (below_step bl hb); have n3_ := Aside0.mk (hbox); have n4_ := Aside0.mk ((by rw [hg]; exact (below_size bl) : w.heap.size ≤ gb124)); have n5_ := Aside0.mk ((by rw [hg]; exact (below_size bl) : w.heap.size ≤ gb124)); have n6_ := Aside0.mk ((nl hg (bk BK119.out) : gb119 ≠ gb124)); have n7_ := Aside0.mk ((ng hg (bk BK119.out) : gb124 ≠ gb119)); have n8_ := Aside0.mk ((nl hg (bk BK121.out) : gb121 ≠ gb124)); have n9_ := Aside0.mk ((ng hg (bk BK121.out) : gb124 ≠ gb121)); clear BK119; clear BK121; clear HB; have BK119 := n0_; have BK121 := n1_; have HB := n2_; have BK124 := n3_; have GW124 := n4_; have GE124 := n5_; have NB119_124 := n6_; have NB124_119 := n7_; have NB121_124 := n8_; have NB124_121 := n9_; clear n0_ n1_ n2_ n3_ n4_ n5_ n6_ n7_ n8_ n9_; clear hb hbox hg; have hnb49 := NB124_119.out; have hnc49 := NB119_124.out; have hnb50 := NB124_121.out; have hnc50 := NB121_124.out; obtain ⟨hcz51_0, hcz51_1, hfz51_0, hfz51_1⟩ := cz2 (w := w48) BK124.out) | ((with_reducible refine gate_dst (N := 46) rfl ?_); refine look_map rfl rfl (l := l0_1) (x := x12_1) (y := x40_3) (B := w2.heap.size) ?hm ?hx ?hM A29.out ?_; (case hM => exact (by with_reducible repeat (first | exact HM.out | refine MapAt.set ?_ (Aside0.out (by assumption)) | refine MapAt.drewN ?_ _ | refine MapAt.drew1 ?_ | refine MapAt.alloc ?_ _))); (case hm => first | rfl | (go_simp; done) | (go_simp; rfl)); (case hx => first | rfl | (go_simp; done) | (go_simp; rfl)); intro w52 hM_ hb; clear HM; have HM := Aside0.mk hM_; clear hM_; have n0_ := Aside0.mk (blk_below (g := gb119) (o := .cells #[.slice A0_0 l0_0.length c0_0, .slice (some ad120) l0_1.length c0_1] 42 (0, 0)) (by refine bx ?_; refine blk_far ?_ NB119_124.out _; refine bx ?_; refine blk_far ?_ NB119_124.out _; refine bx ?_; exact BK119.out) hb); have n1_ := Aside0.mk (blk_below (g := gb121) (o := .cells #[.int .i64 ((rd_T70 l0_1 x12_1).f0), .slice (some ad123) ((rd_T70 l0_1 x12_1).f1).length c120_1] 70 (0, 0)) (by refine bx ?_; refine blk_far ?_ NB121_124.out _; refine bx ?_; refine blk_far ?_ NB121_124.out _; refine bx ?_; exact BK121.out) hb); have n2_ := Aside0.mk (blk_below (g := gb124) (o := .cells #[.int .i64 ((rd_T73 ((rd_T70 l0_1 x12_1).f1) x40_3).f0), .int .i64 ((rd_T73 ((rd_T70 l0_1 x12_1).f1) x40_3).f1)] 73 (0, 0)) (by refine bx ?_; refine blk_put (cs := #[.int .i64 ((rd_T73 ((rd_T70 l0_1 x12_1).f1) x40_3).f0), .int .i64 0]) ?_ 1 _ rfl; refine bx ?_; refine blk_put (cs := #[.int .i64 0, .int .i64 0]) ?_ 0 _ rfl; refine bx ?_; exact BK124.out) hb); have n3_ := Aside0.mk (below_step bl hb); clear BK119; clear BK121; clear BK124; clear HB; have BK119 := n0_; have BK121 := n1_; have BK124 := n2_; have HB := n3_; clear n0_ n1_ n2_ n3_; (try clear hb); have hnb53 := NB119_121.out; have hnc53 := NB121_119.out; obtain ⟨hcz54_0, hcz54_1, hfz54_0, hfz54_1⟩ := cz2 (w := w52) BK119.out; obtain ⟨hcz55_0, hcz55_1, hfz55_0, hfz55_1⟩ := cz2 (w := w52) BK124.out) | (go_at_call 65; (with_reducible refine (cand_there.calls _ _ l0_0 _ _ l0_1 ((rd_T73 ((rd_T70 l0_1 x12_1).f1) x40_3).f0) ((rd_T73 ((rd_T70 l0_1 x12_1).f1) x40_3).f1) false _ ?side1 ?side2 ?side3 ?side4 A36.out).mono ?_); (case side1 => repeat (first | exact (Kd.C_below HR0_0.out HB.out) | (with_reducible refine Kd.C_alloc ?_ _) | (with_reducible refine Kd.C_drewN ?_ _) | (with_reducible refine Kd.C_drew ?_))); (case side2 => exact HC0_0.out); (case side3 => repeat (first | exact (Kd.C_below HR0_1.out HB.out) | (with_reducible refine Kd.C_alloc ?_ _) | (with_reducible refine Kd.C_drewN ?_ _) | (with_reducible refine Kd.C_drew ?_))); (case side4 => exact HC0_1.out); rintro e w56 ⟨rfl, hb⟩; have mz_ := Aside0.mk (MapAt.below (l := l0_1) (x := x12_1) (y := x40_3) (B := w2.heap.size) (by with_reducible repeat (first | exact HM.out | refine MapAt.set ?_ (Aside0.out (by assumption)) | refine MapAt.drewN ?_ _ | refine MapAt.drew1 ?_ | refine MapAt.alloc ?_ _)) hb); clear HM; have HM := mz_; clear mz_; have n0_ := Aside0.mk (blk_below (g := gb119) (o := .cells #[.slice A0_0 l0_0.length c0_0, .slice (some ad120) l0_1.length c0_1] 42 (0, 0)) (bk BK119.out) hb); have n1_ := Aside0.mk (blk_below (g := gb121) (o := .cells #[.int .i64 ((rd_T70 l0_1 x12_1).f0), .slice (some ad123) ((rd_T70 l0_1 x12_1).f1).length c120_1] 70 (0, 0)) (bk BK121.out) hb); have n2_ := Aside0.mk (blk_below (g := gb124) (o := .cells #[.int .i64 ((rd_T73 ((rd_T70 l0_1 x12_1).f1) x40_3).f0), .int .i64 ((rd_T73 ((rd_T70 l0_1 x12_1).f1) x40_3).f1)] 73 (0, 0)) (bk BK124.out) hb); have n3_ := Aside0.mk (below_step bl hb); clear BK119; clear BK121; clear BK124; clear HB; have BK119 := n0_; have BK121 := n1_; have BK124 := n2_; have HB := n3_; clear n0_ n1_ n2_ n3_; (try clear hb))); try go_wp2_with (first | ((with_reducible refine gate_dst (N := 7) rfl ?_); refine bv 7 #[.int .i64 0, .int .i64 0] 73 ?_; intro gb124 hg w48 hbox hb; have NEB124 := Aside0.mk (MapAt.ne HM.out hg); have mz_ := Aside0.mk (MapAt.below HM.out hb); clear HM; have HM := mz_; clear mz_; have n0_ := Aside0.mk (blk_below (g := gb119) (o := .cells #[.slice A0_0 l0_0.length c0_0, .slice (some ad120) l0_1.length c0_1] 42 (0, 0)) (bk BK119.out) hb); have n1_ := Aside0.mk (blk_below (g := gb121) (o := .cells #[.int .i64 ((rd_T70 l0_1 x12_1).f0), .slice (some ad123) ((rd_T70 l0_1 x12_1).f1).length c120_1] 70 (0, 0)) (bk BK121.out) hb); have n2_ := Aside0.mk (below_step bl hb); have n3_ := Aside0.mk (hbox); have n4_ := Aside0.mk ((by rw [hg]; exact (below_size bl) : w.heap.size ≤ gb124)); have n5_ := Aside0.mk ((by rw [hg]; exact (below_size bl) : w.heap.size ≤ gb124)); have n6_ := Aside0.mk ((nl hg (bk BK119.out) : gb119 ≠ gb124)); have n7_ := Aside0.mk ((ng hg (bk BK119.out) : gb124 ≠ gb119)); have n8_ := Aside0.mk ((nl hg (bk BK121.out) : gb121 ≠ gb124)); have n9_ := Aside0.mk ((ng hg (bk BK121.out) : gb124 ≠ gb121)); clear BK119; clear BK121; clear HB; have BK119 := n0_; have BK121 := n1_; have HB := n2_; have BK124 := n3_; have GW124 := n4_; have GE124 := n5_; have NB119_124 := n6_; have NB124_119 := n7_; have NB121_124 := n8_; have NB124_121 := n9_; clear n0_ n1_ n2_ n3_ n4_ n5_ n6_ n7_ n8_ n9_; clear hb hbox hg; have hnb49 := NB124_119.out; have hnc49 := NB119_124.out; have hnb50 := NB124_121.out; have hnc50 := NB121_124.out; obtain ⟨hcz51_0, hcz51_1, hfz51_0, hfz51_1⟩ := cz2 (w := w48) BK124.out) | ((with_reducible refine gate_dst (N := 46) rfl ?_); refine look_map rfl rfl (l := l0_1) (x := x12_1) (y := x40_3) (B := w2.heap.size) ?hm ?hx ?hM A29.out ?_; (case hM => exact (by with_reducible repeat (first | exact HM.out | refine MapAt.set ?_ (Aside0.out (by assumption)) | refine MapAt.drewN ?_ _ | refine MapAt.drew1 ?_ | refine MapAt.alloc ?_ _))); (case hm => first | rfl | (go_simp; done) | (go_simp; rfl)); (case hx => first | rfl | (go_simp; done) | (go_simp; rfl)); intro w52 hM_ hb; clear HM; have HM := Aside0.mk hM_; clear hM_; have n0_ := Aside0.mk (blk_below (g := gb119) (o := .cells #[.slice A0_0 l0_0.length c0_0, .slice (some ad120) l0_1.length c0_1] 42 (0, 0)) (by refine bx ?_; refine blk_far ?_ NB119_124.out _; refine bx ?_; refine blk_far ?_ NB119_124.out _; refine bx ?_; exact BK119.out) hb); have n1_ := Aside0.mk (blk_below (g := gb121) (o := .cells #[.int .i64 ((rd_T70 l0_1 x12_1).f0), .slice (some ad123) ((rd_T70 l0_1 x12_1).f1).length c120_1] 70 (0, 0)) (by refine bx ?_; refine blk_far ?_ NB121_124.out _; refine bx ?_; refine blk_far ?_ NB121_124.out _; refine bx ?_; exact BK121.out) hb); have n2_ := Aside0.mk (blk_below (g := gb124) (o := .cells #[.int .i64 ((rd_T73 ((rd_T70 l0_1 x12_1).f1) x40_3).f0), .int .i64 ((rd_T73 ((rd_T70 l0_1 x12_1).f1) x40_3).f1)] 73 (0, 0)) (by refine bx ?_; refine blk_put (cs := #[.int .i64 ((rd_T73 ((rd_T70 l0_1 x12_1).f1) x40_3).f0), .int .i64 0]) ?_ 1 _ rfl; refine bx ?_; refine blk_put (cs := #[.int .i64 0, .int .i64 0]) ?_ 0 _ rfl; refine bx ?_; exact BK124.out) hb); have n3_ := Aside0.mk (below_step bl hb); clear BK119; clear BK121; clear BK124; clear HB; have BK119 := n0_; have BK121 := n1_; have BK124 := n2_; have HB := n3_; clear n0_ n1_ n2_ n3_; (try clear hb); have hnb53 := NB119_121.out; have hnc53 := NB121_119.out; obtain ⟨hcz54_0, hcz54_1, hfz54_0, hfz54_1⟩ := cz2 (w := w52) BK119.out; obtain ⟨hcz55_0, hcz55_1, hfz55_0, hfz55_1⟩ := cz2 (w := w52) BK124.out) | (go_at_call 65; (with_reducible refine (cand_there.calls _ _ l0_0 _ _ l0_1 ((rd_T73 ((rd_T70 l0_1 x12_1).f1) x40_3).f0) ((rd_T73 ((rd_T70 l0_1 x12_1).f1) x40_3).f1) false _ ?side1 ?side2 ?side3 ?side4 A36.out).mono ?_); (case side1 => repeat (first | exact (Kd.C_below HR0_0.out HB.out) | (with_reducible refine Kd.C_alloc ?_ _) | (with_reducible refine Kd.C_drewN ?_ _) | (with_reducible refine Kd.C_drew ?_))); (case side2 => exact HC0_0.out); (case side3 => repeat (first | exact (Kd.C_below HR0_1.out HB.out) | (with_reducible refine Kd.C_alloc ?_ _) | (with_reducible refine Kd.C_drewN ?_ _) | (with_reducible refine Kd.C_drew ?_))); (case side4 => exact HC0_1.out); rintro e w56 ⟨rfl, hb⟩; have mz_ := Aside0.mk (MapAt.below (l := l0_1) (x := x12_1) (y := x40_3) (B := w2.heap.size) (by with_reducible repeat (first | exact HM.out | refine MapAt.set ?_ (Aside0.out (by assumption)) | refine MapAt.drewN ?_ _ | refine MapAt.drew1 ?_ | refine MapAt.alloc ?_ _)) hb); clear HM; have HM := mz_; clear mz_; have n0_ := Aside0.mk (blk_below (g := gb119) (o := .cells #[.slice A0_0 l0_0.length c0_0, .slice (some ad120) l0_1.length c0_1] 42 (0, 0)) (bk BK119.out) hb); have n1_ := Aside0.mk (blk_below (g := gb121) (o := .cells #[.int .i64 ((rd_T70 l0_1 x12_1).f0), .slice (some ad123) ((rd_T70 l0_1 x12_1).f1).length c120_1] 70 (0, 0)) (bk BK121.out) hb); have n2_ := Aside0.mk (blk_below (g := gb124) (o := .cells #[.int .i64 ((rd_T73 ((rd_T70 l0_1 x12_1).f1) x40_3).f0), .int .i64 ((rd_T73 ((rd_T70 l0_1 x12_1).f1) x40_3).f1)] 73 (0, 0)) (bk BK124.out) hb); have n3_ := Aside0.mk (below_step bl hb); clear BK119; clear BK121; clear BK124; clear HB; have BK119 := n0_; have BK121 := n1_; have BK124 := n2_; have HB := n3_; clear n0_ n1_ n2_ n3_; (try clear hb))))
        go_ret
        exact ⟨fi, bl⟩
       subst c37
       have H1 : (cand_rows.l1 k3 l0_1 (l0_1.length : Int) x12_1 ((rd_T70 l0_1 x12_1).f1) (((rd_T70 l0_1 x12_1).f1).length : Int) (wrap64 (x40_3 + 1)) l0_0 l0_1) = some r := by rw [if_pos rfl] at H; exact H
       clear H
       have H := H1
       clear H1
       have H' := Aside0.mk H
       clear H
       have p123 : 0 ≤ (x40_3 : Int) := od
       have q123 : x40_3 < (((rd_T70 l0_1 x12_1).f1).length : Int) := od
       obtain ⟨ad123, e123, hx123_0, hx123_1⟩ := at_T73 HR120_1.out x40_3 p123 q123
       cases e123
       replace hx123_0 := cb HB.out hx123_0
       replace hx123_1 := cb HB.out hx123_1
       replace p123 := eq_true p123
       replace q123 := eq_true q123
       go_wp2_with (first | ((with_reducible refine gate_dst (N := 7) rfl ?_); refine bv 7 #[.int .i64 0, .int .i64 0] 73 ?_; intro gb124 hg w38 hbox hb; have NEB124 := Aside0.mk (MapAt.ne HM.out hg); have mz_ := Aside0.mk (MapAt.below HM.out hb); clear HM; have HM := mz_; clear mz_; have n0_ := Aside0.mk (blk_below (g := gb119) (o := .cells #[.slice A0_0 l0_0.length c0_0, .slice (some ad120) l0_1.length c0_1] 42 (0, 0)) (bk BK119.out) hb); have n1_ := Aside0.mk (blk_below (g := gb121) (o := .cells #[.int .i64 ((rd_T70 l0_1 x12_1).f0), .slice (some ad123) ((rd_T70 l0_1 x12_1).f1).length c120_1] 70 (0, 0)) (bk BK121.out) hb); have n2_ := Aside0.mk (below_step bl hb); have n3_ := Aside0.mk (hbox); have n4_ := Aside0.mk ((by rw [hg]; exact (below_size bl) : w.heap.size ≤ gb124)); have n5_ := Aside0.mk ((by rw [hg]; exact (below_size bl) : w.heap.size ≤ gb124)); have n6_ := Aside0.mk ((nl hg (bk BK119.out) : gb119 ≠ gb124)); have n7_ := Aside0.mk ((ng hg (bk BK119.out) : gb124 ≠ gb119)); have n8_ := Aside0.mk ((nl hg (bk BK121.out) : gb121 ≠ gb124)); have n9_ := Aside0.mk ((ng hg (bk BK121.out) : gb124 ≠ gb121)); clear BK119; clear BK121; clear HB; have BK119 := n0_; have BK121 := n1_; have HB := n2_; have BK124 := n3_; have GW124 := n4_; have GE124 := n5_; have NB119_124 := n6_; have NB124_119 := n7_; have NB121_124 := n8_; have NB124_121 := n9_; clear n0_ n1_ n2_ n3_ n4_ n5_ n6_ n7_ n8_ n9_; clear hb hbox hg; have hnb39 := NB124_119.out; have hnc39 := NB119_124.out; have hnb40 := NB124_121.out; have hnc40 := NB121_124.out; obtain ⟨hcz41_0, hcz41_1, hfz41_0, hfz41_1⟩ := cz2 (w := w38) BK124.out) | ((with_reducible refine gate_dst (N := 46) rfl ?_); refine look_map rfl rfl (l := l0_1) (x := x12_1) (y := x40_3) (B := w2.heap.size) ?hm ?hx ?hM A29.out ?_; (case hM => exact (by with_reducible repeat (first | exact HM.out | refine MapAt.set ?_ (Aside0.out (by assumption)) | refine MapAt.drewN ?_ _ | refine MapAt.drew1 ?_ | refine MapAt.alloc ?_ _))); (case hm => first | rfl | (go_simp; done) | (go_simp; rfl)); (case hx => first | rfl | (go_simp; done) | (go_simp; rfl)); intro w42 hM_ hb; clear HM; have HM := Aside0.mk hM_; clear hM_; have n0_ := Aside0.mk (blk_below (g := gb119) (o := .cells #[.slice A0_0 l0_0.length c0_0, .slice (some ad120) l0_1.length c0_1] 42 (0, 0)) (by refine bx ?_; refine blk_far ?_ NB119_124.out _; refine bx ?_; refine blk_far ?_ NB119_124.out _; refine bx ?_; exact BK119.out) hb); have n1_ := Aside0.mk (blk_below (g := gb121) (o := .cells #[.int .i64 ((rd_T70 l0_1 x12_1).f0), .slice (some ad123) ((rd_T70 l0_1 x12_1).f1).length c120_1] 70 (0, 0)) (by refine bx ?_; refine blk_far ?_ NB121_124.out _; refine bx ?_; refine blk_far ?_ NB121_124.out _; refine bx ?_; exact BK121.out) hb); have n2_ := Aside0.mk (blk_below (g := gb124) (o := .cells #[.int .i64 ((rd_T73 ((rd_T70 l0_1 x12_1).f1) x40_3).f0), .int .i64 ((rd_T73 ((rd_T70 l0_1 x12_1).f1) x40_3).f1)] 73 (0, 0)) (by refine bx ?_; refine blk_put (cs := #[.int .i64 ((rd_T73 ((rd_T70 l0_1 x12_1).f1) x40_3).f0), .int .i64 0]) ?_ 1 _ rfl; refine bx ?_; refine blk_put (cs := #[.int .i64 0, .int .i64 0]) ?_ 0 _ rfl; refine bx ?_; exact BK124.out) hb); have n3_ := Aside0.mk (below_step bl hb); clear BK119; clear BK121; clear BK124; clear HB; have BK119 := n0_; have BK121 := n1_; have BK124 := n2_; have HB := n3_; clear n0_ n1_ n2_ n3_; (try clear hb); have hnb43 := NB119_121.out; have hnc43 := NB121_119.out; obtain ⟨hcz44_0, hcz44_1, hfz44_0, hfz44_1⟩ := cz2 (w := w42) BK119.out; obtain ⟨hcz45_0, hcz45_1, hfz45_0, hfz45_1⟩ := cz2 (w := w42) BK124.out) | (go_at_call 65; (with_reducible refine (cand_there.calls _ _ l0_0 _ _ l0_1 ((rd_T73 ((rd_T70 l0_1 x12_1).f1) x40_3).f0) ((rd_T73 ((rd_T70 l0_1 x12_1).f1) x40_3).f1) true _ ?side1 ?side2 ?side3 ?side4 A36.out).mono ?_); (case side1 => repeat (first | exact (Kd.C_below HR0_0.out HB.out) | (with_reducible refine Kd.C_alloc ?_ _) | (with_reducible refine Kd.C_drewN ?_ _) | (with_reducible refine Kd.C_drew ?_))); (case side2 => exact HC0_0.out); (case side3 => repeat (first | exact (Kd.C_below HR0_1.out HB.out) | (with_reducible refine Kd.C_alloc ?_ _) | (with_reducible refine Kd.C_drewN ?_ _) | (with_reducible refine Kd.C_drew ?_))); (case side4 => exact HC0_1.out); rintro e w46 ⟨rfl, hb⟩; have mz_ := Aside0.mk (MapAt.below (l := l0_1) (x := x12_1) (y := x40_3) (B := w2.heap.size) (by with_reducible repeat (first | exact HM.out | refine MapAt.set ?_ (Aside0.out (by assumption)) | refine MapAt.drewN ?_ _ | refine MapAt.drew1 ?_ | refine MapAt.alloc ?_ _)) hb); clear HM; have HM := mz_; clear mz_; have n0_ := Aside0.mk (blk_below (g := gb119) (o := .cells #[.slice A0_0 l0_0.length c0_0, .slice (some ad120) l0_1.length c0_1] 42 (0, 0)) (bk BK119.out) hb); have n1_ := Aside0.mk (blk_below (g := gb121) (o := .cells #[.int .i64 ((rd_T70 l0_1 x12_1).f0), .slice (some ad123) ((rd_T70 l0_1 x12_1).f1).length c120_1] 70 (0, 0)) (bk BK121.out) hb); have n2_ := Aside0.mk (blk_below (g := gb124) (o := .cells #[.int .i64 ((rd_T73 ((rd_T70 l0_1 x12_1).f1) x40_3).f0), .int .i64 ((rd_T73 ((rd_T70 l0_1 x12_1).f1) x40_3).f1)] 73 (0, 0)) (bk BK124.out) hb); have n3_ := Aside0.mk (below_step bl hb); clear BK119; clear BK121; clear BK124; clear HB; have BK119 := n0_; have BK121 := n1_; have BK124 := n2_; have HB := n3_; clear n0_ n1_ n2_ n3_; (try clear hb); obtain ⟨hcz47_0, hcz47_1, hfz47_0, hfz47_1⟩ := cz2 (w := w46) BK124.out) | (at_mapUpdate; refine put_map rfl rfl (l := l0_1) (x := x12_1) (y := x40_3) (B := w2.heap.size) ?hm ?hx ?hv ?hM (by assumption) (by assumption) A29.out ?_; (case hM => exact (by with_reducible repeat (first | exact HM.out | refine MapAt.set ?_ (Aside0.out (by assumption)) | refine MapAt.drewN ?_ _ | refine MapAt.drew1 ?_ | refine MapAt.alloc ?_ _))); (case hm => first | rfl | (go_simp; done) | (go_simp; rfl)); (case hx => first | rfl | (go_simp; done) | (go_simp; rfl)); (case hv => first | rfl | (go_simp; done) | (go_simp; rfl)); intro wu hmu hgu; have n0_ := Aside0.mk (pw_below_grown bl (some _) (below_size bl) hgu (fun k hk => by cases hk; exact HMB.out)); have nb119_ := Aside0.mk (blk_map (bk BK119.out) hgu (by first | exact NM119.out | exact NEB119.out)); have nb121_ := Aside0.mk (blk_map (bk BK121.out) hgu (by first | exact NM121.out | exact NEB121.out)); clear HB; have HB := n0_; clear n0_; clear BK119; have BK119 := nb119_; clear nb119_; clear BK121; have BK121 := nb121_; clear nb121_; clear HM; have HM := Aside0.mk hmu; clear hmu hgu))
       repeat (go_quiet (first | ((with_reducible refine gate_dst (N := 7) rfl ?_); refine bv 7 #[.int .i64 0, .int .i64 0] 73 ?_; intro gb124 hg w38 hbox hb; have NEB124 := Aside0.mk (MapAt.ne HM.out hg); have mz_ := Aside0.mk (MapAt.below HM.out hb); clear HM; have HM := mz_; clear mz_; have n0_ := Aside0.mk (blk_below (g := gb119) (o := .cells #[.slice A0_0 l0_0.length c0_0, .slice (some ad120) l0_1.length c0_1] 42 (0, 0)) (bk BK119.out) hb); have n1_ := Aside0.mk (blk_below (g := gb121) (o := .cells #[.int .i64 ((rd_T70 l0_1 x12_1).f0), .slice (some ad123) ((rd_T70 l0_1 x12_1).f1).length c120_1] 70 (0, 0)) (bk BK121.out) hb); have n2_ := Aside0.mk (below_step bl hb); have n3_ := Aside0.mk (hbox); have n4_ := Aside0.mk ((by rw [hg]; exact (below_size bl) : w.heap.size ≤ gb124)); have n5_ := Aside0.mk ((by rw [hg]; exact (below_size bl) : w.heap.size ≤ gb124)); have n6_ := Aside0.mk ((nl hg (bk BK119.out) : gb119 ≠ gb124)); have n7_ := Aside0.mk ((ng hg (bk BK119.out) : gb124 ≠ gb119)); have n8_ := Aside0.mk ((nl hg (bk BK121.out) : gb121 ≠ gb124)); have n9_ := Aside0.mk ((ng hg (bk BK121.out) : gb124 ≠ gb121)); clear BK119; clear BK121; clear HB; have BK119 := n0_; have BK121 := n1_; have HB := n2_; have BK124 := n3_; have GW124 := n4_; have GE124 := n5_; have NB119_124 := n6_; have NB124_119 := n7_; have NB121_124 := n8_; have NB124_121 := n9_; clear n0_ n1_ n2_ n3_ n4_ n5_ n6_ n7_ n8_ n9_; clear hb hbox hg; have hnb39 := NB124_119.out; have hnc39 := NB119_124.out; have hnb40 := NB124_121.out; have hnc40 := NB121_124.out; obtain ⟨hcz41_0, hcz41_1, hfz41_0, hfz41_1⟩ := cz2 (w := w38) BK124.out) | ((with_reducible refine gate_dst (N := 46) rfl ?_); refine look_map rfl rfl (l := l0_1) (x := x12_1) (y := x40_3) (B := w2.heap.size) ?hm ?hx ?hM A29.out ?_; (case hM => exact (by with_reducible repeat (first | exact HM.out | refine MapAt.set ?_ (Aside0.out (by assumption)) | refine MapAt.drewN ?_ _ | refine MapAt.drew1 ?_ | refine MapAt.alloc ?_ _))); (case hm => first | rfl | (go_simp; done) | (go_simp; rfl)); (case hx => first | rfl | (go_simp; done) | (go_simp; rfl)); intro w42 hM_ hb; clear HM; have HM := Aside0.mk hM_; clear hM_; have n0_ := Aside0.mk (blk_below (g := gb119) (o := .cells #[.slice A0_0 l0_0.length c0_0, .slice (some ad120) l0_1.length c0_1] 42 (0, 0)) (by refine bx ?_; refine blk_far ?_ NB119_124.out _; refine bx ?_; refine blk_far ?_ NB119_124.out _; refine bx ?_; exact BK119.out) hb); have n1_ := Aside0.mk (blk_below (g := gb121) (o := .cells #[.int .i64 ((rd_T70 l0_1 x12_1).f0), .slice (some ad123) ((rd_T70 l0_1 x12_1).f1).length c120_1] 70 (0, 0)) (by refine bx ?_; refine blk_far ?_ NB121_124.out _; refine bx ?_; refine blk_far ?_ NB121_124.out _; refine bx ?_; exact BK121.out) hb); have n2_ := Aside0.mk (blk_below (g := gb124) (o := .cells #[.int .i64 ((rd_T73 ((rd_T70 l0_1 x12_1).f1) x40_3).f0), .int .i64 ((rd_T73 ((rd_T70 l0_1 x12_1).f1) x40_3).f1)] 73 (0, 0)) (by refine bx ?_; refine blk_put (cs := #[.int .i64 ((rd_T73 ((rd_T70 l0_1 x12_1).f1) x40_3).f0), .int .i64 0]) ?_ 1 _ rfl; refine bx ?_; refine blk_put (cs := #[.int .i64 0, .int .i64 0]) ?_ 0 _ rfl; refine bx ?_; exact BK124.out) hb); have n3_ := Aside0.mk (below_step bl hb); clear BK119; clear BK121; clear BK124; clear HB; have BK119 := n0_; have BK121 := n1_; have BK124 := n2_; have HB := n3_; clear n0_ n1_ n2_ n3_; (try clear hb); have hnb43 := NB119_121.out; have hnc43 := NB121_119.out; obtain ⟨hcz44_0, hcz44_1, hfz44_0, hfz44_1⟩ := cz2 (w := w42) BK119.out; obtain ⟨hcz45_0, hcz45_1, hfz45_0, hfz45_1⟩ := cz2 (w := w42) BK124.out) | (go_at_call 65; (with_reducible refine (cand_there.calls _ _ l0_0 _ _ l0_1 ((rd_T73 ((rd_T70 l0_1 x12_1).f1) x40_3).f0) ((rd_T73 ((rd_T70 l0_1 x12_1).f1) x40_3).f1) true _ ?side1 ?side2 ?side3 ?side4 A36.out).mono ?_); (case side1 => repeat (first | exact (Kd.C_below HR0_0.out HB.out) | (with_reducible refine Kd.C_alloc ?_ _) | (with_reducible refine Kd.C_drewN ?_ _) | (with_reducible refine Kd.C_drew ?_))); (case side2 => exact HC0_0.out); (case side3 => repeat (first | exact (Kd.C_below HR0_1.out HB.out) | (with_reducible refine Kd.C_alloc ?_ _) | (with_reducible refine Kd.C_drewN ?_ _) | (with_reducible refine Kd.C_drew ?_))); (case side4 => exact HC0_1.out); rintro e w46 ⟨rfl, hb⟩; have mz_ := Aside0.mk (MapAt.below (l := l0_1) (x := x12_1) (y := x40_3) (B := w2.heap.size) (by with_reducible repeat (first | exact HM.out | refine MapAt.set ?_ (Aside0.out (by assumption)) | refine MapAt.drewN ?_ _ | refine MapAt.drew1 ?_ | refine MapAt.alloc ?_ _)) hb); clear HM; have HM := mz_; clear mz_; have n0_ := Aside0.mk (blk_below (g := gb119) (o := .cells #[.slice A0_0 l0_0.length c0_0, .slice (some ad120) l0_1.length c0_1] 42 (0, 0)) (bk BK119.out) hb); have n1_ := Aside0.mk (blk_below (g := gb121) (o := .cells #[.int .i64 ((rd_T70 l0_1 x12_1).f0), .slice (some ad123) ((rd_T70 l0_1 x12_1).f1).length c120_1] 70 (0, 0)) (bk BK121.out) hb); have n2_ := Aside0.mk (blk_below (g := gb124) (o := .cells #[.int .i64 ((rd_T73 ((rd_T70 l0_1 x12_1).f1) x40_3).f0), .int .i64 ((rd_T73 ((rd_T70 l0_1 x12_1).f1) x40_3).f1)] 73 (0, 0)) (bk BK124.out) hb); have n3_ := Aside0.mk (below_step bl hb); clear BK119; clear BK121; clear BK124; clear HB; have BK119 := n0_; have BK121 := n1_; have BK124 := n2_; have HB := n3_; clear n0_ n1_ n2_ n3_; (try clear hb); obtain ⟨hcz47_0, hcz47_1, hfz47_0, hfz47_1⟩ := cz2 (w := w46) BK124.out)); try go_wp2_with (first | ((with_reducible refine gate_dst (N := 7) rfl ?_); refine bv 7 #[.int .i64 0, .int .i64 0] 73 ?_; intro gb124 hg w38 hbox hb; have NEB124 := Aside0.mk (MapAt.ne HM.out hg); have mz_ := Aside0.mk (MapAt.below HM.out hb); clear HM; have HM := mz_; clear mz_; have n0_ := Aside0.mk (blk_below (g := gb119) (o := .cells #[.slice A0_0 l0_0.length c0_0, .slice (some ad120) l0_1.length c0_1] 42 (0, 0)) (bk BK119.out) hb); have n1_ := Aside0.mk (blk_below (g := gb121) (o := .cells #[.int .i64 ((rd_T70 l0_1 x12_1).f0), .slice (some ad123) ((rd_T70 l0_1 x12_1).f1).length c120_1] 70 (0, 0)) (bk BK121.out) hb); have n2_ := Aside0.mk (below_step bl hb); have n3_ := Aside0.mk (hbox); have n4_ := Aside0.mk ((by rw [hg]; exact (below_size bl) : w.heap.size ≤ gb124)); have n5_ := Aside0.mk ((by rw [hg]; exact (below_size bl) : w.heap.size ≤ gb124)); have n6_ := Aside0.mk ((nl hg (bk BK119.out) : gb119 ≠ gb124)); have n7_ := Aside0.mk ((ng hg (bk BK119.out) : gb124 ≠ gb119)); have n8_ := Aside0.mk ((nl hg (bk BK121.out) : gb121 ≠ gb124)); have n9_ := Aside0.mk ((ng hg (bk BK121.out) : gb124 ≠ gb121)); clear BK119; clear BK121; clear HB; have BK119 := n0_; have BK121 := n1_; have HB := n2_; have BK124 := n3_; have GW124 := n4_; have GE124 := n5_; have NB119_124 := n6_; have NB124_119 := n7_; have NB121_124 := n8_; have NB124_121 := n9_; clear n0_ n1_ n2_ n3_ n4_ n5_ n6_ n7_ n8_ n9_; clear hb hbox hg; have hnb39 := NB124_119.out; have hnc39 := NB119_124.out; have hnb40 := NB124_121.out; have hnc40 := NB121_124.out; obtain ⟨hcz41_0, hcz41_1, hfz41_0, hfz41_1⟩ := cz2 (w := w38) BK124.out) | ((with_reducible refine gate_dst (N := 46) rfl ?_); refine look_map rfl rfl (l := l0_1) (x := x12_1) (y := x40_3) (B := w2.heap.size) ?hm ?hx ?hM A29.out ?_; (case hM => exact (by with_reducible repeat (first | exact HM.out | refine MapAt.set ?_ (Aside0.out (by assumption)) | refine MapAt.drewN ?_ _ | refine MapAt.drew1 ?_ | refine MapAt.alloc ?_ _))); (case hm => first | rfl | (go_simp; done) | (go_simp; rfl)); (case hx => first | rfl | (go_simp; done) | (go_simp; rfl)); intro w42 hM_ hb; clear HM; have HM := Aside0.mk hM_; clear hM_; have n0_ := Aside0.mk (blk_below (g := gb119) (o := .cells #[.slice A0_0 l0_0.length c0_0, .slice (some ad120) l0_1.length c0_1] 42 (0, 0)) (by refine bx ?_; refine blk_far ?_ NB119_124.out _; refine bx ?_; refine blk_far ?_ NB119_124.out _; refine bx ?_; exact BK119.out) hb); have n1_ := Aside0.mk (blk_below (g := gb121) (o := .cells #[.int .i64 ((rd_T70 l0_1 x12_1).f0), .slice (some ad123) ((rd_T70 l0_1 x12_1).f1).length c120_1] 70 (0, 0)) (by refine bx ?_; refine blk_far ?_ NB121_124.out _; refine bx ?_; refine blk_far ?_ NB121_124.out _; refine bx ?_; exact BK121.out) hb); have n2_ := Aside0.mk (blk_below (g := gb124) (o := .cells #[.int .i64 ((rd_T73 ((rd_T70 l0_1 x12_1).f1) x40_3).f0), .int .i64 ((rd_T73 ((rd_T70 l0_1 x12_1).f1) x40_3).f1)] 73 (0, 0)) (by refine bx ?_; refine blk_put (cs := #[.int .i64 ((rd_T73 ((rd_T70 l0_1 x12_1).f1) x40_3).f0), .int .i64 0]) ?_ 1 _ rfl; refine bx ?_; refine blk_put (cs := #[.int .i64 0, .int .i64 0]) ?_ 0 _ rfl; refine bx ?_; exact BK124.out) hb); have n3_ := Aside0.mk (below_step bl hb); clear BK119; clear BK121; clear BK124; clear HB; have BK119 := n0_; have BK121 := n1_; have BK124 := n2_; have HB := n3_; clear n0_ n1_ n2_ n3_; (try clear hb); have hnb43 := NB119_121.out; have hnc43 := NB121_119.out; obtain ⟨hcz44_0, hcz44_1, hfz44_0, hfz44_1⟩ := cz2 (w := w42) BK119.out; obtain ⟨hcz45_0, hcz45_1, hfz45_0, hfz45_1⟩ := cz2 (w := w42) BK124.out) | (go_at_call 65; (with_reducible refine (cand_there.calls _ _ l0_0 _ _ l0_1 ((rd_T73 ((rd_T70 l0_1 x12_1).f1) x40_3).f0) ((rd_T73 ((rd_T70 l0_1 x12_1).f1) x40_3).f1) true _ ?side1 ?side2 ?side3 ?side4 A36.out).mono ?_); (case side1 => repeat (first | exact (Kd.C_below HR0_0.out HB.out) | (with_reducible refine Kd.C_alloc ?_ _) | (with_reducible refine Kd.C_drewN ?_ _) | (with_reducible refine Kd.C_drew ?_))); (case side2 => exact HC0_0.out); (case side3 => repeat (first | exact (Kd.C_below HR0_1.out HB.out) | (with_reducible refine Kd.C_alloc ?_ _) | (with_reducible refine Kd.C_drewN ?_ _) | (with_reducible refine Kd.C_drew ?_))); (case side4 => exact HC0_1.out); rintro e w46 ⟨rfl, hb⟩; have mz_ := Aside0.mk (MapAt.below (l := l0_1) (x := x12_1) (y := x40_3) (B := w2.heap.size) (by with_reducible repeat (first | exact HM.out | refine MapAt.set ?_ (Aside0.out (by assumption)) | refine MapAt.drewN ?_ _ | refine MapAt.drew1 ?_ | refine MapAt.alloc ?_ _)) hb); clear HM; have HM := mz_; clear mz_; have n0_ := Aside0.mk (blk_below (g := gb119) (o := .cells #[.slice A0_0 l0_0.length c0_0, .slice (some ad120) l0_1.length c0_1] 42 (0, 0)) (bk BK119.out) hb); have n1_ := Aside0.mk (blk_below (g := gb121) (o := .cells #[.int .i64 ((rd_T70 l0_1 x12_1).f0), .slice (some ad123) ((rd_T70 l0_1 x12_1).f1).length c120_1] 70 (0, 0)) (bk BK121.out) hb); have n2_ := Aside0.mk (blk_below (g := gb124) (o := .cells #[.int .i64 ((rd_T73 ((rd_T70 l0_1 x12_1).f1) x40_3).f0), .int .i64 ((rd_T73 ((rd_T70 l0_1 x12_1).f1) x40_3).f1)] 73 (0, 0)) (bk BK124.out) hb); have n3_ := Aside0.mk (below_step bl hb); clear BK119; clear BK121; clear BK124; clear HB; have BK119 := n0_; have BK121 := n1_; have BK124 := n2_; have HB := n3_; clear n0_ n1_ n2_ n3_; (try clear hb); obtain ⟨hcz47_0, hcz47_1, hfz47_0, hfz47_1⟩ := cz2 (w := w46) BK124.out)))
       go_roundg k3
       case measure => have := HK1.out; have := HJ6.out; have := HK3.out; omega
       case rel => exact ⟨(wrap64 (x40_3 + 1)), fj, H', ⟨by have := HK1.out; have := HJ6.out; have := HK3.out; omega⟩, ⟨by refine bx ?_; exact BK119.out⟩, ⟨by refine bx ?_; exact BK121.out⟩, ⟨bl⟩, ⟨(by rw [wrap_up HR120_1.out.2.1 (by assumption) (by assumption)]; exact HM.out)⟩⟩

/-! ### cand_Check: function 24 -/
mutual
def cand_Check.l0 : Nat → List (List (S75)) → Int → Int → List (List (S75)) → List (S70) → Option (Int)
  | 0, _, _, _, _, _ => none
  | k + 1, x12, x13, x14, x128000, x128001 => if x14 < x13 then (if 0 ≤ x14 then (if x14 < (x12.length : Int) then (if ((rd_L5 x12 x14).length : Int) > 1024 then (some 3) else (cand_Check.l0 k x12 x13 (wrap64 (x14 + 1)) x128000 x128001)) else (none)) else (none)) else (cand_Check.l1 k x128000 (x128000.length : Int) 0 x128000 x128001)
def cand_Check.l1 : Nat → List (List (S75)) → Int → Int → List (List (S75)) → List (S70) → Option (Int)
  | 0, _, _, _, _, _ => none
  | k + 1, x23, x24, x25, x128000, x128001 => if x25 < x24 then (if 0 ≤ x25 then (if x25 < (x23.length : Int) then ((cand_records.f k x128000 x128001 (rd_L5 x23 x25)).bind fun t130 => (if t130 = true then (cand_Check.l1 k x23 x24 (wrap64 (x25 + 1)) x128000 x128001) else (some 1))) else (none)) else (none)) else ((cand_rows.f k x128000 x128001).bind fun t131 => (if t131 = true then (some 0) else (some 1)))
end
def cand_Check.f (k : Nat) (l0_0 : List (List (S75))) (l0_1 : List (S70)) : Option (Int) := if (l0_0.length : Int) > 8 then (some 2) else (cand_Check.l0 k l0_0 (l0_0.length : Int) 0 l0_0 l0_1)
theorem cand_Check.mono_l : ∀ k, (∀ y0 y1 y2 y3 y4, LeO (cand_Check.l0 k y0 y1 y2 y3 y4) (cand_Check.l0 (k + 1) y0 y1 y2 y3 y4)) ∧ (∀ y0 y1 y2 y3 y4, LeO (cand_Check.l1 k y0 y1 y2 y3 y4) (cand_Check.l1 (k + 1) y0 y1 y2 y3 y4))
 | 0 => ⟨fun _ _ _ _ _ r h => by simp [cand_Check.l0] at h, fun _ _ _ _ _ r h => by simp [cand_Check.l1] at h⟩
 | k + 1 => by
  obtain ⟨ih0, ih1⟩ := cand_Check.mono_l k
  refine ⟨?_, ?_⟩
  all_goals (intros; (first | unfold cand_Check.l0 | unfold cand_Check.l1); repeat' first | (with_reducible first | exact ih0 _ _ _ _ _ | exact ih1 _ _ _ _ _ | exact cand_records.mono _ _ _ _ | exact cand_rows.mono _ _ _ | exact LeO.refl _ | exact LeO.none _ | refine LeO.ite ?_ ?_ | refine LeO.bind ?_ (fun _ => ?_)) | exact ih0 _ _ _ _ _ | exact ih1 _ _ _ _ _ | exact cand_records.mono _ _ _ _ | exact cand_rows.mono _ _ _ | exact LeO.none _ | refine LeO.ite ?_ ?_ | refine LeO.bind ?_ (fun _ => ?_))
theorem cand_Check.mono : ∀ a0 a1 k, LeO (cand_Check.f k a0 a1) (cand_Check.f (k + 1) a0 a1) := by
 intro a0 a1 k
 obtain ⟨ih0, ih1⟩ := cand_Check.mono_l k
 unfold cand_Check.f
 repeat' first | (with_reducible first | exact ih0 _ _ _ _ _ | exact ih1 _ _ _ _ _ | exact cand_records.mono _ _ _ _ | exact cand_rows.mono _ _ _ | exact LeO.refl _ | exact LeO.none _ | refine LeO.ite ?_ ?_ | refine LeO.bind ?_ (fun _ => ?_)) | exact ih0 _ _ _ _ _ | exact ih1 _ _ _ _ _ | exact cand_records.mono _ _ _ _ | exact cand_rows.mono _ _ _ | exact LeO.none _ | refine LeO.ite ?_ ?_ | refine LeO.bind ?_ (fun _ => ?_)
set_option maxHeartbeats 8000000 in
set_option maxRecDepth 100000 in
theorem cand_Check.calls (k : Nat) (A0_0 : Option Addr) (c0_0 : Nat) (l0_0 : List (List (S75))) (A0_1 : Option Addr) (c0_1 : Nat) (l0_1 : List (S70)) (r : Int) (w : World) (hr0_0 : Kd.C (Kd.slice 75 k75) w A0_0 l0_0.length l0_0) (hc0_0 : l0_0.length ≤ c0_0) (hr0_1 : Kd.C k70 w A0_1 l0_1.length l0_1) (hc0_1 : l0_1.length ≤ c0_1) (h : cand_Check.f k l0_0 l0_1 = some r) :
  Calls Try.prog 24 #[.agg #[.slice A0_0 l0_0.length c0_0, .slice A0_1 l0_1.length c0_1]] w fun e w' => e = .returned (.int .i64 r) ∧ Below w.heap.size w w' := by
 have hu42 := Try.underlying42
 have HR0_0 := Aside0.mk hr0_0
 have HC0_0 := Aside0.mk hc0_0
 clear hr0_0 hc0_0
 have HR0_1 := Aside0.mk hr0_1
 have HC0_1 := Aside0.mk hc0_1
 clear hr0_1 hc0_1
 have HB := Aside0.mk (Below.refl w.heap.size w)
 have H : (if (l0_0.length : Int) > 8 then (some 2) else (cand_Check.l0 k l0_0 (l0_0.length : Int) 0 l0_0 l0_1)) = some r := h
 clear h
 by_cases c2 : (l0_0.length : Int) > 8
 ·rw [if_pos c2] at H
  have c2b0 := decide_eq_true c2
  have c2b1 : decide (8 < l0_0.length) = true := decide_eq_true (by omega)
  clear c2
  obtain rfl := Option.some.inj H
  go_enter Try.func24, Try.ntmps24
  go_wp2_with (first | ((with_reducible refine gate_dst (N := 1) rfl ?_); refine bv 1 #[.slice A0_0 l0_0.length c0_0, .slice A0_1 l0_1.length c0_1] 42 ?_; intro gb127 hg w3 hbox hb; obtain ⟨n0_, GW127⟩ := nb (w := w) hg hb; clear HB; have HB := n0_; have BK127 := Aside0.mk hbox; have GE127 := GW127; clear n0_ hb hbox hg; obtain ⟨hcz4_0, hcz4_1, hfz4_0, hfz4_1⟩ := cz2 (w := w3) BK127.out))
  go_ret
  exact ⟨fi, bl⟩
 rw [if_neg c2] at H
 have c2b0 := decide_eq_false c2
 have c2b1 : decide (8 < l0_0.length) = false := decide_eq_false (by omega)
 clear c2
 have H' := Aside0.mk H
 clear H
 go_enter Try.func24, Try.ntmps24
 go_wp2_with (first | ((with_reducible refine gate_dst (N := 1) rfl ?_); refine bv 1 #[.slice A0_0 l0_0.length c0_0, .slice A0_1 l0_1.length c0_1] 42 ?_; intro gb127 hg w5 hbox hb; obtain ⟨n0_, GW127⟩ := nb (w := w) hg hb; clear HB; have HB := n0_; have BK127 := Aside0.mk hbox; have GE127 := GW127; clear n0_ hb hbox hg; obtain ⟨hcz6_0, hcz6_1, hfz6_0, hfz6_1⟩ := cz2 (w := w5) BK127.out))
 go_loopg [14] k (fun kq v14 w' => ∃ (x14_1 : Int), v14 = .int .i64 x14_1 ∧ Aside0 (cand_Check.l0 kq l0_0 (l0_0.length : Int) x14_1 l0_0 l0_1 = some r) ∧ Aside0 (kq ≤ k) ∧ Aside0 (w'.heap[gb127]? = some (.cells #[(.slice A0_0 l0_0.length c0_0), (.slice A0_1 l0_1.length c0_1)] 42 (0, 0))) ∧ Aside0 (Below w.heap.size w w'))
 case atStart => exact ⟨(0), fj, H', ⟨Nat.le_refl _⟩, ⟨by refine bx ?_; exact BK127.out⟩, ⟨bl⟩⟩
 case round =>
  clear H'
  try clear c2
  try clear c2b0
  try clear c2b1
  try clear p2
  try clear hcz4_0 hcz4_1
  try clear hcz6_0 hcz6_1
  try clear hfz4_0 hfz4_1
  try clear hfz6_0 hfz6_1
  obtain ⟨x14_1, rfl, HA, HK1, BK127, HB⟩ := hrel
  cases gk with
  | zero => exact absurd HA.out (by simp [cand_Check.l0])
  | succ k1 =>
   have H := HA.out
   clear HA
   simp only [cand_Check.l0] at H
   by_cases c7 : x14_1 < (l0_0.length : Int)
   ·rw [if_pos c7] at H
    have c7b0 := decide_eq_true c7
    clear c7
    by_cases c8 : 0 ≤ x14_1
    rotate_left
    ·rw [if_neg c8] at H
     exact absurd H (by simp)
    rw [if_pos c8] at H
    have c8b0 := decide_eq_true c8
    clear c8
    by_cases c9 : x14_1 < (l0_0.length : Int)
    rotate_left
    ·rw [if_neg c9] at H
     exact absurd H (by simp)
    rw [if_pos c9] at H
    have c9b0 := decide_eq_true c9
    clear c9
    by_cases c10 : ((rd_L5 l0_0 x14_1).length : Int) > 1024
    ·rw [if_pos c10] at H
     have c10b0 := decide_eq_true c10
     have c10b1 : decide (1024 < (rd_L5 l0_0 x14_1).length) = true := decide_eq_true (by omega)
     clear c10
     obtain rfl := Option.some.inj H
     have p128 : 0 ≤ (x14_1 : Int) := od
     have q128 : x14_1 < (l0_0.length : Int) := od
     obtain ⟨ad128, A128_0, c128_0, e128, hx128_0, hl128_0, hi128_0⟩ := at_L5 HR0_0.out x14_1 p128 q128
     cases e128
     replace hx128_0 := cb HB.out hx128_0
     have HR128_0 := Aside0.mk hi128_0
     have HC128_0 := Aside0.mk hl128_0
     clear hi128_0 hl128_0
     replace p128 := eq_true p128
     replace q128 := eq_true q128
     go_wp2
     go_ret
     exact ⟨fi, bl⟩
    rw [if_neg c10] at H
    have c10b0 := decide_eq_false c10
    have c10b1 : decide (1024 < (rd_L5 l0_0 x14_1).length) = false := decide_eq_false (by omega)
    clear c10
    have H' := Aside0.mk H
    clear H
    have p128 : 0 ≤ (x14_1 : Int) := od
    have q128 : x14_1 < (l0_0.length : Int) := od
    obtain ⟨ad128, A128_0, c128_0, e128, hx128_0, hl128_0, hi128_0⟩ := at_L5 HR0_0.out x14_1 p128 q128
    cases e128
    replace hx128_0 := cb HB.out hx128_0
    have HR128_0 := Aside0.mk hi128_0
    have HC128_0 := Aside0.mk hl128_0
    clear hi128_0 hl128_0
    replace p128 := eq_true p128
    replace q128 := eq_true q128
    go_wp2
    go_roundg k1
    case measure => have := HK1.out; omega
    case rel => exact ⟨(wrap64 (x14_1 + 1)), fj, H', ⟨by have := HK1.out; omega⟩, ⟨by refine bx ?_; exact BK127.out⟩, ⟨bl⟩⟩
   rw [if_neg c7] at H
   have c7b0 := decide_eq_false c7
   clear c7
   have H' := Aside0.mk H
   clear H
   obtain ⟨hcz11_0, hcz11_1, hfz11_0, hfz11_1⟩ := cz2 (w := wr) BK127.out
   go_wp2
   go_loopg [25] k1 (fun kq v25 w' => ∃ (x25_2 : Int), v25 = .int .i64 x25_2 ∧ Aside0 (cand_Check.l1 kq l0_0 (l0_0.length : Int) x25_2 l0_0 l0_1 = some r) ∧ Aside0 (kq ≤ k1) ∧ Aside0 (w'.heap[gb127]? = some (.cells #[(.slice A0_0 l0_0.length c0_0), (.slice A0_1 l0_1.length c0_1)] 42 (0, 0))) ∧ Aside0 (Below w.heap.size w w'))
   case atStart => exact ⟨(0), fj, H', ⟨Nat.le_refl _⟩, ⟨by refine bx ?_; exact BK127.out⟩, ⟨bl⟩⟩
   case round =>
    clear H'
    try clear c1
    try clear p1
    try clear q1
    try clear hx1
    try clear c2
    try clear c2b0
    try clear c2b1
    try clear p2
    try clear p6
    try clear c7
    try clear c7b0
    try clear c8
    try clear c8b0
    try clear c9
    try clear c9b0
    try clear c10
    try clear c10b0
    try clear c10b1
    try clear hcz11_0 hcz11_1
    try clear hcz4_0 hcz4_1
    try clear hcz6_0 hcz6_1
    try clear hfz11_0 hfz11_1
    try clear hfz4_0 hfz4_1
    try clear hfz6_0 hfz6_1
    try clear hx128_0
    try clear p128
    try clear p2
    try clear q128
    obtain ⟨x25_2, rfl, HA, HK2, BK127, HB⟩ := hrel
    cases gk with
    | zero => exact absurd HA.out (by simp [cand_Check.l1])
    | succ k2 =>
     have H := HA.out
     clear HA
     simp only [cand_Check.l1] at H
     by_cases c12 : x25_2 < (l0_0.length : Int)
     rotate_left
     ·rw [if_neg c12] at H
      have c12b0 := decide_eq_false c12
      clear c12
      replace H := be H
      obtain ⟨t131, A21, H⟩ := H
      by_cases c22 : t131 = true
      ·subst c22
       have H1 : (some 0) = some r := by rw [if_pos rfl] at H; exact H
       clear H
       have H := H1
       clear H1
       obtain rfl := Option.some.inj H
       obtain ⟨hcz23_0, hcz23_1, hfz23_0, hfz23_1⟩ := cz2 (w := wr) BK127.out
       go_wp2_with (first | ((with_reducible refine gate_callee (f := 51) rfl ?_); refine goesL_ (some 35) rfl rfl Try.func51 (by kernel_rfl) rfl #[.agg #[.slice A0_0 l0_0.length c0_0, .slice A0_1 l0_1.length c0_1]] rfl ga ?_; (with_reducible refine (cand_rows.calls k2 _ _ l0_0 _ _ l0_1 true _ ?side1 ?side2 ?side3 ?side4 A21.out).mono ?_); (case side1 => repeat (first | exact (Kd.C_below HR0_0.out HB.out) | (with_reducible refine Kd.C_alloc ?_ _) | (with_reducible refine Kd.C_drewN ?_ _) | (with_reducible refine Kd.C_drew ?_))); (case side2 => exact HC0_0.out); (case side3 => repeat (first | exact (Kd.C_below HR0_1.out HB.out) | (with_reducible refine Kd.C_alloc ?_ _) | (with_reducible refine Kd.C_drewN ?_ _) | (with_reducible refine Kd.C_drew ?_))); (case side4 => exact HC0_1.out); rintro e w24 ⟨rfl, hb⟩; refine ⟨_, rfl, ?_⟩; have n0_ := Aside0.mk (blk_below (g := gb127) (o := .cells #[.slice A0_0 l0_0.length c0_0, .slice A0_1 l0_1.length c0_1] 42 (0, 0)) (bk BK127.out) hb); have n1_ := Aside0.mk (below_step bl hb); clear BK127; clear HB; have BK127 := n0_; have HB := n1_; clear n0_ n1_; (try clear hb)))
       go_ret
       exact ⟨fi, bl⟩
      replace c22 := Bool.eq_false_iff.mpr c22
      subst c22
      have H1 : (some 1) = some r := by rw [if_neg (show ¬ (false = true) by decide)] at H; exact H
      clear H
      have H := H1
      clear H1
      obtain rfl := Option.some.inj H
      obtain ⟨hcz25_0, hcz25_1, hfz25_0, hfz25_1⟩ := cz2 (w := wr) BK127.out
      go_wp2_with (first | ((with_reducible refine gate_callee (f := 51) rfl ?_); refine goesL_ (some 35) rfl rfl Try.func51 (by kernel_rfl) rfl #[.agg #[.slice A0_0 l0_0.length c0_0, .slice A0_1 l0_1.length c0_1]] rfl ga ?_; (with_reducible refine (cand_rows.calls k2 _ _ l0_0 _ _ l0_1 false _ ?side1 ?side2 ?side3 ?side4 A21.out).mono ?_); (case side1 => repeat (first | exact (Kd.C_below HR0_0.out HB.out) | (with_reducible refine Kd.C_alloc ?_ _) | (with_reducible refine Kd.C_drewN ?_ _) | (with_reducible refine Kd.C_drew ?_))); (case side2 => exact HC0_0.out); (case side3 => repeat (first | exact (Kd.C_below HR0_1.out HB.out) | (with_reducible refine Kd.C_alloc ?_ _) | (with_reducible refine Kd.C_drewN ?_ _) | (with_reducible refine Kd.C_drew ?_))); (case side4 => exact HC0_1.out); rintro e w26 ⟨rfl, hb⟩; refine ⟨_, rfl, ?_⟩; have n0_ := Aside0.mk (blk_below (g := gb127) (o := .cells #[.slice A0_0 l0_0.length c0_0, .slice A0_1 l0_1.length c0_1] 42 (0, 0)) (bk BK127.out) hb); have n1_ := Aside0.mk (below_step bl hb); clear BK127; clear HB; have BK127 := n0_; have HB := n1_; clear n0_ n1_; (try clear hb)))
      go_ret
      exact ⟨fi, bl⟩
     rw [if_pos c12] at H
     have c12b0 := decide_eq_true c12
     clear c12
     by_cases c13 : 0 ≤ x25_2
     rotate_left
     ·rw [if_neg c13] at H
      exact absurd H (by simp)
     rw [if_pos c13] at H
     have c13b0 := decide_eq_true c13
     clear c13
     by_cases c14 : x25_2 < (l0_0.length : Int)
     rotate_left
     ·rw [if_neg c14] at H
      exact absurd H (by simp)
     rw [if_pos c14] at H
     have c14b0 := decide_eq_true c14
     clear c14
     replace H := be H
     obtain ⟨t130, A15, H⟩ := H
     by_cases c16 : t130 = true
     rotate_left
     ·replace c16 := Bool.eq_false_iff.mpr c16
      subst c16
      have H1 : (some 1) = some r := by rw [if_neg (show ¬ (false = true) by decide)] at H; exact H
      clear H
      have H := H1
      clear H1
      obtain rfl := Option.some.inj H
      have p129 : 0 ≤ (x25_2 : Int) := od
      have q129 : x25_2 < (l0_0.length : Int) := od
      obtain ⟨ad129, A129_0, c129_0, e129, hx129_0, hl129_0, hi129_0⟩ := at_L5 HR0_0.out x25_2 p129 q129
      cases e129
      replace hx129_0 := cb HB.out hx129_0
      have HR129_0 := Aside0.mk hi129_0
      have HC129_0 := Aside0.mk hl129_0
      clear hi129_0 hl129_0
      replace p129 := eq_true p129
      replace q129 := eq_true q129
      obtain ⟨hcz19_0, hcz19_1, hfz19_0, hfz19_1⟩ := cz2 (w := wr) BK127.out
      go_wp2_with (first | ((with_reducible refine gate_callee (f := 50) rfl ?_); refine goesL_ (some 31) rfl rfl Try.func50 (by kernel_rfl) rfl #[.agg #[.slice (some ad129) l0_0.length c0_0, .slice A0_1 l0_1.length c0_1], .slice A129_0 (rd_L5 l0_0 x25_2).length c129_0] rfl ga ?_; (with_reducible refine (cand_records.calls k2 _ _ l0_0 _ _ l0_1 _ _ (rd_L5 l0_0 x25_2) false _ ?side1 ?side2 ?side3 ?side4 ?side5 ?side6 A15.out).mono ?_); (case side1 => repeat (first | exact (Kd.C_below HR0_0.out HB.out) | (with_reducible refine Kd.C_alloc ?_ _) | (with_reducible refine Kd.C_drewN ?_ _) | (with_reducible refine Kd.C_drew ?_))); (case side2 => exact HC0_0.out); (case side3 => repeat (first | exact (Kd.C_below HR0_1.out HB.out) | (with_reducible refine Kd.C_alloc ?_ _) | (with_reducible refine Kd.C_drewN ?_ _) | (with_reducible refine Kd.C_drew ?_))); (case side4 => exact HC0_1.out); (case side5 => repeat (first | exact (Kd.C_below HR129_0.out HB.out) | (with_reducible refine Kd.C_alloc ?_ _) | (with_reducible refine Kd.C_drewN ?_ _) | (with_reducible refine Kd.C_drew ?_))); (case side6 => exact HC129_0.out); rintro e w20 ⟨rfl, hb⟩; refine ⟨_, rfl, ?_⟩; have n0_ := Aside0.mk (blk_below (g := gb127) (o := .cells #[.slice (some ad129) l0_0.length c0_0, .slice A0_1 l0_1.length c0_1] 42 (0, 0)) (bk BK127.out) hb); have n1_ := Aside0.mk (below_step bl hb); clear BK127; clear HB; have BK127 := n0_; have HB := n1_; clear n0_ n1_; (try clear hb)))
      go_ret
      exact ⟨fi, bl⟩
     subst c16
     have H1 : (cand_Check.l1 k2 l0_0 (l0_0.length : Int) (wrap64 (x25_2 + 1)) l0_0 l0_1) = some r := by rw [if_pos rfl] at H; exact H
     clear H
     have H := H1
     clear H1
     have H' := Aside0.mk H
     clear H
     have p129 : 0 ≤ (x25_2 : Int) := od
     have q129 : x25_2 < (l0_0.length : Int) := od
     obtain ⟨ad129, A129_0, c129_0, e129, hx129_0, hl129_0, hi129_0⟩ := at_L5 HR0_0.out x25_2 p129 q129
     cases e129
     replace hx129_0 := cb HB.out hx129_0
     have HR129_0 := Aside0.mk hi129_0
     have HC129_0 := Aside0.mk hl129_0
     clear hi129_0 hl129_0
     replace p129 := eq_true p129
     replace q129 := eq_true q129
     obtain ⟨hcz17_0, hcz17_1, hfz17_0, hfz17_1⟩ := cz2 (w := wr) BK127.out
     go_wp2_with (first | ((with_reducible refine gate_callee (f := 50) rfl ?_); refine goesL_ (some 31) rfl rfl Try.func50 (by kernel_rfl) rfl #[.agg #[.slice (some ad129) l0_0.length c0_0, .slice A0_1 l0_1.length c0_1], .slice A129_0 (rd_L5 l0_0 x25_2).length c129_0] rfl ga ?_; (with_reducible refine (cand_records.calls k2 _ _ l0_0 _ _ l0_1 _ _ (rd_L5 l0_0 x25_2) true _ ?side1 ?side2 ?side3 ?side4 ?side5 ?side6 A15.out).mono ?_); (case side1 => repeat (first | exact (Kd.C_below HR0_0.out HB.out) | (with_reducible refine Kd.C_alloc ?_ _) | (with_reducible refine Kd.C_drewN ?_ _) | (with_reducible refine Kd.C_drew ?_))); (case side2 => exact HC0_0.out); (case side3 => repeat (first | exact (Kd.C_below HR0_1.out HB.out) | (with_reducible refine Kd.C_alloc ?_ _) | (with_reducible refine Kd.C_drewN ?_ _) | (with_reducible refine Kd.C_drew ?_))); (case side4 => exact HC0_1.out); (case side5 => repeat (first | exact (Kd.C_below HR129_0.out HB.out) | (with_reducible refine Kd.C_alloc ?_ _) | (with_reducible refine Kd.C_drewN ?_ _) | (with_reducible refine Kd.C_drew ?_))); (case side6 => exact HC129_0.out); rintro e w18 ⟨rfl, hb⟩; refine ⟨_, rfl, ?_⟩; have n0_ := Aside0.mk (blk_below (g := gb127) (o := .cells #[.slice (some ad129) l0_0.length c0_0, .slice A0_1 l0_1.length c0_1] 42 (0, 0)) (bk BK127.out) hb); have n1_ := Aside0.mk (below_step bl hb); clear BK127; clear HB; have BK127 := n0_; have HB := n1_; clear n0_ n1_; (try clear hb)))
     go_roundg k2
     case measure => have := HK1.out; have := HK2.out; omega
     case rel => exact ⟨(wrap64 (x25_2 + 1)), fj, H', ⟨by have := HK1.out; have := HK2.out; omega⟩, ⟨by refine bx ?_; exact BK127.out⟩, ⟨bl⟩⟩

end Go.Proofs.Ytfpphaflbmlpeaa.GCandChecks
