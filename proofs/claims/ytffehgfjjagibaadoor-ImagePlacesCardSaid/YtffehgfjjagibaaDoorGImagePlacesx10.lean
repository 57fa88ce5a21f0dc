-- Written by wip/stub.py of this repo.
import Derived.Test.YtffehgfjjagibaaDoorGImagePlacesx0
import Derived.Test.YtffehgfjjagibaaDoorGImagePlacesx8
namespace Go.Proofs.YtffehgfjjagibaaDoor.GImagePlaces
open Go.RowKit Go.Proofs.YtffehgfjjagibaaDoorW.PrintWords Go.Proofs.YtffehgfjjagibaaDoorW.PrintLast Go.Proofs.YtffehgfjjagibaaDoorW.PrintMore
attribute [local go_sem] max2_int min2_int max_two min_two max_three min_three max_four min_four   -- for this text's walks alone
set_option linter.unusedVariables false
set_option linter.unusedSimpArgs false

/-! ### dec_pick: function 53 -/
def dec_pick.l0 : Nat → Int → Int → List Int → Int → Int → Option (Int)
  | 0, _, _, _, _, _ => none
  | k + 1, x0, x1, x9, x10, x11 => if x11 < x10 then (if 0 ≤ x11 then (if x11 < (x9.length : Int) then (if (rd x9 x11) = x1 then (some (wrap64 (x0 + x11))) else (dec_pick.l0 k x0 x1 x9 x10 (wrap64 (x11 + 1)))) else (none)) else (none)) else (some 0)
def dec_pick.f (k : Nat) (a0 : Int) (a1 : Int) (l2 : List Int) : Option (Int) := dec_pick.l0 k a0 a1 l2 (l2.length : Int) 0
theorem dec_pick.mono_l : ∀ k, (∀ y0 y1 y2 y3 y4, LeO (dec_pick.l0 k y0 y1 y2 y3 y4) (dec_pick.l0 (k + 1) y0 y1 y2 y3 y4))
 | 0 => fun _ _ _ _ _ r h => by simp [dec_pick.l0] at h
 | k + 1 => by
  have ih0 := dec_pick.mono_l k
  ·intro y0 y1 y2 y3 y4
   unfold dec_pick.l0
   repeat' first | (with_reducible first | exact ih0 _ _ _ _ _ | exact LeO.refl _ | exact LeO.none _ | refine LeO.ite ?_ ?_ | refine LeO.bind ?_ (fun _ => ?_)) | exact ih0 _ _ _ _ _ | exact LeO.none _ | refine LeO.ite ?_ ?_ | refine LeO.bind ?_ (fun _ => ?_)
theorem dec_pick.mono : ∀ a0 a1 a2 k, LeO (dec_pick.f k a0 a1 a2) (dec_pick.f (k + 1) a0 a1 a2) := by
 intro a0 a1 a2 k
 have ih0 := dec_pick.mono_l k
 unfold dec_pick.f
 repeat' first | (with_reducible first | exact ih0 _ _ _ _ _ | exact LeO.refl _ | exact LeO.none _ | refine LeO.ite ?_ ?_ | refine LeO.bind ?_ (fun _ => ?_)) | exact ih0 _ _ _ _ _ | exact LeO.none _ | refine LeO.ite ?_ ?_ | refine LeO.bind ?_ (fun _ => ?_)
set_option maxHeartbeats 8000000 in
set_option maxRecDepth 100000 in
theorem dec_pick.calls (k : Nat) (a0 : Int) (a1 : Int) (A2 : Option Addr) (c2 : Nat) (l2 : List Int) (r : Int) (w : World) (hr2 : Kd.C (Kd.int .i64) w A2 l2.length l2) (hc2 : l2.length ≤ c2) (h : dec_pick.f k a0 a1 l2 = some r) :
  Calls Tryd.prog 53 #[.int .i64 a0, .int .i64 a1, .slice A2 l2.length c2] w fun e w' => e = .returned (.int .i64 r) ∧ Drawn0 w w' := by
 have HR2 := Aside0.mk hr2
 have HC2 := Aside0.mk hc2
 clear hr2 hc2
 have H : (dec_pick.l0 k a0 a1 l2 (l2.length : Int) 0) = some r := h
 clear h
 have H' := Aside0.mk H
 clear H
 go_enter Tryd.func53, Tryd.ntmps53
 go_wp2
 go_loopg [11] k (fun kq v11 w' => ∃ (x11_1 : Int), v11 = .int .i64 x11_1 ∧ Aside0 (dec_pick.l0 kq a0 a1 l2 (l2.length : Int) x11_1 = some r) ∧ Aside0 (kq ≤ k) ∧ Drawn0 w w')
 case atStart => exact ⟨(0), fj, H', ⟨Nat.le_refl _⟩, fd⟩
 case round =>
  clear H'
  try clear c2
  try clear p2
  obtain ⟨x11_1, rfl, HA, HK1, ⟨m1, rfl⟩⟩ := hrel
  cases gk with
  | zero => exact absurd HA.out (by simp [dec_pick.l0])
  | succ k1 =>
   have H := HA.out
   clear HA
   simp only [dec_pick.l0] at H
   by_cases c4 : x11_1 < (l2.length : Int)
   ·rw [if_pos c4] at H
    have c4b0 := decide_eq_true c4
    clear c4
    by_cases c5 : 0 ≤ x11_1
    ·rw [if_pos c5] at H
     have c5b0 := decide_eq_true c5
     clear c5
     by_cases c6 : x11_1 < (l2.length : Int)
     ·rw [if_pos c6] at H
      have c6b0 := decide_eq_true c6
      clear c6
      by_cases c7 : (rd l2 x11_1) = a1
      ·rw [if_pos c7] at H
       have c7b0 : ((rd l2 x11_1) == a1) = true := beq_iff_eq.mpr c7
       have c7b1 : ((rd l2 x11_1) != a1) = false := bne_eq_false_iff_eq.mpr c7
       clear c7
       obtain rfl := Option.some.inj H
       have p308 : 0 ≤ (x11_1 : Int) := of_decide_eq_true (by first | (with_reducible assumption) | assumption)
       have q308 : x11_1 < (l2.length : Int) := of_decide_eq_true (by first | (with_reducible assumption) | assumption)
       obtain ⟨ad308, e308, hx308_0⟩ := Kd.at_int HR2.out x11_1 p308 q308
       cases e308
       replace p308 := eq_true p308
       replace q308 := eq_true q308
       go_wp2
       go_ret
       exact ⟨fj, fd⟩
      ·rw [if_neg c7] at H
       have c7b0 : ((rd l2 x11_1) == a1) = false := beq_eq_false_iff_ne.mpr c7
       have c7b1 : ((rd l2 x11_1) != a1) = true := bne_iff_ne.mpr c7
       have H' := Aside0.mk H
       clear H
       have p308 : 0 ≤ (x11_1 : Int) := of_decide_eq_true (by first | (with_reducible assumption) | assumption)
       have q308 : x11_1 < (l2.length : Int) := of_decide_eq_true (by first | (with_reducible assumption) | assumption)
       obtain ⟨ad308, e308, hx308_0⟩ := Kd.at_int HR2.out x11_1 p308 q308
       cases e308
       replace p308 := eq_true p308
       replace q308 := eq_true q308
       go_wp2
       go_roundg k1
       case measure => have := HK1.out; omega
       case rel => exact ⟨(wrap64 (x11_1 + 1)), fj, H', ⟨by have := HK1.out; omega⟩, fd⟩
     ·rw [if_neg c6] at H
      exact absurd H (by simp)
    ·rw [if_neg c5] at H
     exact absurd H (by simp)
   ·rw [if_neg c4] at H
    have c4b0 := decide_eq_false c4
    clear c4
    obtain rfl := Option.some.inj H
    go_wp2
    go_ret
    exact ⟨fj, fd⟩

/-! ### dec_arith: function 87 (by hand) -/
theorem oct_at (x0 : Int) (x1 : Int) (x2 : Int) (x3 : Int) (x4 : Int) (x5 : Int) (x6 : Int) (x7 : Int) (i : Nat) (h : i < 8) : (#[.int .i64 x0, .int .i64 x1, .int .i64 x2, .int .i64 x3, .int .i64 x4, .int .i64 x5, .int .i64 x6, .int .i64 x7] : Array Value)[i]? = some (.int .i64 (rd ([x0, x1, x2, x3, x4, x5, x6, x7] : List Int) (i : Int))) := by
 match i, h with
 | 0, _ => rfl
 | 1, _ => rfl
 | 2, _ => rfl
 | 3, _ => rfl
 | 4, _ => rfl
 | 5, _ => rfl
 | 6, _ => rfl
 | 7, _ => rfl
def dec_arith.f (a0 : Int) (x0 : Int) (x1 : Int) (x2 : Int) (x3 : Int) (x4 : Int) (x5 : Int) (x6 : Int) (x7 : Int) (y0 : Int) (y1 : Int) (y2 : Int) (y3 : Int) (y4 : Int) (y5 : Int) (y6 : Int) (y7 : Int) (a3 : Bool) : Option (Int) := if 0 ≤ a0 ∧ a0 < 8 then some (rd (if a3 = true then [y0, y1, y2, y3, y4, y5, y6, y7] else [x0, x1, x2, x3, x4, x5, x6, x7]) a0) else none
set_option maxHeartbeats 8000000 in
set_option maxRecDepth 100000 in
theorem arith_yes (i : Nat) (hi : i < 8) (x0 : Int) (x1 : Int) (x2 : Int) (x3 : Int) (x4 : Int) (x5 : Int) (x6 : Int) (x7 : Int) (y0 : Int) (y1 : Int) (y2 : Int) (y3 : Int) (y4 : Int) (y5 : Int) (y6 : Int) (y7 : Int) (w : World) : Calls Tryd.prog 87 #[.int .i64 (i : Int), .agg #[.int .i64 x0, .int .i64 x1, .int .i64 x2, .int .i64 x3, .int .i64 x4, .int .i64 x5, .int .i64 x6, .int .i64 x7], .agg #[.int .i64 y0, .int .i64 y1, .int .i64 y2, .int .i64 y3, .int .i64 y4, .int .i64 y5, .int .i64 y6, .int .i64 y7], .bool true] w fun e w' => e = .returned (.int .i64 (rd ([y0, y1, y2, y3, y4, y5, y6, y7] : List Int) (i : Int))) ∧ Below w.heap.size w w' := by
 have hi0 : (0 : Int) ≤ (i : Int) := by omega
 have hi1 : (i : Int) < 8 := by omega
 have hu103 := Tryd.underlying103
 have HB := Aside0.mk (Below.refl w.heap.size w)
 go_enter Tryd.func87, Tryd.ntmps87
 go_wp2_with (first | ((with_reducible refine gate_dst (N := 5) rfl ?_); refine box_event ?hg (N := 5) ?hd (cs := #[.int .i64 x0, .int .i64 x1, .int .i64 x2, .int .i64 x3, .int .i64 x4, .int .i64 x5, .int .i64 x6, .int .i64 x7]) (t := 103) ?hr ?_; (case hd => rfl); (case hg => rfl); (case hr => first | (go_simp; done) | (go_simp; rfl)); intro gbp hg wbp hbox hb; have n0_ := Aside0.mk (below_step bl hb); have n1_ := Aside0.mk (hbox); have n2_ := Aside0.mk ((by rw [hg]; exact (below_size bl) : w.heap.size ≤ gbp)); clear HB; have HB := n0_; have BKp := n1_; have GEp := n2_; clear n0_ n1_ n2_; clear hb hbox hg; have hcip : wbp.cell? ⟨gbp, i, none⟩ = some (.int .i64 (rd ([x0, x1, x2, x3, x4, x5, x6, x7] : List Int) (i : Int))) := (blk_cell BKp.out i).trans (oct_at x0 x1 x2 x3 x4 x5 x6 x7 i hi); have hfip := blk_frozen BKp.out i) | ((with_reducible refine gate_dst (N := 6) rfl ?_); refine box_event ?hg (N := 6) ?hd (cs := #[.int .i64 y0, .int .i64 y1, .int .i64 y2, .int .i64 y3, .int .i64 y4, .int .i64 y5, .int .i64 y6, .int .i64 y7]) (t := 103) ?hr ?_; (case hd => rfl); (case hg => rfl); (case hr => first | (go_simp; done) | (go_simp; rfl)); intro gbq hg wbq hbox hb; have n0_ := Aside0.mk (blk_below (g := gbp) (o := .cells #[.int .i64 x0, .int .i64 x1, .int .i64 x2, .int .i64 x3, .int .i64 x4, .int .i64 x5, .int .i64 x6, .int .i64 x7] 103 (0, 0)) (bk BKp.out) hb); have n1_ := Aside0.mk (below_step bl hb); have n2_ := Aside0.mk (hbox); have n3_ := Aside0.mk ((by rw [hg]; exact (below_size bl) : w.heap.size ≤ gbq)); clear BKp; clear HB; have BKp := n0_; have HB := n1_; have BKq := n2_; have GEq := n3_; clear n0_ n1_ n2_ n3_; clear hb hbox hg; have hcip : wbq.cell? ⟨gbp, i, none⟩ = some (.int .i64 (rd ([x0, x1, x2, x3, x4, x5, x6, x7] : List Int) (i : Int))) := (blk_cell BKp.out i).trans (oct_at x0 x1 x2 x3 x4 x5 x6 x7 i hi); have hfip := blk_frozen BKp.out i; have hciq : wbq.cell? ⟨gbq, i, none⟩ = some (.int .i64 (rd ([y0, y1, y2, y3, y4, y5, y6, y7] : List Int) (i : Int))) := (blk_cell BKq.out i).trans (oct_at y0 y1 y2 y3 y4 y5 y6 y7 i hi); have hfiq := blk_frozen BKq.out i))
 go_ret
 exact ⟨fj, bl⟩
set_option maxHeartbeats 8000000 in
set_option maxRecDepth 100000 in
theorem arith_no (i : Nat) (hi : i < 8) (x0 : Int) (x1 : Int) (x2 : Int) (x3 : Int) (x4 : Int) (x5 : Int) (x6 : Int) (x7 : Int) (y0 : Int) (y1 : Int) (y2 : Int) (y3 : Int) (y4 : Int) (y5 : Int) (y6 : Int) (y7 : Int) (w : World) : Calls Tryd.prog 87 #[.int .i64 (i : Int), .agg #[.int .i64 x0, .int .i64 x1, .int .i64 x2, .int .i64 x3, .int .i64 x4, .int .i64 x5, .int .i64 x6, .int .i64 x7], .agg #[.int .i64 y0, .int .i64 y1, .int .i64 y2, .int .i64 y3, .int .i64 y4, .int .i64 y5, .int .i64 y6, .int .i64 y7], .bool false] w fun e w' => e = .returned (.int .i64 (rd ([x0, x1, x2, x3, x4, x5, x6, x7] : List Int) (i : Int))) ∧ Below w.heap.size w w' := by
 have hi0 : (0 : Int) ≤ (i : Int) := by omega
 have hi1 : (i : Int) < 8 := by omega
 have hu103 := Tryd.underlying103
 have HB := Aside0.mk (Below.refl w.heap.size w)
 go_enter Tryd.func87, Tryd.ntmps87
 go_wp2_with (first | ((with_reducible refine gate_dst (N := 5) rfl ?_); refine box_event ?hg (N := 5) ?hd (cs := #[.int .i64 x0, .int .i64 x1, .int .i64 x2, .int .i64 x3, .int .i64 x4, .int .i64 x5, .int .i64 x6, .int .i64 x7]) (t := 103) ?hr ?_; (case hd => rfl); (case hg => rfl); (case hr => first | (go_simp; done) | (go_simp; rfl)); intro gbp hg wbp hbox hb; have n0_ := Aside0.mk (below_step bl hb); have n1_ := Aside0.mk (hbox); have n2_ := Aside0.mk ((by rw [hg]; exact (below_size bl) : w.heap.size ≤ gbp)); clear HB; have HB := n0_; have BKp := n1_; have GEp := n2_; clear n0_ n1_ n2_; clear hb hbox hg; have hcip : wbp.cell? ⟨gbp, i, none⟩ = some (.int .i64 (rd ([x0, x1, x2, x3, x4, x5, x6, x7] : List Int) (i : Int))) := (blk_cell BKp.out i).trans (oct_at x0 x1 x2 x3 x4 x5 x6 x7 i hi); have hfip := blk_frozen BKp.out i) | ((with_reducible refine gate_dst (N := 6) rfl ?_); refine box_event ?hg (N := 6) ?hd (cs := #[.int .i64 y0, .int .i64 y1, .int .i64 y2, .int .i64 y3, .int .i64 y4, .int .i64 y5, .int .i64 y6, .int .i64 y7]) (t := 103) ?hr ?_; (case hd => rfl); (case hg => rfl); (case hr => first | (go_simp; done) | (go_simp; rfl)); intro gbq hg wbq hbox hb; have n0_ := Aside0.mk (blk_below (g := gbp) (o := .cells #[.int .i64 x0, .int .i64 x1, .int .i64 x2, .int .i64 x3, .int .i64 x4, .int .i64 x5, .int .i64 x6, .int .i64 x7] 103 (0, 0)) (bk BKp.out) hb); have n1_ := Aside0.mk (below_step bl hb); have n2_ := Aside0.mk (hbox); have n3_ := Aside0.mk ((by rw [hg]; exact (below_size bl) : w.heap.size ≤ gbq)); clear BKp; clear HB; have BKp := n0_; have HB := n1_; have BKq := n2_; have GEq := n3_; clear n0_ n1_ n2_ n3_; clear hb hbox hg; have hcip : wbq.cell? ⟨gbp, i, none⟩ = some (.int .i64 (rd ([x0, x1, x2, x3, x4, x5, x6, x7] : List Int) (i : Int))) := (blk_cell BKp.out i).trans (oct_at x0 x1 x2 x3 x4 x5 x6 x7 i hi); have hfip := blk_frozen BKp.out i; have hciq : wbq.cell? ⟨gbq, i, none⟩ = some (.int .i64 (rd ([y0, y1, y2, y3, y4, y5, y6, y7] : List Int) (i : Int))) := (blk_cell BKq.out i).trans (oct_at y0 y1 y2 y3 y4 y5 y6 y7 i hi); have hfiq := blk_frozen BKq.out i))
 go_ret
 exact ⟨fj, bl⟩
theorem dec_arith.calls (a0 : Int) (x0 : Int) (x1 : Int) (x2 : Int) (x3 : Int) (x4 : Int) (x5 : Int) (x6 : Int) (x7 : Int) (y0 : Int) (y1 : Int) (y2 : Int) (y3 : Int) (y4 : Int) (y5 : Int) (y6 : Int) (y7 : Int) (a3 : Bool) (r : Int) (w : World) (h : dec_arith.f a0 x0 x1 x2 x3 x4 x5 x6 x7 y0 y1 y2 y3 y4 y5 y6 y7 a3 = some r) :
  Calls Tryd.prog 87 #[.int .i64 a0, .agg #[.int .i64 x0, .int .i64 x1, .int .i64 x2, .int .i64 x3, .int .i64 x4, .int .i64 x5, .int .i64 x6, .int .i64 x7], .agg #[.int .i64 y0, .int .i64 y1, .int .i64 y2, .int .i64 y3, .int .i64 y4, .int .i64 y5, .int .i64 y6, .int .i64 y7], .bool a3] w fun e w' => e = .returned (.int .i64 r) ∧ Below w.heap.size w w' := by
 unfold dec_arith.f at h
 by_cases h1 : 0 ≤ a0 ∧ a0 < 8
 ·rw [if_pos h1] at h
  obtain rfl := Option.some.inj h
  obtain ⟨i, rfl⟩ := Int.eq_ofNat_of_zero_le h1.1
  have hi : i < 8 := by have := h1.2; omega
  cases a3 with
  | true => exact arith_yes i hi x0 x1 x2 x3 x4 x5 x6 x7 y0 y1 y2 y3 y4 y5 y6 y7 w
  | false => exact arith_no i hi x0 x1 x2 x3 x4 x5 x6 x7 y0 y1 y2 y3 y4 y5 y6 y7 w
 ·rw [if_neg h1] at h
  exact absurd h (by simp)

/-! ### dec_immediates: function 54 (by hand) -/
theorem fill8_event {P : Program} {ops : Array Oper} {rest : List Oper} {o : Oper} {a : Act} {Q : Exit → Act → World → Prop} {W : World} (hgd : o.guard = none) {t : TypeId} {p : Tmp} {v : Operand} (ho : o.op = .store t (.tmp p) v) (hN : o.dst = none)
  {g : Nat} {e : TypeId} {cur cs : Array Value} (hp : a.eval (.tmp p) = .pointer (some ⟨g, 0, none⟩)) (hv : a.eval v = .agg cs) (hh : W.heap[g]? = some (.cells cur e (0, 0))) (hsz : cs.size = cur.size)
  (h1 : ∀ q ∈ cs.toList, q.oneCell' = true) (hc : (Value.agg cs).cells.toList = cs.toList) (ht : (P.info? t).map (·.size) = some cs.size)
  (h : ∀ w1, w1.heap[g]? = some (.cells cs e (0, 0)) → Below g W w1 → wpList P ops Q rest a w1) : wpList P ops Q (o :: rest) a W := by
 have hrun : (Instr.storeAt t (.pointer (some ⟨g, 0, none⟩)) (.agg cs)).run P W = .ok () (W.setCells g 0 cs.toList) :=
  run_store_run t (.agg cs) cs.toList hh hc (by rw [ht, Array.length_toList]) (by rw [Array.length_toList]; omega) h1
 refine wpList_plain hgd fun K hK => ?_
 unfold Oper.wp execOp
 simp only [ho, hp, hv, Sem.run_bind, Sem.run_pure, Result.andThen_ok, hrun]
 show K (a.put o.dst undef) _
 rw [hN]
 refine hK a _ (h _ ?_ ?_)
 ·obtain ⟨cur', h3, h4, h5⟩ := setCells_row cs.toList 0 W cur hh (by rw [Array.length_toList]; omega)
  have e : cur' = cs := by
   apply Array.ext'
   rw [h5, List.take_zero, List.nil_append, List.drop_of_length_le (by rw [Array.length_toList, Array.length_toList]; omega), List.append_nil]
  rw [e] at h3; exact h3
 ·obtain ⟨s1, s2, s3, s4⟩ := setCells_same g cs.toList 0 W
  exact ⟨s1, s2, s3, by rw [s4]; exact Nat.le_refl _, fun k hk => setCells_far _ _ k (Nat.ne_of_lt hk)⟩
theorem below_fill8 {b g : Nat} {w W w1 : World} (h : Below b w W) (h1 : Below g W w1) (hg : b ≤ g) : Below b w w1 :=
 h.trans ⟨h1.os, h1.tape, h1.output, h1.size, fun k hk => h1.block k (Nat.lt_of_lt_of_le hk hg)⟩
theorem imm_one : ∀ q ∈ (#[.int .i64 22, .int .i64 28, .int .i64 23, .int .i64 24, .int .i64 25, .int .i64 29, .int .i64 26, .int .i64 27] : Array Value).toList, q.oneCell' = true := by
 intro q hq
 simp only [List.mem_cons, List.not_mem_nil, or_false] at hq
 rcases hq with rfl | rfl | rfl | rfl | rfl | rfl | rfl | rfl <;> rfl
def dec_immediates.f (a0 : Int) (a1 : Int) : Option (Int) := (dec_field.f a0 26 6).bind fun t => if 0 ≤ a1 ∧ a1 < 8 then (if a1 ≠ 1 ∧ a1 ≠ 5 then some (rd ([22, 28, 23, 24, 25, 29, 26, 27] : List Int) a1) else (if t = 0 ∨ t = 16 then dec_arith.f a1 22 28 23 24 25 29 26 27 0 0 0 0 0 30 0 0 (t == 16) else some 0)) else none
set_option maxHeartbeats 8000000 in
set_option maxRecDepth 100000 in
theorem imms_far (a0 t : Int) (i : Nat) (hi : i < 8) (h1 : i ≠ 1) (h5 : i ≠ 5) (A2 : Aside0 (dec_field.f a0 26 6 = some t)) (w : World) : Calls Tryd.prog 54 #[.int .u32 a0, .int .i64 (i : Int)] w fun e w' => e = .returned (.int .i64 (rd ([22, 28, 23, 24, 25, 29, 26, 27] : List Int) (i : Int))) ∧ Below w.heap.size w w' := by
 have hi0 : (0 : Int) ≤ (i : Int) := by omega
 have hi1 : (i : Int) < 8 := by omega
 have qi10 : ((i : Int) == 1) = false := by simp; omega
 have qi11 : ((i : Int) != 1) = true := by simp; omega
 have qi50 : ((i : Int) == 5) = false := by simp; omega
 have qi51 : ((i : Int) != 5) = true := by simp; omega
 have hu103 := Tryd.underlying103
 have HB := Aside0.mk (Below.refl w.heap.size w)
 go_enter Tryd.func54, Tryd.ntmps54
 go_wp2_with (first | (go_at_call 52; (with_reducible refine (dec_field.calls a0 26 6 t _ A2.out).mono ?_); rintro e w' ⟨rfl, ⟨nd, rfl⟩⟩) | ((with_reducible refine gate_dst (N := 6) rfl ?_); refine box_event ?hg (N := 6) ?hd (cs := #[.int .i64 0, .int .i64 0, .int .i64 0, .int .i64 0, .int .i64 0, .int .i64 0, .int .i64 0, .int .i64 0]) (t := 103) ?hr ?_; (case hd => rfl); (case hg => rfl); (case hr => first | (go_simp; done) | (go_simp; rfl)); intro gbq hg wbq hbox hb; have n0_ := Aside0.mk (below_step bl hb); have n1_ := Aside0.mk (hbox); have n2_ := Aside0.mk ((by rw [hg]; exact (below_size bl) : w.heap.size ≤ gbq)); clear HB; have HB := n0_; have BKq := n1_; have GEq := n2_; clear n0_ n1_ n2_; clear hb hbox hg) | ((with_reducible refine gate_store (t := 103) (p := 6) rfl ?_); refine fill8_event rfl (t := 103) (p := 6) rfl rfl (g := gbq) (e := 103) (cur := #[.int .i64 0, .int .i64 0, .int .i64 0, .int .i64 0, .int .i64 0, .int .i64 0, .int .i64 0, .int .i64 0]) (cs := #[.int .i64 22, .int .i64 28, .int .i64 23, .int .i64 24, .int .i64 25, .int .i64 29, .int .i64 26, .int .i64 27]) ?hp ?hv (bk BKq.out) rfl imm_one rfl ?ht ?_; (case hp => first | rfl | (go_simp; done) | (go_simp; rfl)); (case hv => first | rfl | (go_simp; done) | (go_simp; rfl)); (case ht => kernel_rfl); intro wf hwf hb; have n0_ := Aside0.mk (below_fill8 bl hb GEq.out); have n1_ := Aside0.mk hwf; clear BKq HB; have BKq := n1_; have HB := n0_; clear n0_ n1_ hb hwf; have hciq : wf.cell? ⟨gbq, i, none⟩ = some (.int .i64 (rd ([22, 28, 23, 24, 25, 29, 26, 27] : List Int) (i : Int))) := (blk_cell BKq.out i).trans (oct_at 22 28 23 24 25 29 26 27 i hi); have hfiq := blk_frozen BKq.out i))
 go_ret
 exact ⟨fj, bl⟩
set_option maxHeartbeats 8000000 in
set_option maxRecDepth 100000 in
theorem imms_1_0 (a0 r : Int) (A2 : Aside0 (dec_field.f a0 26 6 = some 0)) (hr : Aside0 (dec_arith.f 1 22 28 23 24 25 29 26 27 0 0 0 0 0 30 0 0 false = some r)) (w : World) : Calls Tryd.prog 54 #[.int .u32 a0, .int .i64 1] w fun e w' => e = .returned (.int .i64 r) ∧ Below w.heap.size w w' := by
 have hu103 := Tryd.underlying103
 have HB := Aside0.mk (Below.refl w.heap.size w)
 go_enter Tryd.func54, Tryd.ntmps54
 go_wp2_with (first | (go_at_call 52; (with_reducible refine (dec_field.calls a0 26 6 0 _ A2.out).mono ?_); rintro e w' ⟨rfl, ⟨nd, rfl⟩⟩) | ((with_reducible refine gate_dst (N := 6) rfl ?_); refine box_event ?hg (N := 6) ?hd (cs := #[.int .i64 0, .int .i64 0, .int .i64 0, .int .i64 0, .int .i64 0, .int .i64 0, .int .i64 0, .int .i64 0]) (t := 103) ?hr ?_; (case hd => rfl); (case hg => rfl); (case hr => first | (go_simp; done) | (go_simp; rfl)); intro gbq hg wbq hbox hb; have n0_ := Aside0.mk (below_step bl hb); have n1_ := Aside0.mk (hbox); have n2_ := Aside0.mk ((by rw [hg]; exact (below_size bl) : w.heap.size ≤ gbq)); clear HB; have HB := n0_; have BKq := n1_; have GEq := n2_; clear n0_ n1_ n2_; clear hb hbox hg) | ((with_reducible refine gate_store (t := 103) (p := 6) rfl ?_); refine fill8_event rfl (t := 103) (p := 6) rfl rfl (g := gbq) (e := 103) (cur := #[.int .i64 0, .int .i64 0, .int .i64 0, .int .i64 0, .int .i64 0, .int .i64 0, .int .i64 0, .int .i64 0]) (cs := #[.int .i64 22, .int .i64 28, .int .i64 23, .int .i64 24, .int .i64 25, .int .i64 29, .int .i64 26, .int .i64 27]) ?hp ?hv (bk BKq.out) rfl imm_one rfl ?ht ?_; (case hp => first | rfl | (go_simp; done) | (go_simp; rfl)); (case hv => first | rfl | (go_simp; done) | (go_simp; rfl)); (case ht => kernel_rfl); intro wf hwf hb; have n0_ := Aside0.mk (below_fill8 bl hb GEq.out); have n1_ := Aside0.mk hwf; clear BKq HB; have BKq := n1_; have HB := n0_; clear n0_ n1_ hb hwf; have hczq_0 : wf.cell? ⟨gbq, 0, none⟩ = some (.int .i64 22) := (blk_cell BKq.out 0).trans rfl; have hfzq_0 := blk_frozen BKq.out 0; have hczq_1 : wf.cell? ⟨gbq, 1, none⟩ = some (.int .i64 28) := (blk_cell BKq.out 1).trans rfl; have hfzq_1 := blk_frozen BKq.out 1; have hczq_2 : wf.cell? ⟨gbq, 2, none⟩ = some (.int .i64 23) := (blk_cell BKq.out 2).trans rfl; have hfzq_2 := blk_frozen BKq.out 2; have hczq_3 : wf.cell? ⟨gbq, 3, none⟩ = some (.int .i64 24) := (blk_cell BKq.out 3).trans rfl; have hfzq_3 := blk_frozen BKq.out 3; have hczq_4 : wf.cell? ⟨gbq, 4, none⟩ = some (.int .i64 25) := (blk_cell BKq.out 4).trans rfl; have hfzq_4 := blk_frozen BKq.out 4; have hczq_5 : wf.cell? ⟨gbq, 5, none⟩ = some (.int .i64 29) := (blk_cell BKq.out 5).trans rfl; have hfzq_5 := blk_frozen BKq.out 5; have hczq_6 : wf.cell? ⟨gbq, 6, none⟩ = some (.int .i64 26) := (blk_cell BKq.out 6).trans rfl; have hfzq_6 := blk_frozen BKq.out 6; have hczq_7 : wf.cell? ⟨gbq, 7, none⟩ = some (.int .i64 27) := (blk_cell BKq.out 7).trans rfl; have hfzq_7 := blk_frozen BKq.out 7) | (go_at_call 87; (with_reducible refine (dec_arith.calls 1 22 28 23 24 25 29 26 27 0 0 0 0 0 30 0 0 false r _ hr.out).mono ?_); rintro e wa ⟨rfl, hb⟩; have n0_ := Aside0.mk (below_step bl hb); clear HB; have HB := n0_; clear n0_; clear hb))
 go_ret
 exact ⟨fj, bl⟩
set_option maxHeartbeats 8000000 in
set_option maxRecDepth 100000 in
theorem imms_1_16 (a0 r : Int) (A2 : Aside0 (dec_field.f a0 26 6 = some 16)) (hr : Aside0 (dec_arith.f 1 22 28 23 24 25 29 26 27 0 0 0 0 0 30 0 0 true = some r)) (w : World) : Calls Tryd.prog 54 #[.int .u32 a0, .int .i64 1] w fun e w' => e = .returned (.int .i64 r) ∧ Below w.heap.size w w' := by
 have hu103 := Tryd.underlying103
 have HB := Aside0.mk (Below.refl w.heap.size w)
 go_enter Tryd.func54, Tryd.ntmps54
 go_wp2_with (first | (go_at_call 52; (with_reducible refine (dec_field.calls a0 26 6 16 _ A2.out).mono ?_); rintro e w' ⟨rfl, ⟨nd, rfl⟩⟩) | ((with_reducible refine gate_dst (N := 6) rfl ?_); refine box_event ?hg (N := 6) ?hd (cs := #[.int .i64 0, .int .i64 0, .int .i64 0, .int .i64 0, .int .i64 0, .int .i64 0, .int .i64 0, .int .i64 0]) (t := 103) ?hr ?_; (case hd => rfl); (case hg => rfl); (case hr => first | (go_simp; done) | (go_simp; rfl)); intro gbq hg wbq hbox hb; have n0_ := Aside0.mk (below_step bl hb); have n1_ := Aside0.mk (hbox); have n2_ := Aside0.mk ((by rw [hg]; exact (below_size bl) : w.heap.size ≤ gbq)); clear HB; have HB := n0_; have BKq := n1_; have GEq := n2_; clear n0_ n1_ n2_; clear hb hbox hg) | ((with_reducible refine gate_store (t := 103) (p := 6) rfl ?_); refine fill8_event rfl (t := 103) (p := 6) rfl rfl (g := gbq) (e := 103) (cur := #[.int .i64 0, .int .i64 0, .int .i64 0, .int .i64 0, .int .i64 0, .int .i64 0, .int .i64 0, .int .i64 0]) (cs := #[.int .i64 22, .int .i64 28, .int .i64 23, .int .i64 24, .int .i64 25, .int .i64 29, .int .i64 26, .int .i64 27]) ?hp ?hv (bk BKq.out) rfl imm_one rfl ?ht ?_; (case hp => first | rfl | (go_simp; done) | (go_simp; rfl)); (case hv => first | rfl | (go_simp; done) | (go_simp; rfl)); (case ht => kernel_rfl); intro wf hwf hb; have n0_ := Aside0.mk (below_fill8 bl hb GEq.out); have n1_ := Aside0.mk hwf; clear BKq HB; have BKq := n1_; have HB := n0_; clear n0_ n1_ hb hwf; have hczq_0 : wf.cell? ⟨gbq, 0, none⟩ = some (.int .i64 22) := (blk_cell BKq.out 0).trans rfl; have hfzq_0 := blk_frozen BKq.out 0; have hczq_1 : wf.cell? ⟨gbq, 1, none⟩ = some (.int .i64 28) := (blk_cell BKq.out 1).trans rfl; have hfzq_1 := blk_frozen BKq.out 1; have hczq_2 : wf.cell? ⟨gbq, 2, none⟩ = some (.int .i64 23) := (blk_cell BKq.out 2).trans rfl; have hfzq_2 := blk_frozen BKq.out 2; have hczq_3 : wf.cell? ⟨gbq, 3, none⟩ = some (.int .i64 24) := (blk_cell BKq.out 3).trans rfl; have hfzq_3 := blk_frozen BKq.out 3; have hczq_4 : wf.cell? ⟨gbq, 4, none⟩ = some (.int .i64 25) := (blk_cell BKq.out 4).trans rfl; have hfzq_4 := blk_frozen BKq.out 4; have hczq_5 : wf.cell? ⟨gbq, 5, none⟩ = some (.int .i64 29) := (blk_cell BKq.out 5).trans rfl; have hfzq_5 := blk_frozen BKq.out 5; have hczq_6 : wf.cell? ⟨gbq, 6, none⟩ = some (.int .i64 26) := (blk_cell BKq.out 6).trans rfl; have hfzq_6 := blk_frozen BKq.out 6; have hczq_7 : wf.cell? ⟨gbq, 7, none⟩ = some (.int .i64 27) := (blk_cell BKq.out 7).trans rfl; have hfzq_7 := blk_frozen BKq.out 7) | (go_at_call 87; (with_reducible refine (dec_arith.calls 1 22 28 23 24 25 29 26 27 0 0 0 0 0 30 0 0 true r _ hr.out).mono ?_); rintro e wa ⟨rfl, hb⟩; have n0_ := Aside0.mk (below_step bl hb); clear HB; have HB := n0_; clear n0_; clear hb))
 go_ret
 exact ⟨fj, bl⟩
set_option maxHeartbeats 8000000 in
set_option maxRecDepth 100000 in
theorem imms_1_no (a0 t : Int) (h0 : t ≠ 0) (h16 : t ≠ 16) (A2 : Aside0 (dec_field.f a0 26 6 = some t)) (w : World) : Calls Tryd.prog 54 #[.int .u32 a0, .int .i64 1] w fun e w' => e = .returned (.int .i64 0) ∧ Below w.heap.size w w' := by
 have qt00 : (t == 0) = false := by simp; omega
 have qt01 : (t != 0) = true := by simp; omega
 have qt160 : (t == 16) = false := by simp; omega
 have qt161 : (t != 16) = true := by simp; omega
 have hu103 := Tryd.underlying103
 have HB := Aside0.mk (Below.refl w.heap.size w)
 go_enter Tryd.func54, Tryd.ntmps54
 go_wp2_with (first | (go_at_call 52; (with_reducible refine (dec_field.calls a0 26 6 t _ A2.out).mono ?_); rintro e w' ⟨rfl, ⟨nd, rfl⟩⟩) | ((with_reducible refine gate_dst (N := 6) rfl ?_); refine box_event ?hg (N := 6) ?hd (cs := #[.int .i64 0, .int .i64 0, .int .i64 0, .int .i64 0, .int .i64 0, .int .i64 0, .int .i64 0, .int .i64 0]) (t := 103) ?hr ?_; (case hd => rfl); (case hg => rfl); (case hr => first | (go_simp; done) | (go_simp; rfl)); intro gbq hg wbq hbox hb; have n0_ := Aside0.mk (below_step bl hb); have n1_ := Aside0.mk (hbox); have n2_ := Aside0.mk ((by rw [hg]; exact (below_size bl) : w.heap.size ≤ gbq)); clear HB; have HB := n0_; have BKq := n1_; have GEq := n2_; clear n0_ n1_ n2_; clear hb hbox hg) | ((with_reducible refine gate_store (t := 103) (p := 6) rfl ?_); refine fill8_event rfl (t := 103) (p := 6) rfl rfl (g := gbq) (e := 103) (cur := #[.int .i64 0, .int .i64 0, .int .i64 0, .int .i64 0, .int .i64 0, .int .i64 0, .int .i64 0, .int .i64 0]) (cs := #[.int .i64 22, .int .i64 28, .int .i64 23, .int .i64 24, .int .i64 25, .int .i64 29, .int .i64 26, .int .i64 27]) ?hp ?hv (bk BKq.out) rfl imm_one rfl ?ht ?_; (case hp => first | rfl | (go_simp; done) | (go_simp; rfl)); (case hv => first | rfl | (go_simp; done) | (go_simp; rfl)); (case ht => kernel_rfl); intro wf hwf hb; have n0_ := Aside0.mk (below_fill8 bl hb GEq.out); have n1_ := Aside0.mk hwf; clear BKq HB; have BKq := n1_; have HB := n0_; clear n0_ n1_ hb hwf; have hczq_0 : wf.cell? ⟨gbq, 0, none⟩ = some (.int .i64 22) := (blk_cell BKq.out 0).trans rfl; have hfzq_0 := blk_frozen BKq.out 0; have hczq_1 : wf.cell? ⟨gbq, 1, none⟩ = some (.int .i64 28) := (blk_cell BKq.out 1).trans rfl; have hfzq_1 := blk_frozen BKq.out 1; have hczq_2 : wf.cell? ⟨gbq, 2, none⟩ = some (.int .i64 23) := (blk_cell BKq.out 2).trans rfl; have hfzq_2 := blk_frozen BKq.out 2; have hczq_3 : wf.cell? ⟨gbq, 3, none⟩ = some (.int .i64 24) := (blk_cell BKq.out 3).trans rfl; have hfzq_3 := blk_frozen BKq.out 3; have hczq_4 : wf.cell? ⟨gbq, 4, none⟩ = some (.int .i64 25) := (blk_cell BKq.out 4).trans rfl; have hfzq_4 := blk_frozen BKq.out 4; have hczq_5 : wf.cell? ⟨gbq, 5, none⟩ = some (.int .i64 29) := (blk_cell BKq.out 5).trans rfl; have hfzq_5 := blk_frozen BKq.out 5; have hczq_6 : wf.cell? ⟨gbq, 6, none⟩ = some (.int .i64 26) := (blk_cell BKq.out 6).trans rfl; have hfzq_6 := blk_frozen BKq.out 6; have hczq_7 : wf.cell? ⟨gbq, 7, none⟩ = some (.int .i64 27) := (blk_cell BKq.out 7).trans rfl; have hfzq_7 := blk_frozen BKq.out 7))
 go_ret
 exact ⟨fj, bl⟩
set_option maxHeartbeats 8000000 in
set_option maxRecDepth 100000 in
theorem imms_5_0 (a0 r : Int) (A2 : Aside0 (dec_field.f a0 26 6 = some 0)) (hr : Aside0 (dec_arith.f 5 22 28 23 24 25 29 26 27 0 0 0 0 0 30 0 0 false = some r)) (w : World) : Calls Tryd.prog 54 #[.int .u32 a0, .int .i64 5] w fun e w' => e = .returned (.int .i64 r) ∧ Below w.heap.size w w' := by
 have hu103 := Tryd.underlying103
 have HB := Aside0.mk (Below.refl w.heap.size w)
 go_enter Tryd.func54, Tryd.ntmps54
 go_wp2_with (first | (go_at_call 52; (with_reducible refine (dec_field.calls a0 26 6 0 _ A2.out).mono ?_); rintro e w' ⟨rfl, ⟨nd, rfl⟩⟩) | ((with_reducible refine gate_dst (N := 6) rfl ?_); refine box_event ?hg (N := 6) ?hd (cs := #[.int .i64 0, .int .i64 0, .int .i64 0, .int .i64 0, .int .i64 0, .int .i64 0, .int .i64 0, .int .i64 0]) (t := 103) ?hr ?_; (case hd => rfl); (case hg => rfl); (case hr => first | (go_simp; done) | (go_simp; rfl)); intro gbq hg wbq hbox hb; have n0_ := Aside0.mk (below_step bl hb); have n1_ := Aside0.mk (hbox); have n2_ := Aside0.mk ((by rw [hg]; exact (below_size bl) : w.heap.size ≤ gbq)); clear HB; have HB := n0_; have BKq := n1_; have GEq := n2_; clear n0_ n1_ n2_; clear hb hbox hg) | ((with_reducible refine gate_store (t := 103) (p := 6) rfl ?_); refine fill8_event rfl (t := 103) (p := 6) rfl rfl (g := gbq) (e := 103) (cur := #[.int .i64 0, .int .i64 0, .int .i64 0, .int .i64 0, .int .i64 0, .int .i64 0, .int .i64 0, .int .i64 0]) (cs := #[.int .i64 22, .int .i64 28, .int .i64 23, .int .i64 24, .int .i64 25, .int .i64 29, .int .i64 26, .int .i64 27]) ?hp ?hv (bk BKq.out) rfl imm_one rfl ?ht ?_; (case hp => first | rfl | (go_simp; done) | (go_simp; rfl)); (case hv => first | rfl | (go_simp; done) | (go_simp; rfl)); (case ht => kernel_rfl); intro wf hwf hb; have n0_ := Aside0.mk (below_fill8 bl hb GEq.out); have n1_ := Aside0.mk hwf; clear BKq HB; have BKq := n1_; have HB := n0_; clear n0_ n1_ hb hwf; have hczq_0 : wf.cell? ⟨gbq, 0, none⟩ = some (.int .i64 22) := (blk_cell BKq.out 0).trans rfl; have hfzq_0 := blk_frozen BKq.out 0; have hczq_1 : wf.cell? ⟨gbq, 1, none⟩ = some (.int .i64 28) := (blk_cell BKq.out 1).trans rfl; have hfzq_1 := blk_frozen BKq.out 1; have hczq_2 : wf.cell? ⟨gbq, 2, none⟩ = some (.int .i64 23) := (blk_cell BKq.out 2).trans rfl; have hfzq_2 := blk_frozen BKq.out 2; have hczq_3 : wf.cell? ⟨gbq, 3, none⟩ = some (.int .i64 24) := (blk_cell BKq.out 3).trans rfl; have hfzq_3 := blk_frozen BKq.out 3; have hczq_4 : wf.cell? ⟨gbq, 4, none⟩ = some (.int .i64 25) := (blk_cell BKq.out 4).trans rfl; have hfzq_4 := blk_frozen BKq.out 4; have hczq_5 : wf.cell? ⟨gbq, 5, none⟩ = some (.int .i64 29) := (blk_cell BKq.out 5).trans rfl; have hfzq_5 := blk_frozen BKq.out 5; have hczq_6 : wf.cell? ⟨gbq, 6, none⟩ = some (.int .i64 26) := (blk_cell BKq.out 6).trans rfl; have hfzq_6 := blk_frozen BKq.out 6; have hczq_7 : wf.cell? ⟨gbq, 7, none⟩ = some (.int .i64 27) := (blk_cell BKq.out 7).trans rfl; have hfzq_7 := blk_frozen BKq.out 7) | (go_at_call 87; (with_reducible refine (dec_arith.calls 5 22 28 23 24 25 29 26 27 0 0 0 0 0 30 0 0 false r _ hr.out).mono ?_); rintro e wa ⟨rfl, hb⟩; have n0_ := Aside0.mk (below_step bl hb); clear HB; have HB := n0_; clear n0_; clear hb))
 go_ret
 exact ⟨fj, bl⟩
set_option maxHeartbeats 8000000 in
set_option maxRecDepth 100000 in
theorem imms_5_16 (a0 r : Int) (A2 : Aside0 (dec_field.f a0 26 6 = some 16)) (hr : Aside0 (dec_arith.f 5 22 28 23 24 25 29 26 27 0 0 0 0 0 30 0 0 true = some r)) (w : World) : Calls Tryd.prog 54 #[.int .u32 a0, .int .i64 5] w fun e w' => e = .returned (.int .i64 r) ∧ Below w.heap.size w w' := by
 have hu103 := Tryd.underlying103
 have HB := Aside0.mk (Below.refl w.heap.size w)
 go_enter Tryd.func54, Tryd.ntmps54
 go_wp2_with (first | (go_at_call 52; (with_reducible refine (dec_field.calls a0 26 6 16 _ A2.out).mono ?_); rintro e w' ⟨rfl, ⟨nd, rfl⟩⟩) | ((with_reducible refine gate_dst (N := 6) rfl ?_); refine box_event ?hg (N := 6) ?hd (cs := #[.int .i64 0, .int .i64 0, .int .i64 0, .int .i64 0, .int .i64 0, .int .i64 0, .int .i64 0, .int .i64 0]) (t := 103) ?hr ?_; (case hd => rfl); (case hg => rfl); (case hr => first | (go_simp; done) | (go_simp; rfl)); intro gbq hg wbq hbox hb; have n0_ := Aside0.mk (below_step bl hb); have n1_ := Aside0.mk (hbox); have n2_ := Aside0.mk ((by rw [hg]; exact (below_size bl) : w.heap.size ≤ gbq)); clear HB; have HB := n0_; have BKq := n1_; have GEq := n2_; clear n0_ n1_ n2_; clear hb hbox hg) | ((with_reducible refine gate_store (t := 103) (p := 6) rfl ?_); refine fill8_event rfl (t := 103) (p := 6) rfl rfl (g := gbq) (e := 103) (cur := #[.int .i64 0, .int .i64 0, .int .i64 0, .int .i64 0, .int .i64 0, .int .i64 0, .int .i64 0, .int .i64 0]) (cs := #[.int .i64 22, .int .i64 28, .int .i64 23, .int .i64 24, .int .i64 25, .int .i64 29, .int .i64 26, .int .i64 27]) ?hp ?hv (bk BKq.out) rfl imm_one rfl ?ht ?_; (case hp => first | rfl | (go_simp; done) | (go_simp; rfl)); (case hv => first | rfl | (go_simp; done) | (go_simp; rfl)); (case ht => kernel_rfl); intro wf hwf hb; have n0_ := Aside0.mk (below_fill8 bl hb GEq.out); have n1_ := Aside0.mk hwf; clear BKq HB; have BKq := n1_; have HB := n0_; clear n0_ n1_ hb hwf; have hczq_0 : wf.cell? ⟨gbq, 0, none⟩ = some (.int .i64 22) := (blk_cell BKq.out 0).trans rfl; have hfzq_0 := blk_frozen BKq.out 0; have hczq_1 : wf.cell? ⟨gbq, 1, none⟩ = some (.int .i64 28) := (blk_cell BKq.out 1).trans rfl; have hfzq_1 := blk_frozen BKq.out 1; have hczq_2 : wf.cell? ⟨gbq, 2, none⟩ = some (.int .i64 23) := (blk_cell BKq.out 2).trans rfl; have hfzq_2 := blk_frozen BKq.out 2; have hczq_3 : wf.cell? ⟨gbq, 3, none⟩ = some (.int .i64 24) := (blk_cell BKq.out 3).trans rfl; have hfzq_3 := blk_frozen BKq.out 3; have hczq_4 : wf.cell? ⟨gbq, 4, none⟩ = some (.int .i64 25) := (blk_cell BKq.out 4).trans rfl; have hfzq_4 := blk_frozen BKq.out 4; have hczq_5 : wf.cell? ⟨gbq, 5, none⟩ = some (.int .i64 29) := (blk_cell BKq.out 5).trans rfl; have hfzq_5 := blk_frozen BKq.out 5; have hczq_6 : wf.cell? ⟨gbq, 6, none⟩ = some (.int .i64 26) := (blk_cell BKq.out 6).trans rfl; have hfzq_6 := blk_frozen BKq.out 6; have hczq_7 : wf.cell? ⟨gbq, 7, none⟩ = some (.int .i64 27) := (blk_cell BKq.out 7).trans rfl; have hfzq_7 := blk_frozen BKq.out 7) | (go_at_call 87; (with_reducible refine (dec_arith.calls 5 22 28 23 24 25 29 26 27 0 0 0 0 0 30 0 0 true r _ hr.out).mono ?_); rintro e wa ⟨rfl, hb⟩; have n0_ := Aside0.mk (below_step bl hb); clear HB; have HB := n0_; clear n0_; clear hb))
 go_ret
 exact ⟨fj, bl⟩
set_option maxHeartbeats 8000000 in
set_option maxRecDepth 100000 in
theorem imms_5_no (a0 t : Int) (h0 : t ≠ 0) (h16 : t ≠ 16) (A2 : Aside0 (dec_field.f a0 26 6 = some t)) (w : World) : Calls Tryd.prog 54 #[.int .u32 a0, .int .i64 5] w fun e w' => e = .returned (.int .i64 0) ∧ Below w.heap.size w w' := by
 have qt00 : (t == 0) = false := by simp; omega
 have qt01 : (t != 0) = true := by simp; omega
 have qt160 : (t == 16) = false := by simp; omega
 have qt161 : (t != 16) = true := by simp; omega
 have hu103 := Tryd.underlying103
 have HB := Aside0.mk (Below.refl w.heap.size w)
 go_enter Tryd.func54, Tryd.ntmps54
 go_wp2_with (first | (go_at_call 52; (with_reducible refine (dec_field.calls a0 26 6 t _ A2.out).mono ?_); rintro e w' ⟨rfl, ⟨nd, rfl⟩⟩) | ((with_reducible refine gate_dst (N := 6) rfl ?_); refine box_event ?hg (N := 6) ?hd (cs := #[.int .i64 0, .int .i64 0, .int .i64 0, .int .i64 0, .int .i64 0, .int .i64 0, .int .i64 0, .int .i64 0]) (t := 103) ?hr ?_; (case hd => rfl); (case hg => rfl); (case hr => first | (go_simp; done) | (go_simp; rfl)); intro gbq hg wbq hbox hb; have n0_ := Aside0.mk (below_step bl hb); have n1_ := Aside0.mk (hbox); have n2_ := Aside0.mk ((by rw [hg]; exact (below_size bl) : w.heap.size ≤ gbq)); clear HB; have HB := n0_; have BKq := n1_; have GEq := n2_; clear n0_ n1_ n2_; clear hb hbox hg) | ((with_reducible refine gate_store (t := 103) (p := 6) rfl ?_); refine fill8_event rfl (t := 103) (p := 6) rfl rfl (g := gbq) (e := 103) (cur := #[.int .i64 0, .int .i64 0, .int .i64 0, .int .i64 0, .int .i64 0, .int .i64 0, .int .i64 0, .int .i64 0]) (cs := #[.int .i64 22, .int .i64 28, .int .i64 23, .int .i64 24, .int .i64 25, .int .i64 29, .int .i64 26, .int .i64 27]) ?hp ?hv (bk BKq.out) rfl imm_one rfl ?ht ?_; (case hp => first | rfl | (go_simp; done) | (go_simp; rfl)); (case hv => first | rfl | (go_simp; done) | (go_simp; rfl)); (case ht => kernel_rfl); intro wf hwf hb; have n0_ := Aside0.mk (below_fill8 bl hb GEq.out); have n1_ := Aside0.mk hwf; clear BKq HB; have BKq := n1_; have HB := n0_; clear n0_ n1_ hb hwf; have hczq_0 : wf.cell? ⟨gbq, 0, none⟩ = some (.int .i64 22) := (blk_cell BKq.out 0).trans rfl; have hfzq_0 := blk_frozen BKq.out 0; have hczq_1 : wf.cell? ⟨gbq, 1, none⟩ = some (.int .i64 28) := (blk_cell BKq.out 1).trans rfl; have hfzq_1 := blk_frozen BKq.out 1; have hczq_2 : wf.cell? ⟨gbq, 2, none⟩ = some (.int .i64 23) := (blk_cell BKq.out 2).trans rfl; have hfzq_2 := blk_frozen BKq.out 2; have hczq_3 : wf.cell? ⟨gbq, 3, none⟩ = some (.int .i64 24) := (blk_cell BKq.out 3).trans rfl; have hfzq_3 := blk_frozen BKq.out 3; have hczq_4 : wf.cell? ⟨gbq, 4, none⟩ = some (.int .i64 25) := (blk_cell BKq.out 4).trans rfl; have hfzq_4 := blk_frozen BKq.out 4; have hczq_5 : wf.cell? ⟨gbq, 5, none⟩ = some (.int .i64 29) := (blk_cell BKq.out 5).trans rfl; have hfzq_5 := blk_frozen BKq.out 5; have hczq_6 : wf.cell? ⟨gbq, 6, none⟩ = some (.int .i64 26) := (blk_cell BKq.out 6).trans rfl; have hfzq_6 := blk_frozen BKq.out 6; have hczq_7 : wf.cell? ⟨gbq, 7, none⟩ = some (.int .i64 27) := (blk_cell BKq.out 7).trans rfl; have hfzq_7 := blk_frozen BKq.out 7))
 go_ret
 exact ⟨fj, bl⟩
theorem dec_immediates.calls (a0 : Int) (a1 : Int) (r : Int) (w : World) (h : dec_immediates.f a0 a1 = some r) :
  Calls Tryd.prog 54 #[.int .u32 a0, .int .i64 a1] w fun e w' => e = .returned (.int .i64 r) ∧ Below w.heap.size w w' := by
 unfold dec_immediates.f at h
 obtain ⟨t, A2, h⟩ := Option.bind_eq_some_iff.mp h
 have A2 := Aside0.mk A2
 by_cases h1 : 0 ≤ a1 ∧ a1 < 8
 ·rw [if_pos h1] at h
  by_cases h2 : a1 ≠ 1 ∧ a1 ≠ 5
  ·rw [if_pos h2] at h
   obtain rfl := Option.some.inj h
   obtain ⟨i, rfl⟩ := Int.eq_ofNat_of_zero_le h1.1
   exact imms_far a0 t i (by have := h1.2; omega) (by have := h2.1; omega) (by have := h2.2; omega) A2 w
  ·rw [if_neg h2] at h
   have h3 : a1 = 1 ∨ a1 = 5 := by omega
   by_cases h4 : t = 0 ∨ t = 16
   ·rw [if_pos h4] at h
    rcases h3 with rfl | rfl <;> rcases h4 with rfl | rfl
    ·exact imms_1_0 a0 r A2 (Aside0.mk h) w
    ·exact imms_1_16 a0 r A2 (Aside0.mk h) w
    ·exact imms_5_0 a0 r A2 (Aside0.mk h) w
    ·exact imms_5_16 a0 r A2 (Aside0.mk h) w
   ·rw [if_neg h4] at h
    obtain rfl := Option.some.inj h
    rcases h3 with rfl | rfl
    ·exact imms_1_no a0 t (fun e => h4 (Or.inl e)) (fun e => h4 (Or.inr e)) A2 w
    ·exact imms_5_no a0 t (fun e => h4 (Or.inl e)) (fun e => h4 (Or.inr e)) A2 w
 ·rw [if_neg h1] at h
  exact absurd h (by simp)

/-! ### dec_small: function 55 -/
def dec_small.f (a0 : Int) (a1 : Int) : Option (Int) := if a0 = 0 then (some 31) else (if a1 = 0 then ((dec_arith.f a0 0 32 0 0 0 33 0 0 0 0 0 0 0 34 0 0 (a1 == 32)).bind fun t315 => (some t315)) else (if a1 = 32 then ((dec_arith.f a0 0 32 0 0 0 33 0 0 0 0 0 0 0 34 0 0 (a1 == 32)).bind fun t316 => (some t316)) else (some 0)))
set_option maxHeartbeats 8000000 in
set_option maxRecDepth 100000 in
theorem dec_small.calls (a0 : Int) (a1 : Int) (r : Int) (w : World) (h : dec_small.f a0 a1 = some r) :
  Calls Tryd.prog 55 #[.int .i64 a0, .int .i64 a1] w fun e w' => e = .returned (.int .i64 r) ∧ Below w.heap.size w w' := by
 have hu103 := Tryd.underlying103
 have HB := Aside0.mk (Below.refl w.heap.size w)
 have H : (if a0 = 0 then (some 31) else (if a1 = 0 then ((dec_arith.f a0 0 32 0 0 0 33 0 0 0 0 0 0 0 34 0 0 (a1 == 32)).bind fun t315 => (some t315)) else (if a1 = 32 then ((dec_arith.f a0 0 32 0 0 0 33 0 0 0 0 0 0 0 34 0 0 (a1 == 32)).bind fun t316 => (some t316)) else (some 0)))) = some r := h
 clear h
 by_cases c3 : a0 = 0
 ·rw [if_pos c3] at H
  obtain ⟨c3b0, c3b1⟩ := eqs c3
  clear c3
  obtain rfl := Option.some.inj H
  go_enter Tryd.func55, Tryd.ntmps55
  go_wp2
  go_ret
  exact ⟨fi, bl⟩
 ·rw [if_neg c3] at H
  have c3b0 : (a0 == 0) = false := beq_eq_false_iff_ne.mpr c3
  have c3b1 : (a0 != 0) = true := bne_iff_ne.mpr c3
  by_cases c4 : a1 = 0
  ·rw [if_pos c4] at H
   obtain ⟨c4b0, c4b1⟩ := eqs c4
   clear c4
   replace H := be H
   obtain ⟨t315, A5, H⟩ := H
   obtain rfl := Option.some.inj H
   go_enter Tryd.func55, Tryd.ntmps55
   go_wp2_with (first | ((with_reducible refine gate_callee (f := 87) rfl ?_); refine goesL_ (some 20) rfl rfl Tryd.func87 (by kernel_rfl) rfl #[.int .i64 a0, .agg #[.int .i64 0, .int .i64 32, .int .i64 0, .int .i64 0, .int .i64 0, .int .i64 33, .int .i64 0, .int .i64 0], .agg #[.int .i64 0, .int .i64 0, .int .i64 0, .int .i64 0, .int .i64 0, .int .i64 34, .int .i64 0, .int .i64 0], .bool (a1 == 32)] rfl ga ?_; (with_reducible refine (dec_arith.calls a0 0 32 0 0 0 33 0 0 0 0 0 0 0 34 0 0 (a1 == 32) t315 _ A5.out).mono ?_); rintro e w6 ⟨rfl, hb⟩; refine ⟨_, rfl, ?_⟩; have n0_ := Aside0.mk (below_step bl hb); clear HB; have HB := n0_; clear n0_; (try clear hb)))
   go_ret
   exact ⟨fi, bl⟩
  ·rw [if_neg c4] at H
   have c4b0 : (a1 == 0) = false := beq_eq_false_iff_ne.mpr c4
   have c4b1 : (a1 != 0) = true := bne_iff_ne.mpr c4
   by_cases c7 : a1 = 32
   ·rw [if_pos c7] at H
    obtain ⟨c7b0, c7b1⟩ := eqs c7
    clear c7
    replace H := Option.bind_eq_some_iff.mp H
    obtain ⟨t316, A80, H⟩ := H
    replace H : (some t316) = some r := H
    rw [c7b0] at A80
    have A8 := Aside0.mk A80
    clear A80
    obtain rfl := Option.some.inj H
    go_enter Tryd.func55, Tryd.ntmps55
    go_wp2_with (first | ((with_reducible refine gate_callee (f := 87) rfl ?_); refine goesL_ (some 20) rfl rfl Tryd.func87 (by kernel_rfl) rfl #[.int .i64 a0, .agg #[.int .i64 0, .int .i64 32, .int .i64 0, .int .i64 0, .int .i64 0, .int .i64 33, .int .i64 0, .int .i64 0], .agg #[.int .i64 0, .int .i64 0, .int .i64 0, .int .i64 0, .int .i64 0, .int .i64 34, .int .i64 0, .int .i64 0], .bool true] rfl ga ?_; (with_reducible refine (dec_arith.calls a0 0 32 0 0 0 33 0 0 0 0 0 0 0 34 0 0 true t316 _ A8.out).mono ?_); rintro e w9 ⟨rfl, hb⟩; refine ⟨_, rfl, ?_⟩; have n0_ := Aside0.mk (below_step bl hb); clear HB; have HB := n0_; clear n0_; (try clear hb)))
    go_ret
    exact ⟨fi, bl⟩
   ·rw [if_neg c7] at H
    have c7b0 : (a1 == 32) = false := beq_eq_false_iff_ne.mpr c7
    have c7b1 : (a1 != 32) = true := bne_iff_ne.mpr c7
    obtain rfl := Option.some.inj H
    go_enter Tryd.func55, Tryd.ntmps55
    go_wp2
    go_ret
    exact ⟨fi, bl⟩

/-! ### dec_whole: function 56 -/
def dec_whole.j0 : Nat → Int → Int → Int → Bool → Option (Int)
  | 0, _, _, _, _ => none
  | k + 1, x0, x1, x5, x6 => if x6 = true then ((dec_arith.f x0 35 37 38 39 40 41 43 44 36 0 0 0 0 42 0 0 (x1 == 32)).bind fun t317 => (some t317)) else (if x5 = 1 then (some (wrap64 (50 + x0))) else (some 0))
def dec_whole.f (k : Nat) (a0 : Int) (a1 : Int) : Option (Int) := if a1 = 0 then (dec_whole.j0 k a0 a1 a1 (a1 == 0)) else (dec_whole.j0 k a0 a1 a1 (a1 == 32))
theorem dec_whole.mono_l : ∀ k, (∀ y0 y1 y2 y3, LeO (dec_whole.j0 k y0 y1 y2 y3) (dec_whole.j0 (k + 1) y0 y1 y2 y3))
 | 0 => fun _ _ _ _ r h => by simp [dec_whole.j0] at h
 | k + 1 => by
  have ih0 := dec_whole.mono_l k
  ·intro y0 y1 y2 y3
   unfold dec_whole.j0
   repeat' first | (with_reducible first | exact ih0 _ _ _ _ | exact LeO.refl _ | exact LeO.none _ | refine LeO.ite ?_ ?_ | refine LeO.bind ?_ (fun _ => ?_)) | exact ih0 _ _ _ _ | exact LeO.none _ | refine LeO.ite ?_ ?_ | refine LeO.bind ?_ (fun _ => ?_)
theorem dec_whole.mono : ∀ a0 a1 k, LeO (dec_whole.f k a0 a1) (dec_whole.f (k + 1) a0 a1) := by
 intro a0 a1 k
 have ih0 := dec_whole.mono_l k
 unfold dec_whole.f
 repeat' first | (with_reducible first | exact ih0 _ _ _ _ | exact LeO.refl _ | exact LeO.none _ | refine LeO.ite ?_ ?_ | refine LeO.bind ?_ (fun _ => ?_)) | exact ih0 _ _ _ _ | exact LeO.none _ | refine LeO.ite ?_ ?_ | refine LeO.bind ?_ (fun _ => ?_)
set_option maxHeartbeats 8000000 in
set_option maxRecDepth 100000 in
theorem dec_whole.calls (k : Nat) (a0 : Int) (a1 : Int) (r : Int) (w : World) (h : dec_whole.f k a0 a1 = some r) :
  Calls Tryd.prog 56 #[.int .i64 a0, .int .i64 a1] w fun e w' => e = .returned (.int .i64 r) ∧ Below w.heap.size w w' := by
 have hu103 := Tryd.underlying103
 have HB := Aside0.mk (Below.refl w.heap.size w)
 have H : (if a1 = 0 then (dec_whole.j0 k a0 a1 a1 (a1 == 0)) else (dec_whole.j0 k a0 a1 a1 (a1 == 32))) = some r := h
 clear h
 have HC3 := Aside0.mk H
 clear H
 go_enter Tryd.func56, Tryd.ntmps56
 go_upto_if 6 with (fail)
 go_cut [6] (fun v6 wc => ∃ (kq : Nat) (x6_2 : Bool), v6 = .bool x6_2 ∧ Aside0 (dec_whole.j0 kq a0 a1 a1 x6_2 = some r) ∧ Aside0 (kq ≤ k) ∧ Aside0 (Below w.heap.size w wc))
 case first =>
  have H := HC3.out
  clear HC3
  by_cases c4 : a1 = 0
  ·rw [if_pos c4] at H
   obtain ⟨c4b0, c4b1⟩ := eqs c4
   clear c4
   (first | rw [c4b0] | (simp only [i64_w, i32_w]; rw [c4b0]) | skip)
   have H' := Aside0.mk H
   clear H
   go_wp2
   go_meet
   case rel => exact ⟨_, ((a1 == 0)), fj, H', ⟨by first | omega | exact Nat.le_refl _⟩, ⟨bl⟩⟩
  ·rw [if_neg c4] at H
   have c4b0 : (a1 == 0) = false := beq_eq_false_iff_ne.mpr c4
   have c4b1 : (a1 != 0) = true := bne_iff_ne.mpr c4
   (first | rw [c4b0] | (simp only [i64_w, i32_w]; rw [c4b0]) | skip)
   have H' := Aside0.mk H
   clear H
   go_wp2
   go_meet
   case rel => exact ⟨_, ((a1 == 32)), fj, H', ⟨by first | omega | exact Nat.le_refl _⟩, ⟨bl⟩⟩
 case rest =>
  clear HC3
  try clear p2
  try clear c4
  try clear c4b0
  try clear c4b1
  obtain ⟨kq, x6_2, rfl, HA, HJ2, HB⟩ := hcut
  cases kq with
  | zero => exact absurd HA.out (by simp [dec_whole.j0])
  | succ kj2 =>
   have H := HA.out
   clear HA
   simp only [dec_whole.j0] at H
   by_cases c5 : x6_2 = true
   ·subst c5
    have H1 : ((dec_arith.f a0 35 37 38 39 40 41 43 44 36 0 0 0 0 42 0 0 (a1 == 32)).bind fun t317 => (some t317)) = some r := by rw [if_pos rfl] at H; exact H
    clear H
    have H := H1
    clear H1
    replace H := be H
    obtain ⟨t317, A6, H⟩ := H
    obtain rfl := Option.some.inj H
    go_wp2_with (first | ((with_reducible refine gate_callee (f := 87) rfl ?_); refine goesL_ (some 14) rfl rfl Tryd.func87 (by kernel_rfl) rfl #[.int .i64 a0, .agg #[.int .i64 35, .int .i64 37, .int .i64 38, .int .i64 39, .int .i64 40, .int .i64 41, .int .i64 43, .int .i64 44], .agg #[.int .i64 36, .int .i64 0, .int .i64 0, .int .i64 0, .int .i64 0, .int .i64 42, .int .i64 0, .int .i64 0], .bool (a1 == 32)] rfl ga ?_; (with_reducible refine (dec_arith.calls a0 35 37 38 39 40 41 43 44 36 0 0 0 0 42 0 0 (a1 == 32) t317 _ A6.out).mono ?_); rintro e w7 ⟨rfl, hb⟩; refine ⟨_, rfl, ?_⟩; have n0_ := Aside0.mk (below_step bl hb); clear HB; have HB := n0_; clear n0_; (try clear hb)))
    go_ret
    exact ⟨fi, bl⟩
   ·replace c5 := Bool.eq_false_iff.mpr c5
    subst c5
    have H1 : (if a1 = 1 then (some (wrap64 (50 + a0))) else (some 0)) = some r := by rw [if_neg (show ¬ (false = true) by decide)] at H; exact H
    clear H
    have H := H1
    clear H1
    by_cases c8 : a1 = 1
    ·rw [if_pos c8] at H
     obtain ⟨c8b0, c8b1⟩ := eqs c8
     clear c8
     obtain rfl := Option.some.inj H
     go_wp2
     go_ret
     exact ⟨fi, bl⟩
    ·rw [if_neg c8] at H
     have c8b0 : (a1 == 1) = false := beq_eq_false_iff_ne.mpr c8
     have c8b1 : (a1 != 1) = true := bne_iff_ne.mpr c8
     obtain rfl := Option.some.inj H
     go_wp2
     go_ret
     exact ⟨fi, bl⟩

/-! ### dec_half: function 57 -/
def dec_half.j0 : Nat → Int → Int → Int → Bool → Option (Int)
  | 0, _, _, _, _ => none
  | k + 1, x0, x1, x5, x6 => if x6 = true then ((dec_arith.f x0 45 47 0 0 0 48 0 0 46 0 0 0 0 49 0 0 (x1 == 32)).bind fun t318 => (some t318)) else (if x5 = 1 then ((dec_pick.f k 58 x0 (([0, 4, 5, 6, 7] : List Int))).bind fun t322 => (some t322)) else (some 0))
def dec_half.f (k : Nat) (a0 : Int) (a1 : Int) : Option (Int) := if a1 = 0 then (dec_half.j0 k a0 a1 a1 (a1 == 0)) else (dec_half.j0 k a0 a1 a1 (a1 == 32))
theorem dec_half.mono_l : ∀ k, (∀ y0 y1 y2 y3, LeO (dec_half.j0 k y0 y1 y2 y3) (dec_half.j0 (k + 1) y0 y1 y2 y3))
 | 0 => fun _ _ _ _ r h => by simp [dec_half.j0] at h
 | k + 1 => by
  have ih0 := dec_half.mono_l k
  ·intro y0 y1 y2 y3
   unfold dec_half.j0
   repeat' first | (with_reducible first | exact ih0 _ _ _ _ | exact dec_pick.mono _ _ _ _ | exact LeO.refl _ | exact LeO.none _ | refine LeO.ite ?_ ?_ | refine LeO.bind ?_ (fun _ => ?_)) | exact ih0 _ _ _ _ | exact dec_pick.mono _ _ _ _ | exact LeO.none _ | refine LeO.ite ?_ ?_ | refine LeO.bind ?_ (fun _ => ?_)
theorem dec_half.mono : ∀ a0 a1 k, LeO (dec_half.f k a0 a1) (dec_half.f (k + 1) a0 a1) := by
 intro a0 a1 k
 have ih0 := dec_half.mono_l k
 unfold dec_half.f
 repeat' first | (with_reducible first | exact ih0 _ _ _ _ | exact dec_pick.mono _ _ _ _ | exact LeO.refl _ | exact LeO.none _ | refine LeO.ite ?_ ?_ | refine LeO.bind ?_ (fun _ => ?_)) | exact ih0 _ _ _ _ | exact dec_pick.mono _ _ _ _ | exact LeO.none _ | refine LeO.ite ?_ ?_ | refine LeO.bind ?_ (fun _ => ?_)
set_option maxHeartbeats 8000000 in
set_option maxRecDepth 100000 in
theorem dec_half.calls (k : Nat) (a0 : Int) (a1 : Int) (r : Int) (w : World) (h : dec_half.f k a0 a1 = some r) :
  Calls Tryd.prog 57 #[.int .i64 a0, .int .i64 a1] w fun e w' => e = .returned (.int .i64 r) ∧ Below w.heap.size w w' := by
 have hu103 := Tryd.underlying103
 have HB := Aside0.mk (Below.refl w.heap.size w)
 have H : (if a1 = 0 then (dec_half.j0 k a0 a1 a1 (a1 == 0)) else (dec_half.j0 k a0 a1 a1 (a1 == 32))) = some r := h
 clear h
 have HC3 := Aside0.mk H
 clear H
 go_enter Tryd.func57, Tryd.ntmps57
 go_upto_if 6 with (fail)
 go_cut [6] (fun v6 wc => ∃ (kq : Nat) (x6_2 : Bool), v6 = .bool x6_2 ∧ Aside0 (dec_half.j0 kq a0 a1 a1 x6_2 = some r) ∧ Aside0 (kq ≤ k) ∧ Aside0 (Below w.heap.size w wc))
 case first =>
  have H := HC3.out
  clear HC3
  by_cases c4 : a1 = 0
  ·rw [if_pos c4] at H
   obtain ⟨c4b0, c4b1⟩ := eqs c4
   clear c4
   (first | rw [c4b0] | (simp only [i64_w, i32_w]; rw [c4b0]) | skip)
   have H' := Aside0.mk H
   clear H
   go_wp2
   go_meet
   case rel => exact ⟨_, ((a1 == 0)), fj, H', ⟨by first | omega | exact Nat.le_refl _⟩, ⟨bl⟩⟩
  ·rw [if_neg c4] at H
   have c4b0 : (a1 == 0) = false := beq_eq_false_iff_ne.mpr c4
   have c4b1 : (a1 != 0) = true := bne_iff_ne.mpr c4
   (first | rw [c4b0] | (simp only [i64_w, i32_w]; rw [c4b0]) | skip)
   have H' := Aside0.mk H
   clear H
   go_wp2
   go_meet
   case rel => exact ⟨_, ((a1 == 32)), fj, H', ⟨by first | omega | exact Nat.le_refl _⟩, ⟨bl⟩⟩
 case rest =>
  clear HC3
  try clear p2
  try clear c4
  try clear c4b0
  try clear c4b1
  obtain ⟨kq, x6_2, rfl, HA, HJ2, HB⟩ := hcut
  cases kq with
  | zero => exact absurd HA.out (by simp [dec_half.j0])
  | succ kj2 =>
   have H := HA.out
   clear HA
   simp only [dec_half.j0] at H
   by_cases c5 : x6_2 = true
   ·subst c5
    have H1 : ((dec_arith.f a0 45 47 0 0 0 48 0 0 46 0 0 0 0 49 0 0 (a1 == 32)).bind fun t318 => (some t318)) = some r := by rw [if_pos rfl] at H; exact H
    clear H
    have H := H1
    clear H1
    replace H := be H
    obtain ⟨t318, A6, H⟩ := H
    obtain rfl := Option.some.inj H
    go_wp2_with (first | ((with_reducible refine gate_callee (f := 87) rfl ?_); refine goesL_ (some 14) rfl rfl Tryd.func87 (by kernel_rfl) rfl #[.int .i64 a0, .agg #[.int .i64 45, .int .i64 47, .int .i64 0, .int .i64 0, .int .i64 0, .int .i64 48, .int .i64 0, .int .i64 0], .agg #[.int .i64 46, .int .i64 0, .int .i64 0, .int .i64 0, .int .i64 0, .int .i64 49, .int .i64 0, .int .i64 0], .bool (a1 == 32)] rfl ga ?_; (with_reducible refine (dec_arith.calls a0 45 47 0 0 0 48 0 0 46 0 0 0 0 49 0 0 (a1 == 32) t318 _ A6.out).mono ?_); rintro e w7 ⟨rfl, hb⟩; refine ⟨_, rfl, ?_⟩; have n0_ := Aside0.mk (below_step bl hb); clear HB; have HB := n0_; clear n0_; (try clear hb)))
    go_ret
    exact ⟨fi, bl⟩
   ·replace c5 := Bool.eq_false_iff.mpr c5
    subst c5
    have H1 : (if a1 = 1 then ((dec_pick.f kj2 58 a0 (([0, 4, 5, 6, 7] : List Int))).bind fun t322 => (some t322)) else (some 0)) = some r := by rw [if_neg (show ¬ (false = true) by decide)] at H; exact H
    clear H
    have H := H1
    clear H1
    by_cases c8 : a1 = 1
    ·rw [if_pos c8] at H
     obtain ⟨c8b0, c8b1⟩ := eqs c8
     clear c8
     obtain ⟨y319, hy319⟩ : ∃ y_ : List Int, y_ = (([0, 4, 5, 6, 7] : List Int)) := ⟨_, rfl⟩
     replace H : ((dec_pick.f kj2 58 a0 y319).bind fun t322 => (some t322)) = some r := by first | (rw [hy319]; with_reducible exact H) | (have H2_ := (Option.bind_some _ _).symm.trans H; rw [hy319]; with_reducible exact H2_) | (have H2_ := (Option.bind_some _ _).symm.trans H; with_reducible exact H2_) | with_reducible exact H | (rw [hy319]; exact H) | exact H
     have Ny319 := Aside0.mk hy319
     clear hy319
     replace H := be H
     obtain ⟨t322, A9, H⟩ := H
     obtain rfl := Option.some.inj H
     go_wp2_with (first | ((with_reducible refine gate_dst (N := 18) rfl ?_); refine Kd.R_lit (Kd.int .i64) _ 3 ?hg (N := 18) ?hd (xs := ([0, 4, 5, 6, 7] : List Int)) (inner := [.int .i64 0, .int .i64 4, .int .i64 5, .int .i64 6, .int .i64 7]) (ok := fun _ => True) (okp := fun _ => True) ?hr ?hp (fun _ hk => hk) trivial (Below.refl _ _) (Nat.le_refl _) (by simp) ?_; (case hd => rfl); (case hg => rfl); (case hr => first | (go_simp; done) | (go_simp; rfl)); (case hp => exact (Reps.one (show Kd.M (Kd.int .i64) _ _ _ 0 [.int .i64 0] from rfl) (Reps.one (show Kd.M (Kd.int .i64) _ _ _ 4 [.int .i64 4] from rfl) (Reps.one (show Kd.M (Kd.int .i64) _ _ _ 5 [.int .i64 5] from rfl) (Reps.one (show Kd.M (Kd.int .i64) _ _ _ 6 [.int .i64 6] from rfl) (Reps.one (show Kd.M (Kd.int .i64) _ _ _ 7 [.int .i64 7] from rfl) (Reps.none _ _))))))); intro v320 w10 ho11 hb hg_ hnew_; clear hg_ hnew_; (first | rw [← Ny319.out] at ho11 | (simp only [Int.reduceToNat] at ho11; rw [← Ny319.out] at ho11)); have n0_ := Aside0.mk (Kd.R_lower ho11 (below_size bl)); have n1_ := Aside0.mk (below_step bl hb); clear HB; have HO321 := n0_; have HB := n1_; clear n0_ n1_; clear hb ho11; obtain ⟨Ao12, co12, eo12⟩ := Kd.R_slice HO321.out; subst eo12) | ((with_reducible refine gate_callee (f := 53) rfl ?_); refine goesL_ (some 19) rfl rfl Tryd.func53 (by kernel_rfl) rfl #[.int .i64 58, .int .i64 a0, .slice Ao12 y319.length co12] rfl ga ?_; (with_reducible refine (dec_pick.calls kj2 58 a0 _ _ y319 t322 _ ?side1 ?side2 A9.out).mono ?_); (case side1 => repeat (first | exact (Kd.R_reads' HO321.out).2.2 | (with_reducible refine Kd.C_alloc ?_ _) | (with_reducible refine Kd.C_drewN ?_ _) | (with_reducible refine Kd.C_drew ?_))); (case side2 => exact (Kd.R_reads' HO321.out).2.1); rintro e w' ⟨rfl, ⟨nd, rfl⟩⟩; refine ⟨_, rfl, ?_⟩))
     go_ret
     exact ⟨fi, bl⟩
    ·rw [if_neg c8] at H
     have c8b0 : (a1 == 1) = false := beq_eq_false_iff_ne.mpr c8
     have c8b1 : (a1 != 1) = true := bne_iff_ne.mpr c8
     obtain rfl := Option.some.inj H
     go_wp2
     go_ret
     exact ⟨fi, bl⟩

/-! ### dec_atomic: function 58 -/
def dec_atomic.j0 : Nat → Int → Int → Bool → Option (Int)
  | 0, _, _, _ => none
  | k + 1, x1, x5, x16 => if x16 = true then (some 0) else (if x1 = 2 then (some (wrap64 (66 + x5))) else (if x1 = 3 then (some (wrap64 (77 + x5))) else (some 0)))
def dec_atomic.f (k : Nat) (a0 : Int) (a1 : Int) : Option (Int) := (dec_field.f a0 27 5).bind fun t323 => ((dec_pick.f k 0 t323 (([2, 3, 1, 0, 4, 12, 8, 16, 20, 24, 28] : List Int))).bind fun t327 => (if t327 = 0 then ((dec_field.f a0 27 5).bind fun t328 => (dec_atomic.j0 k a1 t327 (t328 != 2))) else (dec_atomic.j0 k a1 t327 false)))
theorem dec_atomic.mono_l : ∀ k, (∀ y0 y1 y2, LeO (dec_atomic.j0 k y0 y1 y2) (dec_atomic.j0 (k + 1) y0 y1 y2))
 | 0 => fun _ _ _ r h => by simp [dec_atomic.j0] at h
 | k + 1 => by
  have ih0 := dec_atomic.mono_l k
  ·intro y0 y1 y2
   unfold dec_atomic.j0
   repeat' first | (with_reducible first | exact ih0 _ _ _ | exact dec_pick.mono _ _ _ _ | exact LeO.refl _ | exact LeO.none _ | refine LeO.ite ?_ ?_ | refine LeO.bind ?_ (fun _ => ?_)) | exact ih0 _ _ _ | exact dec_pick.mono _ _ _ _ | exact LeO.none _ | refine LeO.ite ?_ ?_ | refine LeO.bind ?_ (fun _ => ?_)
theorem dec_atomic.mono : ∀ a0 a1 k, LeO (dec_atomic.f k a0 a1) (dec_atomic.f (k + 1) a0 a1) := by
 intro a0 a1 k
 have ih0 := dec_atomic.mono_l k
 unfold dec_atomic.f
 repeat' first | (with_reducible first | exact ih0 _ _ _ | exact dec_pick.mono _ _ _ _ | exact LeO.refl _ | exact LeO.none _ | refine LeO.ite ?_ ?_ | refine LeO.bind ?_ (fun _ => ?_)) | exact ih0 _ _ _ | exact dec_pick.mono _ _ _ _ | exact LeO.none _ | refine LeO.ite ?_ ?_ | refine LeO.bind ?_ (fun _ => ?_)
set_option maxHeartbeats 8000000 in
set_option maxRecDepth 100000 in
theorem dec_atomic.calls (k : Nat) (a0 : Int) (a1 : Int) (r : Int) (w : World) (h : dec_atomic.f k a0 a1 = some r) :
  Calls Tryd.prog 58 #[.int .u32 a0, .int .i64 a1] w fun e w' => e = .returned (.int .i64 r) ∧ Below w.heap.size w w' := by
 have HB := Aside0.mk (Below.refl w.heap.size w)
 have H : ((dec_field.f a0 27 5).bind fun t323 => ((dec_pick.f k 0 t323 (([2, 3, 1, 0, 4, 12, 8, 16, 20, 24, 28] : List Int))).bind fun t327 => (if t327 = 0 then ((dec_field.f a0 27 5).bind fun t328 => (dec_atomic.j0 k a1 t327 (t328 != 2))) else (dec_atomic.j0 k a1 t327 false)))) = some r := h
 clear h
 replace H := be H
 obtain ⟨t323, A3, H⟩ := H
 obtain ⟨y324, hy324⟩ : ∃ y_ : List Int, y_ = (([2, 3, 1, 0, 4, 12, 8, 16, 20, 24, 28] : List Int)) := ⟨_, rfl⟩
 replace H : ((dec_pick.f k 0 t323 y324).bind fun t327 => (if t327 = 0 then ((dec_field.f a0 27 5).bind fun t328 => (dec_atomic.j0 k a1 t327 (t328 != 2))) else (dec_atomic.j0 k a1 t327 false))) = some r := by first | (rw [hy324]; with_reducible exact H) | (have H2_ := (Option.bind_some _ _).symm.trans H; rw [hy324]; with_reducible exact H2_) | (have H2_ := (Option.bind_some _ _).symm.trans H; with_reducible exact H2_) | with_reducible exact H | (rw [hy324]; exact H) | exact H
 have Ny324 := Aside0.mk hy324
 clear hy324
 replace H := be H
 obtain ⟨t327, A4, H⟩ := H
 have HC5 := Aside0.mk H
 clear H
 go_enter Tryd.func58, Tryd.ntmps58
 go_upto_region 2 with (first | ((with_reducible refine gate_callee (f := 52) rfl ?_); refine goesL_ (some 7) rfl rfl Tryd.func52 (by kernel_rfl) rfl #[.int .u32 a0, .int .i64 27, .int .i64 5] rfl ga ?_; (with_reducible refine (dec_field.calls a0 27 5 t323 _ A3.out).mono ?_); rintro e w' ⟨rfl, ⟨nd, rfl⟩⟩; refine ⟨_, rfl, ?_⟩) | ((with_reducible refine gate_dst (N := 8) rfl ?_); refine Kd.R_lit (Kd.int .i64) _ 3 ?hg (N := 8) ?hd (xs := ([2, 3, 1, 0, 4, 12, 8, 16, 20, 24, 28] : List Int)) (inner := [.int .i64 2, .int .i64 3, .int .i64 1, .int .i64 0, .int .i64 4, .int .i64 12, .int .i64 8, .int .i64 16, .int .i64 20, .int .i64 24, .int .i64 28]) (ok := fun _ => True) (okp := fun _ => True) ?hr ?hp (fun _ hk => hk) trivial (Below.refl _ _) (Nat.le_refl _) (by simp) ?_; (case hd => rfl); (case hg => rfl); (case hr => first | (go_simp; done) | (go_simp; rfl)); (case hp => exact (Reps.one (show Kd.M (Kd.int .i64) _ _ _ 2 [.int .i64 2] from rfl) (Reps.one (show Kd.M (Kd.int .i64) _ _ _ 3 [.int .i64 3] from rfl) (Reps.one (show Kd.M (Kd.int .i64) _ _ _ 1 [.int .i64 1] from rfl) (Reps.one (show Kd.M (Kd.int .i64) _ _ _ 0 [.int .i64 0] from rfl) (Reps.one (show Kd.M (Kd.int .i64) _ _ _ 4 [.int .i64 4] from rfl) (Reps.one (show Kd.M (Kd.int .i64) _ _ _ 12 [.int .i64 12] from rfl) (Reps.one (show Kd.M (Kd.int .i64) _ _ _ 8 [.int .i64 8] from rfl) (Reps.one (show Kd.M (Kd.int .i64) _ _ _ 16 [.int .i64 16] from rfl) (Reps.one (show Kd.M (Kd.int .i64) _ _ _ 20 [.int .i64 20] from rfl) (Reps.one (show Kd.M (Kd.int .i64) _ _ _ 24 [.int .i64 24] from rfl) (Reps.one (show Kd.M (Kd.int .i64) _ _ _ 28 [.int .i64 28] from rfl) (Reps.none _ _))))))))))))); intro v325 w6 ho7 hb hg_ hnew_; clear hg_ hnew_; (first | rw [← Ny324.out] at ho7 | (simp only [Int.reduceToNat] at ho7; rw [← Ny324.out] at ho7)); have n0_ := Aside0.mk (Kd.R_lower ho7 (below_size bl)); have n1_ := Aside0.mk (below_step bl hb); clear HB; have HO326 := n0_; have HB := n1_; clear n0_ n1_; clear hb ho7; obtain ⟨Ao8, co8, eo8⟩ := Kd.R_slice HO326.out; subst eo8) | ((with_reducible refine gate_callee (f := 53) rfl ?_); refine goesL_ (some 9) rfl rfl Tryd.func53 (by kernel_rfl) rfl #[.int .i64 0, .int .i64 t323, .slice Ao8 y324.length co8] rfl ga ?_; (with_reducible refine (dec_pick.calls k 0 t323 _ _ y324 t327 _ ?side1 ?side2 A4.out).mono ?_); (case side1 => repeat (first | exact (Kd.R_reads' HO326.out).2.2 | (with_reducible refine Kd.C_alloc ?_ _) | (with_reducible refine Kd.C_drewN ?_ _) | (with_reducible refine Kd.C_drew ?_))); (case side2 => exact (Kd.R_reads' HO326.out).2.1); rintro e w' ⟨rfl, ⟨nd, rfl⟩⟩; refine ⟨_, rfl, ?_⟩))
 (try simp only [Act.put, List.setIfInBounds_toArray, List.set_cons_zero, List.set_cons_succ])
 go_cut [16] (fun v16 wc => ∃ (kq : Nat) (x16_4 : Bool), v16 = .bool x16_4 ∧ Aside0 (dec_atomic.j0 kq a1 t327 x16_4 = some r) ∧ Aside0 (kq ≤ k) ∧ Aside0 (Below w.heap.size w wc))
 case first =>
  have H := HC5.out
  clear HC5
  by_cases c9 : t327 = 0
  ·rw [if_pos c9] at H
   obtain ⟨c9b0, c9b1⟩ := eqs c9
   clear c9
   (first | rw [c9b0] | (simp only [i64_w, i32_w]; rw [c9b0]) | skip)
   replace H := be H
   obtain ⟨t328, A10, H⟩ := H
   have H' := Aside0.mk H
   clear H
   go_wp2_with (first | (go_at_call 52; (with_reducible refine (dec_field.calls a0 27 5 t328 _ A10.out).mono ?_); rintro e w' ⟨rfl, ⟨nd, rfl⟩⟩))
   go_meet
   case rel => exact ⟨_, ((t328 != 2)), fj, H', ⟨by first | omega | exact Nat.le_refl _⟩, ⟨bl⟩⟩
  ·rw [if_neg c9] at H
   have c9b0 : (t327 == 0) = false := beq_eq_false_iff_ne.mpr c9
   have c9b1 : (t327 != 0) = true := bne_iff_ne.mpr c9
   (first | rw [c9b0] | (simp only [i64_w, i32_w]; rw [c9b0]) | skip)
   have H' := Aside0.mk H
   clear H
   go_wp2
   go_meet
   case rel => exact ⟨_, (false), fj, H', ⟨by first | omega | exact Nat.le_refl _⟩, ⟨bl⟩⟩
 case rest =>
  clear HC5
  try clear p2
  try clear c5
  try clear c9
  try clear c9b0
  try clear c9b1
  obtain ⟨kq, x16_4, rfl, HA, HJ4, HB⟩ := hcut
  cases kq with
  | zero => exact absurd HA.out (by simp [dec_atomic.j0])
  | succ kj4 =>
   have H := HA.out
   clear HA
   simp only [dec_atomic.j0] at H
   by_cases c11 : x16_4 = true
   ·subst c11
    have H1 : (some 0) = some r := by rw [if_pos rfl] at H; exact H
    clear H
    have H := H1
    clear H1
    obtain rfl := Option.some.inj H
    go_wp2
    go_ret
    exact ⟨fi, bl⟩
   ·replace c11 := Bool.eq_false_iff.mpr c11
    subst c11
    have H1 : (if a1 = 2 then (some (wrap64 (66 + t327))) else (if a1 = 3 then (some (wrap64 (77 + t327))) else (some 0))) = some r := by rw [if_neg (show ¬ (false = true) by decide)] at H; exact H
    clear H
    have H := H1
    clear H1
    by_cases c12 : a1 = 2
    ·rw [if_pos c12] at H
     obtain ⟨c12b0, c12b1⟩ := eqs c12
     clear c12
     obtain rfl := Option.some.inj H
     go_wp2
     go_ret
     exact ⟨fi, bl⟩
    ·rw [if_neg c12] at H
     have c12b0 : (a1 == 2) = false := beq_eq_false_iff_ne.mpr c12
     have c12b1 : (a1 != 2) = true := bne_iff_ne.mpr c12
     by_cases c13 : a1 = 3
     ·rw [if_pos c13] at H
      obtain ⟨c13b0, c13b1⟩ := eqs c13
      clear c13
      obtain rfl := Option.some.inj H
      go_wp2
      go_ret
      exact ⟨fi, bl⟩
     ·rw [if_neg c13] at H
      have c13b0 : (a1 == 3) = false := beq_eq_false_iff_ne.mpr c13
      have c13b1 : (a1 != 3) = true := bne_iff_ne.mpr c13
      obtain rfl := Option.some.inj H
      go_wp2
      go_ret
      exact ⟨fi, bl⟩

/-! ### dec_system: function 59 -/
def dec_system.f (k : Nat) (a0 : Int) : Option (Int) := (dec_pick.f k 64 (wrap64 (a0 / 128)) (([0, 8192] : List Int))).bind fun t332 => (some t332)
theorem dec_system.mono : ∀ a0 k, LeO (dec_system.f k a0) (dec_system.f (k + 1) a0) := by
 intro a0 k
 unfold dec_system.f
 repeat' first | (with_reducible first | exact dec_pick.mono _ _ _ _ | exact LeO.refl _ | exact LeO.none _ | refine LeO.ite ?_ ?_ | refine LeO.bind ?_ (fun _ => ?_)) | exact dec_pick.mono _ _ _ _ | exact LeO.none _ | refine LeO.ite ?_ ?_ | refine LeO.bind ?_ (fun _ => ?_)
set_option maxHeartbeats 8000000 in
set_option maxRecDepth 100000 in
theorem dec_system.calls (k : Nat) (a0 : Int) (r : Int) (w : World) (h : dec_system.f k a0 = some r) :
  Calls Tryd.prog 59 #[.int .u32 a0] w fun e w' => e = .returned (.int .i64 r) ∧ Below w.heap.size w w' := by
 have HB := Aside0.mk (Below.refl w.heap.size w)
 have H : ((dec_pick.f k 64 (wrap64 (a0 / 128)) (([0, 8192] : List Int))).bind fun t332 => (some t332)) = some r := h
 clear h
 obtain ⟨y329, hy329⟩ : ∃ y_ : List Int, y_ = (([0, 8192] : List Int)) := ⟨_, rfl⟩
 replace H : ((dec_pick.f k 64 (wrap64 (a0 / 128)) y329).bind fun t332 => (some t332)) = some r := by first | (rw [hy329]; with_reducible exact H) | (have H2_ := (Option.bind_some _ _).symm.trans H; rw [hy329]; with_reducible exact H2_) | (have H2_ := (Option.bind_some _ _).symm.trans H; with_reducible exact H2_) | with_reducible exact H | (rw [hy329]; exact H) | exact H
 have Ny329 := Aside0.mk hy329
 clear hy329
 replace H := be H
 obtain ⟨t332, A2, H⟩ := H
 obtain rfl := Option.some.inj H
 go_enter Tryd.func59, Tryd.ntmps59
 go_wp2_with (first | ((with_reducible refine gate_dst (N := 6) rfl ?_); refine Kd.R_lit (Kd.int .i64) _ 3 ?hg (N := 6) ?hd (xs := ([0, 8192] : List Int)) (inner := [.int .i64 0, .int .i64 8192]) (ok := fun _ => True) (okp := fun _ => True) ?hr ?hp (fun _ hk => hk) trivial (Below.refl _ _) (Nat.le_refl _) (by simp) ?_; (case hd => rfl); (case hg => rfl); (case hr => first | (go_simp; done) | (go_simp; rfl)); (case hp => exact (Reps.one (show Kd.M (Kd.int .i64) _ _ _ 0 [.int .i64 0] from rfl) (Reps.one (show Kd.M (Kd.int .i64) _ _ _ 8192 [.int .i64 8192] from rfl) (Reps.none _ _)))); intro v330 w3 ho4 hb hg_ hnew_; clear hg_ hnew_; (first | rw [← Ny329.out] at ho4 | (simp only [Int.reduceToNat] at ho4; rw [← Ny329.out] at ho4)); have n0_ := Aside0.mk (Kd.R_lower ho4 (below_size bl)); have n1_ := Aside0.mk (below_step bl hb); clear HB; have HO331 := n0_; have HB := n1_; clear n0_ n1_; clear hb ho4; obtain ⟨Ao5, co5, eo5⟩ := Kd.R_slice HO331.out; subst eo5) | ((with_reducible refine gate_callee (f := 53) rfl ?_); refine goesL_ (some 7) rfl rfl Tryd.func53 (by kernel_rfl) rfl #[.int .i64 64, .int .i64 (wrap64 (a0 / 128)), .slice Ao5 y329.length co5] rfl ga ?_; (with_reducible refine (dec_pick.calls k 64 (wrap64 (a0 / 128)) _ _ y329 t332 _ ?side1 ?side2 A2.out).mono ?_); (case side1 => repeat (first | exact (Kd.R_reads' HO331.out).2.2 | (with_reducible refine Kd.C_alloc ?_ _) | (with_reducible refine Kd.C_drewN ?_ _) | (with_reducible refine Kd.C_drew ?_))); (case side2 => exact (Kd.R_reads' HO331.out).2.1); rintro e w' ⟨rfl, ⟨nd, rfl⟩⟩; refine ⟨_, rfl, ?_⟩))
 go_ret
 exact ⟨fi, bl⟩

end Go.Proofs.YtffehgfjjagibaaDoor.GImagePlaces
