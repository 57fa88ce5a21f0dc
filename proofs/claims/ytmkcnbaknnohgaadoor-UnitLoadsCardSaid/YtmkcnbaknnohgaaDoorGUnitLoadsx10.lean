-- Written by wip/stub.py of this repo.
import Derived.Test.YtmkcnbaknnohgaaDoorGUnitLoadsx0
import Derived.Test.YtmkcnbaknnohgaaDoorGUnitLoadsx9
namespace Go.Proofs.YtmkcnbaknnohgaaDoor.GUnitLoads
open Go.RowKit Go.Proofs.YtmkcnbaknnohgaaDoorW.PrintWords Go.Proofs.YtmkcnbaknnohgaaDoorW.PrintLast Go.Proofs.YtmkcnbaknnohgaaDoorW.PrintMore
attribute [local go_sem] max2_int min2_int max_two min_two max_three min_three max_four min_four   -- for this text's walks alone
set_option linter.unusedVariables false
set_option linter.unusedSimpArgs false

/-! ### spinnakerref09_Does: function 8 -/
def spinnakerref09_Does.l0 : Nat → List (S27) → List Int → Int → Option (List Int)
  | 0, _, _, _ => none
  | k + 1, x0, x3, x5 => if x5 < (x0.length : Int) then (if 0 ≤ x5 then (if ((rd_T27 x0 x5).f0) = 1 then (if ((rd_T27 x0 x5).f1) = 0 then (spinnakerref09_Does.l0 k x0 x3 (wrap64 (x5 + 1))) else (if 0 ≤ ((rd_T27 x0 x5).f1) then (if ((rd_T27 x0 x5).f1) < (x3.length : Int) then (spinnakerref09_Does.l0 k x0 (x3.set (((rd_T27 x0 x5).f1) : Int).toNat (wrap64 (4096 * ((rd_T27 x0 x5).f4)))) (wrap64 (x5 + 1))) else (none)) else (none))) else (if 0 ≤ ((rd_T27 x0 x5).f2) then (if ((rd_T27 x0 x5).f2) < (x3.length : Int) then ((spinnakerref07_Eval.f k ((rd_T27 x0 x5).f0) (rd x3 ((rd_T27 x0 x5).f2)) ((rd_T27 x0 x5).f4)).bind fun t319 => (if ((rd_T27 x0 x5).f1) = 0 then (spinnakerref09_Does.l0 k x0 x3 (wrap64 (x5 + 1))) else (if 0 ≤ ((rd_T27 x0 x5).f1) then (if ((rd_T27 x0 x5).f1) < (x3.length : Int) then (spinnakerref09_Does.l0 k x0 (x3.set (((rd_T27 x0 x5).f1) : Int).toNat t319) (wrap64 (x5 + 1))) else (none)) else (none)))) else (none)) else (none))) else (none)) else (some x3)
def spinnakerref09_Does.f (k : Nat) (l0 : List (S27)) (l1 : List Int) : Option (List Int) := if ([] : List Int).length + l1.length < 17592186044416 then (spinnakerref09_Does.l0 k l0 (([] : List Int) ++ l1) 0) else (none)
theorem spinnakerref09_Does.mono_l : ∀ k, (∀ y0 y1 y2, LeO (spinnakerref09_Does.l0 k y0 y1 y2) (spinnakerref09_Does.l0 (k + 1) y0 y1 y2))
 | 0 => fun _ _ _ r h => by simp [spinnakerref09_Does.l0] at h
 | k + 1 => by
  have ih0 := spinnakerref09_Does.mono_l k
  ·intro y0 y1 y2
   unfold spinnakerref09_Does.l0
   repeat' first | (with_reducible first | exact ih0 _ _ _ | exact spinnakerref07_Eval.mono _ _ _ _ | exact LeO.refl _ | exact LeO.none _ | refine LeO.ite ?_ ?_ | refine LeO.bind ?_ (fun _ => ?_)) | exact ih0 _ _ _ | exact spinnakerref07_Eval.mono _ _ _ _ | exact LeO.none _ | refine LeO.ite ?_ ?_ | refine LeO.bind ?_ (fun _ => ?_)
theorem spinnakerref09_Does.mono : ∀ a0 a1 k, LeO (spinnakerref09_Does.f k a0 a1) (spinnakerref09_Does.f (k + 1) a0 a1) := by
 intro a0 a1 k
 have ih0 := spinnakerref09_Does.mono_l k
 unfold spinnakerref09_Does.f
 repeat' first | (with_reducible first | exact ih0 _ _ _ | exact spinnakerref07_Eval.mono _ _ _ _ | exact LeO.refl _ | exact LeO.none _ | refine LeO.ite ?_ ?_ | refine LeO.bind ?_ (fun _ => ?_)) | exact ih0 _ _ _ | exact spinnakerref07_Eval.mono _ _ _ _ | exact LeO.none _ | refine LeO.ite ?_ ?_ | refine LeO.bind ?_ (fun _ => ?_)
def spinnakerref09_Does.T7 : Bool × List (List Nat × List Nat) := (true, [([], []), ([], []), ([0, 1], [0, 1]), ([2], [2]), ([3], [3]), ([], []), ([], []), ([5, 6], [5, 6]), ([7], [7]), ([8], [8]), ([9], [9]), ([10], [10]), ([], []), ([], []), ([12, 13], [12, 13]), ([14], [14]), ([15], [15]), ([4, 11, 16], [4, 11, 16]), ([17, 17, 0, 1, 2, 3, 4, 5, 6, 7, 8, 9, 10, 11, 12, 13, 14, 15, 16, 17], [17])])
def spinnakerref09_Does.B7 : List Nat := [0, 0, 3, 7, 15, 0, 0, 96, 224, 480, 992, 2016, 0, 0, 12288, 28672, 61440, 131071, 262143]
theorem spinnakerref09_Does.tab7 : rtab .any (opsOf Tryd.f8 7) = spinnakerref09_Does.T7 := by kernel_rfl
theorem spinnakerref09_Does.bits7 : waitsOk spinnakerref09_Does.T7.2 spinnakerref09_Does.B7 = true := by kernel_rfl
/-- An array of the call's own, as a row that is full. -/
theorem ari_row {T : TypeId} {w : World} {base g : Nat} {xs : List Int} (hb : base ≤ g) (hl : xs.length ≤ 1000) (h : w.heap[g]? = some (.cells (nums .i64 xs).toArray T (0, 0))) :
  Kd.R (Kd.int .i64) T w base (fun _ => True) (.slice (some ⟨g, 0, none⟩) xs.length xs.length) xs := by
 refine Kd.R_of_own ⟨by simp [encs], .inr ⟨g, xs.length, (nums .i64 xs).toArray, rfl, hb, h, Nat.le_refl _, by simp only [maxLen]; omega, by simp [nums], ?_⟩⟩ (fun _ _ => trivial)
 have e : (nums .i64 xs).length = xs.length := nums_length _ _
 show (nums .i64 xs).take (xs.length * 1) = encs (Value.int .i64) xs
 rw [Nat.mul_one, ← e, List.take_length]
 rfl
theorem ari_make {P : Program} {ops : Array Oper} {rest : List Oper} {o : Oper} {a : Act} {Q : Exit → Act → World → Prop} {W : World} (hgd : o.guard = none) {N : Tmp} (_hd : o.dst = some N) (T : TypeId) (n : Nat) (hn : n ≤ 1000)
  (hrun : (execOp a.eval o).run P W = .ok (.value (.pointer (some ⟨W.heap.size, 0, none⟩))) (W.alloc (.cells (nums .i64 (List.replicate n 0)).toArray T (0, 0))))
  (h : ∀ g w1, Kd.R (Kd.int .i64) T w1 W.heap.size (fun _ => True) (.slice (some ⟨g, 0, none⟩) n n) (List.replicate n 0) → Below W.heap.size W w1 → W.grownBy w1 none → W.heap.size ≤ g →
   wpList P ops Q rest (a.put o.dst (.pointer (some ⟨g, 0, none⟩))) w1) : wpList P ops Q (o :: rest) a W := by
 have hR := ari_row (T := T) (w := W.alloc (.cells (nums .i64 (List.replicate n 0)).toArray T (0, 0))) (base := W.heap.size) (Nat.le_refl _) (by rw [List.length_replicate]; exact hn) (blk_new W _)
 rw [List.length_replicate] at hR
 have hb := below_alloc (Below.refl W.heap.size W) (.cells (nums .i64 (List.replicate n 0)).toArray T (0, 0))
 exact Kd.event_run hgd hrun (h _ _ hR hb (grown_of_below hb none) (Nat.le_refl _))
theorem ari_lit {P : Program} {ops : Array Oper} {rest : List Oper} {o o2 : Oper} {a : Act} {Q : Exit → Act → World → Prop} {W : World} (hgd : o.guard = none) {N : Tmp} (_hd : o.dst = some N) (hgd2 : o2.guard = none) (hn2 : o2.dst = none) (T : TypeId) (x : Operand)
  (ho2 : o2.op = .store T (.tmp N) x) (xs : List Int) (n : Nat) (hln : xs.length = n) (hl : n ≤ 1000)
  (hrun : (execOp a.eval o).run P W = .ok (.value (.pointer (some ⟨W.heap.size, 0, none⟩))) (W.alloc (.cells (nums .i64 (List.replicate xs.length 0)).toArray T (0, 0))))
  (hev : ∀ g, (a.put o.dst (.pointer (some ⟨g, 0, none⟩))).eval (.tmp N) = .pointer (some ⟨g, 0, none⟩)) (hx : ∀ g, (a.put o.dst (.pointer (some ⟨g, 0, none⟩))).eval x = .agg (nums .i64 xs).toArray)
  (ht : (P.info? T).map (·.size) = some xs.length) (hc : (Value.agg (nums .i64 xs).toArray).cells.toList = (nums .i64 xs).toArray.toList)
  (h : ∀ g w1, Kd.R (Kd.int .i64) T w1 W.heap.size (fun _ => True) (.slice (some ⟨g, 0, none⟩) n n) xs → Below W.heap.size W w1 → W.grownBy w1 none → W.heap.size ≤ g →
   wpList P ops Q rest (a.put o.dst (.pointer (some ⟨g, 0, none⟩))) w1) : wpList P ops Q (o :: o2 :: rest) a W := by
 subst hln
 have hb := below_alloc (Below.refl W.heap.size W) (.cells (nums .i64 (List.replicate xs.length 0)).toArray T (0, 0))
 refine Kd.event_run hgd hrun (fill_event hgd2 ho2 hn2 (g := W.heap.size) (hev _) (hx _) (blk_new W _) (by simp [nums]) ?_ hc (by rw [ht]; simp [nums]) fun w1 h1 h2 => ?_)
 ·intro q hq
  simp only [nums, List.mem_map] at hq
  obtain ⟨z, _, rfl⟩ := hq
  rfl
 ·have h3 := hb.trans h2
  exact h _ _ (ari_row (Nat.le_refl _) hl h1) h3 (grown_of_below h3 none) (Nat.le_refl _)
theorem ari_cell {T : TypeId} {w : World} {base g n : Nat} {ok : Nat → Prop} {xs : List Int} (h : Kd.R (Kd.int .i64) T w base ok (.slice (some ⟨g, 0, none⟩) n n) xs) (i : Int) (h0 : 0 ≤ i) (h1 : i < (xs.length : Int)) :
  w.cell? ⟨g, i.toNat, none⟩ = some (.int .i64 (rd xs i)) ∧ w.frozen? ⟨g, i.toNat, none⟩ = false ∧ (i < (n : Int)) = True := by
 have hl := (Kd.R_reads' h).1
 obtain ⟨a, b⟩ := Kd.R_celln 0 h i h0 (by omega)
 exact ⟨a, b, eq_true (by omega)⟩
theorem ari_base {T : TypeId} {w : World} {base g n : Nat} {ok : Nat → Prop} {xs : List Int} (h : Kd.R (Kd.int .i64) T w base ok (.slice (some ⟨g, 0, none⟩) n n) xs) (hn : 0 < xs.length) : base ≤ g ∧ ∃ cells, w.heap[g]? = some (.cells cells T (0, 0)) := by
 obtain ⟨g', cap, e, hb, _, hc⟩ := Kd.R_form h hn
 injection e with e
 injection e with e
 injection e with e
 subst e
 exact ⟨hb, hc⟩
/-- An array in a block of its own: what is in memory. -/
theorem ari_full {T : TypeId} {w : World} {base g n : Nat} {ok : Nat → Prop} {xs : List Int} (h : Kd.R (Kd.int .i64) T w base ok (.slice (some ⟨g, 0, none⟩) n n) xs) (hn : 0 < n) :
  base ≤ g ∧ g < w.heap.size ∧ w.heap[g]? = some (.cells (nums .i64 xs).toArray T (0, 0)) ∧ xs.length = n := by
 have hl := (Kd.R_reads' h).1
 obtain ⟨g', cap, e, hb, hlt, _⟩ := Kd.R_form h (by omega)
 injection e with e _ _
 injection e with e
 injection e with e
 subst e
 have hcell : ∀ i : Nat, i < n → w.cell? ⟨g, i, none⟩ = some (.int .i64 (rd xs i)) := fun i hi => by
  have := (Kd.R_celln 0 h (i : Int) (by omega) (by omega)).1
  rwa [Int.toNat_natCast] at this
 obtain ⟨_, inner, ⟨_, h2⟩, _⟩ := h
 rcases h2 with ⟨e, _⟩ | ⟨g', cap, cur, e, _, hg, _, _, hsz, _⟩
 ·cases e
 ·injection e with e _ ec
  injection e with e
  injection e with e
  subst e
  subst ec
  refine ⟨hb, hlt, ?_, hl.symm⟩
  rw [hg]
  have hs : cur.size = n := by rw [hsz]; exact Nat.mul_one n
  have : cur = (nums .i64 xs).toArray := by
   apply Array.ext_getElem?
   intro i
   by_cases hi : i < n
   ·have h3 := hcell i hi
    simp only [World.cell?, hg] at h3
    refine Eq.trans h3 ?_
    simp only [nums, List.getElem?_toArray, List.getElem?_map]
    rw [List.getElem?_eq_getElem (by omega)]
    simp only [Option.map_some, rd, Int.toNat_natCast]
    rw [List.getD_eq_getElem?_getD, List.getElem?_eq_getElem (by omega)]
    rfl
   ·rw [Array.getElem?_eq_none (by omega), Array.getElem?_eq_none (by simp [nums]; omega)]
  rw [this]
/-- An array is laid into a block of its own (a parameter's, an answer's). -/
theorem ari_new {P : Program} {ops : Array Oper} {rest : List Oper} {o : Oper} {a : Act} {Q : Exit → Act → World → Prop} {W : World} (hgd : o.guard = none) {N : Tmp} (_hd : o.dst = some N) (T : TypeId) (xs : List Int) (n : Nat) (hn : xs.length = n) (hl : n ≤ 1000)
  (hrun : (execOp a.eval o).run P W = .ok (.value (.pointer (some ⟨W.heap.size, 0, none⟩))) (W.alloc (.cells (nums .i64 xs).toArray T (0, 0))))
  (h : ∀ g w1, Kd.R (Kd.int .i64) T w1 W.heap.size (fun _ => True) (.slice (some ⟨g, 0, none⟩) n n) xs → Below W.heap.size W w1 → g = W.heap.size →
   wpList P ops Q rest (a.put o.dst (.pointer (some ⟨g, 0, none⟩))) w1) : wpList P ops Q (o :: rest) a W := by
 have hR := ari_row (T := T) (w := W.alloc (.cells (nums .i64 xs).toArray T (0, 0))) (base := W.heap.size) (Nat.le_refl _) (by omega) (blk_new W _)
 rw [hn] at hR
 have hb := below_alloc (Below.refl W.heap.size W) (.cells (nums .i64 xs).toArray T (0, 0))
 exact Kd.event_run hgd hrun (h _ _ hR hb rfl)
/-- The whole array is read. -/
theorem ari_load {P : Program} {ops : Array Oper} {rest : List Oper} {o : Oper} {a : Act} {Q : Exit → Act → World → Prop} {W : World} (hgd : o.guard = none) {T : TypeId} {p : Tmp} (ho : o.op = .load T (.tmp p)) {g n base : Nat} {ok : Nat → Prop} {xs : List Int}
  (hp : a.eval (.tmp p) = .pointer (some ⟨g, 0, none⟩)) (hR : Kd.R (Kd.int .i64) T W base ok (.slice (some ⟨g, 0, none⟩) n n) xs) (hn : 0 < n) {e : TypeId} {m : Nat} (hu : P.underlying T = some (.array m e)) (hi : (P.info? T).map (·.size) = some n)
  (h : wpList P ops Q rest (a.put o.dst (.agg (nums .i64 xs).toArray)) W) : wpList P ops Q (o :: rest) a W := by
 obtain ⟨_, _, hg, hl⟩ := ari_full hR hn
 exact wpList_load_row hgd T (.tmp p) ho g hp T _ (0, 0) _ hg hu rfl (by rw [hi]; simp [nums, hl]) h
/-- A block holds so many cells. -/
def Has (g : Nat) (T : TypeId) (n : Nat) (w : World) : Prop := ∃ cs : Array Value, w.heap[g]? = some (.cells cs T (0, 0)) ∧ cs.size = n
theorem has_of {T : TypeId} {w : World} {base g n : Nat} {ok : Nat → Prop} {xs : List Int} (h : Kd.R (Kd.int .i64) T w base ok (.slice (some ⟨g, 0, none⟩) n n) xs) (hn : 0 < n) : Has g T n w ∧ g < w.heap.size := by
 obtain ⟨_, hlt, hg, hl⟩ := ari_full h hn
 exact ⟨⟨_, hg, by simp [nums, hl]⟩, hlt⟩
theorem has_lt {g : Nat} {T : TypeId} {n : Nat} {w : World} (h : Has g T n w) : g < w.heap.size := by
 obtain ⟨cs, hg, _⟩ := h
 exact Decidable.byContradiction fun c => by rw [Array.getElem?_eq_none (by omega)] at hg; cases hg
theorem has_drew {g : Nat} {T : TypeId} {n : Nat} {w : World} (h : Has g T n w) : Has g T n w.drew := h
theorem has_drewN {g : Nat} {T : TypeId} {n m : Nat} {w : World} (h : Has g T n w) : Has g T n (w.drewN m) := h
theorem has_below {g : Nat} {T : TypeId} {n : Nat} {w w1 : World} (h : Has g T n w) (hb : Below w.heap.size w w1) : Has g T n w1 := by
 have hlt := has_lt h
 obtain ⟨cs, hg, hs⟩ := h
 exact ⟨cs, by rw [hb.block g hlt, hg], hs⟩
theorem has_set {g g2 i : Nat} {T : TypeId} {n : Nat} {w : World} {v : Value} (h : Has g T n w) (hne : g ≠ g2) : Has g T n (w.setCell ⟨g2, i, none⟩ v) := by
 obtain ⟨cs, hg, hs⟩ := h
 exact ⟨cs, by rw [Below.heap_setCell _ _ _ _ hne, hg], hs⟩
/-- The answer's block is filled. -/
theorem has_fill {P : Program} {ops : Array Oper} {rest : List Oper} {o : Oper} {a : Act} {Q : Exit → Act → World → Prop} {W : World} (hgd : o.guard = none) {T : TypeId} {p : Tmp} {v : Operand} (ho : o.op = .store T (.tmp p) v) (hN : o.dst = none)
  {g n base : Nat} {xs : List Int} (hl : xs.length = n) (hp : a.eval (.tmp p) = .pointer (some ⟨g, 0, none⟩)) (hv : a.eval v = .agg (nums .i64 xs).toArray) (hH : Has g T n W) (hn : n ≤ 1000) (hb : base ≤ g) (ht : (P.info? T).map (·.size) = some n)
  (h : ∀ w1, Kd.R (Kd.int .i64) T w1 base (fun _ => True) (.slice (some ⟨g, 0, none⟩) n n) xs → Below g W w1 → wpList P ops Q rest a w1) : wpList P ops Q (o :: rest) a W := by
 obtain ⟨cs, hg, hs⟩ := hH
 refine fill_event hgd ho hN hp hv hg (by simp [nums, hs, hl]) ?_ rfl (by rw [ht]; simp [nums, hl]) fun w1 h1 h2 => ?_
 ·intro q hq
  simp only [nums, List.mem_map] at hq
  obtain ⟨z, _, rfl⟩ := hq
  rfl
 ·have := ari_row (T := T) (w := w1) (base := base) hb (by omega) h1
  rw [hl] at this
  exact h w1 this h2
/-- Two arrays are compared. -/
theorem all_range_ints : ∀ (xs ys : List Int), xs.length = ys.length → ((List.range xs.length).all fun i => xs.getD i 0 == ys.getD i 0) = (xs == ys)
 | [], [], _ => rfl
 | x :: xs, y :: ys, h => by
  have ih := all_range_ints xs ys (by simpa using h)
  rw [List.length_cons, List.range_succ_eq_map, List.all_cons, List.all_map]
  simp only [List.getD_cons_zero, Function.comp_def, List.getD_cons_succ, ih]
  simp [List.cons_beq_cons]
 | [], _ :: _, h => by simp at h
 | _ :: _, [], h => by simp at h
theorem run_equalIn_ints {P : Program} (w : World) (d : Nat) (t e : TypeId) (n : Nat) (ht : P.underlying t = some (.array n e)) (he : P.underlying e = some (.int .i64)) (hsz : ∀ w, (sizeOf e).run P w = .ok 1 w)
  (xs ys : List Int) (hx : xs.length = n) (hy : ys.length = n) :
  (Op.equalIn (d + 2) t (.agg (nums .i64 xs).toArray) (.agg (nums .i64 ys).toArray)).run P w = .ok (xs == ys) w := by
 rw [← all_range_ints xs ys (hx.trans hy.symm), hx, List.range_eq_range', Op.equalIn]
 simp only [Sem.run_bind, run_underlying ht, Result.andThen_ok, hsz, Std.Legacy.Range.forIn_eq_forIn_range', Std.Legacy.Range.size, Nat.sub_zero, Nat.add_sub_cancel, Nat.div_one]
 have hl : ∀ i ∈ List.range' 0 n 1, i < n := fun i hi => by simpa using (List.mem_range'_1.1 hi).2
 generalize List.range' 0 n 1 = l at hl ⊢
 induction l with
 | nil => simp
 | cons i l ih =>
  have hi : i < n := hl i (by simp)
  have px : (part e (nums .i64 xs).toArray (i * 1)).run P w = .ok (.int .i64 (xs.getD i 0)) w := by
   simp [part, isAgg, run_underlying he, nums, List.getD, List.getElem?_eq_getElem (show i < xs.length by omega)]
  have py : (part e (nums .i64 ys).toArray (i * 1)).run P w = .ok (.int .i64 (ys.getD i 0)) w := by
   simp [part, isAgg, run_underlying he, nums, List.getD, List.getElem?_eq_getElem (show i < ys.length by omega)]
  have pe : (Op.equalIn (d + 1) e (.int .i64 (xs.getD i 0)) (.int .i64 (ys.getD i 0))).run P w = .ok (xs.getD i 0 == ys.getD i 0) w := run_equalIn_int w d e .i64 .i64 _ _ he
  simp only [List.forIn_cons, Sem.run_bind, px, py, pe, Result.andThen_ok, List.all_cons]
  cases hb : (xs.getD i 0 == ys.getD i 0)
  ·simp
  ·simp only [Bool.not_true, Bool.false_eq_true, if_false, Sem.run_pure, Result.andThen_ok, Bool.true_and]
   exact ih fun j hj => hl j (by simp [hj])
theorem ari_eq {P : Program} {ops : Array Oper} {rest : List Oper} {o : Oper} {a : Act} {Q : Exit → Act → World → Prop} {W : World} (hgd : o.guard = none) {T E R : TypeId} {x y : Operand} (ho : o.op = .binOp .eql T x y R) {xs ys : List Int} {n : Nat}
  (hx : a.eval x = .agg (nums .i64 xs).toArray) (hy : a.eval y = .agg (nums .i64 ys).toArray) (hlx : xs.length = n) (hly : ys.length = n) (hm : P.eqGuardType P.depth T = false) (ht : P.underlying T = some (.array n E)) (he : P.underlying E = some (.int .i64))
  (hi : (P.info? E).map (·.size) = some 1) {r : Bool} (hr : (xs == ys) = r) (h : wpList P ops Q rest (a.put o.dst (.bool r)) W) : wpList P ops Q (o :: rest) a W := by
 have hsz : ∀ w, (sizeOf E).run P w = .ok 1 w := fun w => by
  cases hq : P.info? E with
  | none => simp [hq] at hi
  | some i =>
   have hs : i.size = 1 := by simpa [hq] using hi
   simp [sizeOf, typeInfo, hq, hs]
 refine Kd.event_run hgd (v := .bool r) (w1 := W) ?_ h
 unfold execOp
 simp only [ho, hx, hy, Sem.run_bind, run_eqGuard_agg W .eql T x y _ _ hm, Result.andThen_ok, run_eql_struct, run_equalIn_ints W 9998 T E n ht he hsz xs ys hlx hly, hr, Sem.run_pure]
/-- Another block is written. -/
theorem ari_other {T : TypeId} {w w1 : World} {base g g2 n : Nat} {ok : Nat → Prop} {xs : List Int} (h : Kd.R (Kd.int .i64) T w base ok (.slice (some ⟨g, 0, none⟩) n n) xs) (hg : w.grownBy w1 (some g2)) (hne : g ≠ g2) (h0 : 0 < n) (h1 : n ≤ 1000) :
  Kd.R (Kd.int .i64) T w1 base (fun _ => True) (.slice (some ⟨g, 0, none⟩) n n) xs := by
 obtain ⟨hb, hlt, hh, hl⟩ := ari_full h h0
 have := ari_row (T := T) (w := w1) (base := base) hb (by omega) ((hg.block g hlt (by intro e; injection e with e; exact hne e)).trans hh)
 rwa [hl] at this
set_option maxHeartbeats 8000000 in
set_option maxRecDepth 100000 in
theorem spinnakerref09_Does.calls (k : Nat) (A0 : Option Addr) (c0 : Nat) (l0 : List (S27)) (l1 : List Int) (r : List Int) (w : World) (hr0 : Kd.C k27 w A0 l0.length l0) (hc0 : l0.length ≤ c0) (hn1 : l1.length = 32) (h : spinnakerref09_Does.f k l0 l1 = some r) :
  Calls Tryd.prog 8 #[.slice A0 l0.length c0, .agg (nums .i64 l1).toArray] w fun e w' => e = .returned (.agg (nums .i64 r).toArray) ∧ r.length = 32 ∧ Below w.heap.size w w' := by
 have HR0 := Aside0.mk hr0
 have HC0 := Aside0.mk hc0
 clear hr0 hc0
 have HN1 := Aside0.mk hn1
 clear hn1
 have hu22 := Tryd.underlying22
 have HB := Aside0.mk (Below.refl w.heap.size w)
 have H : (if ([] : List Int).length + l1.length < 17592186044416 then (spinnakerref09_Does.l0 k l0 (([] : List Int) ++ l1) 0) else (none)) = some r := h
 clear h
 by_cases c3 : ([] : List Int).length + l1.length < 17592186044416
 ·rw [if_pos c3] at H
  have LMc3 := Aside0.mk c3
  clear c3
  obtain ⟨y307, hy307⟩ : ∃ y_ : List Int, y_ = (([] : List Int) ++ l1) := ⟨_, rfl⟩
  replace H : (spinnakerref09_Does.l0 k l0 y307 0) = some r := by first | (rw [hy307]; with_reducible exact H) | (have H2_ := (Option.bind_some _ _).symm.trans H; rw [hy307]; with_reducible exact H2_) | (have H2_ := (Option.bind_some _ _).symm.trans H; with_reducible exact H2_) | with_reducible exact H | (rw [hy307]; exact H) | exact H
  have Ny307 := Aside0.mk hy307
  clear hy307
  have H' := Aside0.mk H
  clear H
  go_enter Tryd.func8, Tryd.ntmps8
  go_wp2_with (first | ((with_reducible refine gate_dst (N := 3) rfl ?_); refine ari_new ?hg (N := 3) ?hd 22 y307 32 (by rw [Ny307.out, List.nil_append]; exact HN1.out) (by decide) ?hr ?_; (case hd => rfl); (case hg => rfl); (case hr => rw [Ny307.out, List.nil_append]; first | (go_simp; done) | (go_simp; rfl)); intro ga308 w4 ho hb hg; have n0_ := Aside0.mk (below_step bl hb); have n1_ := Aside0.mk ho; clear HB; have HB := n0_; have HO309 := n1_; clear n0_ n1_; clear ho hb hg) | ((with_reducible refine gate_dst (N := 4) rfl ?_); refine ari_new ?hg (N := 4) ?hd 22 (List.replicate 32 0) 32 rfl (by decide) ?hr ?_; (case hd => rfl); (case hg => rfl); (case hr => first | (go_simp; done) | (go_simp; rfl)); intro gans wns ho hb hg; have HNE := Aside0.mk (show gans ≠ ga308 by have := (ari_full HO309.out (by decide)).2.1; omega); have HGE := Aside0.mk (show w.heap.size ≤ gans by have := HB.out.size; omega); have n0_ := Aside0.mk (below_step bl hb); have n1_ := Aside0.mk (Kd.R_below HO309.out hb); have HW := Aside0.mk (has_of ho (by decide)).1; clear HB HO309; have HB := n0_; have HO309 := n1_; clear n0_ n1_; clear ho hb hg))
  go_loopg [5] k (fun kq v5 w' => ∃ (x3_1 : List Int) (x5_1 : Int), v5 = .int .i64 x5_1 ∧ Aside0 (spinnakerref09_Does.l0 kq l0 x3_1 x5_1 = some r) ∧ Aside0 (kq ≤ k) ∧ Aside0 (Kd.R (Kd.int .i64) 22 w' w.heap.size (fun _ => True) (.slice (some ⟨ga308, 0, none⟩) 32 32) x3_1) ∧ Aside0 (Has gans 22 32 w') ∧ Aside0 (Below w.heap.size w w'))
  case atStart => exact ⟨(y307), (0), fj, H', ⟨Nat.le_refl _⟩, ⟨by (with_reducible repeat (first | apply Kd.R_alloc | apply Kd.R_drewN | apply Kd.R_drew)); exact HO309.out⟩, ⟨(by (with_reducible repeat (first | exact HW.out | apply has_drewN | apply has_drew)))⟩, ⟨bl⟩⟩
  case round =>
   clear H'
   try clear c1
   try clear p2
   try clear c3
   obtain ⟨x3_1, x5_1, rfl, HA, HK1, HO_3, HW, HB⟩ := hrel
   cases gk with
   | zero => exact absurd HA.out (by simp [spinnakerref09_Does.l0])
   | succ k1 =>
    have H := HA.out
    clear HA
    simp only [spinnakerref09_Does.l0] at H
    by_cases c5 : x5_1 < (l0.length : Int)
    ·rw [if_pos c5] at H
     have c5b0 := decide_eq_true c5
     clear c5
     by_cases c6 : 0 ≤ x5_1
     ·rw [if_pos c6] at H
      have c6b0 := decide_eq_true c6
      clear c6
      by_cases c7 : ((rd_T27 l0 x5_1).f0) = 1
      ·rw [if_pos c7] at H
       obtain ⟨c7b0, c7b1⟩ := eqs c7
       clear c7
       by_cases c8 : ((rd_T27 l0 x5_1).f1) = 0
       ·rw [if_pos c8] at H
        obtain ⟨c8b0, c8b1⟩ := eqs c8
        clear c8
        have H' := Aside0.mk H
        clear H
        have p310 : 0 ≤ (x5_1 : Int) := of_decide_eq_true (by first | (with_reducible assumption) | assumption)
        have q310 : x5_1 < (l0.length : Int) := of_decide_eq_true (by first | (with_reducible assumption) | assumption)
        obtain ⟨ad310, e310, hx310_0, hx310_1, hx310_2, hx310_3, hx310_4, hx310_5, hx310_6⟩ := at_T27 HR0.out x5_1 p310 q310
        cases e310
        replace hx310_0 := (HB.out.cell (World.block_lt_of_cell? w _ hx310_0)).trans hx310_0
        replace hx310_1 := (HB.out.cell (World.block_lt_of_cell? w _ hx310_1)).trans hx310_1
        replace hx310_2 := (HB.out.cell (World.block_lt_of_cell? w _ hx310_2)).trans hx310_2
        replace hx310_3 := (HB.out.cell (World.block_lt_of_cell? w _ hx310_3)).trans hx310_3
        replace hx310_4 := (HB.out.cell (World.block_lt_of_cell? w _ hx310_4)).trans hx310_4
        replace hx310_5 := (HB.out.cell (World.block_lt_of_cell? w _ hx310_5)).trans hx310_5
        replace hx310_6 := (HB.out.cell (World.block_lt_of_cell? w _ hx310_6)).trans hx310_6
        replace p310 := eq_true p310
        replace q310 := eq_true q310
        have p311 : 0 ≤ (x5_1 : Int) := of_decide_eq_true (by first | (with_reducible assumption) | assumption)
        have q311 : x5_1 < (l0.length : Int) := of_decide_eq_true (by first | (with_reducible assumption) | assumption)
        obtain ⟨ad311, e311, hx311_0, hx311_1, hx311_2, hx311_3, hx311_4, hx311_5, hx311_6⟩ := at_T27 HR0.out x5_1 p311 q311
        obtain rfl : ad310 = ad311 := (by injection e311)
        replace hx311_0 := (HB.out.cell (World.block_lt_of_cell? w _ hx311_0)).trans hx311_0
        replace hx311_1 := (HB.out.cell (World.block_lt_of_cell? w _ hx311_1)).trans hx311_1
        replace hx311_2 := (HB.out.cell (World.block_lt_of_cell? w _ hx311_2)).trans hx311_2
        replace hx311_3 := (HB.out.cell (World.block_lt_of_cell? w _ hx311_3)).trans hx311_3
        replace hx311_4 := (HB.out.cell (World.block_lt_of_cell? w _ hx311_4)).trans hx311_4
        replace hx311_5 := (HB.out.cell (World.block_lt_of_cell? w _ hx311_5)).trans hx311_5
        replace hx311_6 := (HB.out.cell (World.block_lt_of_cell? w _ hx311_6)).trans hx311_6
        replace p311 := eq_true p311
        replace q311 := eq_true q311
        have p312 : 0 ≤ (x5_1 : Int) := of_decide_eq_true (by first | (with_reducible assumption) | assumption)
        have q312 : x5_1 < (l0.length : Int) := of_decide_eq_true (by first | (with_reducible assumption) | assumption)
        obtain ⟨ad312, e312, hx312_0, hx312_1, hx312_2, hx312_3, hx312_4, hx312_5, hx312_6⟩ := at_T27 HR0.out x5_1 p312 q312
        obtain rfl : ad310 = ad312 := (by injection e312)
        replace hx312_0 := (HB.out.cell (World.block_lt_of_cell? w _ hx312_0)).trans hx312_0
        replace hx312_1 := (HB.out.cell (World.block_lt_of_cell? w _ hx312_1)).trans hx312_1
        replace hx312_2 := (HB.out.cell (World.block_lt_of_cell? w _ hx312_2)).trans hx312_2
        replace hx312_3 := (HB.out.cell (World.block_lt_of_cell? w _ hx312_3)).trans hx312_3
        replace hx312_4 := (HB.out.cell (World.block_lt_of_cell? w _ hx312_4)).trans hx312_4
        replace hx312_5 := (HB.out.cell (World.block_lt_of_cell? w _ hx312_5)).trans hx312_5
        replace hx312_6 := (HB.out.cell (World.block_lt_of_cell? w _ hx312_6)).trans hx312_6
        replace p312 := eq_true p312
        replace q312 := eq_true q312
        go_wp2
        go_roundg k1
        case measure => have := HK1.out; omega
        case rel => exact ⟨(x3_1), (wrap64 (x5_1 + 1)), fj, H', ⟨by have := HK1.out; omega⟩, ⟨by (with_reducible repeat (first | apply Kd.R_alloc | apply Kd.R_drewN | apply Kd.R_drew)); exact HO_3.out⟩, ⟨(by (with_reducible repeat (first | exact HW.out | apply has_drewN | apply has_drew)))⟩, ⟨bl⟩⟩
       ·rw [if_neg c8] at H
        have c8b0 : (((rd_T27 l0 x5_1).f1) == 0) = false := beq_eq_false_iff_ne.mpr c8
        have c8b1 : (((rd_T27 l0 x5_1).f1) != 0) = true := bne_iff_ne.mpr c8
        by_cases c9 : 0 ≤ ((rd_T27 l0 x5_1).f1)
        ·rw [if_pos c9] at H
         have c9b0 := decide_eq_true c9
         clear c9
         by_cases c10 : ((rd_T27 l0 x5_1).f1) < (x3_1.length : Int)
         ·rw [if_pos c10] at H
          have c10b0 := decide_eq_true c10
          clear c10
          obtain ⟨y314, hy314⟩ : ∃ y_ : List Int, y_ = (x3_1.set (((rd_T27 l0 x5_1).f1) : Int).toNat (wrap64 (4096 * ((rd_T27 l0 x5_1).f4)))) := ⟨_, rfl⟩
          replace H : (spinnakerref09_Does.l0 k1 l0 y314 (wrap64 (x5_1 + 1))) = some r := by first | (rw [hy314]; with_reducible exact H) | (have H2_ := (Option.bind_some _ _).symm.trans H; rw [hy314]; with_reducible exact H2_) | (have H2_ := (Option.bind_some _ _).symm.trans H; with_reducible exact H2_) | with_reducible exact H | (rw [hy314]; exact H) | exact H
          have Ny314 := Aside0.mk hy314
          clear hy314
          have H' := Aside0.mk H
          clear H
          have p310 : 0 ≤ (x5_1 : Int) := of_decide_eq_true (by first | (with_reducible assumption) | assumption)
          have q310 : x5_1 < (l0.length : Int) := of_decide_eq_true (by first | (with_reducible assumption) | assumption)
          obtain ⟨ad310, e310, hx310_0, hx310_1, hx310_2, hx310_3, hx310_4, hx310_5, hx310_6⟩ := at_T27 HR0.out x5_1 p310 q310
          cases e310
          replace hx310_0 := (HB.out.cell (World.block_lt_of_cell? w _ hx310_0)).trans hx310_0
          replace hx310_1 := (HB.out.cell (World.block_lt_of_cell? w _ hx310_1)).trans hx310_1
          replace hx310_2 := (HB.out.cell (World.block_lt_of_cell? w _ hx310_2)).trans hx310_2
          replace hx310_3 := (HB.out.cell (World.block_lt_of_cell? w _ hx310_3)).trans hx310_3
          replace hx310_4 := (HB.out.cell (World.block_lt_of_cell? w _ hx310_4)).trans hx310_4
          replace hx310_5 := (HB.out.cell (World.block_lt_of_cell? w _ hx310_5)).trans hx310_5
          replace hx310_6 := (HB.out.cell (World.block_lt_of_cell? w _ hx310_6)).trans hx310_6
          replace p310 := eq_true p310
          replace q310 := eq_true q310
          have p311 : 0 ≤ (x5_1 : Int) := of_decide_eq_true (by first | (with_reducible assumption) | assumption)
          have q311 : x5_1 < (l0.length : Int) := of_decide_eq_true (by first | (with_reducible assumption) | assumption)
          obtain ⟨ad311, e311, hx311_0, hx311_1, hx311_2, hx311_3, hx311_4, hx311_5, hx311_6⟩ := at_T27 HR0.out x5_1 p311 q311
          obtain rfl : ad310 = ad311 := (by injection e311)
          replace hx311_0 := (HB.out.cell (World.block_lt_of_cell? w _ hx311_0)).trans hx311_0
          replace hx311_1 := (HB.out.cell (World.block_lt_of_cell? w _ hx311_1)).trans hx311_1
          replace hx311_2 := (HB.out.cell (World.block_lt_of_cell? w _ hx311_2)).trans hx311_2
          replace hx311_3 := (HB.out.cell (World.block_lt_of_cell? w _ hx311_3)).trans hx311_3
          replace hx311_4 := (HB.out.cell (World.block_lt_of_cell? w _ hx311_4)).trans hx311_4
          replace hx311_5 := (HB.out.cell (World.block_lt_of_cell? w _ hx311_5)).trans hx311_5
          replace hx311_6 := (HB.out.cell (World.block_lt_of_cell? w _ hx311_6)).trans hx311_6
          replace p311 := eq_true p311
          replace q311 := eq_true q311
          have p312 : 0 ≤ (x5_1 : Int) := of_decide_eq_true (by first | (with_reducible assumption) | assumption)
          have q312 : x5_1 < (l0.length : Int) := of_decide_eq_true (by first | (with_reducible assumption) | assumption)
          obtain ⟨ad312, e312, hx312_0, hx312_1, hx312_2, hx312_3, hx312_4, hx312_5, hx312_6⟩ := at_T27 HR0.out x5_1 p312 q312
          obtain rfl : ad310 = ad312 := (by injection e312)
          replace hx312_0 := (HB.out.cell (World.block_lt_of_cell? w _ hx312_0)).trans hx312_0
          replace hx312_1 := (HB.out.cell (World.block_lt_of_cell? w _ hx312_1)).trans hx312_1
          replace hx312_2 := (HB.out.cell (World.block_lt_of_cell? w _ hx312_2)).trans hx312_2
          replace hx312_3 := (HB.out.cell (World.block_lt_of_cell? w _ hx312_3)).trans hx312_3
          replace hx312_4 := (HB.out.cell (World.block_lt_of_cell? w _ hx312_4)).trans hx312_4
          replace hx312_5 := (HB.out.cell (World.block_lt_of_cell? w _ hx312_5)).trans hx312_5
          replace hx312_6 := (HB.out.cell (World.block_lt_of_cell? w _ hx312_6)).trans hx312_6
          replace p312 := eq_true p312
          replace q312 := eq_true q312
          have p313 : 0 ≤ (x5_1 : Int) := of_decide_eq_true (by first | (with_reducible assumption) | assumption)
          have q313 : x5_1 < (l0.length : Int) := of_decide_eq_true (by first | (with_reducible assumption) | assumption)
          obtain ⟨ad313, e313, hx313_0, hx313_1, hx313_2, hx313_3, hx313_4, hx313_5, hx313_6⟩ := at_T27 HR0.out x5_1 p313 q313
          obtain rfl : ad310 = ad313 := (by injection e313)
          replace hx313_0 := (HB.out.cell (World.block_lt_of_cell? w _ hx313_0)).trans hx313_0
          replace hx313_1 := (HB.out.cell (World.block_lt_of_cell? w _ hx313_1)).trans hx313_1
          replace hx313_2 := (HB.out.cell (World.block_lt_of_cell? w _ hx313_2)).trans hx313_2
          replace hx313_3 := (HB.out.cell (World.block_lt_of_cell? w _ hx313_3)).trans hx313_3
          replace hx313_4 := (HB.out.cell (World.block_lt_of_cell? w _ hx313_4)).trans hx313_4
          replace hx313_5 := (HB.out.cell (World.block_lt_of_cell? w _ hx313_5)).trans hx313_5
          replace hx313_6 := (HB.out.cell (World.block_lt_of_cell? w _ hx313_6)).trans hx313_6
          replace p313 := eq_true p313
          replace q313 := eq_true q313
          have p11 : 0 ≤ (((rd_T27 l0 x5_1).f1) : Int) := of_decide_eq_true (by first | (with_reducible assumption) | assumption)
          have q11 : (((rd_T27 l0 x5_1).f1) : Int) < ((x3_1.length : Int) : Int) := of_decide_eq_true (by first | (with_reducible assumption) | assumption)
          obtain ⟨gb11, cl11, HG11⟩ := ari_base HO_3.out (by omega)
          have GB11 := Aside0.mk gb11
          have GG11 := Aside0.mk HG11
          clear gb11 HG11
          obtain ⟨hx11_0, hf11_0, qa11⟩ := ari_cell HO_3.out (((rd_T27 l0 x5_1).f1) : Int) p11 q11
          rw [show ((32 : Nat) : Int) = 32 from rfl] at qa11
          replace p11 := eq_true p11
          replace q11 := eq_true q11
          have HP12 := Kd.R_putg HO_3.out (((rd_T27 l0 x5_1).f1) : Int) (wrap64 (4096 * ((rd_T27 l0 x5_1).f4)))
          go_wp2_with (first | ((with_reducible refine gate_store (t := 3) (p := 55) rfl ?_); refine store_event (t := 3) (p := 55) (v := ?vo_w13) (w1 := (wr.setCell ⟨ga308, (((rd_T27 l0 x5_1).f1) : Int).toNat, none⟩ (.int .i64 (wrap64 (4096 * ((rd_T27 l0 x5_1).f4)))))) ?hg ?ho ?hn ?hr ?_; (case ho => rfl); (case hg => rfl); (case hn => rfl); (case hr => first | (go_simp; done) | (go_simp; rfl)); intro w13 hw; have nw_ := Aside0.mk (show Has gans 22 32 w13 by rw [hw]; exact has_set (by (with_reducible repeat (first | exact HW.out | apply has_drewN | apply has_drew))) HNE.out); clear HW; have HW := nw_; clear nw_; have hg : wr.grownBy w13 (some ga308) := (by rw [hw]; exact HP12.2); have hp_ : Kd.R (Kd.int .i64) 22 w13 w.heap.size (fun _ => True) (.slice (some ⟨ga308, 0, none⟩) 32 32) y314 := (by rw [hw, Ny314.out]; exact HP12.1); clear HP12; have n0_ := Aside0.mk (hp_); have n1_ := Aside0.mk ((by rw [hw]; exact below_set (HB.out) GB11.out : Below w.heap.size w w13)); clear HO_3; clear HB; have HO_3 := n0_; have HB := n1_; clear n0_ n1_; clear hg hw hp_))
          go_roundg k1
          case measure => have := HK1.out; omega
          case rel => exact ⟨(y314), (wrap64 (x5_1 + 1)), fj, H', ⟨by have := HK1.out; omega⟩, ⟨by (with_reducible repeat (first | apply Kd.R_alloc | apply Kd.R_drewN | apply Kd.R_drew)); exact HO_3.out⟩, ⟨(by (with_reducible repeat (first | exact HW.out | apply has_drewN | apply has_drew)))⟩, ⟨bl⟩⟩
         ·rw [if_neg c10] at H
          exact absurd H (by simp)
        ·rw [if_neg c9] at H
         exact absurd H (by simp)
      ·rw [if_neg c7] at H
       have c7b0 : (((rd_T27 l0 x5_1).f0) == 1) = false := beq_eq_false_iff_ne.mpr c7
       have c7b1 : (((rd_T27 l0 x5_1).f0) != 1) = true := bne_iff_ne.mpr c7
       by_cases c14 : 0 ≤ ((rd_T27 l0 x5_1).f2)
       ·rw [if_pos c14] at H
        have c14b0 := decide_eq_true c14
        clear c14
        by_cases c15 : ((rd_T27 l0 x5_1).f2) < (x3_1.length : Int)
        ·rw [if_pos c15] at H
         have c15b0 := decide_eq_true c15
         clear c15
         replace H := be H
         obtain ⟨t319, A16, H⟩ := H
         by_cases c17 : ((rd_T27 l0 x5_1).f1) = 0
         ·rw [if_pos c17] at H
          obtain ⟨c17b0, c17b1⟩ := eqs c17
          clear c17
          have H' := Aside0.mk H
          clear H
          have p310 : 0 ≤ (x5_1 : Int) := of_decide_eq_true (by first | (with_reducible assumption) | assumption)
          have q310 : x5_1 < (l0.length : Int) := of_decide_eq_true (by first | (with_reducible assumption) | assumption)
          obtain ⟨ad310, e310, hx310_0, hx310_1, hx310_2, hx310_3, hx310_4, hx310_5, hx310_6⟩ := at_T27 HR0.out x5_1 p310 q310
          cases e310
          replace hx310_0 := (HB.out.cell (World.block_lt_of_cell? w _ hx310_0)).trans hx310_0
          replace hx310_1 := (HB.out.cell (World.block_lt_of_cell? w _ hx310_1)).trans hx310_1
          replace hx310_2 := (HB.out.cell (World.block_lt_of_cell? w _ hx310_2)).trans hx310_2
          replace hx310_3 := (HB.out.cell (World.block_lt_of_cell? w _ hx310_3)).trans hx310_3
          replace hx310_4 := (HB.out.cell (World.block_lt_of_cell? w _ hx310_4)).trans hx310_4
          replace hx310_5 := (HB.out.cell (World.block_lt_of_cell? w _ hx310_5)).trans hx310_5
          replace hx310_6 := (HB.out.cell (World.block_lt_of_cell? w _ hx310_6)).trans hx310_6
          replace p310 := eq_true p310
          replace q310 := eq_true q310
          try go_wp2
          have nw_ := Aside0.mk (has_drew HW.out)
          clear HW
          have HW := nw_
          clear nw_
          have n0_ := Aside0.mk (Kd.R_drew HO_3.out)
          have n1_ := Aside0.mk (below_drew1 HB.out)
          clear HO_3
          clear HB
          have HO_3 := n0_
          have HB := n1_
          clear n0_ n1_
          have p315 : 0 ≤ (x5_1 : Int) := of_decide_eq_true (by first | (with_reducible assumption) | assumption)
          have q315 : x5_1 < (l0.length : Int) := of_decide_eq_true (by first | (with_reducible assumption) | assumption)
          obtain ⟨ad315, e315, hx315_0, hx315_1, hx315_2, hx315_3, hx315_4, hx315_5, hx315_6⟩ := at_T27 HR0.out x5_1 p315 q315
          have hw315_6 := hx315_6
          have hw315_5 := hx315_5
          have hw315_4 := hx315_4
          have hw315_3 := hx315_3
          have hw315_2 := hx315_2
          have hw315_1 := hx315_1
          have hw315_0 := hx315_0
          obtain rfl : ad310 = ad315 := (by injection e315)
          replace hx315_0 := (HB.out.cell (World.block_lt_of_cell? w _ hx315_0)).trans hx315_0
          replace hx315_1 := (HB.out.cell (World.block_lt_of_cell? w _ hx315_1)).trans hx315_1
          replace hx315_2 := (HB.out.cell (World.block_lt_of_cell? w _ hx315_2)).trans hx315_2
          replace hx315_3 := (HB.out.cell (World.block_lt_of_cell? w _ hx315_3)).trans hx315_3
          replace hx315_4 := (HB.out.cell (World.block_lt_of_cell? w _ hx315_4)).trans hx315_4
          replace hx315_5 := (HB.out.cell (World.block_lt_of_cell? w _ hx315_5)).trans hx315_5
          replace hx315_6 := (HB.out.cell (World.block_lt_of_cell? w _ hx315_6)).trans hx315_6
          replace p315 := eq_true p315
          replace q315 := eq_true q315
          have p316 : 0 ≤ (x5_1 : Int) := of_decide_eq_true (by first | (with_reducible assumption) | assumption)
          have q316 : x5_1 < (l0.length : Int) := of_decide_eq_true (by first | (with_reducible assumption) | assumption)
          obtain ⟨ad316, e316, hx316_0, hx316_1, hx316_2, hx316_3, hx316_4, hx316_5, hx316_6⟩ := at_T27 HR0.out x5_1 p316 q316
          have hw316_6 := hx316_6
          have hw316_5 := hx316_5
          have hw316_4 := hx316_4
          have hw316_3 := hx316_3
          have hw316_2 := hx316_2
          have hw316_1 := hx316_1
          have hw316_0 := hx316_0
          obtain rfl : ad310 = ad316 := (by injection e316)
          replace hx316_0 := (HB.out.cell (World.block_lt_of_cell? w _ hx316_0)).trans hx316_0
          replace hx316_1 := (HB.out.cell (World.block_lt_of_cell? w _ hx316_1)).trans hx316_1
          replace hx316_2 := (HB.out.cell (World.block_lt_of_cell? w _ hx316_2)).trans hx316_2
          replace hx316_3 := (HB.out.cell (World.block_lt_of_cell? w _ hx316_3)).trans hx316_3
          replace hx316_4 := (HB.out.cell (World.block_lt_of_cell? w _ hx316_4)).trans hx316_4
          replace hx316_5 := (HB.out.cell (World.block_lt_of_cell? w _ hx316_5)).trans hx316_5
          replace hx316_6 := (HB.out.cell (World.block_lt_of_cell? w _ hx316_6)).trans hx316_6
          replace p316 := eq_true p316
          replace q316 := eq_true q316
          have p317 : 0 ≤ (((rd_T27 l0 x5_1).f2) : Int) := of_decide_eq_true (by first | (with_reducible assumption) | assumption)
          have q317 : ((rd_T27 l0 x5_1).f2) < (x3_1.length : Int) := of_decide_eq_true (by first | (with_reducible assumption) | assumption)
          obtain ⟨hx317_0, hf317_1, qa317⟩ := ari_cell HO_3.out (((rd_T27 l0 x5_1).f2) : Int) p317 q317
          rw [show ((32 : Nat) : Int) = 32 from rfl] at qa317
          replace p317 := eq_true p317
          replace q317 := eq_true q317
          have p318 : 0 ≤ (x5_1 : Int) := of_decide_eq_true (by first | (with_reducible assumption) | assumption)
          have q318 : x5_1 < (l0.length : Int) := of_decide_eq_true (by first | (with_reducible assumption) | assumption)
          obtain ⟨ad318, e318, hx318_0, hx318_1, hx318_2, hx318_3, hx318_4, hx318_5, hx318_6⟩ := at_T27 HR0.out x5_1 p318 q318
          have hw318_6 := hx318_6
          have hw318_5 := hx318_5
          have hw318_4 := hx318_4
          have hw318_3 := hx318_3
          have hw318_2 := hx318_2
          have hw318_1 := hx318_1
          have hw318_0 := hx318_0
          obtain rfl : ad310 = ad318 := (by injection e318)
          replace hx318_0 := (HB.out.cell (World.block_lt_of_cell? w _ hx318_0)).trans hx318_0
          replace hx318_1 := (HB.out.cell (World.block_lt_of_cell? w _ hx318_1)).trans hx318_1
          replace hx318_2 := (HB.out.cell (World.block_lt_of_cell? w _ hx318_2)).trans hx318_2
          replace hx318_3 := (HB.out.cell (World.block_lt_of_cell? w _ hx318_3)).trans hx318_3
          replace hx318_4 := (HB.out.cell (World.block_lt_of_cell? w _ hx318_4)).trans hx318_4
          replace hx318_5 := (HB.out.cell (World.block_lt_of_cell? w _ hx318_5)).trans hx318_5
          replace hx318_6 := (HB.out.cell (World.block_lt_of_cell? w _ hx318_6)).trans hx318_6
          replace p318 := eq_true p318
          replace q318 := eq_true q318
          refine start_ (n := 19) (S := fun w' => w'.cell? (ad310.add ((x5_1).toNat * 7)) = some (.int .i64 ((rd_T27 l0 x5_1).f0)) ∧ w'.cell? ⟨(ad310.add ((x5_1).toNat * 7)).block, (ad310.add ((x5_1).toNat * 7)).off + 1, none⟩ = some (.int .i64 ((rd_T27 l0 x5_1).f1)) ∧ w'.cell? ⟨(ad310.add ((x5_1).toNat * 7)).block, (ad310.add ((x5_1).toNat * 7)).off + 2, none⟩ = some (.int .i64 ((rd_T27 l0 x5_1).f2)) ∧ w'.cell? ⟨(ad310.add ((x5_1).toNat * 7)).block, (ad310.add ((x5_1).toNat * 7)).off + 3, none⟩ = some (.int .i64 ((rd_T27 l0 x5_1).f3)) ∧ w'.cell? ⟨(ad310.add ((x5_1).toNat * 7)).block, (ad310.add ((x5_1).toNat * 7)).off + 4, none⟩ = some (.int .i64 ((rd_T27 l0 x5_1).f4)) ∧ w'.cell? ⟨(ad310.add ((x5_1).toNat * 7)).block, (ad310.add ((x5_1).toNat * 7)).off + 5, none⟩ = some (.bool ((rd_T27 l0 x5_1).f5)) ∧ w'.cell? ⟨(ad310.add ((x5_1).toNat * 7)).block, (ad310.add ((x5_1).toNat * 7)).off + 6, none⟩ = some (.bool ((rd_T27 l0 x5_1).f6)) ∧ w'.cell? (ad310.add ((x5_1).toNat * 7)) = some (.int .i64 ((rd_T27 l0 x5_1).f0)) ∧ w'.cell? ⟨(ad310.add ((x5_1).toNat * 7)).block, (ad310.add ((x5_1).toNat * 7)).off + 1, none⟩ = some (.int .i64 ((rd_T27 l0 x5_1).f1)) ∧ w'.cell? ⟨(ad310.add ((x5_1).toNat * 7)).block, (ad310.add ((x5_1).toNat * 7)).off + 2, none⟩ = some (.int .i64 ((rd_T27 l0 x5_1).f2)) ∧ w'.cell? ⟨(ad310.add ((x5_1).toNat * 7)).block, (ad310.add ((x5_1).toNat * 7)).off + 3, none⟩ = some (.int .i64 ((rd_T27 l0 x5_1).f3)) ∧ w'.cell? ⟨(ad310.add ((x5_1).toNat * 7)).block, (ad310.add ((x5_1).toNat * 7)).off + 4, none⟩ = some (.int .i64 ((rd_T27 l0 x5_1).f4)) ∧ w'.cell? ⟨(ad310.add ((x5_1).toNat * 7)).block, (ad310.add ((x5_1).toNat * 7)).off + 5, none⟩ = some (.bool ((rd_T27 l0 x5_1).f5)) ∧ w'.cell? ⟨(ad310.add ((x5_1).toNat * 7)).block, (ad310.add ((x5_1).toNat * 7)).off + 6, none⟩ = some (.bool ((rd_T27 l0 x5_1).f6)) ∧ w'.cell? ⟨ga308, ((rd_T27 l0 x5_1).f2).toNat, none⟩ = some (.int .i64 (rd x3_1 ((rd_T27 l0 x5_1).f2))) ∧ w'.cell? (ad310.add ((x5_1).toNat * 7)) = some (.int .i64 ((rd_T27 l0 x5_1).f0)) ∧ w'.cell? ⟨(ad310.add ((x5_1).toNat * 7)).block, (ad310.add ((x5_1).toNat * 7)).off + 1, none⟩ = some (.int .i64 ((rd_T27 l0 x5_1).f1)) ∧ w'.cell? ⟨(ad310.add ((x5_1).toNat * 7)).block, (ad310.add ((x5_1).toNat * 7)).off + 2, none⟩ = some (.int .i64 ((rd_T27 l0 x5_1).f2)) ∧ w'.cell? ⟨(ad310.add ((x5_1).toNat * 7)).block, (ad310.add ((x5_1).toNat * 7)).off + 3, none⟩ = some (.int .i64 ((rd_T27 l0 x5_1).f3)) ∧ w'.cell? ⟨(ad310.add ((x5_1).toNat * 7)).block, (ad310.add ((x5_1).toNat * 7)).off + 4, none⟩ = some (.int .i64 ((rd_T27 l0 x5_1).f4)) ∧ w'.cell? ⟨(ad310.add ((x5_1).toNat * 7)).block, (ad310.add ((x5_1).toNat * 7)).off + 5, none⟩ = some (.bool ((rd_T27 l0 x5_1).f5)) ∧ w'.cell? ⟨(ad310.add ((x5_1).toNat * 7)).block, (ad310.add ((x5_1).toNat * 7)).off + 6, none⟩ = some (.bool ((rd_T27 l0 x5_1).f6))) (ds := []) (fl 19 0) (by kernel_rfl) rfl rfl ⟨((HB.out.cell (World.block_lt_of_cell? w _ hw315_0)).trans hw315_0), ((HB.out.cell (World.block_lt_of_cell? w _ hw315_1)).trans hw315_1), ((HB.out.cell (World.block_lt_of_cell? w _ hw315_2)).trans hw315_2), ((HB.out.cell (World.block_lt_of_cell? w _ hw315_3)).trans hw315_3), ((HB.out.cell (World.block_lt_of_cell? w _ hw315_4)).trans hw315_4), ((HB.out.cell (World.block_lt_of_cell? w _ hw315_5)).trans hw315_5), ((HB.out.cell (World.block_lt_of_cell? w _ hw315_6)).trans hw315_6), ((HB.out.cell (World.block_lt_of_cell? w _ hw316_0)).trans hw316_0), ((HB.out.cell (World.block_lt_of_cell? w _ hw316_1)).trans hw316_1), ((HB.out.cell (World.block_lt_of_cell? w _ hw316_2)).trans hw316_2), ((HB.out.cell (World.block_lt_of_cell? w _ hw316_3)).trans hw316_3), ((HB.out.cell (World.block_lt_of_cell? w _ hw316_4)).trans hw316_4), ((HB.out.cell (World.block_lt_of_cell? w _ hw316_5)).trans hw316_5), ((HB.out.cell (World.block_lt_of_cell? w _ hw316_6)).trans hw316_6), hx317_0, ((HB.out.cell (World.block_lt_of_cell? w _ hw318_0)).trans hw318_0), ((HB.out.cell (World.block_lt_of_cell? w _ hw318_1)).trans hw318_1), ((HB.out.cell (World.block_lt_of_cell? w _ hw318_2)).trans hw318_2), ((HB.out.cell (World.block_lt_of_cell? w _ hw318_3)).trans hw318_3), ((HB.out.cell (World.block_lt_of_cell? w _ hw318_4)).trans hw318_4), ((HB.out.cell (World.block_lt_of_cell? w _ hw318_5)).trans hw318_5), ((HB.out.cell (World.block_lt_of_cell? w _ hw318_6)).trans hw318_6)⟩ (fun hHeld => ?_); refine with_tabW spinnakerref09_Does.tab7 spinnakerref09_Does.bits7 (fun HT_ HW_ => ?_)
          generalize wr.drew = w18 at HW HO_3 HB hx315_0 hx315_1 hx315_2 hx315_3 hx315_4 hx315_5 hx315_6 hx316_0 hx316_1 hx316_2 hx316_3 hx316_4 hx316_5 hx316_6 hx317_0 hx318_0 hx318_1 hx318_2 hx318_3 hx318_4 hx318_5 hx318_6 hHeld ⊢
          refine pq 0 (some 25) ?_ (fl 19 1) HT_.out rfl rfl ?_ ?_ ?_ ?_
          rotate_left
          ·intro w'
           go_simp
           with_reducible rfl
          rotate_left
          ·refine pt ?_
           rfl
          refine pq 1 (some 26) ?_ (fl 19 2) HT_.out rfl rfl ?_ ?_ ?_ ?_
          rotate_left
          ·intro w'
           go_simp
           with_reducible rfl
          rotate_left
          ·refine pt ?_
           rfl
          refine pq 2 (some 27) ?_ (fl 19 3) HT_.out rfl rfl ?_ ?_ ?_ ?_
          rotate_left
          ·intro w'
           go_simp
           with_reducible rfl
          rotate_left
          ·refine pt ?_
           rfl
          refine pq 3 (some 28) ?_ (fl 19 4) HT_.out rfl rfl ?_ ?_ ?_ ?_
          rotate_left
          ·intro w'
           go_simp
           with_reducible rfl
          rotate_left
          ·refine pt ?_
           rfl
          refine pq 5 (some 30) ?_ #[true, true, true, true, false, true, false, false, false, false, false, false, false, false, false, false, false, false, false] HT_.out rfl rfl ?_ ?_ ?_ ?_
          rotate_left
          ·intro w'
           go_simp
           with_reducible rfl
          rotate_left
          ·refine pt ?_
           rfl
          refine pq 6 (some 31) ?_ #[true, true, true, true, false, true, true, false, false, false, false, false, false, false, false, false, false, false, false] HT_.out rfl rfl ?_ ?_ ?_ ?_
          rotate_left
          ·intro w'
           go_simp
           with_reducible rfl
          rotate_left
          ·refine pt ?_
           rfl
          refine pq 7 (some 32) ?_ #[true, true, true, true, false, true, true, true, false, false, false, false, false, false, false, false, false, false, false] HT_.out rfl rfl ?_ ?_ ?_ ?_
          rotate_left
          ·intro w'
           go_simp
           with_reducible rfl
          rotate_left
          ·refine pt ?_
           rfl
          refine pq 8 (some 33) ?_ #[true, true, true, true, false, true, true, true, true, false, false, false, false, false, false, false, false, false, false] HT_.out rfl rfl ?_ ?_ ?_ ?_
          rotate_left
          ·intro w'
           go_simp
           with_reducible rfl
          rotate_left
          ·refine pt ?_
           rfl
          refine pq 12 (some 37) ?_ #[true, true, true, true, false, true, true, true, true, false, false, false, true, false, false, false, false, false, false] HT_.out rfl rfl ?_ ?_ ?_ ?_
          rotate_left
          ·intro w'
           go_simp
           with_reducible rfl
          rotate_left
          ·refine pt ?_
           rfl
          refine pq 13 (some 38) ?_ #[true, true, true, true, false, true, true, true, true, false, false, false, true, true, false, false, false, false, false] HT_.out rfl rfl ?_ ?_ ?_ ?_
          rotate_left
          ·intro w'
           go_simp
           with_reducible rfl
          rotate_left
          ·refine pt ?_
           rfl
          refine pq 14 (some 39) ?_ #[true, true, true, true, false, true, true, true, true, false, false, false, true, true, true, false, false, false, false] HT_.out rfl rfl ?_ ?_ ?_ ?_
          rotate_left
          ·intro w'
           go_simp
           with_reducible rfl
          rotate_left
          ·refine pt ?_
           rfl
          refine pq 15 (some 40) ?_ #[true, true, true, true, false, true, true, true, true, false, false, false, true, true, true, true, false, false, false] HT_.out rfl rfl ?_ ?_ ?_ ?_
          rotate_left
          ·intro w'
           go_simp
           with_reducible rfl
          rotate_left
          ·refine pt ?_
           rfl
          refine pk 4 (some 29) ?_ #[true, true, true, true, true, true, true, true, true, false, false, false, true, true, true, true, false, false, false] HT_.out HW_.out rfl rfl ?_ hHeld ?_ ?_ ?_
          rotate_left
          ·rintro w' ⟨s0, s1, s2, s3, s4, s5, s6, s7, s8, s9, s10, s11, s12, s13, s14, s15, s16, s17, s18, s19, s20, s21⟩
           go_simp
           with_reducible rfl
          rotate_left
          ·refine pt ?_
           rfl
          refine pk 9 (some 34) ?_ #[true, true, true, true, true, true, true, true, true, true, false, false, true, true, true, true, false, false, false] HT_.out HW_.out rfl rfl ?_ hHeld ?_ ?_ ?_
          rotate_left
          ·rintro w' ⟨s0, s1, s2, s3, s4, s5, s6, s7, s8, s9, s10, s11, s12, s13, s14, s15, s16, s17, s18, s19, s20, s21⟩
           go_simp
           with_reducible rfl
          rotate_left
          ·refine pt ?_
           rfl
          refine pq 10 (some 35) ?_ #[true, true, true, true, true, true, true, true, true, true, true, false, true, true, true, true, false, false, false] HT_.out rfl rfl ?_ ?_ ?_ ?_
          rotate_left
          ·intro w'
           go_simp
           with_reducible rfl
          rotate_left
          ·refine pt ?_
           rfl
          refine pk 11 (some 36) ?_ (fl 19 16) HT_.out HW_.out rfl rfl ?_ hHeld ?_ ?_ ?_
          rotate_left
          ·rintro w' ⟨s0, s1, s2, s3, s4, s5, s6, s7, s8, s9, s10, s11, s12, s13, s14, s15, s16, s17, s18, s19, s20, s21⟩
           go_simp
           with_reducible rfl
          rotate_left
          ·refine pt ?_
           rfl
          refine pk 16 (some 41) ?_ (fl 19 17) HT_.out HW_.out rfl rfl ?_ hHeld ?_ ?_ ?_
          rotate_left
          ·rintro w' ⟨s0, s1, s2, s3, s4, s5, s6, s7, s8, s9, s10, s11, s12, s13, s14, s15, s16, s17, s18, s19, s20, s21⟩
           go_simp
           with_reducible rfl
          rotate_left
          ·refine pt ?_
           rfl
          refine one_ (i := 17) (N := some 42) (fl 19 18) rfl rfl (one_of HT_.out (by kernel_rfl)) (by decide) (fun K hK => ?_)
          refine goes_ Tryd.func20 (by kernel_rfl) rfl #[.int .i64 ((rd_T27 l0 x5_1).f0), .int .i64 (rd x3_1 ((rd_T27 l0 x5_1).f2)), .int .i64 ((rd_T27 l0 x5_1).f4)] (by rfl) rfl rfl ga ?_
          with_reducible refine (spinnakerref07_Eval.calls k1 ((rd_T27 l0 x5_1).f0) (rd x3_1 ((rd_T27 l0 x5_1).f2)) ((rd_T27 l0 x5_1).f4) t319 _ A16.out).mono ?_
          rintro e w20 ⟨rfl, hb⟩
          have HS14_ := (hb.cell (World.block_lt_of_cell? _ _ (hHeld.2.2.2.2.2.2.2.2.2.2.2.2.2.2.1))).trans (hHeld.2.2.2.2.2.2.2.2.2.2.2.2.2.2.1)
          refine ⟨_, rfl, ?_⟩
          have nw_ := Aside0.mk (has_below (by (with_reducible repeat (first | exact HW.out | apply has_drewN | apply has_drew))) hb)
          clear HW
          have HW := nw_
          clear nw_
          have n0_ := Aside0.mk (Kd.R_below (by (with_reducible repeat (first | apply Kd.R_alloc | apply Kd.R_drewN | apply Kd.R_drew)); exact HO_3.out) hb)
          have n1_ := Aside0.mk (below_step bl hb)
          clear HO_3
          clear HB
          have HO_3 := n0_
          have HB := n1_
          clear n0_ n1_
          (try clear hb)
          (try clear hb2)
          (try clear hk)
          (try clear hi)
          refine hK.out _ _ ⟨((HB.out.cell (World.block_lt_of_cell? w _ hw315_0)).trans hw315_0), ((HB.out.cell (World.block_lt_of_cell? w _ hw315_1)).trans hw315_1), ((HB.out.cell (World.block_lt_of_cell? w _ hw315_2)).trans hw315_2), ((HB.out.cell (World.block_lt_of_cell? w _ hw315_3)).trans hw315_3), ((HB.out.cell (World.block_lt_of_cell? w _ hw315_4)).trans hw315_4), ((HB.out.cell (World.block_lt_of_cell? w _ hw315_5)).trans hw315_5), ((HB.out.cell (World.block_lt_of_cell? w _ hw315_6)).trans hw315_6), ((HB.out.cell (World.block_lt_of_cell? w _ hw316_0)).trans hw316_0), ((HB.out.cell (World.block_lt_of_cell? w _ hw316_1)).trans hw316_1), ((HB.out.cell (World.block_lt_of_cell? w _ hw316_2)).trans hw316_2), ((HB.out.cell (World.block_lt_of_cell? w _ hw316_3)).trans hw316_3), ((HB.out.cell (World.block_lt_of_cell? w _ hw316_4)).trans hw316_4), ((HB.out.cell (World.block_lt_of_cell? w _ hw316_5)).trans hw316_5), ((HB.out.cell (World.block_lt_of_cell? w _ hw316_6)).trans hw316_6), HS14_, ((HB.out.cell (World.block_lt_of_cell? w _ hw318_0)).trans hw318_0), ((HB.out.cell (World.block_lt_of_cell? w _ hw318_1)).trans hw318_1), ((HB.out.cell (World.block_lt_of_cell? w _ hw318_2)).trans hw318_2), ((HB.out.cell (World.block_lt_of_cell? w _ hw318_3)).trans hw318_3), ((HB.out.cell (World.block_lt_of_cell? w _ hw318_4)).trans hw318_4), ((HB.out.cell (World.block_lt_of_cell? w _ hw318_5)).trans hw318_5), ((HB.out.cell (World.block_lt_of_cell? w _ hw318_6)).trans hw318_6)⟩ (fun hHeld => ?_)
          clear hK K
          refine norm_ (a' := ?_) ?_ ?_
          rotate_left
          ·show Act.put _ (some 42) _ = _
           refine pt ?_
           rfl
          refine pq 18 (some 6) ?_ (fl 19 19) HT_.out rfl rfl ?_ ?_ ?_ ?_
          rotate_left
          ·intro w'
           go_simp
           with_reducible rfl
          rotate_left
          ·refine pt ?_
           rfl
          refine done_ (done_of HT_.out (by kernel_rfl)) ?_
          have p320 : 0 ≤ (x5_1 : Int) := of_decide_eq_true (by first | (with_reducible assumption) | assumption)
          have q320 : x5_1 < (l0.length : Int) := of_decide_eq_true (by first | (with_reducible assumption) | assumption)
          obtain ⟨ad320, e320, hx320_0, hx320_1, hx320_2, hx320_3, hx320_4, hx320_5, hx320_6⟩ := at_T27 HR0.out x5_1 p320 q320
          obtain rfl : ad310 = ad320 := (by injection e320)
          replace hx320_0 := (HB.out.cell (World.block_lt_of_cell? w _ hx320_0)).trans hx320_0
          replace hx320_1 := (HB.out.cell (World.block_lt_of_cell? w _ hx320_1)).trans hx320_1
          replace hx320_2 := (HB.out.cell (World.block_lt_of_cell? w _ hx320_2)).trans hx320_2
          replace hx320_3 := (HB.out.cell (World.block_lt_of_cell? w _ hx320_3)).trans hx320_3
          replace hx320_4 := (HB.out.cell (World.block_lt_of_cell? w _ hx320_4)).trans hx320_4
          replace hx320_5 := (HB.out.cell (World.block_lt_of_cell? w _ hx320_5)).trans hx320_5
          replace hx320_6 := (HB.out.cell (World.block_lt_of_cell? w _ hx320_6)).trans hx320_6
          replace p320 := eq_true p320
          replace q320 := eq_true q320
          try go_wp2
          go_roundg k1
          case measure => have := HK1.out; omega
          case rel => exact ⟨(x3_1), (wrap64 (x5_1 + 1)), fj, H', ⟨by have := HK1.out; omega⟩, ⟨by (with_reducible repeat (first | apply Kd.R_alloc | apply Kd.R_drewN | apply Kd.R_drew)); exact HO_3.out⟩, ⟨(by (with_reducible repeat (first | exact HW.out | apply has_drewN | apply has_drew)))⟩, ⟨bl⟩⟩
         ·rw [if_neg c17] at H
          have c17b0 : (((rd_T27 l0 x5_1).f1) == 0) = false := beq_eq_false_iff_ne.mpr c17
          have c17b1 : (((rd_T27 l0 x5_1).f1) != 0) = true := bne_iff_ne.mpr c17
          by_cases c21 : 0 ≤ ((rd_T27 l0 x5_1).f1)
          ·rw [if_pos c21] at H
           have c21b0 := decide_eq_true c21
           clear c21
           by_cases c22 : ((rd_T27 l0 x5_1).f1) < (x3_1.length : Int)
           ·rw [if_pos c22] at H
            have c22b0 := decide_eq_true c22
            clear c22
            obtain ⟨y322, hy322⟩ : ∃ y_ : List Int, y_ = (x3_1.set (((rd_T27 l0 x5_1).f1) : Int).toNat t319) := ⟨_, rfl⟩
            replace H : (spinnakerref09_Does.l0 k1 l0 y322 (wrap64 (x5_1 + 1))) = some r := by first | (rw [hy322]; with_reducible exact H) | (have H2_ := (Option.bind_some _ _).symm.trans H; rw [hy322]; with_reducible exact H2_) | (have H2_ := (Option.bind_some _ _).symm.trans H; with_reducible exact H2_) | with_reducible exact H | (rw [hy322]; exact H) | exact H
            have Ny322 := Aside0.mk hy322
            clear hy322
            have H' := Aside0.mk H
            clear H
            have p310 : 0 ≤ (x5_1 : Int) := of_decide_eq_true (by first | (with_reducible assumption) | assumption)
            have q310 : x5_1 < (l0.length : Int) := of_decide_eq_true (by first | (with_reducible assumption) | assumption)
            obtain ⟨ad310, e310, hx310_0, hx310_1, hx310_2, hx310_3, hx310_4, hx310_5, hx310_6⟩ := at_T27 HR0.out x5_1 p310 q310
            cases e310
            replace hx310_0 := (HB.out.cell (World.block_lt_of_cell? w _ hx310_0)).trans hx310_0
            replace hx310_1 := (HB.out.cell (World.block_lt_of_cell? w _ hx310_1)).trans hx310_1
            replace hx310_2 := (HB.out.cell (World.block_lt_of_cell? w _ hx310_2)).trans hx310_2
            replace hx310_3 := (HB.out.cell (World.block_lt_of_cell? w _ hx310_3)).trans hx310_3
            replace hx310_4 := (HB.out.cell (World.block_lt_of_cell? w _ hx310_4)).trans hx310_4
            replace hx310_5 := (HB.out.cell (World.block_lt_of_cell? w _ hx310_5)).trans hx310_5
            replace hx310_6 := (HB.out.cell (World.block_lt_of_cell? w _ hx310_6)).trans hx310_6
            replace p310 := eq_true p310
            replace q310 := eq_true q310
            try go_wp2
            have nw_ := Aside0.mk (has_drew HW.out)
            clear HW
            have HW := nw_
            clear nw_
            have n0_ := Aside0.mk (Kd.R_drew HO_3.out)
            have n1_ := Aside0.mk (below_drew1 HB.out)
            clear HO_3
            clear HB
            have HO_3 := n0_
            have HB := n1_
            clear n0_ n1_
            have p315 : 0 ≤ (x5_1 : Int) := of_decide_eq_true (by first | (with_reducible assumption) | assumption)
            have q315 : x5_1 < (l0.length : Int) := of_decide_eq_true (by first | (with_reducible assumption) | assumption)
            obtain ⟨ad315, e315, hx315_0, hx315_1, hx315_2, hx315_3, hx315_4, hx315_5, hx315_6⟩ := at_T27 HR0.out x5_1 p315 q315
            have hw315_6 := hx315_6
            have hw315_5 := hx315_5
            have hw315_4 := hx315_4
            have hw315_3 := hx315_3
            have hw315_2 := hx315_2
            have hw315_1 := hx315_1
            have hw315_0 := hx315_0
            obtain rfl : ad310 = ad315 := (by injection e315)
            replace hx315_0 := (HB.out.cell (World.block_lt_of_cell? w _ hx315_0)).trans hx315_0
            replace hx315_1 := (HB.out.cell (World.block_lt_of_cell? w _ hx315_1)).trans hx315_1
            replace hx315_2 := (HB.out.cell (World.block_lt_of_cell? w _ hx315_2)).trans hx315_2
            replace hx315_3 := (HB.out.cell (World.block_lt_of_cell? w _ hx315_3)).trans hx315_3
            replace hx315_4 := (HB.out.cell (World.block_lt_of_cell? w _ hx315_4)).trans hx315_4
            replace hx315_5 := (HB.out.cell (World.block_lt_of_cell? w _ hx315_5)).trans hx315_5
            replace hx315_6 := (HB.out.cell (World.block_lt_of_cell? w _ hx315_6)).trans hx315_6
            replace p315 := eq_true p315
            replace q315 := eq_true q315
            have p316 : 0 ≤ (x5_1 : Int) := of_decide_eq_true (by first | (with_reducible assumption) | assumption)
            have q316 : x5_1 < (l0.length : Int) := of_decide_eq_true (by first | (with_reducible assumption) | assumption)
            obtain ⟨ad316, e316, hx316_0, hx316_1, hx316_2, hx316_3, hx316_4, hx316_5, hx316_6⟩ := at_T27 HR0.out x5_1 p316 q316
            have hw316_6 := hx316_6
            have hw316_5 := hx316_5
            have hw316_4 := hx316_4
            have hw316_3 := hx316_3
            have hw316_2 := hx316_2
            have hw316_1 := hx316_1
            have hw316_0 := hx316_0
            obtain rfl : ad310 = ad316 := (by injection e316)
            replace hx316_0 := (HB.out.cell (World.block_lt_of_cell? w _ hx316_0)).trans hx316_0
            replace hx316_1 := (HB.out.cell (World.block_lt_of_cell? w _ hx316_1)).trans hx316_1
            replace hx316_2 := (HB.out.cell (World.block_lt_of_cell? w _ hx316_2)).trans hx316_2
            replace hx316_3 := (HB.out.cell (World.block_lt_of_cell? w _ hx316_3)).trans hx316_3
            replace hx316_4 := (HB.out.cell (World.block_lt_of_cell? w _ hx316_4)).trans hx316_4
            replace hx316_5 := (HB.out.cell (World.block_lt_of_cell? w _ hx316_5)).trans hx316_5
            replace hx316_6 := (HB.out.cell (World.block_lt_of_cell? w _ hx316_6)).trans hx316_6
            replace p316 := eq_true p316
            replace q316 := eq_true q316
            have p317 : 0 ≤ (((rd_T27 l0 x5_1).f2) : Int) := of_decide_eq_true (by first | (with_reducible assumption) | assumption)
            have q317 : ((rd_T27 l0 x5_1).f2) < (x3_1.length : Int) := of_decide_eq_true (by first | (with_reducible assumption) | assumption)
            obtain ⟨hx317_0, hf317_1, qa317⟩ := ari_cell HO_3.out (((rd_T27 l0 x5_1).f2) : Int) p317 q317
            rw [show ((32 : Nat) : Int) = 32 from rfl] at qa317
            replace p317 := eq_true p317
            replace q317 := eq_true q317
            have p318 : 0 ≤ (x5_1 : Int) := of_decide_eq_true (by first | (with_reducible assumption) | assumption)
            have q318 : x5_1 < (l0.length : Int) := of_decide_eq_true (by first | (with_reducible assumption) | assumption)
            obtain ⟨ad318, e318, hx318_0, hx318_1, hx318_2, hx318_3, hx318_4, hx318_5, hx318_6⟩ := at_T27 HR0.out x5_1 p318 q318
            have hw318_6 := hx318_6
            have hw318_5 := hx318_5
            have hw318_4 := hx318_4
            have hw318_3 := hx318_3
            have hw318_2 := hx318_2
            have hw318_1 := hx318_1
            have hw318_0 := hx318_0
            obtain rfl : ad310 = ad318 := (by injection e318)
            replace hx318_0 := (HB.out.cell (World.block_lt_of_cell? w _ hx318_0)).trans hx318_0
            replace hx318_1 := (HB.out.cell (World.block_lt_of_cell? w _ hx318_1)).trans hx318_1
            replace hx318_2 := (HB.out.cell (World.block_lt_of_cell? w _ hx318_2)).trans hx318_2
            replace hx318_3 := (HB.out.cell (World.block_lt_of_cell? w _ hx318_3)).trans hx318_3
            replace hx318_4 := (HB.out.cell (World.block_lt_of_cell? w _ hx318_4)).trans hx318_4
            replace hx318_5 := (HB.out.cell (World.block_lt_of_cell? w _ hx318_5)).trans hx318_5
            replace hx318_6 := (HB.out.cell (World.block_lt_of_cell? w _ hx318_6)).trans hx318_6
            replace p318 := eq_true p318
            replace q318 := eq_true q318
            refine start_ (n := 19) (S := fun w' => w'.cell? (ad310.add ((x5_1).toNat * 7)) = some (.int .i64 ((rd_T27 l0 x5_1).f0)) ∧ w'.cell? ⟨(ad310.add ((x5_1).toNat * 7)).block, (ad310.add ((x5_1).toNat * 7)).off + 1, none⟩ = some (.int .i64 ((rd_T27 l0 x5_1).f1)) ∧ w'.cell? ⟨(ad310.add ((x5_1).toNat * 7)).block, (ad310.add ((x5_1).toNat * 7)).off + 2, none⟩ = some (.int .i64 ((rd_T27 l0 x5_1).f2)) ∧ w'.cell? ⟨(ad310.add ((x5_1).toNat * 7)).block, (ad310.add ((x5_1).toNat * 7)).off + 3, none⟩ = some (.int .i64 ((rd_T27 l0 x5_1).f3)) ∧ w'.cell? ⟨(ad310.add ((x5_1).toNat * 7)).block, (ad310.add ((x5_1).toNat * 7)).off + 4, none⟩ = some (.int .i64 ((rd_T27 l0 x5_1).f4)) ∧ w'.cell? ⟨(ad310.add ((x5_1).toNat * 7)).block, (ad310.add ((x5_1).toNat * 7)).off + 5, none⟩ = some (.bool ((rd_T27 l0 x5_1).f5)) ∧ w'.cell? ⟨(ad310.add ((x5_1).toNat * 7)).block, (ad310.add ((x5_1).toNat * 7)).off + 6, none⟩ = some (.bool ((rd_T27 l0 x5_1).f6)) ∧ w'.cell? (ad310.add ((x5_1).toNat * 7)) = some (.int .i64 ((rd_T27 l0 x5_1).f0)) ∧ w'.cell? ⟨(ad310.add ((x5_1).toNat * 7)).block, (ad310.add ((x5_1).toNat * 7)).off + 1, none⟩ = some (.int .i64 ((rd_T27 l0 x5_1).f1)) ∧ w'.cell? ⟨(ad310.add ((x5_1).toNat * 7)).block, (ad310.add ((x5_1).toNat * 7)).off + 2, none⟩ = some (.int .i64 ((rd_T27 l0 x5_1).f2)) ∧ w'.cell? ⟨(ad310.add ((x5_1).toNat * 7)).block, (ad310.add ((x5_1).toNat * 7)).off + 3, none⟩ = some (.int .i64 ((rd_T27 l0 x5_1).f3)) ∧ w'.cell? ⟨(ad310.add ((x5_1).toNat * 7)).block, (ad310.add ((x5_1).toNat * 7)).off + 4, none⟩ = some (.int .i64 ((rd_T27 l0 x5_1).f4)) ∧ w'.cell? ⟨(ad310.add ((x5_1).toNat * 7)).block, (ad310.add ((x5_1).toNat * 7)).off + 5, none⟩ = some (.bool ((rd_T27 l0 x5_1).f5)) ∧ w'.cell? ⟨(ad310.add ((x5_1).toNat * 7)).block, (ad310.add ((x5_1).toNat * 7)).off + 6, none⟩ = some (.bool ((rd_T27 l0 x5_1).f6)) ∧ w'.cell? ⟨ga308, ((rd_T27 l0 x5_1).f2).toNat, none⟩ = some (.int .i64 (rd x3_1 ((rd_T27 l0 x5_1).f2))) ∧ w'.cell? (ad310.add ((x5_1).toNat * 7)) = some (.int .i64 ((rd_T27 l0 x5_1).f0)) ∧ w'.cell? ⟨(ad310.add ((x5_1).toNat * 7)).block, (ad310.add ((x5_1).toNat * 7)).off + 1, none⟩ = some (.int .i64 ((rd_T27 l0 x5_1).f1)) ∧ w'.cell? ⟨(ad310.add ((x5_1).toNat * 7)).block, (ad310.add ((x5_1).toNat * 7)).off + 2, none⟩ = some (.int .i64 ((rd_T27 l0 x5_1).f2)) ∧ w'.cell? ⟨(ad310.add ((x5_1).toNat * 7)).block, (ad310.add ((x5_1).toNat * 7)).off + 3, none⟩ = some (.int .i64 ((rd_T27 l0 x5_1).f3)) ∧ w'.cell? ⟨(ad310.add ((x5_1).toNat * 7)).block, (ad310.add ((x5_1).toNat * 7)).off + 4, none⟩ = some (.int .i64 ((rd_T27 l0 x5_1).f4)) ∧ w'.cell? ⟨(ad310.add ((x5_1).toNat * 7)).block, (ad310.add ((x5_1).toNat * 7)).off + 5, none⟩ = some (.bool ((rd_T27 l0 x5_1).f5)) ∧ w'.cell? ⟨(ad310.add ((x5_1).toNat * 7)).block, (ad310.add ((x5_1).toNat * 7)).off + 6, none⟩ = some (.bool ((rd_T27 l0 x5_1).f6))) (ds := []) (fl 19 0) (by kernel_rfl) rfl rfl ⟨((HB.out.cell (World.block_lt_of_cell? w _ hw315_0)).trans hw315_0), ((HB.out.cell (World.block_lt_of_cell? w _ hw315_1)).trans hw315_1), ((HB.out.cell (World.block_lt_of_cell? w _ hw315_2)).trans hw315_2), ((HB.out.cell (World.block_lt_of_cell? w _ hw315_3)).trans hw315_3), ((HB.out.cell (World.block_lt_of_cell? w _ hw315_4)).trans hw315_4), ((HB.out.cell (World.block_lt_of_cell? w _ hw315_5)).trans hw315_5), ((HB.out.cell (World.block_lt_of_cell? w _ hw315_6)).trans hw315_6), ((HB.out.cell (World.block_lt_of_cell? w _ hw316_0)).trans hw316_0), ((HB.out.cell (World.block_lt_of_cell? w _ hw316_1)).trans hw316_1), ((HB.out.cell (World.block_lt_of_cell? w _ hw316_2)).trans hw316_2), ((HB.out.cell (World.block_lt_of_cell? w _ hw316_3)).trans hw316_3), ((HB.out.cell (World.block_lt_of_cell? w _ hw316_4)).trans hw316_4), ((HB.out.cell (World.block_lt_of_cell? w _ hw316_5)).trans hw316_5), ((HB.out.cell (World.block_lt_of_cell? w _ hw316_6)).trans hw316_6), hx317_0, ((HB.out.cell (World.block_lt_of_cell? w _ hw318_0)).trans hw318_0), ((HB.out.cell (World.block_lt_of_cell? w _ hw318_1)).trans hw318_1), ((HB.out.cell (World.block_lt_of_cell? w _ hw318_2)).trans hw318_2), ((HB.out.cell (World.block_lt_of_cell? w _ hw318_3)).trans hw318_3), ((HB.out.cell (World.block_lt_of_cell? w _ hw318_4)).trans hw318_4), ((HB.out.cell (World.block_lt_of_cell? w _ hw318_5)).trans hw318_5), ((HB.out.cell (World.block_lt_of_cell? w _ hw318_6)).trans hw318_6)⟩ (fun hHeld => ?_); refine with_tabW spinnakerref09_Does.tab7 spinnakerref09_Does.bits7 (fun HT_ HW_ => ?_)
            generalize wr.drew = w24 at HW HO_3 HB hx315_0 hx315_1 hx315_2 hx315_3 hx315_4 hx315_5 hx315_6 hx316_0 hx316_1 hx316_2 hx316_3 hx316_4 hx316_5 hx316_6 hx317_0 hx318_0 hx318_1 hx318_2 hx318_3 hx318_4 hx318_5 hx318_6 hHeld ⊢
            refine pq 0 (some 25) ?_ (fl 19 1) HT_.out rfl rfl ?_ ?_ ?_ ?_
            rotate_left
            ·intro w'
             go_simp
             with_reducible rfl
            rotate_left
            ·refine pt ?_
             rfl
            refine pq 1 (some 26) ?_ (fl 19 2) HT_.out rfl rfl ?_ ?_ ?_ ?_
            rotate_left
            ·intro w'
             go_simp
             with_reducible rfl
            rotate_left
            ·refine pt ?_
             rfl
            refine pq 2 (some 27) ?_ (fl 19 3) HT_.out rfl rfl ?_ ?_ ?_ ?_
            rotate_left
            ·intro w'
             go_simp
             with_reducible rfl
            rotate_left
            ·refine pt ?_
             rfl
            refine pq 3 (some 28) ?_ (fl 19 4) HT_.out rfl rfl ?_ ?_ ?_ ?_
            rotate_left
            ·intro w'
             go_simp
             with_reducible rfl
            rotate_left
            ·refine pt ?_
             rfl
            refine pq 5 (some 30) ?_ #[true, true, true, true, false, true, false, false, false, false, false, false, false, false, false, false, false, false, false] HT_.out rfl rfl ?_ ?_ ?_ ?_
            rotate_left
            ·intro w'
             go_simp
             with_reducible rfl
            rotate_left
            ·refine pt ?_
             rfl
            refine pq 6 (some 31) ?_ #[true, true, true, true, false, true, true, false, false, false, false, false, false, false, false, false, false, false, false] HT_.out rfl rfl ?_ ?_ ?_ ?_
            rotate_left
            ·intro w'
             go_simp
             with_reducible rfl
            rotate_left
            ·refine pt ?_
             rfl
            refine pq 7 (some 32) ?_ #[true, true, true, true, false, true, true, true, false, false, false, false, false, false, false, false, false, false, false] HT_.out rfl rfl ?_ ?_ ?_ ?_
            rotate_left
            ·intro w'
             go_simp
             with_reducible rfl
            rotate_left
            ·refine pt ?_
             rfl
            refine pq 8 (some 33) ?_ #[true, true, true, true, false, true, true, true, true, false, false, false, false, false, false, false, false, false, false] HT_.out rfl rfl ?_ ?_ ?_ ?_
            rotate_left
            ·intro w'
             go_simp
             with_reducible rfl
            rotate_left
            ·refine pt ?_
             rfl
            refine pq 12 (some 37) ?_ #[true, true, true, true, false, true, true, true, true, false, false, false, true, false, false, false, false, false, false] HT_.out rfl rfl ?_ ?_ ?_ ?_
            rotate_left
            ·intro w'
             go_simp
             with_reducible rfl
            rotate_left
            ·refine pt ?_
             rfl
            refine pq 13 (some 38) ?_ #[true, true, true, true, false, true, true, true, true, false, false, false, true, true, false, false, false, false, false] HT_.out rfl rfl ?_ ?_ ?_ ?_
            rotate_left
            ·intro w'
             go_simp
             with_reducible rfl
            rotate_left
            ·refine pt ?_
             rfl
            refine pq 14 (some 39) ?_ #[true, true, true, true, false, true, true, true, true, false, false, false, true, true, true, false, false, false, false] HT_.out rfl rfl ?_ ?_ ?_ ?_
            rotate_left
            ·intro w'
             go_simp
             with_reducible rfl
            rotate_left
            ·refine pt ?_
             rfl
            refine pq 15 (some 40) ?_ #[true, true, true, true, false, true, true, true, true, false, false, false, true, true, true, true, false, false, false] HT_.out rfl rfl ?_ ?_ ?_ ?_
            rotate_left
            ·intro w'
             go_simp
             with_reducible rfl
            rotate_left
            ·refine pt ?_
             rfl
            refine pk 4 (some 29) ?_ #[true, true, true, true, true, true, true, true, true, false, false, false, true, true, true, true, false, false, false] HT_.out HW_.out rfl rfl ?_ hHeld ?_ ?_ ?_
            rotate_left
            ·rintro w' ⟨s0, s1, s2, s3, s4, s5, s6, s7, s8, s9, s10, s11, s12, s13, s14, s15, s16, s17, s18, s19, s20, s21⟩
             go_simp
             with_reducible rfl
            rotate_left
            ·refine pt ?_
             rfl
            refine pk 9 (some 34) ?_ #[true, true, true, true, true, true, true, true, true, true, false, false, true, true, true, true, false, false, false] HT_.out HW_.out rfl rfl ?_ hHeld ?_ ?_ ?_
            rotate_left
            ·rintro w' ⟨s0, s1, s2, s3, s4, s5, s6, s7, s8, s9, s10, s11, s12, s13, s14, s15, s16, s17, s18, s19, s20, s21⟩
             go_simp
             with_reducible rfl
            rotate_left
            ·refine pt ?_
             rfl
            refine pq 10 (some 35) ?_ #[true, true, true, true, true, true, true, true, true, true, true, false, true, true, true, true, false, false, false] HT_.out rfl rfl ?_ ?_ ?_ ?_
            rotate_left
            ·intro w'
             go_simp
             with_reducible rfl
            rotate_left
            ·refine pt ?_
             rfl
            refine pk 11 (some 36) ?_ (fl 19 16) HT_.out HW_.out rfl rfl ?_ hHeld ?_ ?_ ?_
            rotate_left
            ·rintro w' ⟨s0, s1, s2, s3, s4, s5, s6, s7, s8, s9, s10, s11, s12, s13, s14, s15, s16, s17, s18, s19, s20, s21⟩
             go_simp
             with_reducible rfl
            rotate_left
            ·refine pt ?_
             rfl
            refine pk 16 (some 41) ?_ (fl 19 17) HT_.out HW_.out rfl rfl ?_ hHeld ?_ ?_ ?_
            rotate_left
            ·rintro w' ⟨s0, s1, s2, s3, s4, s5, s6, s7, s8, s9, s10, s11, s12, s13, s14, s15, s16, s17, s18, s19, s20, s21⟩
             go_simp
             with_reducible rfl
            rotate_left
            ·refine pt ?_
             rfl
            refine one_ (i := 17) (N := some 42) (fl 19 18) rfl rfl (one_of HT_.out (by kernel_rfl)) (by decide) (fun K hK => ?_)
            refine goes_ Tryd.func20 (by kernel_rfl) rfl #[.int .i64 ((rd_T27 l0 x5_1).f0), .int .i64 (rd x3_1 ((rd_T27 l0 x5_1).f2)), .int .i64 ((rd_T27 l0 x5_1).f4)] (by rfl) rfl rfl ga ?_
            with_reducible refine (spinnakerref07_Eval.calls k1 ((rd_T27 l0 x5_1).f0) (rd x3_1 ((rd_T27 l0 x5_1).f2)) ((rd_T27 l0 x5_1).f4) t319 _ A16.out).mono ?_
            rintro e w26 ⟨rfl, hb⟩
            have HS14_ := (hb.cell (World.block_lt_of_cell? _ _ (hHeld.2.2.2.2.2.2.2.2.2.2.2.2.2.2.1))).trans (hHeld.2.2.2.2.2.2.2.2.2.2.2.2.2.2.1)
            refine ⟨_, rfl, ?_⟩
            have nw_ := Aside0.mk (has_below (by (with_reducible repeat (first | exact HW.out | apply has_drewN | apply has_drew))) hb)
            clear HW
            have HW := nw_
            clear nw_
            have n0_ := Aside0.mk (Kd.R_below (by (with_reducible repeat (first | apply Kd.R_alloc | apply Kd.R_drewN | apply Kd.R_drew)); exact HO_3.out) hb)
            have n1_ := Aside0.mk (below_step bl hb)
            clear HO_3
            clear HB
            have HO_3 := n0_
            have HB := n1_
            clear n0_ n1_
            (try clear hb)
            (try clear hb2)
            (try clear hk)
            (try clear hi)
            refine hK.out _ _ ⟨((HB.out.cell (World.block_lt_of_cell? w _ hw315_0)).trans hw315_0), ((HB.out.cell (World.block_lt_of_cell? w _ hw315_1)).trans hw315_1), ((HB.out.cell (World.block_lt_of_cell? w _ hw315_2)).trans hw315_2), ((HB.out.cell (World.block_lt_of_cell? w _ hw315_3)).trans hw315_3), ((HB.out.cell (World.block_lt_of_cell? w _ hw315_4)).trans hw315_4), ((HB.out.cell (World.block_lt_of_cell? w _ hw315_5)).trans hw315_5), ((HB.out.cell (World.block_lt_of_cell? w _ hw315_6)).trans hw315_6), ((HB.out.cell (World.block_lt_of_cell? w _ hw316_0)).trans hw316_0), ((HB.out.cell (World.block_lt_of_cell? w _ hw316_1)).trans hw316_1), ((HB.out.cell (World.block_lt_of_cell? w _ hw316_2)).trans hw316_2), ((HB.out.cell (World.block_lt_of_cell? w _ hw316_3)).trans hw316_3), ((HB.out.cell (World.block_lt_of_cell? w _ hw316_4)).trans hw316_4), ((HB.out.cell (World.block_lt_of_cell? w _ hw316_5)).trans hw316_5), ((HB.out.cell (World.block_lt_of_cell? w _ hw316_6)).trans hw316_6), HS14_, ((HB.out.cell (World.block_lt_of_cell? w _ hw318_0)).trans hw318_0), ((HB.out.cell (World.block_lt_of_cell? w _ hw318_1)).trans hw318_1), ((HB.out.cell (World.block_lt_of_cell? w _ hw318_2)).trans hw318_2), ((HB.out.cell (World.block_lt_of_cell? w _ hw318_3)).trans hw318_3), ((HB.out.cell (World.block_lt_of_cell? w _ hw318_4)).trans hw318_4), ((HB.out.cell (World.block_lt_of_cell? w _ hw318_5)).trans hw318_5), ((HB.out.cell (World.block_lt_of_cell? w _ hw318_6)).trans hw318_6)⟩ (fun hHeld => ?_)
            clear hK K
            refine norm_ (a' := ?_) ?_ ?_
            rotate_left
            ·show Act.put _ (some 42) _ = _
             refine pt ?_
             rfl
            refine pq 18 (some 6) ?_ (fl 19 19) HT_.out rfl rfl ?_ ?_ ?_ ?_
            rotate_left
            ·intro w'
             go_simp
             with_reducible rfl
            rotate_left
            ·refine pt ?_
             rfl
            refine done_ (done_of HT_.out (by kernel_rfl)) ?_
            have p320 : 0 ≤ (x5_1 : Int) := of_decide_eq_true (by first | (with_reducible assumption) | assumption)
            have q320 : x5_1 < (l0.length : Int) := of_decide_eq_true (by first | (with_reducible assumption) | assumption)
            obtain ⟨ad320, e320, hx320_0, hx320_1, hx320_2, hx320_3, hx320_4, hx320_5, hx320_6⟩ := at_T27 HR0.out x5_1 p320 q320
            obtain rfl : ad310 = ad320 := (by injection e320)
            replace hx320_0 := (HB.out.cell (World.block_lt_of_cell? w _ hx320_0)).trans hx320_0
            replace hx320_1 := (HB.out.cell (World.block_lt_of_cell? w _ hx320_1)).trans hx320_1
            replace hx320_2 := (HB.out.cell (World.block_lt_of_cell? w _ hx320_2)).trans hx320_2
            replace hx320_3 := (HB.out.cell (World.block_lt_of_cell? w _ hx320_3)).trans hx320_3
            replace hx320_4 := (HB.out.cell (World.block_lt_of_cell? w _ hx320_4)).trans hx320_4
            replace hx320_5 := (HB.out.cell (World.block_lt_of_cell? w _ hx320_5)).trans hx320_5
            replace hx320_6 := (HB.out.cell (World.block_lt_of_cell? w _ hx320_6)).trans hx320_6
            replace p320 := eq_true p320
            replace q320 := eq_true q320
            have p321 : 0 ≤ (x5_1 : Int) := of_decide_eq_true (by first | (with_reducible assumption) | assumption)
            have q321 : x5_1 < (l0.length : Int) := of_decide_eq_true (by first | (with_reducible assumption) | assumption)
            obtain ⟨ad321, e321, hx321_0, hx321_1, hx321_2, hx321_3, hx321_4, hx321_5, hx321_6⟩ := at_T27 HR0.out x5_1 p321 q321
            obtain rfl : ad310 = ad321 := (by injection e321)
            replace hx321_0 := (HB.out.cell (World.block_lt_of_cell? w _ hx321_0)).trans hx321_0
            replace hx321_1 := (HB.out.cell (World.block_lt_of_cell? w _ hx321_1)).trans hx321_1
            replace hx321_2 := (HB.out.cell (World.block_lt_of_cell? w _ hx321_2)).trans hx321_2
            replace hx321_3 := (HB.out.cell (World.block_lt_of_cell? w _ hx321_3)).trans hx321_3
            replace hx321_4 := (HB.out.cell (World.block_lt_of_cell? w _ hx321_4)).trans hx321_4
            replace hx321_5 := (HB.out.cell (World.block_lt_of_cell? w _ hx321_5)).trans hx321_5
            replace hx321_6 := (HB.out.cell (World.block_lt_of_cell? w _ hx321_6)).trans hx321_6
            replace p321 := eq_true p321
            replace q321 := eq_true q321
            have p23 : 0 ≤ (((rd_T27 l0 x5_1).f1) : Int) := of_decide_eq_true (by first | (with_reducible assumption) | assumption)
            have q23 : (((rd_T27 l0 x5_1).f1) : Int) < ((x3_1.length : Int) : Int) := of_decide_eq_true (by first | (with_reducible assumption) | assumption)
            obtain ⟨gb23, cl23, HG23⟩ := ari_base HO_3.out (by omega)
            have GB23 := Aside0.mk gb23
            have GG23 := Aside0.mk HG23
            clear gb23 HG23
            (first | simp only [add_plain] at hx317_0 | skip)
            obtain ⟨hx23_0, hf23_0, qa23⟩ := ari_cell HO_3.out (((rd_T27 l0 x5_1).f1) : Int) p23 q23
            rw [show ((32 : Nat) : Int) = 32 from rfl] at qa23
            replace p23 := eq_true p23
            replace q23 := eq_true q23
            obtain ⟨hy27_, hz27_, _⟩ := ari_cell HO_3.out (((rd_T27 l0 x5_1).f1) : Int) (of_decide_eq_true (by first | (with_reducible assumption) | assumption)) (of_decide_eq_true (by first | (with_reducible assumption) | assumption))
            have HP27 := Kd.R_putg HO_3.out (((rd_T27 l0 x5_1).f1) : Int) t319
            try go_wp2_with (first | ((with_reducible refine gate_store (t := 3) (p := 55) rfl ?_); refine store_event (t := 3) (p := 55) (v := ?vo_w28) (w1 := (w26.setCell ⟨ga308, (((rd_T27 l0 x5_1).f1) : Int).toNat, none⟩ (.int .i64 t319))) ?hg ?ho ?hn ?hr ?_; (case ho => rfl); (case hg => rfl); (case hn => rfl); (case hr => first | (go_simp; done) | (go_simp; rfl)); intro w28 hw; have nw_ := Aside0.mk (show Has gans 22 32 w28 by rw [hw]; exact has_set (by (with_reducible repeat (first | exact HW.out | apply has_drewN | apply has_drew))) HNE.out); clear HW; have HW := nw_; clear nw_; have hg : w26.grownBy w28 (some ga308) := (by rw [hw]; exact HP27.2); have hp_ : Kd.R (Kd.int .i64) 22 w28 w.heap.size (fun _ => True) (.slice (some ⟨ga308, 0, none⟩) 32 32) y322 := (by rw [hw, Ny322.out]; exact HP27.1); clear HP27; have n0_ := Aside0.mk (hp_); have n1_ := Aside0.mk ((by rw [hw]; exact below_set (HB.out) GB23.out : Below w.heap.size w w28)); clear HO_3; clear HB; have HO_3 := n0_; have HB := n1_; clear n0_ n1_; clear hg hw hp_))
            go_roundg k1
            case measure => have := HK1.out; omega
            case rel => exact ⟨(y322), (wrap64 (x5_1 + 1)), fj, H', ⟨by have := HK1.out; omega⟩, ⟨by (with_reducible repeat (first | apply Kd.R_alloc | apply Kd.R_drewN | apply Kd.R_drew)); exact HO_3.out⟩, ⟨(by (with_reducible repeat (first | exact HW.out | apply has_drewN | apply has_drew)))⟩, ⟨bl⟩⟩
           ·rw [if_neg c22] at H
            exact absurd H (by simp)
          ·rw [if_neg c21] at H
           exact absurd H (by simp)
        ·rw [if_neg c15] at H
         exact absurd H (by simp)
       ·rw [if_neg c14] at H
        exact absurd H (by simp)
     ·rw [if_neg c6] at H
      exact absurd H (by simp)
    ·rw [if_neg c5] at H
     have c5b0 := decide_eq_false c5
     clear c5
     obtain rfl := Option.some.inj H
     go_wp2_with (first | ((with_reducible refine gate_dst (N := 56) rfl ?_); refine ari_load ?hg (T := 22) (p := 3) ?ho (g := ga308) (n := 32) (base := w.heap.size) (ok := fun _ => True) (xs := x3_1) ?hp ?hR (by decide) hu22 ?hi ?_; (case hg => rfl); (case ho => rfl); (case hp => rfl); (case hR => (with_reducible repeat (first | apply Kd.R_alloc | apply Kd.R_drewN | apply Kd.R_drew)); exact HO_3.out); (case hi => kernel_rfl)) | ((with_reducible refine gate_store (t := 22) (p := 4) rfl ?_); refine has_fill ?hg (T := 22) (p := 4) (v := .tmp 56) ?ho ?hn (g := gans) (n := 32) (base := w.heap.size) (xs := x3_1) ?hl ?hp ?hv ?hH ?h1 ?hb ?ht ?_; (case hl => exact (ari_full HO_3.out (by decide)).2.2.2); (case h1 => decide); (case hb => exact HGE.out); (case hH => exact (by (with_reducible repeat (first | exact HW.out | apply has_drewN | apply has_drew)))); (case hg => rfl); (case ho => rfl); (case hn => rfl); (case hp => rfl); (case hv => rfl); (case ht => kernel_rfl); intro wf hof hbf; have n0_ := Aside0.mk (Below.trans bl (hbf.mono HGE.out)); clear HB; have HB := n0_; clear n0_; have HOF := Aside0.mk hof; clear hof hbf))
     refine bodyPost_ret (results_cell_row rfl _ _ gans 22 (nums .i64 x3_1).toArray (0, 0) _ rfl (ari_full HOF.out (by decide)).2.2.1 hu22 rfl ((show (Tryd.prog.info? 22).map (·.size) = some 32 by kernel_rfl).trans (by rw [List.size_toArray, nums_length, (ari_full HOF.out (by decide)).2.2.2]))) rfl ?_
     exact ⟨rfl, (ari_full HOF.out (by decide)).2.2.2, HB.out⟩
 ·rw [if_neg c3] at H
  exact absurd H (by simp)

/-! ### arr_same: function 79 (by hand) -/
/-- Two arrays' cells are compared. -/
def arr_same.f (l0 l1 : List Int) : Option Bool := some (l0 == l1)

end Go.Proofs.YtmkcnbaknnohgaaDoor.GUnitLoads
