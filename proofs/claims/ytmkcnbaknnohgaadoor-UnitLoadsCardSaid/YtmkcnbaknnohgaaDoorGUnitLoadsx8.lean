-- Written by wip/stub.py of this repo.
import Derived.Test.YtmkcnbaknnohgaaDoorGUnitLoadsx0
namespace Go.Proofs.YtmkcnbaknnohgaaDoor.GUnitLoads
open Go.RowKit Go.Proofs.YtmkcnbaknnohgaaDoorW.PrintWords Go.Proofs.YtmkcnbaknnohgaaDoorW.PrintLast Go.Proofs.YtmkcnbaknnohgaaDoorW.PrintMore
attribute [local go_sem] max2_int min2_int max_two min_two max_three min_three max_four min_four   -- for this text's walks alone
set_option linter.unusedVariables false
set_option linter.unusedSimpArgs false

/-! ### spinnakerref07_Mul: function 42 -/
mutual
def spinnakerref07_Mul.l0 : Nat → List Int → List Int → List Int → List Int → Int → Option (Int × Int)
  | 0, _, _, _, _, _ => none
  | k + 1, x6, x7, x8, x9, x10 => if x10 < 4 then (spinnakerref07_Mul.l1 k x6 x7 x8 x9 x10 0) else (if 4 ≤ 35184372088832 then (spinnakerref07_Mul.l2 k x6 x9 (List.replicate 4 0) 0 0) else (none))
def spinnakerref07_Mul.l1 : Nat → List Int → List Int → List Int → List Int → Int → Int → Option (Int × Int)
  | 0, _, _, _, _, _, _ => none
  | k + 1, x6, x7, x8, x9, x10, x11 => if x11 < 4 then (if 0 ≤ x10 then (if x10 < (x7.length : Int) then (if 0 ≤ x11 then (if x11 < (x8.length : Int) then (if 0 ≤ (wrap64 (x10 + x11)) then (if (wrap64 (x10 + x11)) < (x9.length : Int) then ((some (x9.set ((wrap64 (x10 + x11)) : Int).toNat (IntKind.u64.wrap ((rd x9 (wrap64 (x10 + x11))) + (Int.tmod (IntKind.u64.wrap ((rd x7 x10) * (rd x8 x11))) 65536))) : List Int)).bind fun y267 => (if 0 ≤ (wrap64 ((wrap64 (x10 + x11)) + 1)) then (if (wrap64 ((wrap64 (x10 + x11)) + 1)) < (x9.length : Int) then (spinnakerref07_Mul.l1 k x6 x7 x8 (y267.set ((wrap64 ((wrap64 (x10 + x11)) + 1)) : Int).toNat (IntKind.u64.wrap ((rd y267 (wrap64 ((wrap64 (x10 + x11)) + 1))) + (IntKind.u64.wrap (Int.tdiv (IntKind.u64.wrap ((rd x7 x10) * (rd x8 x11))) 65536))))) x10 (wrap64 (x11 + 1))) else (none)) else (none))) else (none)) else (none)) else (none)) else (none)) else (none)) else (none)) else (spinnakerref07_Mul.l0 k x6 x7 x8 x9 (wrap64 (x10 + 1)))
def spinnakerref07_Mul.l2 : Nat → List Int → List Int → List Int → Int → Int → Option (Int × Int)
  | 0, _, _, _, _, _ => none
  | k + 1, x6, x9, x13, x14, x15 => if x15 < 8 then (if 0 ≤ x15 then (if x15 < (x9.length : Int) then (if x15 < 4 then (if x15 < (x6.length : Int) then (spinnakerref07_Mul.l2 k (x6.set (x15 : Int).toNat (Int.tmod (IntKind.u64.wrap ((rd x9 x15) + x14)) 65536)) x9 x13 (IntKind.u64.wrap (Int.tdiv (IntKind.u64.wrap ((rd x9 x15) + x14)) 65536)) (wrap64 (x15 + 1))) else (none)) else (if 0 ≤ (wrap64 (x15 - 4)) then (if (wrap64 (x15 - 4)) < (x13.length : Int) then (spinnakerref07_Mul.l2 k x6 x9 (x13.set ((wrap64 (x15 - 4)) : Int).toNat (Int.tmod (IntKind.u64.wrap ((rd x9 x15) + x14)) 65536)) (IntKind.u64.wrap (Int.tdiv (IntKind.u64.wrap ((rd x9 x15) + x14)) 65536)) (wrap64 (x15 + 1))) else (none)) else (none))) else (none)) else (none)) else (if 0 < (x6.length : Int) then (if 1 < (x6.length : Int) then (if 2 < (x6.length : Int) then (if 3 < (x6.length : Int) then (if 0 < (x13.length : Int) then (if 1 < (x13.length : Int) then (if 2 < (x13.length : Int) then (if 3 < (x13.length : Int) then (some (IntKind.u64.wrap ((IntKind.u64.wrap ((IntKind.u64.wrap ((rd x6 0) + (IntKind.u64.wrap ((rd x6 1) * 65536)))) + (IntKind.u64.wrap ((rd x6 2) * 4294967296)))) + (IntKind.u64.wrap ((rd x6 3) * 281474976710656))), IntKind.u64.wrap ((IntKind.u64.wrap ((IntKind.u64.wrap ((rd x13 0) + (IntKind.u64.wrap ((rd x13 1) * 65536)))) + (IntKind.u64.wrap ((rd x13 2) * 4294967296)))) + (IntKind.u64.wrap ((rd x13 3) * 281474976710656))))) else (none)) else (none)) else (none)) else (none)) else (none)) else (none)) else (none)) else (none))
end
def spinnakerref07_Mul.f (k : Nat) (a0 : Int) (a1 : Int) : Option (Int × Int) := if 4 ≤ 35184372088832 then (if 8 ≤ 35184372088832 then (spinnakerref07_Mul.l0 k (List.replicate 4 0) (([Int.tmod a0 65536, Int.tmod (IntKind.u64.wrap (Int.tdiv a0 65536)) 65536, Int.tmod (IntKind.u64.wrap (Int.tdiv a0 4294967296)) 65536, IntKind.u64.wrap (Int.tdiv a0 281474976710656)] : List Int)) (([Int.tmod a1 65536, Int.tmod (IntKind.u64.wrap (Int.tdiv a1 65536)) 65536, Int.tmod (IntKind.u64.wrap (Int.tdiv a1 4294967296)) 65536, IntKind.u64.wrap (Int.tdiv a1 281474976710656)] : List Int)) (List.replicate 8 0) 0) else (none)) else (none)
theorem spinnakerref07_Mul.mono_l : ∀ k, (∀ y0 y1 y2 y3 y4, LeO (spinnakerref07_Mul.l0 k y0 y1 y2 y3 y4) (spinnakerref07_Mul.l0 (k + 1) y0 y1 y2 y3 y4)) ∧ (∀ y0 y1 y2 y3 y4 y5, LeO (spinnakerref07_Mul.l1 k y0 y1 y2 y3 y4 y5) (spinnakerref07_Mul.l1 (k + 1) y0 y1 y2 y3 y4 y5)) ∧ (∀ y0 y1 y2 y3 y4, LeO (spinnakerref07_Mul.l2 k y0 y1 y2 y3 y4) (spinnakerref07_Mul.l2 (k + 1) y0 y1 y2 y3 y4))
 | 0 => ⟨fun _ _ _ _ _ r h => by simp [spinnakerref07_Mul.l0] at h, fun _ _ _ _ _ _ r h => by simp [spinnakerref07_Mul.l1] at h, fun _ _ _ _ _ r h => by simp [spinnakerref07_Mul.l2] at h⟩
 | k + 1 => by
  obtain ⟨ih0, ih1, ih2⟩ := spinnakerref07_Mul.mono_l k
  refine ⟨?_, ?_, ?_⟩
  all_goals (intros; (first | unfold spinnakerref07_Mul.l0 | unfold spinnakerref07_Mul.l1 | unfold spinnakerref07_Mul.l2); repeat' first | (with_reducible first | exact ih0 _ _ _ _ _ | exact ih1 _ _ _ _ _ _ | exact ih2 _ _ _ _ _ | exact LeO.refl _ | exact LeO.none _ | refine LeO.ite ?_ ?_ | refine LeO.bind ?_ (fun _ => ?_)) | exact ih0 _ _ _ _ _ | exact ih1 _ _ _ _ _ _ | exact ih2 _ _ _ _ _ | exact LeO.none _ | refine LeO.ite ?_ ?_ | refine LeO.bind ?_ (fun _ => ?_))
theorem spinnakerref07_Mul.mono : ∀ a0 a1 k, LeO (spinnakerref07_Mul.f k a0 a1) (spinnakerref07_Mul.f (k + 1) a0 a1) := by
 intro a0 a1 k
 obtain ⟨ih0, ih1, ih2⟩ := spinnakerref07_Mul.mono_l k
 unfold spinnakerref07_Mul.f
 repeat' first | (with_reducible first | exact ih0 _ _ _ _ _ | exact ih1 _ _ _ _ _ _ | exact ih2 _ _ _ _ _ | exact LeO.refl _ | exact LeO.none _ | refine LeO.ite ?_ ?_ | refine LeO.bind ?_ (fun _ => ?_)) | exact ih0 _ _ _ _ _ | exact ih1 _ _ _ _ _ _ | exact ih2 _ _ _ _ _ | exact LeO.none _ | refine LeO.ite ?_ ?_ | refine LeO.bind ?_ (fun _ => ?_)
theorem fill_event {P : Program} {ops : Array Oper} {rest : List Oper} {o : Oper} {a : Act} {Q : Exit → Act → World → Prop} {W : World} (hgd : o.guard = none) {t : TypeId} {p : Tmp} {v : Operand} (ho : o.op = .store t (.tmp p) v) (hN : o.dst = none)
  {g : Nat} {e : TypeId} {cur cs : Array Value} (hp : a.eval (.tmp p) = .pointer (some ⟨g, 0, none⟩)) (hv : a.eval v = .agg cs) (hh : W.heap[g]? = some (.cells cur e (0, 0))) (hsz : cs.size = cur.size)
  (h1 : ∀ q ∈ cs.toList, q.oneCell' = true) (hc : (Value.agg cs).cells.toList = cs.toList) (ht : (P.info? t).map (·.size) = some cs.size)
  (h : ∀ w1, w1.heap[g]? = some (.cells cs e (0, 0)) → Below g W w1 → wpList P ops Q rest a w1) : wpList P ops Q (o :: rest) a W := by
 have hrun : (Instr.storeAt t (.pointer (some ⟨g, 0, none⟩)) (.agg cs)).run P W = .ok () (W.setCells g 0 cs.toList) :=
  run_store_run t (.agg cs) cs.toList hh hc (by rw [ht, Array.length_toList]) (by rw [Array.length_toList]; omega) h1
 refine wpList_plain hgd fun K hK => ?_
 unfold Oper.wp execOp
 simp only [ho, hp, hv, Sem.run_bind, Sem.run_pure, Result.andThen_ok, hrun]
 show K (a.put o.dst undef) _
 rw [hN]
 refine hK a _ (h _ ?_ ?_)
 ·obtain ⟨cur', h3, h4, h5⟩ := setCells_row cs.toList 0 W cur hh (by rw [Array.length_toList]; omega)
  have e : cur' = cs := by
   apply Array.ext'
   rw [h5, List.take_zero, List.nil_append, List.drop_of_length_le (by rw [Array.length_toList, Array.length_toList]; omega), List.append_nil]
  rw [e] at h3; exact h3
 ·obtain ⟨s1, s2, s3, s4⟩ := setCells_same g cs.toList 0 W
  exact ⟨s1, s2, s3, by rw [s4]; exact Nat.le_refl _, fun k hk => setCells_far _ _ k (Nat.ne_of_lt hk)⟩
/-- An array of the call's own, as a row that is full. -/
theorem arr_row {T : TypeId} {w : World} {base g : Nat} {xs : List Int} (hb : base ≤ g) (hl : xs.length ≤ 1000) (h : w.heap[g]? = some (.cells (nums .u64 xs).toArray T (0, 0))) :
  Kd.R (Kd.int .u64) T w base (fun _ => True) (.slice (some ⟨g, 0, none⟩) xs.length xs.length) xs := by
 refine Kd.R_of_own ⟨by simp [encs], .inr ⟨g, xs.length, (nums .u64 xs).toArray, rfl, hb, h, Nat.le_refl _, by simp only [maxLen]; omega, by simp [nums], ?_⟩⟩ (fun _ _ => trivial)
 have e : (nums .u64 xs).length = xs.length := nums_length _ _
 show (nums .u64 xs).take (xs.length * 1) = encs (Value.int .u64) xs
 rw [Nat.mul_one, ← e, List.take_length]
 rfl
theorem arr_make {P : Program} {ops : Array Oper} {rest : List Oper} {o : Oper} {a : Act} {Q : Exit → Act → World → Prop} {W : World} (hgd : o.guard = none) {N : Tmp} (_hd : o.dst = some N) (T : TypeId) (n : Nat) (hn : n ≤ 1000)
  (hrun : (execOp a.eval o).run P W = .ok (.value (.pointer (some ⟨W.heap.size, 0, none⟩))) (W.alloc (.cells (nums .u64 (List.replicate n 0)).toArray T (0, 0))))
  (h : ∀ g w1, Kd.R (Kd.int .u64) T w1 W.heap.size (fun _ => True) (.slice (some ⟨g, 0, none⟩) n n) (List.replicate n 0) → Below W.heap.size W w1 → W.grownBy w1 none → W.heap.size ≤ g →
   wpList P ops Q rest (a.put o.dst (.pointer (some ⟨g, 0, none⟩))) w1) : wpList P ops Q (o :: rest) a W := by
 have hR := arr_row (T := T) (w := W.alloc (.cells (nums .u64 (List.replicate n 0)).toArray T (0, 0))) (base := W.heap.size) (Nat.le_refl _) (by rw [List.length_replicate]; exact hn) (blk_new W _)
 rw [List.length_replicate] at hR
 have hb := below_alloc (Below.refl W.heap.size W) (.cells (nums .u64 (List.replicate n 0)).toArray T (0, 0))
 exact Kd.event_run hgd hrun (h _ _ hR hb (grown_of_below hb none) (Nat.le_refl _))
theorem arr_lit {P : Program} {ops : Array Oper} {rest : List Oper} {o o2 : Oper} {a : Act} {Q : Exit → Act → World → Prop} {W : World} (hgd : o.guard = none) {N : Tmp} (_hd : o.dst = some N) (hgd2 : o2.guard = none) (hn2 : o2.dst = none) (T : TypeId) (x : Operand)
  (ho2 : o2.op = .store T (.tmp N) x) (xs : List Int) (n : Nat) (hln : xs.length = n) (hl : n ≤ 1000)
  (hrun : (execOp a.eval o).run P W = .ok (.value (.pointer (some ⟨W.heap.size, 0, none⟩))) (W.alloc (.cells (nums .u64 (List.replicate xs.length 0)).toArray T (0, 0))))
  (hev : ∀ g, (a.put o.dst (.pointer (some ⟨g, 0, none⟩))).eval (.tmp N) = .pointer (some ⟨g, 0, none⟩)) (hx : ∀ g, (a.put o.dst (.pointer (some ⟨g, 0, none⟩))).eval x = .agg (nums .u64 xs).toArray)
  (ht : (P.info? T).map (·.size) = some xs.length) (hc : (Value.agg (nums .u64 xs).toArray).cells.toList = (nums .u64 xs).toArray.toList)
  (h : ∀ g w1, Kd.R (Kd.int .u64) T w1 W.heap.size (fun _ => True) (.slice (some ⟨g, 0, none⟩) n n) xs → Below W.heap.size W w1 → W.grownBy w1 none → W.heap.size ≤ g →
   wpList P ops Q rest (a.put o.dst (.pointer (some ⟨g, 0, none⟩))) w1) : wpList P ops Q (o :: o2 :: rest) a W := by
 subst hln
 have hb := below_alloc (Below.refl W.heap.size W) (.cells (nums .u64 (List.replicate xs.length 0)).toArray T (0, 0))
 refine Kd.event_run hgd hrun (fill_event hgd2 ho2 hn2 (g := W.heap.size) (hev _) (hx _) (blk_new W _) (by simp [nums]) ?_ hc (by rw [ht]; simp [nums]) fun w1 h1 h2 => ?_)
 ·intro q hq
  simp only [nums, List.mem_map] at hq
  obtain ⟨z, _, rfl⟩ := hq
  rfl
 ·have h3 := hb.trans h2
  exact h _ _ (arr_row (Nat.le_refl _) hl h1) h3 (grown_of_below h3 none) (Nat.le_refl _)
theorem arr_cell {T : TypeId} {w : World} {base g n : Nat} {ok : Nat → Prop} {xs : List Int} (h : Kd.R (Kd.int .u64) T w base ok (.slice (some ⟨g, 0, none⟩) n n) xs) (i : Int) (h0 : 0 ≤ i) (h1 : i < (xs.length : Int)) :
  w.cell? ⟨g, i.toNat, none⟩ = some (.int .u64 (rd xs i)) ∧ w.frozen? ⟨g, i.toNat, none⟩ = false ∧ (i < (n : Int)) = True := by
 have hl := (Kd.R_reads' h).1
 obtain ⟨a, b⟩ := Kd.R_celln 0 h i h0 (by omega)
 exact ⟨a, b, eq_true (by omega)⟩
theorem arr_base {T : TypeId} {w : World} {base g n : Nat} {ok : Nat → Prop} {xs : List Int} (h : Kd.R (Kd.int .u64) T w base ok (.slice (some ⟨g, 0, none⟩) n n) xs) (hn : 0 < xs.length) : base ≤ g ∧ ∃ cells, w.heap[g]? = some (.cells cells T (0, 0)) := by
 obtain ⟨g', cap, e, hb, _, hc⟩ := Kd.R_form h hn
 injection e with e
 injection e with e
 injection e with e
 subst e
 exact ⟨hb, hc⟩
set_option maxHeartbeats 8000000 in
set_option maxRecDepth 100000 in
theorem spinnakerref07_Mul.calls (k : Nat) (a0 : Int) (a1 : Int) (r1 : Int) (r2 : Int) (w : World) (h : spinnakerref07_Mul.f k a0 a1 = some (r1, r2)) :
  Calls Tryd.prog 42 #[.int .u64 a0, .int .u64 a1] w fun e w' => e = .returned (.tuple #[.int .u64 r1, .int .u64 r2]) ∧ Below w.heap.size w w' := by
 have hu66 := Tryd.underlying66
 have hu67 := Tryd.underlying67
 have HB := Aside0.mk (Below.refl w.heap.size w)
 have H : (if 4 ≤ 35184372088832 then (if 8 ≤ 35184372088832 then (spinnakerref07_Mul.l0 k (List.replicate 4 0) (([Int.tmod a0 65536, Int.tmod (IntKind.u64.wrap (Int.tdiv a0 65536)) 65536, Int.tmod (IntKind.u64.wrap (Int.tdiv a0 4294967296)) 65536, IntKind.u64.wrap (Int.tdiv a0 281474976710656)] : List Int)) (([Int.tmod a1 65536, Int.tmod (IntKind.u64.wrap (Int.tdiv a1 65536)) 65536, Int.tmod (IntKind.u64.wrap (Int.tdiv a1 4294967296)) 65536, IntKind.u64.wrap (Int.tdiv a1 281474976710656)] : List Int)) (List.replicate 8 0) 0) else (none)) else (none)) = some (r1, r2) := h
 clear h
 by_cases c3 : 4 ≤ 35184372088832
 ·rw [if_pos c3] at H
  have c3b0 := eq_true c3
  have c3b1 : decide (4 ≤ 35184372088832) = true := decide_eq_true c3
  clear c3
  obtain ⟨y252, hy252⟩ : ∃ y_ : List Int, y_ = (List.replicate 4 0) := ⟨_, rfl⟩
  replace H : (if 8 ≤ 35184372088832 then (spinnakerref07_Mul.l0 k y252 (([Int.tmod a0 65536, Int.tmod (IntKind.u64.wrap (Int.tdiv a0 65536)) 65536, Int.tmod (IntKind.u64.wrap (Int.tdiv a0 4294967296)) 65536, IntKind.u64.wrap (Int.tdiv a0 281474976710656)] : List Int)) (([Int.tmod a1 65536, Int.tmod (IntKind.u64.wrap (Int.tdiv a1 65536)) 65536, Int.tmod (IntKind.u64.wrap (Int.tdiv a1 4294967296)) 65536, IntKind.u64.wrap (Int.tdiv a1 281474976710656)] : List Int)) (List.replicate 8 0) 0) else (none)) = some (r1, r2) := by first | (rw [hy252]; with_reducible exact H) | (have H2_ := (Option.bind_some _ _).symm.trans H; rw [hy252]; with_reducible exact H2_) | (have H2_ := (Option.bind_some _ _).symm.trans H; with_reducible exact H2_) | with_reducible exact H | (rw [hy252]; exact H) | exact H
  have Ny252 := Aside0.mk hy252
  clear hy252
  obtain ⟨y255, hy255⟩ : ∃ y_ : List Int, y_ = (([Int.tmod a0 65536, Int.tmod (IntKind.u64.wrap (Int.tdiv a0 65536)) 65536, Int.tmod (IntKind.u64.wrap (Int.tdiv a0 4294967296)) 65536, IntKind.u64.wrap (Int.tdiv a0 281474976710656)] : List Int)) := ⟨_, rfl⟩
  replace H : (if 8 ≤ 35184372088832 then (spinnakerref07_Mul.l0 k y252 y255 (([Int.tmod a1 65536, Int.tmod (IntKind.u64.wrap (Int.tdiv a1 65536)) 65536, Int.tmod (IntKind.u64.wrap (Int.tdiv a1 4294967296)) 65536, IntKind.u64.wrap (Int.tdiv a1 281474976710656)] : List Int)) (List.replicate 8 0) 0) else (none)) = some (r1, r2) := by first | (rw [hy255]; with_reducible exact H) | (have H2_ := (Option.bind_some _ _).symm.trans H; rw [hy255]; with_reducible exact H2_) | (have H2_ := (Option.bind_some _ _).symm.trans H; with_reducible exact H2_) | with_reducible exact H | (rw [hy255]; exact H) | exact H
  have Ny255 := Aside0.mk hy255
  clear hy255
  obtain ⟨y258, hy258⟩ : ∃ y_ : List Int, y_ = (([Int.tmod a1 65536, Int.tmod (IntKind.u64.wrap (Int.tdiv a1 65536)) 65536, Int.tmod (IntKind.u64.wrap (Int.tdiv a1 4294967296)) 65536, IntKind.u64.wrap (Int.tdiv a1 281474976710656)] : List Int)) := ⟨_, rfl⟩
  replace H : (if 8 ≤ 35184372088832 then (spinnakerref07_Mul.l0 k y252 y255 y258 (List.replicate 8 0) 0) else (none)) = some (r1, r2) := by first | (rw [hy258]; with_reducible exact H) | (have H2_ := (Option.bind_some _ _).symm.trans H; rw [hy258]; with_reducible exact H2_) | (have H2_ := (Option.bind_some _ _).symm.trans H; with_reducible exact H2_) | with_reducible exact H | (rw [hy258]; exact H) | exact H
  have Ny258 := Aside0.mk hy258
  clear hy258
  by_cases c4 : 8 ≤ 35184372088832
  ·rw [if_pos c4] at H
   have c4b0 := eq_true c4
   have c4b1 : decide (8 ≤ 35184372088832) = true := decide_eq_true c4
   clear c4
   obtain ⟨y261, hy261⟩ : ∃ y_ : List Int, y_ = (List.replicate 8 0) := ⟨_, rfl⟩
   replace H : (spinnakerref07_Mul.l0 k y252 y255 y258 y261 0) = some (r1, r2) := by first | (rw [hy261]; with_reducible exact H) | (have H2_ := (Option.bind_some _ _).symm.trans H; rw [hy261]; with_reducible exact H2_) | (have H2_ := (Option.bind_some _ _).symm.trans H; with_reducible exact H2_) | with_reducible exact H | (rw [hy261]; exact H) | exact H
   have Ny261 := Aside0.mk hy261
   clear hy261
   have H' := Aside0.mk H
   clear H
   go_enter Tryd.func42, Tryd.ntmps42
   go_wp2_with (first | ((with_reducible refine gate_dst (N := 6) rfl ?_); refine arr_make ?hg (N := 6) ?hd 66 4 (by decide) ?hr ?_; (case hd => rfl); (case hg => rfl); (case hr => first | (go_simp; done) | (go_simp; rfl)); intro ga253 w5 ho6 hb hg_ hnew_; clear hg_ hnew_; rw [← Ny252.out] at ho6; have n0_ := Aside0.mk (Kd.R_lower ho6 (below_size bl)); have n1_ := Aside0.mk (below_step bl hb); clear HB; have HO254 := n0_; have HB := n1_; clear n0_ n1_; clear hb ho6) | ((with_reducible refine gate_dst (N := 7) rfl ?_); refine arr_lit ?hg (N := 7) ?hd ?hg2 ?hn2 66 (.tmp 27) ?ho2 ([Int.tmod a0 65536, Int.tmod (IntKind.u64.wrap (Int.tdiv a0 65536)) 65536, Int.tmod (IntKind.u64.wrap (Int.tdiv a0 4294967296)) 65536, IntKind.u64.wrap (Int.tdiv a0 281474976710656)] : List Int) 4 rfl (by decide) ?hr ?hev ?hx ?ht rfl ?_; (case hd => rfl); (case hg => rfl); (case hg2 => rfl); (case hn2 => rfl); (case ho2 => rfl); (case hev => intro g_; first | rfl | (go_simp; done) | (go_simp; rfl)); (case hx => intro g_; first | rfl | (go_simp; done) | (go_simp; rfl)); (case ht => kernel_rfl); (case hr => first | (go_simp; done) | (go_simp; rfl)); intro ga256 w7 ho8 hb hg_ hnew_; clear hg_ hnew_; rw [← Ny255.out] at ho8; have n0_ := Aside0.mk (Kd.R_elder' (by (with_reducible repeat (first | apply Kd.R_alloc | apply Kd.R_drewN | apply Kd.R_drew)); exact HO254.out) (Kd.R_base ho8) hb); have n1_ := Aside0.mk (Kd.R_lower (Kd.R_new' ho8 (Kd.R_lt (by (with_reducible repeat (first | apply Kd.R_alloc | apply Kd.R_drewN | apply Kd.R_drew)); exact HO254.out))) (below_size bl)); have n2_ := Aside0.mk (below_step bl hb); clear HO254; clear HB; have HO254 := n0_; have HO257 := n1_; have HB := n2_; clear n0_ n1_ n2_; clear hb ho8) | ((with_reducible refine gate_dst (N := 8) rfl ?_); refine arr_lit ?hg (N := 8) ?hd ?hg2 ?hn2 66 (.tmp 38) ?ho2 ([Int.tmod a1 65536, Int.tmod (IntKind.u64.wrap (Int.tdiv a1 65536)) 65536, Int.tmod (IntKind.u64.wrap (Int.tdiv a1 4294967296)) 65536, IntKind.u64.wrap (Int.tdiv a1 281474976710656)] : List Int) 4 rfl (by decide) ?hr ?hev ?hx ?ht rfl ?_; (case hd => rfl); (case hg => rfl); (case hg2 => rfl); (case hn2 => rfl); (case ho2 => rfl); (case hev => intro g_; first | rfl | (go_simp; done) | (go_simp; rfl)); (case hx => intro g_; first | rfl | (go_simp; done) | (go_simp; rfl)); (case ht => kernel_rfl); (case hr => first | (go_simp; done) | (go_simp; rfl)); intro ga259 w9 ho10 hb hg_ hnew_; clear hg_ hnew_; rw [← Ny258.out] at ho10; have n0_ := Aside0.mk (Kd.R_elder' (by (with_reducible repeat (first | apply Kd.R_alloc | apply Kd.R_drewN | apply Kd.R_drew)); exact HO254.out) (Kd.R_base ho10) hb); have n1_ := Aside0.mk (Kd.R_elder' (by (with_reducible repeat (first | apply Kd.R_alloc | apply Kd.R_drewN | apply Kd.R_drew)); exact HO257.out) (Kd.R_base ho10) hb); have n2_ := Aside0.mk (Kd.R_lower (Kd.R_new' (Kd.R_new' ho10 (Kd.R_lt (by (with_reducible repeat (first | apply Kd.R_alloc | apply Kd.R_drewN | apply Kd.R_drew)); exact HO254.out))) (Kd.R_lt (by (with_reducible repeat (first | apply Kd.R_alloc | apply Kd.R_drewN | apply Kd.R_drew)); exact HO257.out))) (below_size bl)); have n3_ := Aside0.mk (below_step bl hb); clear HO254; clear HO257; clear HB; have HO254 := n0_; have HO257 := n1_; have HO260 := n2_; have HB := n3_; clear n0_ n1_ n2_ n3_; clear hb ho10) | ((with_reducible refine gate_dst (N := 9) rfl ?_); refine arr_make ?hg (N := 9) ?hd 67 8 (by decide) ?hr ?_; (case hd => rfl); (case hg => rfl); (case hr => first | (go_simp; done) | (go_simp; rfl)); intro ga262 w11 ho12 hb hg_ hnew_; clear hg_ hnew_; rw [← Ny261.out] at ho12; have n0_ := Aside0.mk (Kd.R_elder' (by (with_reducible repeat (first | apply Kd.R_alloc | apply Kd.R_drewN | apply Kd.R_drew)); exact HO254.out) (Kd.R_base ho12) hb); have n1_ := Aside0.mk (Kd.R_elder' (by (with_reducible repeat (first | apply Kd.R_alloc | apply Kd.R_drewN | apply Kd.R_drew)); exact HO257.out) (Kd.R_base ho12) hb); have n2_ := Aside0.mk (Kd.R_elder' (by (with_reducible repeat (first | apply Kd.R_alloc | apply Kd.R_drewN | apply Kd.R_drew)); exact HO260.out) (Kd.R_base ho12) hb); have n3_ := Aside0.mk (Kd.R_lower (Kd.R_new' (Kd.R_new' (Kd.R_new' ho12 (Kd.R_lt (by (with_reducible repeat (first | apply Kd.R_alloc | apply Kd.R_drewN | apply Kd.R_drew)); exact HO254.out))) (Kd.R_lt (by (with_reducible repeat (first | apply Kd.R_alloc | apply Kd.R_drewN | apply Kd.R_drew)); exact HO257.out))) (Kd.R_lt (by (with_reducible repeat (first | apply Kd.R_alloc | apply Kd.R_drewN | apply Kd.R_drew)); exact HO260.out))) (below_size bl)); have n4_ := Aside0.mk (below_step bl hb); clear HO254; clear HO257; clear HO260; clear HB; have HO254 := n0_; have HO257 := n1_; have HO260 := n2_; have HO263 := n3_; have HB := n4_; clear n0_ n1_ n2_ n3_ n4_; clear hb ho12))
   repeat (go_quiet (first | ((with_reducible refine gate_dst (N := 6) rfl ?_); refine arr_make ?hg (N := 6) ?hd 66 4 (by decide) ?hr ?_; (case hd => rfl); (case hg => rfl); (case hr => first | (go_simp; done) | (go_simp; rfl)); intro ga253 w5 ho6 hb hg_ hnew_; clear hg_ hnew_; rw [← Ny252.out] at ho6; have n0_ := Aside0.mk (Kd.R_lower ho6 (below_size bl)); have n1_ := Aside0.mk (below_step bl hb); clear HB; have HO254 := n0_; have HB := n1_; clear n0_ n1_; clear hb ho6) | ((with_reducible refine gate_dst (N := 7) rfl ?_); refine arr_lit ?hg (N := 7) ?hd ?hg2 ?hn2 66 (.tmp 27) ?ho2 ([Int.tmod a0 65536, Int.tmod (IntKind.u64.wrap (Int.tdiv a0 65536)) 65536, Int.tmod (IntKind.u64.wrap (Int.tdiv a0 4294967296)) 65536, IntKind.u64.wrap (Int.tdiv a0 281474976710656)] : List Int) 4 rfl (by decide) ?hr ?hev ?hx ?ht rfl ?_; (case hd => rfl); (case hg => rfl); (case hg2 => rfl); (case hn2 => rfl); (case ho2 => rfl); (case hev => intro g_; first | rfl | (go_simp; done) | (go_simp; rfl)); (case hx => intro g_; first | rfl | (go_simp; done) | (go_simp; rfl)); (case ht => kernel_rfl); (case hr => first | (go_simp; done) | (go_simp; rfl)); intro ga256 w7 ho8 hb hg_ hnew_; clear hg_ hnew_; rw [← Ny255.out] at ho8; have n0_ := Aside0.mk (Kd.R_elder' (by (with_reducible repeat (first | apply Kd.R_alloc | apply Kd.R_drewN | apply Kd.R_drew)); exact HO254.out) (Kd.R_base ho8) hb); have n1_ := Aside0.mk (Kd.R_lower (Kd.R_new' ho8 (Kd.R_lt (by (with_reducible repeat (first | apply Kd.R_alloc | apply Kd.R_drewN | apply Kd.R_drew)); exact HO254.out))) (below_size bl)); have n2_ := Aside0.mk (below_step bl hb); clear HO254; clear HB; have HO254 := n0_; have HO257 := n1_; have HB := n2_; clear n0_ n1_ n2_; clear hb ho8) | ((with_reducible refine gate_dst (N := 8) rfl ?_); refine arr_lit ?hg (N := 8) ?hd ?hg2 ?hn2 66 (.tmp 38) ?ho2 ([Int.tmod a1 65536, Int.tmod (IntKind.u64.wrap (Int.tdiv a1 65536)) 65536, Int.tmod (IntKind.u64.wrap (Int.tdiv a1 4294967296)) 65536, IntKind.u64.wrap (Int.tdiv a1 281474976710656)] : List Int) 4 rfl (by decide) ?hr ?hev ?hx ?ht rfl ?_; (case hd => rfl); (case hg => rfl); (case hg2 => rfl); (case hn2 => rfl); (case ho2 => rfl); (case hev => intro g_; first | rfl | (go_simp; done) | (go_simp; rfl)); (case hx => intro g_; first | rfl | (go_simp; done) | (go_simp; rfl)); (case ht => kernel_rfl); (case hr => first | (go_simp; done) | (go_simp; rfl)); intro ga259 w9 ho10 hb hg_ hnew_; clear hg_ hnew_; rw [← Ny258.out] at ho10; have n0_ := Aside0.mk (Kd.R_elder' (by (with_reducible repeat (first | apply Kd.R_alloc | apply Kd.R_drewN | apply Kd.R_drew)); exact HO254.out) (Kd.R_base ho10) hb); have n1_ := Aside0.mk (Kd.R_elder' (by (with_reducible repeat (first | apply Kd.R_alloc | apply Kd.R_drewN | apply Kd.R_drew)); exact HO257.out) (Kd.R_base ho10) hb); have n2_ := Aside0.mk (Kd.R_lower (Kd.R_new' (Kd.R_new' ho10 (Kd.R_lt (by (with_reducible repeat (first | apply Kd.R_alloc | apply Kd.R_drewN | apply Kd.R_drew)); exact HO254.out))) (Kd.R_lt (by (with_reducible repeat (first | apply Kd.R_alloc | apply Kd.R_drewN | apply Kd.R_drew)); exact HO257.out))) (below_size bl)); have n3_ := Aside0.mk (below_step bl hb); clear HO254; clear HO257; clear HB; have HO254 := n0_; have HO257 := n1_; have HO260 := n2_; have HB := n3_; clear n0_ n1_ n2_ n3_; clear hb ho10) | ((with_reducible refine gate_dst (N := 9) rfl ?_); refine arr_make ?hg (N := 9) ?hd 67 8 (by decide) ?hr ?_; (case hd => rfl); (case hg => rfl); (case hr => first | (go_simp; done) | (go_simp; rfl)); intro ga262 w11 ho12 hb hg_ hnew_; clear hg_ hnew_; rw [← Ny261.out] at ho12; have n0_ := Aside0.mk (Kd.R_elder' (by (with_reducible repeat (first | apply Kd.R_alloc | apply Kd.R_drewN | apply Kd.R_drew)); exact HO254.out) (Kd.R_base ho12) hb); have n1_ := Aside0.mk (Kd.R_elder' (by (with_reducible repeat (first | apply Kd.R_alloc | apply Kd.R_drewN | apply Kd.R_drew)); exact HO257.out) (Kd.R_base ho12) hb); have n2_ := Aside0.mk (Kd.R_elder' (by (with_reducible repeat (first | apply Kd.R_alloc | apply Kd.R_drewN | apply Kd.R_drew)); exact HO260.out) (Kd.R_base ho12) hb); have n3_ := Aside0.mk (Kd.R_lower (Kd.R_new' (Kd.R_new' (Kd.R_new' ho12 (Kd.R_lt (by (with_reducible repeat (first | apply Kd.R_alloc | apply Kd.R_drewN | apply Kd.R_drew)); exact HO254.out))) (Kd.R_lt (by (with_reducible repeat (first | apply Kd.R_alloc | apply Kd.R_drewN | apply Kd.R_drew)); exact HO257.out))) (Kd.R_lt (by (with_reducible repeat (first | apply Kd.R_alloc | apply Kd.R_drewN | apply Kd.R_drew)); exact HO260.out))) (below_size bl)); have n4_ := Aside0.mk (below_step bl hb); clear HO254; clear HO257; clear HO260; clear HB; have HO254 := n0_; have HO257 := n1_; have HO260 := n2_; have HO263 := n3_; have HB := n4_; clear n0_ n1_ n2_ n3_ n4_; clear hb ho12)); try go_wp2_with (first | ((with_reducible refine gate_dst (N := 6) rfl ?_); refine arr_make ?hg (N := 6) ?hd 66 4 (by decide) ?hr ?_; (case hd => rfl); (case hg => rfl); (case hr => first | (go_simp; done) | (go_simp; rfl)); intro ga253 w5 ho6 hb hg_ hnew_; clear hg_ hnew_; rw [← Ny252.out] at ho6; have n0_ := Aside0.mk (Kd.R_lower ho6 (below_size bl)); have n1_ := Aside0.mk (below_step bl hb); clear HB; have HO254 := n0_; have HB := n1_; clear n0_ n1_; clear hb ho6) | ((with_reducible refine gate_dst (N := 7) rfl ?_); refine arr_lit ?hg (N := 7) ?hd ?hg2 ?hn2 66 (.tmp 27) ?ho2 ([Int.tmod a0 65536, Int.tmod (IntKind.u64.wrap (Int.tdiv a0 65536)) 65536, Int.tmod (IntKind.u64.wrap (Int.tdiv a0 4294967296)) 65536, IntKind.u64.wrap (Int.tdiv a0 281474976710656)] : List Int) 4 rfl (by decide) ?hr ?hev ?hx ?ht rfl ?_; (case hd => rfl); (case hg => rfl); (case hg2 => rfl); (case hn2 => rfl); (case ho2 => rfl); (case hev => intro g_; first | rfl | (go_simp; done) | (go_simp; rfl)); (case hx => intro g_; first | rfl | (go_simp; done) | (go_simp; rfl)); (case ht => kernel_rfl); (case hr => first | (go_simp; done) | (go_simp; rfl)); intro ga256 w7 ho8 hb hg_ hnew_; clear hg_ hnew_; rw [← Ny255.out] at ho8; have n0_ := Aside0.mk (Kd.R_elder' (by (with_reducible repeat (first | apply Kd.R_alloc | apply Kd.R_drewN | apply Kd.R_drew)); exact HO254.out) (Kd.R_base ho8) hb); have n1_ := Aside0.mk (Kd.R_lower (Kd.R_new' ho8 (Kd.R_lt (by (with_reducible repeat (first | apply Kd.R_alloc | apply Kd.R_drewN | apply Kd.R_drew)); exact HO254.out))) (below_size bl)); have n2_ := Aside0.mk (below_step bl hb); clear HO254; clear HB; have HO254 := n0_; have HO257 := n1_; have HB := n2_; clear n0_ n1_ n2_; clear hb ho8) | ((with_reducible refine gate_dst (N := 8) rfl ?_); refine arr_lit ?hg (N := 8) ?hd ?hg2 ?hn2 66 (.tmp 38) ?ho2 ([Int.tmod a1 65536, Int.tmod (IntKind.u64.wrap (Int.tdiv a1 65536)) 65536, Int.tmod (IntKind.u64.wrap (Int.tdiv a1 4294967296)) 65536, IntKind.u64.wrap (Int.tdiv a1 281474976710656)] : List Int) 4 rfl (by decide) ?hr ?hev ?hx ?ht rfl ?_; (case hd => rfl); (case hg => rfl); (case hg2 => rfl); (case hn2 => rfl); (case ho2 => rfl); (case hev => intro g_; first | rfl | (go_simp; done) | (go_simp; rfl)); (case hx => intro g_; first | rfl | (go_simp; done) | (go_simp; rfl)); (case ht => kernel_rfl); (case hr => first | (go_simp; done) | (go_simp; rfl)); intro ga259 w9 ho10 hb hg_ hnew_; clear hg_ hnew_; rw [← Ny258.out] at ho10; have n0_ := Aside0.mk (Kd.R_elder' (by (with_reducible repeat (first | apply Kd.R_alloc | apply Kd.R_drewN | apply Kd.R_drew)); exact HO254.out) (Kd.R_base ho10) hb); have n1_ := Aside0.mk (Kd.R_elder' (by (with_reducible repeat (first | apply Kd.R_alloc | apply Kd.R_drewN | apply Kd.R_drew)); exact HO257.out) (Kd.R_base ho10) hb); have n2_ := Aside0.mk (Kd.R_lower (Kd.R_new' (Kd.R_new' ho10 (Kd.R_lt (by (with_reducible repeat (first | apply Kd.R_alloc | apply Kd.R_drewN | apply Kd.R_drew)); exact HO254.out))) (Kd.R_lt (by (with_reducible repeat (first | apply Kd.R_alloc | apply Kd.R_drewN | apply Kd.R_drew)); exact HO257.out))) (below_size bl)); have n3_ := Aside0.mk (below_step bl hb); clear HO254; clear HO257; clear HB; have HO254 := n0_; have HO257 := n1_; have HO260 := n2_; have HB := n3_; clear n0_ n1_ n2_ n3_; clear hb ho10) | ((with_reducible refine gate_dst (N := 9) rfl ?_); refine arr_make ?hg (N := 9) ?hd 67 8 (by decide) ?hr ?_; (case hd => rfl); (case hg => rfl); (case hr => first | (go_simp; done) | (go_simp; rfl)); intro ga262 w11 ho12 hb hg_ hnew_; clear hg_ hnew_; rw [← Ny261.out] at ho12; have n0_ := Aside0.mk (Kd.R_elder' (by (with_reducible repeat (first | apply Kd.R_alloc | apply Kd.R_drewN | apply Kd.R_drew)); exact HO254.out) (Kd.R_base ho12) hb); have n1_ := Aside0.mk (Kd.R_elder' (by (with_reducible repeat (first | apply Kd.R_alloc | apply Kd.R_drewN | apply Kd.R_drew)); exact HO257.out) (Kd.R_base ho12) hb); have n2_ := Aside0.mk (Kd.R_elder' (by (with_reducible repeat (first | apply Kd.R_alloc | apply Kd.R_drewN | apply Kd.R_drew)); exact HO260.out) (Kd.R_base ho12) hb); have n3_ := Aside0.mk (Kd.R_lower (Kd.R_new' (Kd.R_new' (Kd.R_new' ho12 (Kd.R_lt (by (with_reducible repeat (first | apply Kd.R_alloc | apply Kd.R_drewN | apply Kd.R_drew)); exact HO254.out))) (Kd.R_lt (by (with_reducible repeat (first | apply Kd.R_alloc | apply Kd.R_drewN | apply Kd.R_drew)); exact HO257.out))) (Kd.R_lt (by (with_reducible repeat (first | apply Kd.R_alloc | apply Kd.R_drewN | apply Kd.R_drew)); exact HO260.out))) (below_size bl)); have n4_ := Aside0.mk (below_step bl hb); clear HO254; clear HO257; clear HO260; clear HB; have HO254 := n0_; have HO257 := n1_; have HO260 := n2_; have HO263 := n3_; have HB := n4_; clear n0_ n1_ n2_ n3_ n4_; clear hb ho12)))
   go_loopg [10] k (fun kq v10 w' => ∃ (x6_1 : List Int) (x7_1 : List Int) (x8_1 : List Int) (x9_1 : List Int) (x10_1 : Int), v10 = .int .i64 x10_1 ∧ Aside0 (spinnakerref07_Mul.l0 kq x6_1 x7_1 x8_1 x9_1 x10_1 = some (r1, r2)) ∧ Aside0 (kq ≤ k) ∧ Aside0 (Kd.R (Kd.int .u64) 66 w' w.heap.size (fun k_ => some k_ ≠ ((.slice (some ⟨ga256, 0, none⟩) 4 4) : Value).ownBlock ∧ some k_ ≠ ((.slice (some ⟨ga259, 0, none⟩) 4 4) : Value).ownBlock ∧ some k_ ≠ ((.slice (some ⟨ga262, 0, none⟩) 8 8) : Value).ownBlock) (.slice (some ⟨ga253, 0, none⟩) 4 4) x6_1) ∧ Aside0 (Kd.R (Kd.int .u64) 66 w' w.heap.size (fun k_ => some k_ ≠ ((.slice (some ⟨ga253, 0, none⟩) 4 4) : Value).ownBlock ∧ some k_ ≠ ((.slice (some ⟨ga259, 0, none⟩) 4 4) : Value).ownBlock ∧ some k_ ≠ ((.slice (some ⟨ga262, 0, none⟩) 8 8) : Value).ownBlock) (.slice (some ⟨ga256, 0, none⟩) 4 4) x7_1) ∧ Aside0 (Kd.R (Kd.int .u64) 66 w' w.heap.size (fun k_ => some k_ ≠ ((.slice (some ⟨ga253, 0, none⟩) 4 4) : Value).ownBlock ∧ some k_ ≠ ((.slice (some ⟨ga256, 0, none⟩) 4 4) : Value).ownBlock ∧ some k_ ≠ ((.slice (some ⟨ga262, 0, none⟩) 8 8) : Value).ownBlock) (.slice (some ⟨ga259, 0, none⟩) 4 4) x8_1) ∧ Aside0 (Kd.R (Kd.int .u64) 67 w' w.heap.size (fun k_ => some k_ ≠ ((.slice (some ⟨ga253, 0, none⟩) 4 4) : Value).ownBlock ∧ some k_ ≠ ((.slice (some ⟨ga256, 0, none⟩) 4 4) : Value).ownBlock ∧ some k_ ≠ ((.slice (some ⟨ga259, 0, none⟩) 4 4) : Value).ownBlock) (.slice (some ⟨ga262, 0, none⟩) 8 8) x9_1) ∧ Aside0 (Below w.heap.size w w'))
   case atStart => exact ⟨(y252), (y255), (y258), (y261), (0), fj, H', ⟨Nat.le_refl _⟩, ⟨by (with_reducible repeat (first | apply Kd.R_alloc | apply Kd.R_drewN | apply Kd.R_drew)); exact Kd.R_mono HO254.out (fun _ hk => ⟨hk.1.1.2, ⟨hk.1.2, hk.2⟩⟩)⟩, ⟨by (with_reducible repeat (first | apply Kd.R_alloc | apply Kd.R_drewN | apply Kd.R_drew)); exact Kd.R_mono HO257.out (fun _ hk => ⟨hk.1.1.2, ⟨hk.1.2, hk.2⟩⟩)⟩, ⟨by (with_reducible repeat (first | apply Kd.R_alloc | apply Kd.R_drewN | apply Kd.R_drew)); exact Kd.R_mono HO260.out (fun _ hk => ⟨hk.1.1.2, ⟨hk.1.2, hk.2⟩⟩)⟩, ⟨by (with_reducible repeat (first | apply Kd.R_alloc | apply Kd.R_drewN | apply Kd.R_drew)); exact Kd.R_mono HO263.out (fun _ hk => ⟨hk.1.1.2, ⟨hk.1.2, hk.2⟩⟩)⟩, ⟨bl⟩⟩
   case round =>
    clear H'
    try clear p2
    try clear c3
    try clear c3b0
    try clear c3b1
    try clear c4
    try clear c4b0
    try clear c4b1
    obtain ⟨x6_1, x7_1, x8_1, x9_1, x10_1, rfl, HA, HK1, HO_6, HO_7, HO_8, HO_9, HB⟩ := hrel
    cases gk with
    | zero => exact absurd HA.out (by simp [spinnakerref07_Mul.l0])
    | succ k1 =>
     have H := HA.out
     clear HA
     simp only [spinnakerref07_Mul.l0] at H
     by_cases c13 : x10_1 < 4
     ·rw [if_pos c13] at H
      have c13b0 := decide_eq_true c13
      clear c13
      have H' := Aside0.mk H
      clear H
      go_wp2
      repeat (go_quiet (fail); try go_wp2)
      go_loopg [11] k1 (fun kq v11 w' => ∃ (x6_2 : List Int) (x7_2 : List Int) (x8_2 : List Int) (x9_2 : List Int) (x11_2 : Int), v11 = .int .i64 x11_2 ∧ Aside0 (spinnakerref07_Mul.l1 kq x6_2 x7_2 x8_2 x9_2 x10_1 x11_2 = some (r1, r2)) ∧ Aside0 (kq ≤ k1) ∧ Aside0 (Kd.R (Kd.int .u64) 66 w' w.heap.size (fun k_ => some k_ ≠ ((.slice (some ⟨ga256, 0, none⟩) 4 4) : Value).ownBlock ∧ some k_ ≠ ((.slice (some ⟨ga259, 0, none⟩) 4 4) : Value).ownBlock ∧ some k_ ≠ ((.slice (some ⟨ga262, 0, none⟩) 8 8) : Value).ownBlock) (.slice (some ⟨ga253, 0, none⟩) 4 4) x6_2) ∧ Aside0 (Kd.R (Kd.int .u64) 66 w' w.heap.size (fun k_ => some k_ ≠ ((.slice (some ⟨ga253, 0, none⟩) 4 4) : Value).ownBlock ∧ some k_ ≠ ((.slice (some ⟨ga259, 0, none⟩) 4 4) : Value).ownBlock ∧ some k_ ≠ ((.slice (some ⟨ga262, 0, none⟩) 8 8) : Value).ownBlock) (.slice (some ⟨ga256, 0, none⟩) 4 4) x7_2) ∧ Aside0 (Kd.R (Kd.int .u64) 66 w' w.heap.size (fun k_ => some k_ ≠ ((.slice (some ⟨ga253, 0, none⟩) 4 4) : Value).ownBlock ∧ some k_ ≠ ((.slice (some ⟨ga256, 0, none⟩) 4 4) : Value).ownBlock ∧ some k_ ≠ ((.slice (some ⟨ga262, 0, none⟩) 8 8) : Value).ownBlock) (.slice (some ⟨ga259, 0, none⟩) 4 4) x8_2) ∧ Aside0 (Kd.R (Kd.int .u64) 67 w' w.heap.size (fun k_ => some k_ ≠ ((.slice (some ⟨ga253, 0, none⟩) 4 4) : Value).ownBlock ∧ some k_ ≠ ((.slice (some ⟨ga256, 0, none⟩) 4 4) : Value).ownBlock ∧ some k_ ≠ ((.slice (some ⟨ga259, 0, none⟩) 4 4) : Value).ownBlock) (.slice (some ⟨ga262, 0, none⟩) 8 8) x9_2) ∧ Aside0 (Below w.heap.size w w'))
      case atStart => exact ⟨(x6_1), (x7_1), (x8_1), (x9_1), (0), fj, H', ⟨Nat.le_refl _⟩, ⟨by (with_reducible repeat (first | apply Kd.R_alloc | apply Kd.R_drewN | apply Kd.R_drew)); exact HO_6.out⟩, ⟨by (with_reducible repeat (first | apply Kd.R_alloc | apply Kd.R_drewN | apply Kd.R_drew)); exact HO_7.out⟩, ⟨by (with_reducible repeat (first | apply Kd.R_alloc | apply Kd.R_drewN | apply Kd.R_drew)); exact HO_8.out⟩, ⟨by (with_reducible repeat (first | apply Kd.R_alloc | apply Kd.R_drewN | apply Kd.R_drew)); exact HO_9.out⟩, ⟨bl⟩⟩
      case round =>
       clear H'
       try clear c1
       try clear p2
       try clear c3
       try clear c3b0
       try clear c3b1
       try clear c4
       try clear c4b0
       try clear c4b1
       try clear c13
       try clear c13b0
       try clear p2
       obtain ⟨x6_2, x7_2, x8_2, x9_2, x11_2, rfl, HA, HK2, HO_6, HO_7, HO_8, HO_9, HB⟩ := hrel
       cases gk with
       | zero => exact absurd HA.out (by simp [spinnakerref07_Mul.l1])
       | succ k2 =>
        have H := HA.out
        clear HA
        simp only [spinnakerref07_Mul.l1] at H
        by_cases c14 : x11_2 < 4
        ·rw [if_pos c14] at H
         have c14b0 := decide_eq_true c14
         clear c14
         by_cases c15 : 0 ≤ x10_1
         ·rw [if_pos c15] at H
          have c15b0 := decide_eq_true c15
          clear c15
          by_cases c16 : x10_1 < (x7_2.length : Int)
          ·rw [if_pos c16] at H
           have c16b0 := decide_eq_true c16
           clear c16
           by_cases c17 : 0 ≤ x11_2
           ·rw [if_pos c17] at H
            have c17b0 := decide_eq_true c17
            clear c17
            by_cases c18 : x11_2 < (x8_2.length : Int)
            ·rw [if_pos c18] at H
             have c18b0 := decide_eq_true c18
             clear c18
             obtain ⟨ji19, hji19⟩ : ∃ j_ : Int, (wrap64 (x10_1 + x11_2)) = j_ := ⟨_, rfl⟩
             replace H : (if 0 ≤ (ji19) then (if (ji19) < (x9_2.length : Int) then ((some (x9_2.set ((ji19) : Int).toNat (IntKind.u64.wrap ((rd x9_2 (ji19)) + (Int.tmod (IntKind.u64.wrap ((rd x7_2 x10_1) * (rd x8_2 x11_2))) 65536))) : List Int)).bind fun y267 => (if 0 ≤ (wrap64 ((ji19) + 1)) then (if (wrap64 ((ji19) + 1)) < (x9_2.length : Int) then (spinnakerref07_Mul.l1 k2 x6_2 x7_2 x8_2 (y267.set ((wrap64 ((ji19) + 1)) : Int).toNat (IntKind.u64.wrap ((rd y267 (wrap64 ((ji19) + 1))) + (IntKind.u64.wrap (Int.tdiv (IntKind.u64.wrap ((rd x7_2 x10_1) * (rd x8_2 x11_2))) 65536))))) x10_1 (wrap64 (x11_2 + 1))) else (none)) else (none))) else (none)) else (none)) = some (r1, r2) := by first | (rw [hji19] at H; exact H) | (simp only [hji19] at H ⊢; exact H)
             have hji19w : (IntKind.i64.wrap (x10_1 + x11_2)) = ji19 := (i64_w _).trans hji19
             by_cases c20 : 0 ≤ (ji19)
             ·rw [if_pos c20] at H
              have c20b0 := decide_eq_true c20
              clear c20
              by_cases c21 : (ji19) < (x9_2.length : Int)
              ·rw [if_pos c21] at H
               have c21b0 := decide_eq_true c21
               clear c21
               obtain ⟨y267, hy267⟩ : ∃ y_ : List Int, y_ = (x9_2.set ((ji19) : Int).toNat (IntKind.u64.wrap ((rd x9_2 (ji19)) + (Int.tmod (IntKind.u64.wrap ((rd x7_2 x10_1) * (rd x8_2 x11_2))) 65536)))) := ⟨_, rfl⟩
               replace H : (if 0 ≤ (wrap64 ((ji19) + 1)) then (if (wrap64 ((ji19) + 1)) < (x9_2.length : Int) then (spinnakerref07_Mul.l1 k2 x6_2 x7_2 x8_2 (y267.set ((wrap64 ((ji19) + 1)) : Int).toNat (IntKind.u64.wrap ((rd y267 (wrap64 ((ji19) + 1))) + (IntKind.u64.wrap (Int.tdiv (IntKind.u64.wrap ((rd x7_2 x10_1) * (rd x8_2 x11_2))) 65536))))) x10_1 (wrap64 (x11_2 + 1))) else (none)) else (none)) = some (r1, r2) := by first | (rw [hy267]; with_reducible exact H) | (have H2_ := (Option.bind_some _ _).symm.trans H; rw [hy267]; with_reducible exact H2_) | (have H2_ := (Option.bind_some _ _).symm.trans H; with_reducible exact H2_) | with_reducible exact H | (rw [hy267]; exact H) | exact H
               have Ny267 := Aside0.mk hy267
               clear hy267
               obtain ⟨ji23, hji23⟩ : ∃ j_ : Int, (wrap64 ((ji19) + 1)) = j_ := ⟨_, rfl⟩
               replace H : (if 0 ≤ (ji23) then (if (ji23) < (x9_2.length : Int) then (spinnakerref07_Mul.l1 k2 x6_2 x7_2 x8_2 (y267.set ((ji23) : Int).toNat (IntKind.u64.wrap ((rd y267 (ji23)) + (IntKind.u64.wrap (Int.tdiv (IntKind.u64.wrap ((rd x7_2 x10_1) * (rd x8_2 x11_2))) 65536))))) x10_1 (wrap64 (x11_2 + 1))) else (none)) else (none)) = some (r1, r2) := by first | (rw [hji23] at H; exact H) | (simp only [hji23] at H ⊢; exact H)
               have hji23w : (IntKind.i64.wrap ((ji19) + 1)) = ji23 := (i64_w _).trans hji23
               by_cases c24 : 0 ≤ (ji23)
               ·rw [if_pos c24] at H
                have c24b0 := decide_eq_true c24
                clear c24
                by_cases c25 : (ji23) < (x9_2.length : Int)
                ·rw [if_pos c25] at H
                 have c25b0 := decide_eq_true c25
                 clear c25
                 obtain ⟨y269, hy269⟩ : ∃ y_ : List Int, y_ = (y267.set ((ji23) : Int).toNat (IntKind.u64.wrap ((rd y267 (ji23)) + (IntKind.u64.wrap (Int.tdiv (IntKind.u64.wrap ((rd x7_2 x10_1) * (rd x8_2 x11_2))) 65536))))) := ⟨_, rfl⟩
                 replace H : (spinnakerref07_Mul.l1 k2 x6_2 x7_2 x8_2 y269 x10_1 (wrap64 (x11_2 + 1))) = some (r1, r2) := by first | (rw [hy269]; with_reducible exact H) | (have H2_ := (Option.bind_some _ _).symm.trans H; rw [hy269]; with_reducible exact H2_) | (have H2_ := (Option.bind_some _ _).symm.trans H; with_reducible exact H2_) | with_reducible exact H | (rw [hy269]; exact H) | exact H
                 have Ny269 := Aside0.mk hy269
                 clear hy269
                 have H' := Aside0.mk H
                 clear H
                 have p264 : 0 ≤ (x10_1 : Int) := of_decide_eq_true (by first | (with_reducible assumption) | assumption)
                 have q264 : x10_1 < (x7_2.length : Int) := of_decide_eq_true (by first | (with_reducible assumption) | assumption)
                 obtain ⟨hx264_0, hf264_1, qa264⟩ := arr_cell HO_7.out (x10_1 : Int) p264 q264
                 rw [show ((4 : Nat) : Int) = 4 from rfl] at qa264
                 replace p264 := eq_true p264
                 replace q264 := eq_true q264
                 have p265 : 0 ≤ (x11_2 : Int) := of_decide_eq_true (by first | (with_reducible assumption) | assumption)
                 have q265 : x11_2 < (x8_2.length : Int) := of_decide_eq_true (by first | (with_reducible assumption) | assumption)
                 obtain ⟨hx265_0, hf265_1, qa265⟩ := arr_cell HO_8.out (x11_2 : Int) p265 q265
                 rw [show ((4 : Nat) : Int) = 4 from rfl] at qa265
                 replace p265 := eq_true p265
                 replace q265 := eq_true q265
                 have p266 : 0 ≤ ((ji19) : Int) := of_decide_eq_true (by first | (with_reducible assumption) | assumption)
                 have q266 : (ji19) < (x9_2.length : Int) := of_decide_eq_true (by first | (with_reducible assumption) | assumption)
                 obtain ⟨hx266_0, hf266_1, qa266⟩ := arr_cell HO_9.out ((ji19) : Int) p266 q266
                 rw [show ((8 : Nat) : Int) = 8 from rfl] at qa266
                 replace p266 := eq_true p266
                 replace q266 := eq_true q266
                 have p22 : 0 ≤ ((ji19) : Int) := of_decide_eq_true (by first | (with_reducible assumption) | assumption)
                 have q22 : ((ji19) : Int) < ((x9_2.length : Int) : Int) := of_decide_eq_true (by first | (with_reducible assumption) | assumption)
                 obtain ⟨gb22, HG22⟩ := arr_base HO_9.out (by omega)
                 have GB22 := Aside0.mk gb22
                 have GG22 := Aside0.mk HG22
                 clear gb22 HG22
                 (first | simp only [add_plain] at hx266_0 | skip)
                 obtain ⟨hx22_0, hf22_0, qa22⟩ := arr_cell HO_9.out ((ji19) : Int) p22 q22
                 rw [show ((8 : Nat) : Int) = 8 from rfl] at qa22
                 replace p22 := eq_true p22
                 replace q22 := eq_true q22
                 have HP30 := Kd.R_putg HO_9.out ((ji19) : Int) (IntKind.u64.wrap ((rd x9_2 (ji19)) + (Int.tmod (IntKind.u64.wrap ((rd x7_2 x10_1) * (rd x8_2 x11_2))) 65536)))
                 have EL9 := Aside0.mk (Kd.R_reads' HO_9.out).1
                 go_wp2_with (first | ((with_reducible refine gate_store (t := 34) (p := 65) rfl ?_); (try (rw [drewN_self wr]; generalize hq_ : World.drewN wr _ = wr; have n0_ := Aside0.mk (Kd.R_at hq_ HO_6.out); have n1_ := Aside0.mk (Kd.R_at hq_ HO_7.out); have n2_ := Aside0.mk (Kd.R_at hq_ HO_8.out); have n3_ := Aside0.mk (Kd.R_at hq_ HO_9.out); have n4_ := Aside0.mk (below_at hq_ HB.out); clear hq_ HO_6 HO_7 HO_8 HO_9 HB; have HO_6 := n0_; have HO_7 := n1_; have HO_8 := n2_; have HO_9 := n3_; have HB := n4_; clear n0_ n1_ n2_ n3_ n4_; (try (obtain ⟨hy30_, hz30_, _⟩ := arr_cell HO_9.out ((ji19) : Int) (of_decide_eq_true (by first | (with_reducible assumption) | assumption)) (of_decide_eq_true (by first | (with_reducible assumption) | assumption)))); (try (have HP30 := Kd.R_putg HO_9.out ((ji19) : Int) (IntKind.u64.wrap ((rd x9_2 (ji19)) + (Int.tmod (IntKind.u64.wrap ((rd x7_2 x10_1) * (rd x8_2 x11_2))) 65536))))))); refine store_event (t := 34) (p := 65) (v := ?vo_w31) (w1 := (wr.setCell ⟨ga262, ((ji19) : Int).toNat, none⟩ (.int .u64 (IntKind.u64.wrap ((rd x9_2 (ji19)) + (Int.tmod (IntKind.u64.wrap ((rd x7_2 x10_1) * (rd x8_2 x11_2))) 65536)))))) ?hg ?ho ?hn ?hr ?_; (case ho => rfl); (case hg => rfl); (case hn => rfl); (case hr => first | (go_simp; done) | (go_simp; rfl)); intro w31 hw; have hg : wr.grownBy w31 (some ga262) := (by rw [hw]; exact HP30.2); have hp_ : Kd.R (Kd.int .u64) 67 w31 w.heap.size (fun k_ => some k_ ≠ ((.slice (some ⟨ga253, 0, none⟩) 4 4) : Value).ownBlock ∧ some k_ ≠ (.slice (some ⟨ga256, 0, none⟩) 4 4 : Value).ownBlock ∧ some k_ ≠ (.slice (some ⟨ga259, 0, none⟩) 4 4 : Value).ownBlock) (.slice (some ⟨ga262, 0, none⟩) 8 8) y267 := (by rw [hw, Ny267.out]; exact HP30.1); clear HP30; have n0_ := Aside0.mk (Kd.R_after (v := (.slice (some ⟨ga262, 0, none⟩) 8 8)) (v1 := (.slice (some ⟨ga262, 0, none⟩) 8 8)) (ok := (fun k_ => some k_ ≠ (.slice (some ⟨ga256, 0, none⟩) 4 4 : Value).ownBlock ∧ some k_ ≠ (.slice (some ⟨ga259, 0, none⟩) 4 4 : Value).ownBlock)) (by (with_reducible repeat (first | apply Kd.R_alloc | apply Kd.R_drewN | apply Kd.R_drew)); exact Kd.R_mono HO_6.out (fun _ hk => ⟨⟨hk.1, hk.2.1⟩, hk.2.2⟩)) hg (.inl rfl)); have n1_ := Aside0.mk (Kd.R_after (v := (.slice (some ⟨ga262, 0, none⟩) 8 8)) (v1 := (.slice (some ⟨ga262, 0, none⟩) 8 8)) (ok := (fun k_ => some k_ ≠ ((.slice (some ⟨ga253, 0, none⟩) 4 4) : Value).ownBlock ∧ some k_ ≠ (.slice (some ⟨ga259, 0, none⟩) 4 4 : Value).ownBlock)) (by (with_reducible repeat (first | apply Kd.R_alloc | apply Kd.R_drewN | apply Kd.R_drew)); exact Kd.R_mono HO_7.out (fun _ hk => ⟨⟨hk.1, hk.2.1⟩, hk.2.2⟩)) hg (.inl rfl)); have n2_ := Aside0.mk (Kd.R_after (v := (.slice (some ⟨ga262, 0, none⟩) 8 8)) (v1 := (.slice (some ⟨ga262, 0, none⟩) 8 8)) (ok := (fun k_ => some k_ ≠ ((.slice (some ⟨ga253, 0, none⟩) 4 4) : Value).ownBlock ∧ some k_ ≠ (.slice (some ⟨ga256, 0, none⟩) 4 4 : Value).ownBlock)) (by (with_reducible repeat (first | apply Kd.R_alloc | apply Kd.R_drewN | apply Kd.R_drew)); exact Kd.R_mono HO_8.out (fun _ hk => ⟨⟨hk.1, hk.2.1⟩, hk.2.2⟩)) hg (.inl rfl)); have n3_ := Aside0.mk (hp_); have n4_ := Aside0.mk ((by rw [hw]; exact below_set (HB.out) GB22.out : Below w.heap.size w w31)); clear HO_6; clear HO_7; clear HO_8; clear HO_9; clear HB; have HO_6 := n0_; have HO_7 := n1_; have HO_8 := n2_; have HO_9 := n3_; have HB := n4_; clear n0_ n1_ n2_ n3_ n4_; clear hg hw hp_; have p268 : 0 ≤ ((ji23) : Int) := of_decide_eq_true (by first | (with_reducible assumption) | assumption); have q268 : (ji23) < (y267.length : Int) := (by have h_ : ((ji23) : Int) < ((x9_2.length : Int) : Int) := of_decide_eq_true (by first | (with_reducible assumption) | assumption); first | (have e_ := (Kd.R_reads' HO_9.out).1; omega) | simpa only [Ny267.out, List.length_set] using h_); have ql268 : (((ji23) : Int) < ((x9_2.length : Int) : Int)) = True := eq_true (of_decide_eq_true (by first | (with_reducible assumption) | assumption)); obtain ⟨hx268_0, hf268_1, qa268⟩ := arr_cell HO_9.out (ji23) p268 q268; rw [show ((8 : Nat) : Int) = 8 from rfl] at qa268; replace p268 := eq_true p268; replace q268 := eq_true q268; have p26 : 0 ≤ ((ji23) : Int) := of_decide_eq_true (by first | (with_reducible assumption) | assumption); have q26 : ((ji23) : Int) < ((x9_2.length : Int) : Int) := of_decide_eq_true (by first | (with_reducible assumption) | assumption); obtain ⟨hx26_0, hf26_0⟩ := Kd.R_celln 0 HO_9.out ((ji23) : Int) p26 (by have h_ := q26; have e_ := EL9.out; omega); replace p26 := eq_true p26; replace q26 := eq_true q26; obtain ⟨hy32_, hz32_⟩ := Kd.R_celln 0 HO_9.out ((ji23) : Int) (of_decide_eq_true (by first | (with_reducible assumption) | assumption)) (by have h_ := (of_decide_eq_true (by first | (with_reducible assumption) | assumption) : ((ji23) : Int) < (x9_2.length : Int)); have e_ := EL9.out; omega); have HP32 := Kd.R_putg HO_9.out ((ji23) : Int) (IntKind.u64.wrap ((rd y267 (ji23)) + (IntKind.u64.wrap (Int.tdiv (IntKind.u64.wrap ((rd x7_2 x10_1) * (rd x8_2 x11_2))) 65536))))) | ((with_reducible refine gate_store (t := 34) (p := 79) rfl ?_); (try (rw [drewN_self w31]; generalize hq_ : World.drewN w31 _ = w31; have n0_ := Aside0.mk (Kd.R_at hq_ HO_6.out); have n1_ := Aside0.mk (Kd.R_at hq_ HO_7.out); have n2_ := Aside0.mk (Kd.R_at hq_ HO_8.out); have n3_ := Aside0.mk (Kd.R_at hq_ HO_9.out); have n4_ := Aside0.mk (below_at hq_ HB.out); clear hq_ HO_6 HO_7 HO_8 HO_9 HB; have HO_6 := n0_; have HO_7 := n1_; have HO_8 := n2_; have HO_9 := n3_; have HB := n4_; clear n0_ n1_ n2_ n3_ n4_; (try (obtain ⟨hy32_, hz32_⟩ := Kd.R_celln 0 HO_9.out ((ji23) : Int) (of_decide_eq_true (by first | (with_reducible assumption) | assumption)) (by have h_ := (of_decide_eq_true (by first | (with_reducible assumption) | assumption) : ((ji23) : Int) < (x9_2.length : Int)); have e_ := EL9.out; omega))); (try (have HP32 := Kd.R_putg HO_9.out ((ji23) : Int) (IntKind.u64.wrap ((rd y267 (ji23)) + (IntKind.u64.wrap (Int.tdiv (IntKind.u64.wrap ((rd x7_2 x10_1) * (rd x8_2 x11_2))) 65536)))))))); refine store_event (t := 34) (p := 79) (v := ?vo_w33) (w1 := (w31.setCell ⟨ga262, ((ji23) : Int).toNat, none⟩ (.int .u64 (IntKind.u64.wrap ((rd y267 (ji23)) + (IntKind.u64.wrap (Int.tdiv (IntKind.u64.wrap ((rd x7_2 x10_1) * (rd x8_2 x11_2))) 65536))))))) ?hg ?ho ?hn ?hr ?_; (case ho => rfl); (case hg => rfl); (case hn => rfl); (case hr => first | (go_simp; done) | (go_simp; rfl)); intro w33 hw; have hg : w31.grownBy w33 (some ga262) := (by rw [hw]; exact HP32.2); have hp_ : Kd.R (Kd.int .u64) 67 w33 w.heap.size (fun k_ => some k_ ≠ ((.slice (some ⟨ga253, 0, none⟩) 4 4) : Value).ownBlock ∧ some k_ ≠ (.slice (some ⟨ga256, 0, none⟩) 4 4 : Value).ownBlock ∧ some k_ ≠ (.slice (some ⟨ga259, 0, none⟩) 4 4 : Value).ownBlock) (.slice (some ⟨ga262, 0, none⟩) 8 8) y269 := (by rw [hw, Ny269.out]; exact HP32.1); clear HP32; have n0_ := Aside0.mk (Kd.R_after (v := (.slice (some ⟨ga262, 0, none⟩) 8 8)) (v1 := (.slice (some ⟨ga262, 0, none⟩) 8 8)) (ok := (fun k_ => some k_ ≠ (.slice (some ⟨ga256, 0, none⟩) 4 4 : Value).ownBlock ∧ some k_ ≠ (.slice (some ⟨ga259, 0, none⟩) 4 4 : Value).ownBlock)) (by (with_reducible repeat (first | apply Kd.R_alloc | apply Kd.R_drewN | apply Kd.R_drew)); exact HO_6.out) hg (.inl rfl)); have n1_ := Aside0.mk (Kd.R_after (v := (.slice (some ⟨ga262, 0, none⟩) 8 8)) (v1 := (.slice (some ⟨ga262, 0, none⟩) 8 8)) (ok := (fun k_ => some k_ ≠ ((.slice (some ⟨ga253, 0, none⟩) 4 4) : Value).ownBlock ∧ some k_ ≠ (.slice (some ⟨ga259, 0, none⟩) 4 4 : Value).ownBlock)) (by (with_reducible repeat (first | apply Kd.R_alloc | apply Kd.R_drewN | apply Kd.R_drew)); exact HO_7.out) hg (.inl rfl)); have n2_ := Aside0.mk (Kd.R_after (v := (.slice (some ⟨ga262, 0, none⟩) 8 8)) (v1 := (.slice (some ⟨ga262, 0, none⟩) 8 8)) (ok := (fun k_ => some k_ ≠ ((.slice (some ⟨ga253, 0, none⟩) 4 4) : Value).ownBlock ∧ some k_ ≠ (.slice (some ⟨ga256, 0, none⟩) 4 4 : Value).ownBlock)) (by (with_reducible repeat (first | apply Kd.R_alloc | apply Kd.R_drewN | apply Kd.R_drew)); exact HO_8.out) hg (.inl rfl)); have n3_ := Aside0.mk (hp_); have n4_ := Aside0.mk ((by rw [hw]; exact below_set (HB.out) GB22.out : Below w.heap.size w w33)); clear HO_6; clear HO_7; clear HO_8; clear HO_9; clear HB; have HO_6 := n0_; have HO_7 := n1_; have HO_8 := n2_; have HO_9 := n3_; have HB := n4_; clear n0_ n1_ n2_ n3_ n4_; clear hg hw hp_))
                 repeat (go_quiet (first | ((with_reducible refine gate_store (t := 34) (p := 65) rfl ?_); (try (rw [drewN_self wr]; generalize hq_ : World.drewN wr _ = wr; have n0_ := Aside0.mk (Kd.R_at hq_ HO_6.out); have n1_ := Aside0.mk (Kd.R_at hq_ HO_7.out); have n2_ := Aside0.mk (Kd.R_at hq_ HO_8.out); have n3_ := Aside0.mk (Kd.R_at hq_ HO_9.out); have n4_ := Aside0.mk (below_at hq_ HB.out); clear hq_ HO_6 HO_7 HO_8 HO_9 HB; have HO_6 := n0_; have HO_7 := n1_; have HO_8 := n2_; have HO_9 := n3_; have HB := n4_; clear n0_ n1_ n2_ n3_ n4_; (try (obtain ⟨hy30_, hz30_, _⟩ := arr_cell HO_9.out ((ji19) : Int) (of_decide_eq_true (by first | (with_reducible assumption) | assumption)) (of_decide_eq_true (by first | (with_reducible assumption) | assumption)))); (try (have HP30 := Kd.R_putg HO_9.out ((ji19) : Int) (IntKind.u64.wrap ((rd x9_2 (ji19)) + (Int.tmod (IntKind.u64.wrap ((rd x7_2 x10_1) * (rd x8_2 x11_2))) 65536))))))); refine store_event (t := 34) (p := 65) (v := ?vo_w31) (w1 := (wr.setCell ⟨ga262, ((ji19) : Int).toNat, none⟩ (.int .u64 (IntKind.u64.wrap ((rd x9_2 (ji19)) + (Int.tmod (IntKind.u64.wrap ((rd x7_2 x10_1) * (rd x8_2 x11_2))) 65536)))))) ?hg ?ho ?hn ?hr ?_; (case ho => rfl); (case hg => rfl); (case hn => rfl); (case hr => first | (go_simp; done) | (go_simp; rfl)); intro w31 hw; have hg : wr.grownBy w31 (some ga262) := (by rw [hw]; exact HP30.2); have hp_ : Kd.R (Kd.int .u64) 67 w31 w.heap.size (fun k_ => some k_ ≠ ((.slice (some ⟨ga253, 0, none⟩) 4 4) : Value).ownBlock ∧ some k_ ≠ (.slice (some ⟨ga256, 0, none⟩) 4 4 : Value).ownBlock ∧ some k_ ≠ (.slice (some ⟨ga259, 0, none⟩) 4 4 : Value).ownBlock) (.slice (some ⟨ga262, 0, none⟩) 8 8) y267 := (by rw [hw, Ny267.out]; exact HP30.1); clear HP30; have n0_ := Aside0.mk (Kd.R_after (v := (.slice (some ⟨ga262, 0, none⟩) 8 8)) (v1 := (.slice (some ⟨ga262, 0, none⟩) 8 8)) (ok := (fun k_ => some k_ ≠ (.slice (some ⟨ga256, 0, none⟩) 4 4 : Value).ownBlock ∧ some k_ ≠ (.slice (some ⟨ga259, 0, none⟩) 4 4 : Value).ownBlock)) (by (with_reducible repeat (first | apply Kd.R_alloc | apply Kd.R_drewN | apply Kd.R_drew)); exact Kd.R_mono HO_6.out (fun _ hk => ⟨⟨hk.1, hk.2.1⟩, hk.2.2⟩)) hg (.inl rfl)); have n1_ := Aside0.mk (Kd.R_after (v := (.slice (some ⟨ga262, 0, none⟩) 8 8)) (v1 := (.slice (some ⟨ga262, 0, none⟩) 8 8)) (ok := (fun k_ => some k_ ≠ ((.slice (some ⟨ga253, 0, none⟩) 4 4) : Value).ownBlock ∧ some k_ ≠ (.slice (some ⟨ga259, 0, none⟩) 4 4 : Value).ownBlock)) (by (with_reducible repeat (first | apply Kd.R_alloc | apply Kd.R_drewN | apply Kd.R_drew)); exact Kd.R_mono HO_7.out (fun _ hk => ⟨⟨hk.1, hk.2.1⟩, hk.2.2⟩)) hg (.inl rfl)); have n2_ := Aside0.mk (Kd.R_after (v := (.slice (some ⟨ga262, 0, none⟩) 8 8)) (v1 := (.slice (some ⟨ga262, 0, none⟩) 8 8)) (ok := (fun k_ => some k_ ≠ ((.slice (some ⟨ga253, 0, none⟩) 4 4) : Value).ownBlock ∧ some k_ ≠ (.slice (some ⟨ga256, 0, none⟩) 4 4 : Value).ownBlock)) (by (with_reducible repeat (first | apply Kd.R_alloc | apply Kd.R_drewN | apply Kd.R_drew)); exact Kd.R_mono HO_8.out (fun _ hk => ⟨⟨hk.1, hk.2.1⟩, hk.2.2⟩)) hg (.inl rfl)); have n3_ := Aside0.mk (hp_); have n4_ := Aside0.mk ((by rw [hw]; exact below_set (HB.out) GB22.out : Below w.heap.size w w31)); clear HO_6; clear HO_7; clear HO_8; clear HO_9; clear HB; have HO_6 := n0_; have HO_7 := n1_; have HO_8 := n2_; have HO_9 := n3_; have HB := n4_; clear n0_ n1_ n2_ n3_ n4_; clear hg hw hp_; have p268 : 0 ≤ ((ji23) : Int) := of_decide_eq_true (by first | (with_reducible assumption) | assumption); have q268 : (ji23) < (y267.length : Int) := (by have h_ : ((ji23) : Int) < ((x9_2.length : Int) : Int) := of_decide_eq_true (by first | (with_reducible assumption) | assumption); first | (have e_ := (Kd.R_reads' HO_9.out).1; omega) | simpa only [Ny267.out, List.length_set] using h_); have ql268 : (((ji23) : Int) < ((x9_2.length : Int) : Int)) = True := eq_true (of_decide_eq_true (by first | (with_reducible assumption) | assumption)); obtain ⟨hx268_0, hf268_1, qa268⟩ := arr_cell HO_9.out (ji23) p268 q268; rw [show ((8 : Nat) : Int) = 8 from rfl] at qa268; replace p268 := eq_true p268; replace q268 := eq_true q268; have p26 : 0 ≤ ((ji23) : Int) := of_decide_eq_true (by first | (with_reducible assumption) | assumption); have q26 : ((ji23) : Int) < ((x9_2.length : Int) : Int) := of_decide_eq_true (by first | (with_reducible assumption) | assumption); obtain ⟨hx26_0, hf26_0⟩ := Kd.R_celln 0 HO_9.out ((ji23) : Int) p26 (by have h_ := q26; have e_ := EL9.out; omega); replace p26 := eq_true p26; replace q26 := eq_true q26; obtain ⟨hy32_, hz32_⟩ := Kd.R_celln 0 HO_9.out ((ji23) : Int) (of_decide_eq_true (by first | (with_reducible assumption) | assumption)) (by have h_ := (of_decide_eq_true (by first | (with_reducible assumption) | assumption) : ((ji23) : Int) < (x9_2.length : Int)); have e_ := EL9.out; omega); have HP32 := Kd.R_putg HO_9.out ((ji23) : Int) (IntKind.u64.wrap ((rd y267 (ji23)) + (IntKind.u64.wrap (Int.tdiv (IntKind.u64.wrap ((rd x7_2 x10_1) * (rd x8_2 x11_2))) 65536))))) | ((with_reducible refine gate_store (t := 34) (p := 79) rfl ?_); (try (rw [drewN_self w31]; generalize hq_ : World.drewN w31 _ = w31; have n0_ := Aside0.mk (Kd.R_at hq_ HO_6.out); have n1_ := Aside0.mk (Kd.R_at hq_ HO_7.out); have n2_ := Aside0.mk (Kd.R_at hq_ HO_8.out); have n3_ := Aside0.mk (Kd.R_at hq_ HO_9.out); have n4_ := Aside0.mk (below_at hq_ HB.out); clear hq_ HO_6 HO_7 HO_8 HO_9 HB; have HO_6 := n0_; have HO_7 := n1_; have HO_8 := n2_; have HO_9 := n3_; have HB := n4_; clear n0_ n1_ n2_ n3_ n4_; (try (obtain ⟨hy32_, hz32_⟩ := Kd.R_celln 0 HO_9.out ((ji23) : Int) (of_decide_eq_true (by first | (with_reducible assumption) | assumption)) (by have h_ := (of_decide_eq_true (by first | (with_reducible assumption) | assumption) : ((ji23) : Int) < (x9_2.length : Int)); have e_ := EL9.out; omega))); (try (have HP32 := Kd.R_putg HO_9.out ((ji23) : Int) (IntKind.u64.wrap ((rd y267 (ji23)) + (IntKind.u64.wrap (Int.tdiv (IntKind.u64.wrap ((rd x7_2 x10_1) * (rd x8_2 x11_2))) 65536)))))))); refine store_event (t := 34) (p := 79) (v := ?vo_w33) (w1 := (w31.setCell ⟨ga262, ((ji23) : Int).toNat, none⟩ (.int .u64 (IntKind.u64.wrap ((rd y267 (ji23)) + (IntKind.u64.wrap (Int.tdiv (IntKind.u64.wrap ((rd x7_2 x10_1) * (rd x8_2 x11_2))) 65536))))))) ?hg ?ho ?hn ?hr ?_; (case ho => rfl); (case hg => rfl); (case hn => rfl); (case hr => first | (go_simp; done) | (go_simp; rfl)); intro w33 hw; have hg : w31.grownBy w33 (some ga262) := (by rw [hw]; exact HP32.2); have hp_ : Kd.R (Kd.int .u64) 67 w33 w.heap.size (fun k_ => some k_ ≠ ((.slice (some ⟨ga253, 0, none⟩) 4 4) : Value).ownBlock ∧ some k_ ≠ (.slice (some ⟨ga256, 0, none⟩) 4 4 : Value).ownBlock ∧ some k_ ≠ (.slice (some ⟨ga259, 0, none⟩) 4 4 : Value).ownBlock) (.slice (some ⟨ga262, 0, none⟩) 8 8) y269 := (by rw [hw, Ny269.out]; exact HP32.1); clear HP32; have n0_ := Aside0.mk (Kd.R_after (v := (.slice (some ⟨ga262, 0, none⟩) 8 8)) (v1 := (.slice (some ⟨ga262, 0, none⟩) 8 8)) (ok := (fun k_ => some k_ ≠ (.slice (some ⟨ga256, 0, none⟩) 4 4 : Value).ownBlock ∧ some k_ ≠ (.slice (some ⟨ga259, 0, none⟩) 4 4 : Value).ownBlock)) (by (with_reducible repeat (first | apply Kd.R_alloc | apply Kd.R_drewN | apply Kd.R_drew)); exact HO_6.out) hg (.inl rfl)); have n1_ := Aside0.mk (Kd.R_after (v := (.slice (some ⟨ga262, 0, none⟩) 8 8)) (v1 := (.slice (some ⟨ga262, 0, none⟩) 8 8)) (ok := (fun k_ => some k_ ≠ ((.slice (some ⟨ga253, 0, none⟩) 4 4) : Value).ownBlock ∧ some k_ ≠ (.slice (some ⟨ga259, 0, none⟩) 4 4 : Value).ownBlock)) (by (with_reducible repeat (first | apply Kd.R_alloc | apply Kd.R_drewN | apply Kd.R_drew)); exact HO_7.out) hg (.inl rfl)); have n2_ := Aside0.mk (Kd.R_after (v := (.slice (some ⟨ga262, 0, none⟩) 8 8)) (v1 := (.slice (some ⟨ga262, 0, none⟩) 8 8)) (ok := (fun k_ => some k_ ≠ ((.slice (some ⟨ga253, 0, none⟩) 4 4) : Value).ownBlock ∧ some k_ ≠ (.slice (some ⟨ga256, 0, none⟩) 4 4 : Value).ownBlock)) (by (with_reducible repeat (first | apply Kd.R_alloc | apply Kd.R_drewN | apply Kd.R_drew)); exact HO_8.out) hg (.inl rfl)); have n3_ := Aside0.mk (hp_); have n4_ := Aside0.mk ((by rw [hw]; exact below_set (HB.out) GB22.out : Below w.heap.size w w33)); clear HO_6; clear HO_7; clear HO_8; clear HO_9; clear HB; have HO_6 := n0_; have HO_7 := n1_; have HO_8 := n2_; have HO_9 := n3_; have HB := n4_; clear n0_ n1_ n2_ n3_ n4_; clear hg hw hp_)); try go_wp2_with (first | ((with_reducible refine gate_store (t := 34) (p := 65) rfl ?_); (try (rw [drewN_self wr]; generalize hq_ : World.drewN wr _ = wr; have n0_ := Aside0.mk (Kd.R_at hq_ HO_6.out); have n1_ := Aside0.mk (Kd.R_at hq_ HO_7.out); have n2_ := Aside0.mk (Kd.R_at hq_ HO_8.out); have n3_ := Aside0.mk (Kd.R_at hq_ HO_9.out); have n4_ := Aside0.mk (below_at hq_ HB.out); clear hq_ HO_6 HO_7 HO_8 HO_9 HB; have HO_6 := n0_; have HO_7 := n1_; have HO_8 := n2_; have HO_9 := n3_; have HB := n4_; clear n0_ n1_ n2_ n3_ n4_; (try (obtain ⟨hy30_, hz30_, _⟩ := arr_cell HO_9.out ((ji19) : Int) (of_decide_eq_true (by first | (with_reducible assumption) | assumption)) (of_decide_eq_true (by first | (with_reducible assumption) | assumption)))); (try (have HP30 := Kd.R_putg HO_9.out ((ji19) : Int) (IntKind.u64.wrap ((rd x9_2 (ji19)) + (Int.tmod (IntKind.u64.wrap ((rd x7_2 x10_1) * (rd x8_2 x11_2))) 65536))))))); refine store_event (t := 34) (p := 65) (v := ?vo_w31) (w1 := (wr.setCell ⟨ga262, ((ji19) : Int).toNat, none⟩ (.int .u64 (IntKind.u64.wrap ((rd x9_2 (ji19)) + (Int.tmod (IntKind.u64.wrap ((rd x7_2 x10_1) * (rd x8_2 x11_2))) 65536)))))) ?hg ?ho ?hn ?hr ?_; (case ho => rfl); (case hg => rfl); (case hn => rfl); (case hr => first | (go_simp; done) | (go_simp; rfl)); intro w31 hw; have hg : wr.grownBy w31 (some ga262) := (by rw [hw]; exact HP30.2); have hp_ : Kd.R (Kd.int .u64) 67 w31 w.heap.size (fun k_ => some k_ ≠ ((.slice (some ⟨ga253, 0, none⟩) 4 4) : Value).ownBlock ∧ some k_ ≠ (.slice (some ⟨ga256, 0, none⟩) 4 4 : Value).ownBlock ∧ some k_ ≠ (.slice (some ⟨ga259, 0, none⟩) 4 4 : Value).ownBlock) (.slice (some ⟨ga262, 0, none⟩) 8 8) y267 := (by rw [hw, Ny267.out]; exact HP30.1); clear HP30; have n0_ := Aside0.mk (Kd.R_after (v := (.slice (some ⟨ga262, 0, none⟩) 8 8)) (v1 := (.slice (some ⟨ga262, 0, none⟩) 8 8)) (ok := (fun k_ => some k_ ≠ (.slice (some ⟨ga256, 0, none⟩) 4 4 : Value).ownBlock ∧ some k_ ≠ (.slice (some ⟨ga259, 0, none⟩) 4 4 : Value).ownBlock)) (by (with_reducible repeat (first | apply Kd.R_alloc | apply Kd.R_drewN | apply Kd.R_drew)); exact Kd.R_mono HO_6.out (fun _ hk => ⟨⟨hk.1, hk.2.1⟩, hk.2.2⟩)) hg (.inl rfl)); have n1_ := Aside0.mk (Kd.R_after (v := (.slice (some ⟨ga262, 0, none⟩) 8 8)) (v1 := (.slice (some ⟨ga262, 0, none⟩) 8 8)) (ok := (fun k_ => some k_ ≠ ((.slice (some ⟨ga253, 0, none⟩) 4 4) : Value).ownBlock ∧ some k_ ≠ (.slice (some ⟨ga259, 0, none⟩) 4 4 : Value).ownBlock)) (by (with_reducible repeat (first | apply Kd.R_alloc | apply Kd.R_drewN | apply Kd.R_drew)); exact Kd.R_mono HO_7.out (fun _ hk => ⟨⟨hk.1, hk.2.1⟩, hk.2.2⟩)) hg (.inl rfl)); have n2_ := Aside0.mk (Kd.R_after (v := (.slice (some ⟨ga262, 0, none⟩) 8 8)) (v1 := (.slice (some ⟨ga262, 0, none⟩) 8 8)) (ok := (fun k_ => some k_ ≠ ((.slice (some ⟨ga253, 0, none⟩) 4 4) : Value).ownBlock ∧ some k_ ≠ (.slice (some ⟨ga256, 0, none⟩) 4 4 : Value).ownBlock)) (by (with_reducible repeat (first | apply Kd.R_alloc | apply Kd.R_drewN | apply Kd.R_drew)); exact Kd.R_mono HO_8.out (fun _ hk => ⟨⟨hk.1, hk.2.1⟩, hk.2.2⟩)) hg (.inl rfl)); have n3_ := Aside0.mk (hp_); have n4_ := Aside0.mk ((by rw [hw]; exact below_set (HB.out) GB22.out : Below w.heap.size w w31)); clear HO_6; clear HO_7; clear HO_8; clear HO_9; clear HB; have HO_6 := n0_; have HO_7 := n1_; have HO_8 := n2_; have HO_9 := n3_; have HB := n4_; clear n0_ n1_ n2_ n3_ n4_; clear hg hw hp_; have p268 : 0 ≤ ((ji23) : Int) := of_decide_eq_true (by first | (with_reducible assumption) | assumption); have q268 : (ji23) < (y267.length : Int) := (by have h_ : ((ji23) : Int) < ((x9_2.length : Int) : Int) := of_decide_eq_true (by first | (with_reducible assumption) | assumption); first | (have e_ := (Kd.R_reads' HO_9.out).1; omega) | simpa only [Ny267.out, List.length_set] using h_); have ql268 : (((ji23) : Int) < ((x9_2.length : Int) : Int)) = True := eq_true (of_decide_eq_true (by first | (with_reducible assumption) | assumption)); obtain ⟨hx268_0, hf268_1, qa268⟩ := arr_cell HO_9.out (ji23) p268 q268; rw [show ((8 : Nat) : Int) = 8 from rfl] at qa268; replace p268 := eq_true p268; replace q268 := eq_true q268; have p26 : 0 ≤ ((ji23) : Int) := of_decide_eq_true (by first | (with_reducible assumption) | assumption); have q26 : ((ji23) : Int) < ((x9_2.length : Int) : Int) := of_decide_eq_true (by first | (with_reducible assumption) | assumption); obtain ⟨hx26_0, hf26_0⟩ := Kd.R_celln 0 HO_9.out ((ji23) : Int) p26 (by have h_ := q26; have e_ := EL9.out; omega); replace p26 := eq_true p26; replace q26 := eq_true q26; obtain ⟨hy32_, hz32_⟩ := Kd.R_celln 0 HO_9.out ((ji23) : Int) (of_decide_eq_true (by first | (with_reducible assumption) | assumption)) (by have h_ := (of_decide_eq_true (by first | (with_reducible assumption) | assumption) : ((ji23) : Int) < (x9_2.length : Int)); have e_ := EL9.out; omega); have HP32 := Kd.R_putg HO_9.out ((ji23) : Int) (IntKind.u64.wrap ((rd y267 (ji23)) + (IntKind.u64.wrap (Int.tdiv (IntKind.u64.wrap ((rd x7_2 x10_1) * (rd x8_2 x11_2))) 65536))))) | ((with_reducible refine gate_store (t := 34) (p := 79) rfl ?_); (try (rw [drewN_self w31]; generalize hq_ : World.drewN w31 _ = w31; have n0_ := Aside0.mk (Kd.R_at hq_ HO_6.out); have n1_ := Aside0.mk (Kd.R_at hq_ HO_7.out); have n2_ := Aside0.mk (Kd.R_at hq_ HO_8.out); have n3_ := Aside0.mk (Kd.R_at hq_ HO_9.out); have n4_ := Aside0.mk (below_at hq_ HB.out); clear hq_ HO_6 HO_7 HO_8 HO_9 HB; have HO_6 := n0_; have HO_7 := n1_; have HO_8 := n2_; have HO_9 := n3_; have HB := n4_; clear n0_ n1_ n2_ n3_ n4_; (try (obtain ⟨hy32_, hz32_⟩ := Kd.R_celln 0 HO_9.out ((ji23) : Int) (of_decide_eq_true (by first | (with_reducible assumption) | assumption)) (by have h_ := (of_decide_eq_true (by first | (with_reducible assumption) | assumption) : ((ji23) : Int) < (x9_2.length : Int)); have e_ := EL9.out; omega))); (try (have HP32 := Kd.R_putg HO_9.out ((ji23) : Int) (IntKind.u64.wrap ((rd y267 (ji23)) + (IntKind.u64.wrap (Int.tdiv (IntKind.u64.wrap ((rd x7_2 x10_1) * (rd x8_2 x11_2))) 65536)))))))); refine store_event (t := 34) (p := 79) (v := ?vo_w33) (w1 := (w31.setCell ⟨ga262, ((ji23) : Int).toNat, none⟩ (.int .u64 (IntKind.u64.wrap ((rd y267 (ji23)) + (IntKind.u64.wrap (Int.tdiv (IntKind.u64.wrap ((rd x7_2 x10_1) * (rd x8_2 x11_2))) 65536))))))) ?hg ?ho ?hn ?hr ?_; (case ho => rfl); (case hg => rfl); (case hn => rfl); (case hr => first | (go_simp; done) | (go_simp; rfl)); intro w33 hw; have hg : w31.grownBy w33 (some ga262) := (by rw [hw]; exact HP32.2); have hp_ : Kd.R (Kd.int .u64) 67 w33 w.heap.size (fun k_ => some k_ ≠ ((.slice (some ⟨ga253, 0, none⟩) 4 4) : Value).ownBlock ∧ some k_ ≠ (.slice (some ⟨ga256, 0, none⟩) 4 4 : Value).ownBlock ∧ some k_ ≠ (.slice (some ⟨ga259, 0, none⟩) 4 4 : Value).ownBlock) (.slice (some ⟨ga262, 0, none⟩) 8 8) y269 := (by rw [hw, Ny269.out]; exact HP32.1); clear HP32; have n0_ := Aside0.mk (Kd.R_after (v := (.slice (some ⟨ga262, 0, none⟩) 8 8)) (v1 := (.slice (some ⟨ga262, 0, none⟩) 8 8)) (ok := (fun k_ => some k_ ≠ (.slice (some ⟨ga256, 0, none⟩) 4 4 : Value).ownBlock ∧ some k_ ≠ (.slice (some ⟨ga259, 0, none⟩) 4 4 : Value).ownBlock)) (by (with_reducible repeat (first | apply Kd.R_alloc | apply Kd.R_drewN | apply Kd.R_drew)); exact HO_6.out) hg (.inl rfl)); have n1_ := Aside0.mk (Kd.R_after (v := (.slice (some ⟨ga262, 0, none⟩) 8 8)) (v1 := (.slice (some ⟨ga262, 0, none⟩) 8 8)) (ok := (fun k_ => some k_ ≠ ((.slice (some ⟨ga253, 0, none⟩) 4 4) : Value).ownBlock ∧ some k_ ≠ (.slice (some ⟨ga259, 0, none⟩) 4 4 : Value).ownBlock)) (by (with_reducible repeat (first | apply Kd.R_alloc | apply Kd.R_drewN | apply Kd.R_drew)); exact HO_7.out) hg (.inl rfl)); have n2_ := Aside0.mk (Kd.R_after (v := (.slice (some ⟨ga262, 0, none⟩) 8 8)) (v1 := (.slice (some ⟨ga262, 0, none⟩) 8 8)) (ok := (fun k_ => some k_ ≠ ((.slice (some ⟨ga253, 0, none⟩) 4 4) : Value).ownBlock ∧ some k_ ≠ (.slice (some ⟨ga256, 0, none⟩) 4 4 : Value).ownBlock)) (by (with_reducible repeat (first | apply Kd.R_alloc | apply Kd.R_drewN | apply Kd.R_drew)); exact HO_8.out) hg (.inl rfl)); have n3_ := Aside0.mk (hp_); have n4_ := Aside0.mk ((by rw [hw]; exact below_set (HB.out) GB22.out : Below w.heap.size w w33)); clear HO_6; clear HO_7; clear HO_8; clear HO_9; clear HB; have HO_6 := n0_; have HO_7 := n1_; have HO_8 := n2_; have HO_9 := n3_; have HB := n4_; clear n0_ n1_ n2_ n3_ n4_; clear hg hw hp_)))
                 go_roundg k2
                 case measure => have := HK1.out; have := HK2.out; omega
                 case rel => exact ⟨(x6_2), (x7_2), (x8_2), (y269), (wrap64 (x11_2 + 1)), fj, H', ⟨by have := HK1.out; have := HK2.out; omega⟩, ⟨by (with_reducible repeat (first | apply Kd.R_alloc | apply Kd.R_drewN | apply Kd.R_drew)); exact Kd.R_mono HO_6.out (fun _ hk => ⟨hk.1.1, ⟨hk.1.2, hk.2⟩⟩)⟩, ⟨by (with_reducible repeat (first | apply Kd.R_alloc | apply Kd.R_drewN | apply Kd.R_drew)); exact Kd.R_mono HO_7.out (fun _ hk => ⟨hk.1.1, ⟨hk.1.2, hk.2⟩⟩)⟩, ⟨by (with_reducible repeat (first | apply Kd.R_alloc | apply Kd.R_drewN | apply Kd.R_drew)); exact Kd.R_mono HO_8.out (fun _ hk => ⟨hk.1.1, ⟨hk.1.2, hk.2⟩⟩)⟩, ⟨by (with_reducible repeat (first | apply Kd.R_alloc | apply Kd.R_drewN | apply Kd.R_drew)); exact HO_9.out⟩, ⟨bl⟩⟩
                ·rw [if_neg c25] at H
                 exact absurd H (by simp)
               ·rw [if_neg c24] at H
                exact absurd H (by simp)
              ·rw [if_neg c21] at H
               exact absurd H (by simp)
             ·rw [if_neg c20] at H
              exact absurd H (by simp)
            ·rw [if_neg c18] at H
             exact absurd H (by simp)
           ·rw [if_neg c17] at H
            exact absurd H (by simp)
          ·rw [if_neg c16] at H
           exact absurd H (by simp)
         ·rw [if_neg c15] at H
          exact absurd H (by simp)
        ·rw [if_neg c14] at H
         have c14b0 := decide_eq_false c14
         clear c14
         have H' := Aside0.mk H
         clear H
         go_wp2
         repeat (go_quiet (fail); try go_wp2)
         go_roundg k2
         case measure => have := HK1.out; have := HK2.out; omega
         case rel => exact ⟨(x6_2), (x7_2), (x8_2), (x9_2), (wrap64 (x10_1 + 1)), fj, H', ⟨by have := HK1.out; have := HK2.out; omega⟩, ⟨by (with_reducible repeat (first | apply Kd.R_alloc | apply Kd.R_drewN | apply Kd.R_drew)); exact HO_6.out⟩, ⟨by (with_reducible repeat (first | apply Kd.R_alloc | apply Kd.R_drewN | apply Kd.R_drew)); exact HO_7.out⟩, ⟨by (with_reducible repeat (first | apply Kd.R_alloc | apply Kd.R_drewN | apply Kd.R_drew)); exact HO_8.out⟩, ⟨by (with_reducible repeat (first | apply Kd.R_alloc | apply Kd.R_drewN | apply Kd.R_drew)); exact HO_9.out⟩, ⟨bl⟩⟩
     ·rw [if_neg c13] at H
      have c13b0 := decide_eq_false c13
      clear c13
      by_cases c34 : 4 ≤ 35184372088832
      ·rw [if_pos c34] at H
       have c34b0 := eq_true c34
       have c34b1 : decide (4 ≤ 35184372088832) = true := decide_eq_true c34
       clear c34
       obtain ⟨y270, hy270⟩ : ∃ y_ : List Int, y_ = (List.replicate 4 0) := ⟨_, rfl⟩
       replace H : (spinnakerref07_Mul.l2 k1 x6_1 x9_1 y270 0 0) = some (r1, r2) := by first | (rw [hy270]; with_reducible exact H) | (have H2_ := (Option.bind_some _ _).symm.trans H; rw [hy270]; with_reducible exact H2_) | (have H2_ := (Option.bind_some _ _).symm.trans H; with_reducible exact H2_) | with_reducible exact H | (rw [hy270]; exact H) | exact H
       have Ny270 := Aside0.mk hy270
       clear hy270
       have H' := Aside0.mk H
       clear H
       go_wp2_with (first | ((with_reducible refine gate_dst (N := 13) rfl ?_); refine arr_make ?hg (N := 13) ?hd 66 4 (by decide) ?hr ?_; (case hd => rfl); (case hg => rfl); (case hr => first | (go_simp; done) | (go_simp; rfl)); intro ga271 w35 ho36 hb hg_ hnew_; clear hg_ hnew_; rw [← Ny270.out] at ho36; have n0_ := Aside0.mk (Kd.R_elder' (by (with_reducible repeat (first | apply Kd.R_alloc | apply Kd.R_drewN | apply Kd.R_drew)); exact HO_6.out) (Kd.R_base ho36) hb); have n1_ := Aside0.mk (Kd.R_elder' (by (with_reducible repeat (first | apply Kd.R_alloc | apply Kd.R_drewN | apply Kd.R_drew)); exact HO_7.out) (Kd.R_base ho36) hb); have n2_ := Aside0.mk (Kd.R_elder' (by (with_reducible repeat (first | apply Kd.R_alloc | apply Kd.R_drewN | apply Kd.R_drew)); exact HO_8.out) (Kd.R_base ho36) hb); have n3_ := Aside0.mk (Kd.R_elder' (by (with_reducible repeat (first | apply Kd.R_alloc | apply Kd.R_drewN | apply Kd.R_drew)); exact HO_9.out) (Kd.R_base ho36) hb); have n4_ := Aside0.mk (Kd.R_lower (Kd.R_new' (Kd.R_new' (Kd.R_new' (Kd.R_new' ho36 (Kd.R_lt (by (with_reducible repeat (first | apply Kd.R_alloc | apply Kd.R_drewN | apply Kd.R_drew)); exact HO_6.out))) (Kd.R_lt (by (with_reducible repeat (first | apply Kd.R_alloc | apply Kd.R_drewN | apply Kd.R_drew)); exact HO_7.out))) (Kd.R_lt (by (with_reducible repeat (first | apply Kd.R_alloc | apply Kd.R_drewN | apply Kd.R_drew)); exact HO_8.out))) (Kd.R_lt (by (with_reducible repeat (first | apply Kd.R_alloc | apply Kd.R_drewN | apply Kd.R_drew)); exact HO_9.out))) (below_size bl)); have n5_ := Aside0.mk (below_step bl hb); clear HO_6; clear HO_7; clear HO_8; clear HO_9; clear HB; have HO_6 := n0_; have HO_7 := n1_; have HO_8 := n2_; have HO_9 := n3_; have HO272 := n4_; have HB := n5_; clear n0_ n1_ n2_ n3_ n4_ n5_; clear hb ho36))
       repeat (go_quiet (first | ((with_reducible refine gate_dst (N := 13) rfl ?_); refine arr_make ?hg (N := 13) ?hd 66 4 (by decide) ?hr ?_; (case hd => rfl); (case hg => rfl); (case hr => first | (go_simp; done) | (go_simp; rfl)); intro ga271 w35 ho36 hb hg_ hnew_; clear hg_ hnew_; rw [← Ny270.out] at ho36; have n0_ := Aside0.mk (Kd.R_elder' (by (with_reducible repeat (first | apply Kd.R_alloc | apply Kd.R_drewN | apply Kd.R_drew)); exact HO_6.out) (Kd.R_base ho36) hb); have n1_ := Aside0.mk (Kd.R_elder' (by (with_reducible repeat (first | apply Kd.R_alloc | apply Kd.R_drewN | apply Kd.R_drew)); exact HO_7.out) (Kd.R_base ho36) hb); have n2_ := Aside0.mk (Kd.R_elder' (by (with_reducible repeat (first | apply Kd.R_alloc | apply Kd.R_drewN | apply Kd.R_drew)); exact HO_8.out) (Kd.R_base ho36) hb); have n3_ := Aside0.mk (Kd.R_elder' (by (with_reducible repeat (first | apply Kd.R_alloc | apply Kd.R_drewN | apply Kd.R_drew)); exact HO_9.out) (Kd.R_base ho36) hb); have n4_ := Aside0.mk (Kd.R_lower (Kd.R_new' (Kd.R_new' (Kd.R_new' (Kd.R_new' ho36 (Kd.R_lt (by (with_reducible repeat (first | apply Kd.R_alloc | apply Kd.R_drewN | apply Kd.R_drew)); exact HO_6.out))) (Kd.R_lt (by (with_reducible repeat (first | apply Kd.R_alloc | apply Kd.R_drewN | apply Kd.R_drew)); exact HO_7.out))) (Kd.R_lt (by (with_reducible repeat (first | apply Kd.R_alloc | apply Kd.R_drewN | apply Kd.R_drew)); exact HO_8.out))) (Kd.R_lt (by (with_reducible repeat (first | apply Kd.R_alloc | apply Kd.R_drewN | apply Kd.R_drew)); exact HO_9.out))) (below_size bl)); have n5_ := Aside0.mk (below_step bl hb); clear HO_6; clear HO_7; clear HO_8; clear HO_9; clear HB; have HO_6 := n0_; have HO_7 := n1_; have HO_8 := n2_; have HO_9 := n3_; have HO272 := n4_; have HB := n5_; clear n0_ n1_ n2_ n3_ n4_ n5_; clear hb ho36)); try go_wp2_with (first | ((with_reducible refine gate_dst (N := 13) rfl ?_); refine arr_make ?hg (N := 13) ?hd 66 4 (by decide) ?hr ?_; (case hd => rfl); (case hg => rfl); (case hr => first | (go_simp; done) | (go_simp; rfl)); intro ga271 w35 ho36 hb hg_ hnew_; clear hg_ hnew_; rw [← Ny270.out] at ho36; have n0_ := Aside0.mk (Kd.R_elder' (by (with_reducible repeat (first | apply Kd.R_alloc | apply Kd.R_drewN | apply Kd.R_drew)); exact HO_6.out) (Kd.R_base ho36) hb); have n1_ := Aside0.mk (Kd.R_elder' (by (with_reducible repeat (first | apply Kd.R_alloc | apply Kd.R_drewN | apply Kd.R_drew)); exact HO_7.out) (Kd.R_base ho36) hb); have n2_ := Aside0.mk (Kd.R_elder' (by (with_reducible repeat (first | apply Kd.R_alloc | apply Kd.R_drewN | apply Kd.R_drew)); exact HO_8.out) (Kd.R_base ho36) hb); have n3_ := Aside0.mk (Kd.R_elder' (by (with_reducible repeat (first | apply Kd.R_alloc | apply Kd.R_drewN | apply Kd.R_drew)); exact HO_9.out) (Kd.R_base ho36) hb); have n4_ := Aside0.mk (Kd.R_lower (Kd.R_new' (Kd.R_new' (Kd.R_new' (Kd.R_new' ho36 (Kd.R_lt (by (with_reducible repeat (first | apply Kd.R_alloc | apply Kd.R_drewN | apply Kd.R_drew)); exact HO_6.out))) (Kd.R_lt (by (with_reducible repeat (first | apply Kd.R_alloc | apply Kd.R_drewN | apply Kd.R_drew)); exact HO_7.out))) (Kd.R_lt (by (with_reducible repeat (first | apply Kd.R_alloc | apply Kd.R_drewN | apply Kd.R_drew)); exact HO_8.out))) (Kd.R_lt (by (with_reducible repeat (first | apply Kd.R_alloc | apply Kd.R_drewN | apply Kd.R_drew)); exact HO_9.out))) (below_size bl)); have n5_ := Aside0.mk (below_step bl hb); clear HO_6; clear HO_7; clear HO_8; clear HO_9; clear HB; have HO_6 := n0_; have HO_7 := n1_; have HO_8 := n2_; have HO_9 := n3_; have HO272 := n4_; have HB := n5_; clear n0_ n1_ n2_ n3_ n4_ n5_; clear hb ho36)))
       go_loopg [14, 15] k1 (fun kq v14 v15 w' => ∃ (x6_2 : List Int) (x9_2 : List Int) (x13_2 : List Int) (x14_2 : Int) (x15_2 : Int), v14 = .int .u64 x14_2 ∧ v15 = .int .i64 x15_2 ∧ Aside0 (spinnakerref07_Mul.l2 kq x6_2 x9_2 x13_2 x14_2 x15_2 = some (r1, r2)) ∧ Aside0 (kq ≤ k1) ∧ Aside0 (Kd.R (Kd.int .u64) 66 w' w.heap.size (fun k_ => some k_ ≠ ((.slice (some ⟨ga262, 0, none⟩) 8 8) : Value).ownBlock ∧ some k_ ≠ ((.slice (some ⟨ga271, 0, none⟩) 4 4) : Value).ownBlock) (.slice (some ⟨ga253, 0, none⟩) 4 4) x6_2) ∧ Aside0 (Kd.R (Kd.int .u64) 67 w' w.heap.size (fun k_ => some k_ ≠ ((.slice (some ⟨ga253, 0, none⟩) 4 4) : Value).ownBlock ∧ some k_ ≠ ((.slice (some ⟨ga271, 0, none⟩) 4 4) : Value).ownBlock) (.slice (some ⟨ga262, 0, none⟩) 8 8) x9_2) ∧ Aside0 (Kd.R (Kd.int .u64) 66 w' w.heap.size (fun k_ => some k_ ≠ ((.slice (some ⟨ga253, 0, none⟩) 4 4) : Value).ownBlock ∧ some k_ ≠ ((.slice (some ⟨ga262, 0, none⟩) 8 8) : Value).ownBlock) (.slice (some ⟨ga271, 0, none⟩) 4 4) x13_2) ∧ Aside0 (Below w.heap.size w w'))
       case atStart => exact ⟨(x6_1), (x9_1), (y270), (0), (0), fj, fj, H', ⟨Nat.le_refl _⟩, ⟨by (with_reducible repeat (first | apply Kd.R_alloc | apply Kd.R_drewN | apply Kd.R_drew)); exact Kd.R_mono HO_6.out (fun _ hk => ⟨hk.1.2.2, hk.2⟩)⟩, ⟨by (with_reducible repeat (first | apply Kd.R_alloc | apply Kd.R_drewN | apply Kd.R_drew)); exact Kd.R_mono HO_9.out (fun _ hk => ⟨hk.1.1, hk.2⟩)⟩, ⟨by (with_reducible repeat (first | apply Kd.R_alloc | apply Kd.R_drewN | apply Kd.R_drew)); exact Kd.R_mono HO272.out (fun _ hk => ⟨hk.1.1.1.2, hk.2⟩)⟩, ⟨bl⟩⟩
       case round =>
        clear H'
        try clear c1
        try clear c2
        try clear p2
        try clear q2
        try clear hx2
        try clear hf2
        try clear c3
        try clear c3b0
        try clear c3b1
        try clear c4
        try clear c4b0
        try clear c4b1
        try clear p6
        try clear c13
        try clear c13b0
        try clear c14
        try clear c14b0
        try clear c15
        try clear c15b0
        try clear c16
        try clear c16b0
        try clear c17
        try clear c17b0
        try clear c18
        try clear c18b0
        try clear c20
        try clear c20b0
        try clear c21
        try clear c21b0
        try clear p22
        try clear q22
        try clear hx22
        try clear hf22
        try clear c24
        try clear c24b0
        try clear c25
        try clear c25b0
        try clear p26
        try clear q26
        try clear hx26
        try clear hf26
        try clear c34
        try clear c34b0
        try clear c34b1
        try clear hx22_0
        try clear hx264_0
        try clear hx265_0
        try clear hx266_0
        try clear hx268_0
        try clear hx26_0
        try clear p2
        try clear p22
        try clear p26
        try clear p264
        try clear p265
        try clear p266
        try clear p268
        try clear q22
        try clear q26
        try clear q264
        try clear q265
        try clear q266
        try clear q268
        obtain ⟨x6_2, x9_2, x13_2, x14_2, x15_2, rfl, rfl, HA, HK2, HO_6, HO_9, HO_13, HB⟩ := hrel
        cases gk with
        | zero => exact absurd HA.out (by simp [spinnakerref07_Mul.l2])
        | succ k2 =>
         have H := HA.out
         clear HA
         simp only [spinnakerref07_Mul.l2] at H
         by_cases c37 : x15_2 < 8
         ·rw [if_pos c37] at H
          have c37b0 := decide_eq_true c37
          clear c37
          by_cases c38 : 0 ≤ x15_2
          ·rw [if_pos c38] at H
           have c38b0 := decide_eq_true c38
           clear c38
           by_cases c39 : x15_2 < (x9_2.length : Int)
           ·rw [if_pos c39] at H
            have c39b0 := decide_eq_true c39
            clear c39
            by_cases c40 : x15_2 < 4
            ·rw [if_pos c40] at H
             have c40b0 := decide_eq_true c40
             clear c40
             by_cases c41 : x15_2 < (x6_2.length : Int)
             ·rw [if_pos c41] at H
              have c41b0 := decide_eq_true c41
              clear c41
              obtain ⟨y274, hy274⟩ : ∃ y_ : List Int, y_ = (x6_2.set (x15_2 : Int).toNat (Int.tmod (IntKind.u64.wrap ((rd x9_2 x15_2) + x14_2)) 65536)) := ⟨_, rfl⟩
              replace H : (spinnakerref07_Mul.l2 k2 y274 x9_2 x13_2 (IntKind.u64.wrap (Int.tdiv (IntKind.u64.wrap ((rd x9_2 x15_2) + x14_2)) 65536)) (wrap64 (x15_2 + 1))) = some (r1, r2) := by first | (rw [hy274]; with_reducible exact H) | (have H2_ := (Option.bind_some _ _).symm.trans H; rw [hy274]; with_reducible exact H2_) | (have H2_ := (Option.bind_some _ _).symm.trans H; with_reducible exact H2_) | with_reducible exact H | (rw [hy274]; exact H) | exact H
              have Ny274 := Aside0.mk hy274
              clear hy274
              have H' := Aside0.mk H
              clear H
              have p273 : 0 ≤ (x15_2 : Int) := of_decide_eq_true (by first | (with_reducible assumption) | assumption)
              have q273 : x15_2 < (x9_2.length : Int) := of_decide_eq_true (by first | (with_reducible assumption) | assumption)
              obtain ⟨hx273_0, hf273_1, qa273⟩ := arr_cell HO_9.out (x15_2 : Int) p273 q273
              rw [show ((8 : Nat) : Int) = 8 from rfl] at qa273
              replace p273 := eq_true p273
              replace q273 := eq_true q273
              have p42 : 0 ≤ (x15_2 : Int) := of_decide_eq_true (by first | (with_reducible assumption) | assumption)
              have q42 : (x15_2 : Int) < ((x6_2.length : Int) : Int) := of_decide_eq_true (by first | (with_reducible assumption) | assumption)
              obtain ⟨gb42, HG42⟩ := arr_base HO_6.out (by omega)
              have GB42 := Aside0.mk gb42
              have GG42 := Aside0.mk HG42
              clear gb42 HG42
              obtain ⟨hx42_0, hf42_0, qa42⟩ := arr_cell HO_6.out (x15_2 : Int) p42 q42
              rw [show ((4 : Nat) : Int) = 4 from rfl] at qa42
              replace p42 := eq_true p42
              replace q42 := eq_true q42
              have HP44 := Kd.R_putg HO_6.out (x15_2 : Int) (Int.tmod (IntKind.u64.wrap ((rd x9_2 x15_2) + x14_2)) 65536)
              go_wp2_with (first | ((with_reducible refine gate_store (t := 34) (p := 96) rfl ?_); (try (rw [drewN_self wr]; generalize hq_ : World.drewN wr _ = wr; have n0_ := Aside0.mk (Kd.R_at hq_ HO_6.out); have n1_ := Aside0.mk (Kd.R_at hq_ HO_9.out); have n2_ := Aside0.mk (Kd.R_at hq_ HO_13.out); have n3_ := Aside0.mk (below_at hq_ HB.out); clear hq_ HO_6 HO_9 HO_13 HB; have HO_6 := n0_; have HO_9 := n1_; have HO_13 := n2_; have HB := n3_; clear n0_ n1_ n2_ n3_; (try (obtain ⟨hy44_, hz44_, _⟩ := arr_cell HO_6.out (x15_2 : Int) (of_decide_eq_true (by first | (with_reducible assumption) | assumption)) (of_decide_eq_true (by first | (with_reducible assumption) | assumption)))); (try (have HP44 := Kd.R_putg HO_6.out (x15_2 : Int) (Int.tmod (IntKind.u64.wrap ((rd x9_2 x15_2) + x14_2)) 65536))))); refine store_event (t := 34) (p := 96) (v := ?vo_w45) (w1 := (wr.setCell ⟨ga253, (x15_2 : Int).toNat, none⟩ (.int .u64 (Int.tmod (IntKind.u64.wrap ((rd x9_2 x15_2) + x14_2)) 65536)))) ?hg ?ho ?hn ?hr ?_; (case ho => rfl); (case hg => rfl); (case hn => rfl); (case hr => first | (go_simp; done) | (go_simp; rfl)); intro w45 hw; have hg : wr.grownBy w45 (some ga253) := (by rw [hw]; exact HP44.2); have hp_ : Kd.R (Kd.int .u64) 66 w45 w.heap.size (fun k_ => some k_ ≠ (.slice (some ⟨ga262, 0, none⟩) 8 8 : Value).ownBlock ∧ some k_ ≠ ((.slice (some ⟨ga271, 0, none⟩) 4 4) : Value).ownBlock) (.slice (some ⟨ga253, 0, none⟩) 4 4) y274 := (by rw [hw, Ny274.out]; exact HP44.1); clear HP44; have n0_ := Aside0.mk (hp_); have n1_ := Aside0.mk (Kd.R_after (v := (.slice (some ⟨ga253, 0, none⟩) 4 4)) (v1 := (.slice (some ⟨ga253, 0, none⟩) 4 4)) (ok := (fun k_ => some k_ ≠ ((.slice (some ⟨ga271, 0, none⟩) 4 4) : Value).ownBlock)) (by (with_reducible repeat (first | apply Kd.R_alloc | apply Kd.R_drewN | apply Kd.R_drew)); exact Kd.R_mono HO_9.out (fun _ hk => ⟨hk.2, hk.1⟩)) hg (.inl rfl)); have n2_ := Aside0.mk (Kd.R_after (v := (.slice (some ⟨ga253, 0, none⟩) 4 4)) (v1 := (.slice (some ⟨ga253, 0, none⟩) 4 4)) (ok := (fun k_ => some k_ ≠ (.slice (some ⟨ga262, 0, none⟩) 8 8 : Value).ownBlock)) (by (with_reducible repeat (first | apply Kd.R_alloc | apply Kd.R_drewN | apply Kd.R_drew)); exact Kd.R_mono HO_13.out (fun _ hk => ⟨hk.2, hk.1⟩)) hg (.inl rfl)); have n3_ := Aside0.mk ((by rw [hw]; exact below_set (HB.out) GB42.out : Below w.heap.size w w45)); clear HO_6; clear HO_9; clear HO_13; clear HB; have HO_6 := n0_; have HO_9 := n1_; have HO_13 := n2_; have HB := n3_; clear n0_ n1_ n2_ n3_; clear hg hw hp_))
              repeat (go_quiet (first | ((with_reducible refine gate_store (t := 34) (p := 96) rfl ?_); (try (rw [drewN_self wr]; generalize hq_ : World.drewN wr _ = wr; have n0_ := Aside0.mk (Kd.R_at hq_ HO_6.out); have n1_ := Aside0.mk (Kd.R_at hq_ HO_9.out); have n2_ := Aside0.mk (Kd.R_at hq_ HO_13.out); have n3_ := Aside0.mk (below_at hq_ HB.out); clear hq_ HO_6 HO_9 HO_13 HB; have HO_6 := n0_; have HO_9 := n1_; have HO_13 := n2_; have HB := n3_; clear n0_ n1_ n2_ n3_; (try (obtain ⟨hy44_, hz44_, _⟩ := arr_cell HO_6.out (x15_2 : Int) (of_decide_eq_true (by first | (with_reducible assumption) | assumption)) (of_decide_eq_true (by first | (with_reducible assumption) | assumption)))); (try (have HP44 := Kd.R_putg HO_6.out (x15_2 : Int) (Int.tmod (IntKind.u64.wrap ((rd x9_2 x15_2) + x14_2)) 65536))))); refine store_event (t := 34) (p := 96) (v := ?vo_w45) (w1 := (wr.setCell ⟨ga253, (x15_2 : Int).toNat, none⟩ (.int .u64 (Int.tmod (IntKind.u64.wrap ((rd x9_2 x15_2) + x14_2)) 65536)))) ?hg ?ho ?hn ?hr ?_; (case ho => rfl); (case hg => rfl); (case hn => rfl); (case hr => first | (go_simp; done) | (go_simp; rfl)); intro w45 hw; have hg : wr.grownBy w45 (some ga253) := (by rw [hw]; exact HP44.2); have hp_ : Kd.R (Kd.int .u64) 66 w45 w.heap.size (fun k_ => some k_ ≠ (.slice (some ⟨ga262, 0, none⟩) 8 8 : Value).ownBlock ∧ some k_ ≠ ((.slice (some ⟨ga271, 0, none⟩) 4 4) : Value).ownBlock) (.slice (some ⟨ga253, 0, none⟩) 4 4) y274 := (by rw [hw, Ny274.out]; exact HP44.1); clear HP44; have n0_ := Aside0.mk (hp_); have n1_ := Aside0.mk (Kd.R_after (v := (.slice (some ⟨ga253, 0, none⟩) 4 4)) (v1 := (.slice (some ⟨ga253, 0, none⟩) 4 4)) (ok := (fun k_ => some k_ ≠ ((.slice (some ⟨ga271, 0, none⟩) 4 4) : Value).ownBlock)) (by (with_reducible repeat (first | apply Kd.R_alloc | apply Kd.R_drewN | apply Kd.R_drew)); exact Kd.R_mono HO_9.out (fun _ hk => ⟨hk.2, hk.1⟩)) hg (.inl rfl)); have n2_ := Aside0.mk (Kd.R_after (v := (.slice (some ⟨ga253, 0, none⟩) 4 4)) (v1 := (.slice (some ⟨ga253, 0, none⟩) 4 4)) (ok := (fun k_ => some k_ ≠ (.slice (some ⟨ga262, 0, none⟩) 8 8 : Value).ownBlock)) (by (with_reducible repeat (first | apply Kd.R_alloc | apply Kd.R_drewN | apply Kd.R_drew)); exact Kd.R_mono HO_13.out (fun _ hk => ⟨hk.2, hk.1⟩)) hg (.inl rfl)); have n3_ := Aside0.mk ((by rw [hw]; exact below_set (HB.out) GB42.out : Below w.heap.size w w45)); clear HO_6; clear HO_9; clear HO_13; clear HB; have HO_6 := n0_; have HO_9 := n1_; have HO_13 := n2_; have HB := n3_; clear n0_ n1_ n2_ n3_; clear hg hw hp_)); try go_wp2_with (first | ((with_reducible refine gate_store (t := 34) (p := 96) rfl ?_); (try (rw [drewN_self wr]; generalize hq_ : World.drewN wr _ = wr; have n0_ := Aside0.mk (Kd.R_at hq_ HO_6.out); have n1_ := Aside0.mk (Kd.R_at hq_ HO_9.out); have n2_ := Aside0.mk (Kd.R_at hq_ HO_13.out); have n3_ := Aside0.mk (below_at hq_ HB.out); clear hq_ HO_6 HO_9 HO_13 HB; have HO_6 := n0_; have HO_9 := n1_; have HO_13 := n2_; have HB := n3_; clear n0_ n1_ n2_ n3_; (try (obtain ⟨hy44_, hz44_, _⟩ := arr_cell HO_6.out (x15_2 : Int) (of_decide_eq_true (by first | (with_reducible assumption) | assumption)) (of_decide_eq_true (by first | (with_reducible assumption) | assumption)))); (try (have HP44 := Kd.R_putg HO_6.out (x15_2 : Int) (Int.tmod (IntKind.u64.wrap ((rd x9_2 x15_2) + x14_2)) 65536))))); refine store_event (t := 34) (p := 96) (v := ?vo_w45) (w1 := (wr.setCell ⟨ga253, (x15_2 : Int).toNat, none⟩ (.int .u64 (Int.tmod (IntKind.u64.wrap ((rd x9_2 x15_2) + x14_2)) 65536)))) ?hg ?ho ?hn ?hr ?_; (case ho => rfl); (case hg => rfl); (case hn => rfl); (case hr => first | (go_simp; done) | (go_simp; rfl)); intro w45 hw; have hg : wr.grownBy w45 (some ga253) := (by rw [hw]; exact HP44.2); have hp_ : Kd.R (Kd.int .u64) 66 w45 w.heap.size (fun k_ => some k_ ≠ (.slice (some ⟨ga262, 0, none⟩) 8 8 : Value).ownBlock ∧ some k_ ≠ ((.slice (some ⟨ga271, 0, none⟩) 4 4) : Value).ownBlock) (.slice (some ⟨ga253, 0, none⟩) 4 4) y274 := (by rw [hw, Ny274.out]; exact HP44.1); clear HP44; have n0_ := Aside0.mk (hp_); have n1_ := Aside0.mk (Kd.R_after (v := (.slice (some ⟨ga253, 0, none⟩) 4 4)) (v1 := (.slice (some ⟨ga253, 0, none⟩) 4 4)) (ok := (fun k_ => some k_ ≠ ((.slice (some ⟨ga271, 0, none⟩) 4 4) : Value).ownBlock)) (by (with_reducible repeat (first | apply Kd.R_alloc | apply Kd.R_drewN | apply Kd.R_drew)); exact Kd.R_mono HO_9.out (fun _ hk => ⟨hk.2, hk.1⟩)) hg (.inl rfl)); have n2_ := Aside0.mk (Kd.R_after (v := (.slice (some ⟨ga253, 0, none⟩) 4 4)) (v1 := (.slice (some ⟨ga253, 0, none⟩) 4 4)) (ok := (fun k_ => some k_ ≠ (.slice (some ⟨ga262, 0, none⟩) 8 8 : Value).ownBlock)) (by (with_reducible repeat (first | apply Kd.R_alloc | apply Kd.R_drewN | apply Kd.R_drew)); exact Kd.R_mono HO_13.out (fun _ hk => ⟨hk.2, hk.1⟩)) hg (.inl rfl)); have n3_ := Aside0.mk ((by rw [hw]; exact below_set (HB.out) GB42.out : Below w.heap.size w w45)); clear HO_6; clear HO_9; clear HO_13; clear HB; have HO_6 := n0_; have HO_9 := n1_; have HO_13 := n2_; have HB := n3_; clear n0_ n1_ n2_ n3_; clear hg hw hp_)))
              go_roundg k2
              case measure => have := HK1.out; have := HK2.out; omega
              case rel => exact ⟨(y274), (x9_2), (x13_2), (IntKind.u64.wrap (Int.tdiv (IntKind.u64.wrap ((rd x9_2 x15_2) + x14_2)) 65536)), (wrap64 (x15_2 + 1)), fj, fj, H', ⟨by have := HK1.out; have := HK2.out; omega⟩, ⟨by (with_reducible repeat (first | apply Kd.R_alloc | apply Kd.R_drewN | apply Kd.R_drew)); exact HO_6.out⟩, ⟨by (with_reducible repeat (first | apply Kd.R_alloc | apply Kd.R_drewN | apply Kd.R_drew)); exact Kd.R_mono HO_9.out (fun _ hk => ⟨hk.2, hk.1⟩)⟩, ⟨by (with_reducible repeat (first | apply Kd.R_alloc | apply Kd.R_drewN | apply Kd.R_drew)); exact Kd.R_mono HO_13.out (fun _ hk => ⟨hk.2, hk.1⟩)⟩, ⟨bl⟩⟩
             ·rw [if_neg c41] at H
              exact absurd H (by simp)
            ·rw [if_neg c40] at H
             have c40b0 := decide_eq_false c40
             clear c40
             obtain ⟨ji46, hji46⟩ : ∃ j_ : Int, (wrap64 (x15_2 - 4)) = j_ := ⟨_, rfl⟩
             replace H : (if 0 ≤ (ji46) then (if (ji46) < (x13_2.length : Int) then (spinnakerref07_Mul.l2 k2 x6_2 x9_2 (x13_2.set ((ji46) : Int).toNat (Int.tmod (IntKind.u64.wrap ((rd x9_2 x15_2) + x14_2)) 65536)) (IntKind.u64.wrap (Int.tdiv (IntKind.u64.wrap ((rd x9_2 x15_2) + x14_2)) 65536)) (wrap64 (x15_2 + 1))) else (none)) else (none)) = some (r1, r2) := by first | (rw [hji46] at H; exact H) | (simp only [hji46] at H ⊢; exact H)
             have hji46w : (IntKind.i64.wrap (x15_2 - 4)) = ji46 := (i64_w _).trans hji46
             by_cases c47 : 0 ≤ (ji46)
             ·rw [if_pos c47] at H
              have c47b0 := decide_eq_true c47
              clear c47
              by_cases c48 : (ji46) < (x13_2.length : Int)
              ·rw [if_pos c48] at H
               have c48b0 := decide_eq_true c48
               clear c48
               obtain ⟨y275, hy275⟩ : ∃ y_ : List Int, y_ = (x13_2.set ((ji46) : Int).toNat (Int.tmod (IntKind.u64.wrap ((rd x9_2 x15_2) + x14_2)) 65536)) := ⟨_, rfl⟩
               replace H : (spinnakerref07_Mul.l2 k2 x6_2 x9_2 y275 (IntKind.u64.wrap (Int.tdiv (IntKind.u64.wrap ((rd x9_2 x15_2) + x14_2)) 65536)) (wrap64 (x15_2 + 1))) = some (r1, r2) := by first | (rw [hy275]; with_reducible exact H) | (have H2_ := (Option.bind_some _ _).symm.trans H; rw [hy275]; with_reducible exact H2_) | (have H2_ := (Option.bind_some _ _).symm.trans H; with_reducible exact H2_) | with_reducible exact H | (rw [hy275]; exact H) | exact H
               have Ny275 := Aside0.mk hy275
               clear hy275
               have H' := Aside0.mk H
               clear H
               have p273 : 0 ≤ (x15_2 : Int) := of_decide_eq_true (by first | (with_reducible assumption) | assumption)
               have q273 : x15_2 < (x9_2.length : Int) := of_decide_eq_true (by first | (with_reducible assumption) | assumption)
               obtain ⟨hx273_0, hf273_1, qa273⟩ := arr_cell HO_9.out (x15_2 : Int) p273 q273
               rw [show ((8 : Nat) : Int) = 8 from rfl] at qa273
               replace p273 := eq_true p273
               replace q273 := eq_true q273
               have p49 : 0 ≤ ((ji46) : Int) := of_decide_eq_true (by first | (with_reducible assumption) | assumption)
               have q49 : ((ji46) : Int) < ((x13_2.length : Int) : Int) := of_decide_eq_true (by first | (with_reducible assumption) | assumption)
               obtain ⟨gb49, HG49⟩ := arr_base HO_13.out (by omega)
               have GB49 := Aside0.mk gb49
               have GG49 := Aside0.mk HG49
               clear gb49 HG49
               obtain ⟨hx49_0, hf49_0, qa49⟩ := arr_cell HO_13.out ((ji46) : Int) p49 q49
               rw [show ((4 : Nat) : Int) = 4 from rfl] at qa49
               replace p49 := eq_true p49
               replace q49 := eq_true q49
               have HP51 := Kd.R_putg HO_13.out ((ji46) : Int) (Int.tmod (IntKind.u64.wrap ((rd x9_2 x15_2) + x14_2)) 65536)
               go_wp2_with (first | ((with_reducible refine gate_store (t := 34) (p := 101) rfl ?_); (try (rw [drewN_self wr]; generalize hq_ : World.drewN wr _ = wr; have n0_ := Aside0.mk (Kd.R_at hq_ HO_6.out); have n1_ := Aside0.mk (Kd.R_at hq_ HO_9.out); have n2_ := Aside0.mk (Kd.R_at hq_ HO_13.out); have n3_ := Aside0.mk (below_at hq_ HB.out); clear hq_ HO_6 HO_9 HO_13 HB; have HO_6 := n0_; have HO_9 := n1_; have HO_13 := n2_; have HB := n3_; clear n0_ n1_ n2_ n3_; (try (obtain ⟨hy51_, hz51_, _⟩ := arr_cell HO_13.out ((ji46) : Int) (of_decide_eq_true (by first | (with_reducible assumption) | assumption)) (of_decide_eq_true (by first | (with_reducible assumption) | assumption)))); (try (have HP51 := Kd.R_putg HO_13.out ((ji46) : Int) (Int.tmod (IntKind.u64.wrap ((rd x9_2 x15_2) + x14_2)) 65536))))); refine store_event (t := 34) (p := 101) (v := ?vo_w52) (w1 := (wr.setCell ⟨ga271, ((ji46) : Int).toNat, none⟩ (.int .u64 (Int.tmod (IntKind.u64.wrap ((rd x9_2 x15_2) + x14_2)) 65536)))) ?hg ?ho ?hn ?hr ?_; (case ho => rfl); (case hg => rfl); (case hn => rfl); (case hr => first | (go_simp; done) | (go_simp; rfl)); intro w52 hw; have hg : wr.grownBy w52 (some ga271) := (by rw [hw]; exact HP51.2); have hp_ : Kd.R (Kd.int .u64) 66 w52 w.heap.size (fun k_ => some k_ ≠ ((.slice (some ⟨ga253, 0, none⟩) 4 4) : Value).ownBlock ∧ some k_ ≠ (.slice (some ⟨ga262, 0, none⟩) 8 8 : Value).ownBlock) (.slice (some ⟨ga271, 0, none⟩) 4 4) y275 := (by rw [hw, Ny275.out]; exact HP51.1); clear HP51; have n0_ := Aside0.mk (Kd.R_after (v := (.slice (some ⟨ga271, 0, none⟩) 4 4)) (v1 := (.slice (some ⟨ga271, 0, none⟩) 4 4)) (ok := (fun k_ => some k_ ≠ (.slice (some ⟨ga262, 0, none⟩) 8 8 : Value).ownBlock)) (by (with_reducible repeat (first | apply Kd.R_alloc | apply Kd.R_drewN | apply Kd.R_drew)); exact HO_6.out) hg (.inl rfl)); have n1_ := Aside0.mk (Kd.R_after (v := (.slice (some ⟨ga271, 0, none⟩) 4 4)) (v1 := (.slice (some ⟨ga271, 0, none⟩) 4 4)) (ok := (fun k_ => some k_ ≠ ((.slice (some ⟨ga253, 0, none⟩) 4 4) : Value).ownBlock)) (by (with_reducible repeat (first | apply Kd.R_alloc | apply Kd.R_drewN | apply Kd.R_drew)); exact HO_9.out) hg (.inl rfl)); have n2_ := Aside0.mk (hp_); have n3_ := Aside0.mk ((by rw [hw]; exact below_set (HB.out) GB49.out : Below w.heap.size w w52)); clear HO_6; clear HO_9; clear HO_13; clear HB; have HO_6 := n0_; have HO_9 := n1_; have HO_13 := n2_; have HB := n3_; clear n0_ n1_ n2_ n3_; clear hg hw hp_))
               repeat (go_quiet (first | ((with_reducible refine gate_store (t := 34) (p := 101) rfl ?_); (try (rw [drewN_self wr]; generalize hq_ : World.drewN wr _ = wr; have n0_ := Aside0.mk (Kd.R_at hq_ HO_6.out); have n1_ := Aside0.mk (Kd.R_at hq_ HO_9.out); have n2_ := Aside0.mk (Kd.R_at hq_ HO_13.out); have n3_ := Aside0.mk (below_at hq_ HB.out); clear hq_ HO_6 HO_9 HO_13 HB; have HO_6 := n0_; have HO_9 := n1_; have HO_13 := n2_; have HB := n3_; clear n0_ n1_ n2_ n3_; (try (obtain ⟨hy51_, hz51_, _⟩ := arr_cell HO_13.out ((ji46) : Int) (of_decide_eq_true (by first | (with_reducible assumption) | assumption)) (of_decide_eq_true (by first | (with_reducible assumption) | assumption)))); (try (have HP51 := Kd.R_putg HO_13.out ((ji46) : Int) (Int.tmod (IntKind.u64.wrap ((rd x9_2 x15_2) + x14_2)) 65536))))); refine store_event (t := 34) (p := 101) (v := ?vo_w52) (w1 := (wr.setCell ⟨ga271, ((ji46) : Int).toNat, none⟩ (.int .u64 (Int.tmod (IntKind.u64.wrap ((rd x9_2 x15_2) + x14_2)) 65536)))) ?hg ?ho ?hn ?hr ?_; (case ho => rfl); (case hg => rfl); (case hn => rfl); (case hr => first | (go_simp; done) | (go_simp; rfl)); intro w52 hw; have hg : wr.grownBy w52 (some ga271) := (by rw [hw]; exact HP51.2); have hp_ : Kd.R (Kd.int .u64) 66 w52 w.heap.size (fun k_ => some k_ ≠ ((.slice (some ⟨ga253, 0, none⟩) 4 4) : Value).ownBlock ∧ some k_ ≠ (.slice (some ⟨ga262, 0, none⟩) 8 8 : Value).ownBlock) (.slice (some ⟨ga271, 0, none⟩) 4 4) y275 := (by rw [hw, Ny275.out]; exact HP51.1); clear HP51; have n0_ := Aside0.mk (Kd.R_after (v := (.slice (some ⟨ga271, 0, none⟩) 4 4)) (v1 := (.slice (some ⟨ga271, 0, none⟩) 4 4)) (ok := (fun k_ => some k_ ≠ (.slice (some ⟨ga262, 0, none⟩) 8 8 : Value).ownBlock)) (by (with_reducible repeat (first | apply Kd.R_alloc | apply Kd.R_drewN | apply Kd.R_drew)); exact HO_6.out) hg (.inl rfl)); have n1_ := Aside0.mk (Kd.R_after (v := (.slice (some ⟨ga271, 0, none⟩) 4 4)) (v1 := (.slice (some ⟨ga271, 0, none⟩) 4 4)) (ok := (fun k_ => some k_ ≠ ((.slice (some ⟨ga253, 0, none⟩) 4 4) : Value).ownBlock)) (by (with_reducible repeat (first | apply Kd.R_alloc | apply Kd.R_drewN | apply Kd.R_drew)); exact HO_9.out) hg (.inl rfl)); have n2_ := Aside0.mk (hp_); have n3_ := Aside0.mk ((by rw [hw]; exact below_set (HB.out) GB49.out : Below w.heap.size w w52)); clear HO_6; clear HO_9; clear HO_13; clear HB; have HO_6 := n0_; have HO_9 := n1_; have HO_13 := n2_; have HB := n3_; clear n0_ n1_ n2_ n3_; clear hg hw hp_)); try go_wp2_with (first | ((with_reducible refine gate_store (t := 34) (p := 101) rfl ?_); (try (rw [drewN_self wr]; generalize hq_ : World.drewN wr _ = wr; have n0_ := Aside0.mk (Kd.R_at hq_ HO_6.out); have n1_ := Aside0.mk (Kd.R_at hq_ HO_9.out); have n2_ := Aside0.mk (Kd.R_at hq_ HO_13.out); have n3_ := Aside0.mk (below_at hq_ HB.out); clear hq_ HO_6 HO_9 HO_13 HB; have HO_6 := n0_; have HO_9 := n1_; have HO_13 := n2_; have HB := n3_; clear n0_ n1_ n2_ n3_; (try (obtain ⟨hy51_, hz51_, _⟩ := arr_cell HO_13.out ((ji46) : Int) (of_decide_eq_true (by first | (with_reducible assumption) | assumption)) (of_decide_eq_true (by first | (with_reducible assumption) | assumption)))); (try (have HP51 := Kd.R_putg HO_13.out ((ji46) : Int) (Int.tmod (IntKind.u64.wrap ((rd x9_2 x15_2) + x14_2)) 65536))))); refine store_event (t := 34) (p := 101) (v := ?vo_w52) (w1 := (wr.setCell ⟨ga271, ((ji46) : Int).toNat, none⟩ (.int .u64 (Int.tmod (IntKind.u64.wrap ((rd x9_2 x15_2) + x14_2)) 65536)))) ?hg ?ho ?hn ?hr ?_; (case ho => rfl); (case hg => rfl); (case hn => rfl); (case hr => first | (go_simp; done) | (go_simp; rfl)); intro w52 hw; have hg : wr.grownBy w52 (some ga271) := (by rw [hw]; exact HP51.2); have hp_ : Kd.R (Kd.int .u64) 66 w52 w.heap.size (fun k_ => some k_ ≠ ((.slice (some ⟨ga253, 0, none⟩) 4 4) : Value).ownBlock ∧ some k_ ≠ (.slice (some ⟨ga262, 0, none⟩) 8 8 : Value).ownBlock) (.slice (some ⟨ga271, 0, none⟩) 4 4) y275 := (by rw [hw, Ny275.out]; exact HP51.1); clear HP51; have n0_ := Aside0.mk (Kd.R_after (v := (.slice (some ⟨ga271, 0, none⟩) 4 4)) (v1 := (.slice (some ⟨ga271, 0, none⟩) 4 4)) (ok := (fun k_ => some k_ ≠ (.slice (some ⟨ga262, 0, none⟩) 8 8 : Value).ownBlock)) (by (with_reducible repeat (first | apply Kd.R_alloc | apply Kd.R_drewN | apply Kd.R_drew)); exact HO_6.out) hg (.inl rfl)); have n1_ := Aside0.mk (Kd.R_after (v := (.slice (some ⟨ga271, 0, none⟩) 4 4)) (v1 := (.slice (some ⟨ga271, 0, none⟩) 4 4)) (ok := (fun k_ => some k_ ≠ ((.slice (some ⟨ga253, 0, none⟩) 4 4) : Value).ownBlock)) (by (with_reducible repeat (first | apply Kd.R_alloc | apply Kd.R_drewN | apply Kd.R_drew)); exact HO_9.out) hg (.inl rfl)); have n2_ := Aside0.mk (hp_); have n3_ := Aside0.mk ((by rw [hw]; exact below_set (HB.out) GB49.out : Below w.heap.size w w52)); clear HO_6; clear HO_9; clear HO_13; clear HB; have HO_6 := n0_; have HO_9 := n1_; have HO_13 := n2_; have HB := n3_; clear n0_ n1_ n2_ n3_; clear hg hw hp_)))
               go_roundg k2
               case measure => have := HK1.out; have := HK2.out; omega
               case rel => exact ⟨(x6_2), (x9_2), (y275), (IntKind.u64.wrap (Int.tdiv (IntKind.u64.wrap ((rd x9_2 x15_2) + x14_2)) 65536)), (wrap64 (x15_2 + 1)), fj, fj, H', ⟨by have := HK1.out; have := HK2.out; omega⟩, ⟨by (with_reducible repeat (first | apply Kd.R_alloc | apply Kd.R_drewN | apply Kd.R_drew)); exact HO_6.out⟩, ⟨by (with_reducible repeat (first | apply Kd.R_alloc | apply Kd.R_drewN | apply Kd.R_drew)); exact HO_9.out⟩, ⟨by (with_reducible repeat (first | apply Kd.R_alloc | apply Kd.R_drewN | apply Kd.R_drew)); exact HO_13.out⟩, ⟨bl⟩⟩
              ·rw [if_neg c48] at H
               exact absurd H (by simp)
             ·rw [if_neg c47] at H
              exact absurd H (by simp)
           ·rw [if_neg c39] at H
            exact absurd H (by simp)
          ·rw [if_neg c38] at H
           exact absurd H (by simp)
         ·rw [if_neg c37] at H
          have c37b0 := decide_eq_false c37
          clear c37
          by_cases c53 : 0 < (x6_2.length : Int)
          ·rw [if_pos c53] at H
           have c53b0 := decide_eq_true c53
           have c53b1 : decide (0 < x6_2.length) = true := decide_eq_true (by omega)
           clear c53
           by_cases c54 : 1 < (x6_2.length : Int)
           ·rw [if_pos c54] at H
            have c54b0 := decide_eq_true c54
            have c54b1 : decide (1 < x6_2.length) = true := decide_eq_true (by omega)
            clear c54
            by_cases c55 : 2 < (x6_2.length : Int)
            ·rw [if_pos c55] at H
             have c55b0 := decide_eq_true c55
             have c55b1 : decide (2 < x6_2.length) = true := decide_eq_true (by omega)
             clear c55
             by_cases c56 : 3 < (x6_2.length : Int)
             ·rw [if_pos c56] at H
              have c56b0 := decide_eq_true c56
              have c56b1 : decide (3 < x6_2.length) = true := decide_eq_true (by omega)
              clear c56
              by_cases c57 : 0 < (x13_2.length : Int)
              ·rw [if_pos c57] at H
               have c57b0 := decide_eq_true c57
               have c57b1 : decide (0 < x13_2.length) = true := decide_eq_true (by omega)
               clear c57
               by_cases c58 : 1 < (x13_2.length : Int)
               ·rw [if_pos c58] at H
                have c58b0 := decide_eq_true c58
                have c58b1 : decide (1 < x13_2.length) = true := decide_eq_true (by omega)
                clear c58
                by_cases c59 : 2 < (x13_2.length : Int)
                ·rw [if_pos c59] at H
                 have c59b0 := decide_eq_true c59
                 have c59b1 : decide (2 < x13_2.length) = true := decide_eq_true (by omega)
                 clear c59
                 by_cases c60 : 3 < (x13_2.length : Int)
                 ·rw [if_pos c60] at H
                  have c60b0 := decide_eq_true c60
                  have c60b1 : decide (3 < x13_2.length) = true := decide_eq_true (by omega)
                  clear c60
                  simp only [Option.some.injEq, Prod.mk.injEq] at H
                  obtain ⟨rfl, rfl⟩ := H
                  have p276 : 0 ≤ (0 : Int) := (by omega)
                  have q276 : 0 < (x6_2.length : Int) := of_decide_eq_true (by first | (with_reducible assumption) | assumption)
                  obtain ⟨hx276_0, hf276_1, qa276⟩ := arr_cell HO_6.out (0 : Int) p276 q276
                  rw [show ((4 : Nat) : Int) = 4 from rfl] at qa276
                  have qi276 : (0 < x6_2.length) = True := eq_true (by omega)
                  (try rw [show ((0 : Int)).toNat = 0 from rfl] at hx276_0)
                  replace p276 := eq_true p276
                  replace q276 := eq_true q276
                  have p277 : 0 ≤ (1 : Int) := (by omega)
                  have q277 : 1 < (x6_2.length : Int) := of_decide_eq_true (by first | (with_reducible assumption) | assumption)
                  obtain ⟨hx277_0, hf277_1, qa277⟩ := arr_cell HO_6.out (1 : Int) p277 q277
                  rw [show ((4 : Nat) : Int) = 4 from rfl] at qa277
                  have qi277 : (1 < x6_2.length) = True := eq_true (by omega)
                  (try rw [show ((1 : Int)).toNat = 1 from rfl] at hx277_0)
                  replace p277 := eq_true p277
                  replace q277 := eq_true q277
                  have p278 : 0 ≤ (2 : Int) := (by omega)
                  have q278 : 2 < (x6_2.length : Int) := of_decide_eq_true (by first | (with_reducible assumption) | assumption)
                  obtain ⟨hx278_0, hf278_1, qa278⟩ := arr_cell HO_6.out (2 : Int) p278 q278
                  rw [show ((4 : Nat) : Int) = 4 from rfl] at qa278
                  have qi278 : (2 < x6_2.length) = True := eq_true (by omega)
                  (try rw [show ((2 : Int)).toNat = 2 from rfl] at hx278_0)
                  replace p278 := eq_true p278
                  replace q278 := eq_true q278
                  have p279 : 0 ≤ (3 : Int) := (by omega)
                  have q279 : 3 < (x6_2.length : Int) := of_decide_eq_true (by first | (with_reducible assumption) | assumption)
                  obtain ⟨hx279_0, hf279_1, qa279⟩ := arr_cell HO_6.out (3 : Int) p279 q279
                  rw [show ((4 : Nat) : Int) = 4 from rfl] at qa279
                  have qi279 : (3 < x6_2.length) = True := eq_true (by omega)
                  (try rw [show ((3 : Int)).toNat = 3 from rfl] at hx279_0)
                  replace p279 := eq_true p279
                  replace q279 := eq_true q279
                  have p280 : 0 ≤ (0 : Int) := (by omega)
                  have q280 : 0 < (x13_2.length : Int) := of_decide_eq_true (by first | (with_reducible assumption) | assumption)
                  obtain ⟨hx280_0, hf280_1, qa280⟩ := arr_cell HO_13.out (0 : Int) p280 q280
                  rw [show ((4 : Nat) : Int) = 4 from rfl] at qa280
                  have qi280 : (0 < x13_2.length) = True := eq_true (by omega)
                  (try rw [show ((0 : Int)).toNat = 0 from rfl] at hx280_0)
                  replace p280 := eq_true p280
                  replace q280 := eq_true q280
                  have p281 : 0 ≤ (1 : Int) := (by omega)
                  have q281 : 1 < (x13_2.length : Int) := of_decide_eq_true (by first | (with_reducible assumption) | assumption)
                  obtain ⟨hx281_0, hf281_1, qa281⟩ := arr_cell HO_13.out (1 : Int) p281 q281
                  rw [show ((4 : Nat) : Int) = 4 from rfl] at qa281
                  have qi281 : (1 < x13_2.length) = True := eq_true (by omega)
                  (try rw [show ((1 : Int)).toNat = 1 from rfl] at hx281_0)
                  replace p281 := eq_true p281
                  replace q281 := eq_true q281
                  have p282 : 0 ≤ (2 : Int) := (by omega)
                  have q282 : 2 < (x13_2.length : Int) := of_decide_eq_true (by first | (with_reducible assumption) | assumption)
                  obtain ⟨hx282_0, hf282_1, qa282⟩ := arr_cell HO_13.out (2 : Int) p282 q282
                  rw [show ((4 : Nat) : Int) = 4 from rfl] at qa282
                  have qi282 : (2 < x13_2.length) = True := eq_true (by omega)
                  (try rw [show ((2 : Int)).toNat = 2 from rfl] at hx282_0)
                  replace p282 := eq_true p282
                  replace q282 := eq_true q282
                  have p283 : 0 ≤ (3 : Int) := (by omega)
                  have q283 : 3 < (x13_2.length : Int) := of_decide_eq_true (by first | (with_reducible assumption) | assumption)
                  obtain ⟨hx283_0, hf283_1, qa283⟩ := arr_cell HO_13.out (3 : Int) p283 q283
                  rw [show ((4 : Nat) : Int) = 4 from rfl] at qa283
                  have qi283 : (3 < x13_2.length) = True := eq_true (by omega)
                  (try rw [show ((3 : Int)).toNat = 3 from rfl] at hx283_0)
                  replace p283 := eq_true p283
                  replace q283 := eq_true q283
                  go_wp2
                  repeat (go_quiet (fail); try go_wp2)
                  go_ret2
                  exact ⟨fi, bl⟩
                 ·rw [if_neg c60] at H
                  exact absurd H (by simp)
                ·rw [if_neg c59] at H
                 exact absurd H (by simp)
               ·rw [if_neg c58] at H
                exact absurd H (by simp)
              ·rw [if_neg c57] at H
               exact absurd H (by simp)
             ·rw [if_neg c56] at H
              exact absurd H (by simp)
            ·rw [if_neg c55] at H
             exact absurd H (by simp)
           ·rw [if_neg c54] at H
            exact absurd H (by simp)
          ·rw [if_neg c53] at H
           exact absurd H (by simp)
      ·rw [if_neg c34] at H
       exact absurd H (by simp)
  ·rw [if_neg c4] at H
   exact absurd H (by simp)
 ·rw [if_neg c3] at H
  exact absurd H (by simp)

end Go.Proofs.YtmkcnbaknnohgaaDoor.GUnitLoads
