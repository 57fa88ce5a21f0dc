-- Written by wip/stub.py of this repo.
import Derived.Test.YtfpphaflbmlpeaaGCandChecksx0
import Derived.Test.YtfpphaflbmlpeaaGCandChecksx5
import Derived.Test.YtfpphaflbmlpeaaGCandChecksx12
namespace Go.Proofs.Ytfpphaflbmlpeaa.GCandChecks
open Go.RowKit Go.Proofs.YtfpphaflbmlpeaaW.PrintWords Go.Proofs.YtfpphaflbmlpeaaW.PrintLast Go.Proofs.YtfpphaflbmlpeaaW.PrintMore
attribute [local go_sem] max2_int min2_int max_two min_two max_three min_three max_four min_four   -- for this text's walks alone
set_option linter.unusedVariables false
set_option linter.unusedSimpArgs false

/-! ### cand_Decode: function 25 -/
mutual
def cand_Decode.l0 : Nat → Int → Int → List Int → Int → Bool → List (List (S75)) → Option ((List (List (S75))) × (List (S70)) × Int)
  | 0, _, _, _, _, _, _ => none
  | k + 1, x12, x13, x309000, x309001, x309002, x310000 => if x13 < x12 then ((cand_reader_count.f k x309000 x309001 x309002 5).bind fun bt313 => (cand_Decode.l1 k ([] : List (S75)) x12 x13 bt313.1 0 x309000 bt313.2.1 bt313.2.2 x310000)) else ((cand_reader_count.f k x309000 x309001 x309002 2).bind fun bt330 => (cand_Decode.l2 k bt330.1 0 x309000 bt330.2.1 bt330.2.2 x310000 ([] : List (S70))))
def cand_Decode.l1 : Nat → List (S75) → Int → Int → Int → Int → List Int → Int → Bool → List (List (S75)) → Option ((List (List (S75))) × (List (S70)) × Int)
  | 0, _, _, _, _, _, _, _, _, _ => none
  | k + 1, x6, x12, x13, x16, x17, x309000, x309001, x309002, x310000 => if x17 < x16 then ((cand_reader_rec.f k x309000 x309001 x309002).bind fun bt316 => (if x6.length < 3518437208883 then (cand_Decode.l1 k (x6 ++ [(⟨bt316.1, bt316.2.1, (⟨bt316.2.2.1, bt316.2.2.2.1⟩ : S73), bt316.2.2.2.2.1, bt316.2.2.2.2.2.1⟩ : S75)]) x12 x13 x16 (wrap64 (x17 + 1)) x309000 bt316.2.2.2.2.2.2.1 bt316.2.2.2.2.2.2.2 x310000) else (none))) else (if x310000.length < 5864062014805 then (cand_Decode.l0 k x12 (wrap64 (x13 + 1)) x309000 x309001 x309002 (x310000 ++ [x6])) else (none))
def cand_Decode.l2 : Nat → Int → Int → List Int → Int → Bool → List (List (S75)) → List (S70) → Option ((List (List (S75))) × (List (S70)) × Int)
  | 0, _, _, _, _, _, _, _ => none
  | k + 1, x33, x34, x309000, x309001, x309002, x310000, x310001 => if x34 < x33 then ((cand_reader_number.f k x309000 x309001 x309002).bind fun bt334 => ((cand_reader_count.f k x309000 bt334.2.1 bt334.2.2 2).bind fun bt338 => (cand_Decode.l3 k x33 x34 bt338.1 0 x309000 bt338.2.1 bt338.2.2 x310000 x310001 bt334.1 ([] : List (S73))))) else (if x309002 = true then (some (([] : List (List (S75))), ([] : List (S70)), 1)) else (if (wrap64 ((x309000.length : Int) - x309001)) > 0 then (some (([] : List (List (S75))), ([] : List (S70)), 1)) else ((cand_Check.f k x310000 x310001).bind fun t333 => (if t333 = 0 then (some (x310000, x310001, 0)) else (some (([] : List (List (S75))), ([] : List (S70)), 1))))))
def cand_Decode.l3 : Nat → Int → Int → Int → Int → List Int → Int → Bool → List (List (S75)) → List (S70) → Int → List (S73) → Option ((List (List (S75))) × (List (S70)) × Int)
  | 0, _, _, _, _, _, _, _, _, _, _, _ => none
  | k + 1, x33, x34, x40, x41, x309000, x309001, x309002, x310000, x310001, x338000, x338001 => if x41 < x40 then ((cand_reader_ref.f k x309000 x309001 x309002).bind fun bt341 => (if x338001.length < 8796093022208 then (cand_Decode.l3 k x33 x34 x40 (wrap64 (x41 + 1)) x309000 bt341.2.2.1 bt341.2.2.2 x310000 x310001 x338000 (x338001 ++ [(⟨bt341.1, bt341.2.1⟩ : S73)])) else (none))) else (if x310001.length < 4398046511104 then (cand_Decode.l2 k x33 (wrap64 (x34 + 1)) x309000 x309001 x309002 x310000 (x310001 ++ [(⟨x338000, x338001⟩ : S70)])) else (none))
end
def cand_Decode.f (k : Nat) (l0 : List Int) : Option ((List (List (S75))) × (List (S70)) × Int) := (cand_newReader.f l0).bind fun bt305 => ((cand_reader_count.f k bt305.1 bt305.2.1 bt305.2.2 1).bind fun bt310 => (cand_Decode.l0 k bt310.1 0 bt305.1 bt310.2.1 bt310.2.2 ([] : List (List (S75)))))
theorem cand_Decode.mono_l : ∀ k, (∀ y0 y1 y2 y3 y4 y5, LeO (cand_Decode.l0 k y0 y1 y2 y3 y4 y5) (cand_Decode.l0 (k + 1) y0 y1 y2 y3 y4 y5)) ∧ (∀ y0 y1 y2 y3 y4 y5 y6 y7 y8, LeO (cand_Decode.l1 k y0 y1 y2 y3 y4 y5 y6 y7 y8) (cand_Decode.l1 (k + 1) y0 y1 y2 y3 y4 y5 y6 y7 y8)) ∧ (∀ y0 y1 y2 y3 y4 y5 y6, LeO (cand_Decode.l2 k y0 y1 y2 y3 y4 y5 y6) (cand_Decode.l2 (k + 1) y0 y1 y2 y3 y4 y5 y6)) ∧ (∀ y0 y1 y2 y3 y4 y5 y6 y7 y8 y9 y10, LeO (cand_Decode.l3 k y0 y1 y2 y3 y4 y5 y6 y7 y8 y9 y10) (cand_Decode.l3 (k + 1) y0 y1 y2 y3 y4 y5 y6 y7 y8 y9 y10))
 | 0 => ⟨fun _ _ _ _ _ _ r h => by simp [cand_Decode.l0] at h, fun _ _ _ _ _ _ _ _ _ r h => by simp [cand_Decode.l1] at h, fun _ _ _ _ _ _ _ r h => by simp [cand_Decode.l2] at h, fun _ _ _ _ _ _ _ _ _ _ _ r h => by simp [cand_Decode.l3] at h⟩
 | k + 1 => by
  obtain ⟨ih0, ih1, ih2, ih3⟩ := cand_Decode.mono_l k
  refine ⟨?_, ?_, ?_, ?_⟩
  all_goals (intros; (first | unfold cand_Decode.l0 | unfold cand_Decode.l1 | unfold cand_Decode.l2 | unfold cand_Decode.l3); repeat' first | (with_reducible first | exact ih0 _ _ _ _ _ _ | exact ih1 _ _ _ _ _ _ _ _ _ | exact ih2 _ _ _ _ _ _ _ | exact ih3 _ _ _ _ _ _ _ _ _ _ _ | exact cand_Check.mono _ _ _ | exact cand_reader_count.mono _ _ _ _ _ | exact cand_reader_number.mono _ _ _ _ | exact cand_reader_rec.mono _ _ _ _ | exact cand_reader_ref.mono _ _ _ _ | exact LeO.refl _ | exact LeO.none _ | refine LeO.ite ?_ ?_ | refine LeO.bind ?_ (fun _ => ?_)) | exact ih0 _ _ _ _ _ _ | exact ih1 _ _ _ _ _ _ _ _ _ | exact ih2 _ _ _ _ _ _ _ | exact ih3 _ _ _ _ _ _ _ _ _ _ _ | exact cand_Check.mono _ _ _ | exact cand_reader_count.mono _ _ _ _ _ | exact cand_reader_number.mono _ _ _ _ | exact cand_reader_rec.mono _ _ _ _ | exact cand_reader_ref.mono _ _ _ _ | exact LeO.none _ | refine LeO.ite ?_ ?_ | refine LeO.bind ?_ (fun _ => ?_))
theorem cand_Decode.mono : ∀ a0 k, LeO (cand_Decode.f k a0) (cand_Decode.f (k + 1) a0) := by
 intro a0 k
 obtain ⟨ih0, ih1, ih2, ih3⟩ := cand_Decode.mono_l k
 unfold cand_Decode.f
 repeat' first | (with_reducible first | exact ih0 _ _ _ _ _ _ | exact ih1 _ _ _ _ _ _ _ _ _ | exact ih2 _ _ _ _ _ _ _ | exact ih3 _ _ _ _ _ _ _ _ _ _ _ | exact cand_Check.mono _ _ _ | exact cand_reader_count.mono _ _ _ _ _ | exact cand_reader_number.mono _ _ _ _ | exact cand_reader_rec.mono _ _ _ _ | exact cand_reader_ref.mono _ _ _ _ | exact LeO.refl _ | exact LeO.none _ | refine LeO.ite ?_ ?_ | refine LeO.bind ?_ (fun _ => ?_)) | exact ih0 _ _ _ _ _ _ | exact ih1 _ _ _ _ _ _ _ _ _ | exact ih2 _ _ _ _ _ _ _ | exact ih3 _ _ _ _ _ _ _ _ _ _ _ | exact cand_Check.mono _ _ _ | exact cand_reader_count.mono _ _ _ _ _ | exact cand_reader_number.mono _ _ _ _ | exact cand_reader_rec.mono _ _ _ _ | exact cand_reader_ref.mono _ _ _ _ | exact LeO.none _ | refine LeO.ite ?_ ?_ | refine LeO.bind ?_ (fun _ => ?_)
def cand_Decode.T17 : Bool × List (List Nat × List Nat) := (true, [([], []), ([0], [0]), ([], []), ([2], [2]), ([3], [3]), ([1, 4, 3], [1, 4]), ([0, 1, 2, 3, 4, 5], []), ([6, 5, 5, 0, 1, 2, 3, 4, 5], [5, 6])])
def cand_Decode.B17 : List Nat := [0, 1, 0, 4, 12, 31, 63, 127]
theorem cand_Decode.tab17 : rtab .any (opsOf Try.f25 17) = cand_Decode.T17 := by kernel_rfl
theorem cand_Decode.bits17 : waitsOk cand_Decode.T17.2 cand_Decode.B17 = true := by kernel_rfl
set_option maxHeartbeats 8000000 in
set_option maxRecDepth 100000 in
theorem cand_Decode.calls (k : Nat) (A0 : Option Addr) (c0 : Nat) (l0 : List Int) (r1 : List (List (S75))) (r2 : List (S70)) (r3 : Int) (w : World) (hr0 : Kd.C (Kd.int .u8) w A0 l0.length l0) (hc0 : l0.length ≤ c0) (h : cand_Decode.f k l0 = some (r1, r2, r3)) :
  Calls Try.prog 25 #[.slice A0 l0.length c0] w fun e w' => ∃ v0_ v1_ : Value, e = .returned (.tuple #[.agg #[v0_, v1_], .int .i64 r3]) ∧ Kd.S (Kd.slice 75 k75) 67 w' w.heap.size (fun _ => True) v0_ r1 ∧ Kd.S k70 70 w' w.heap.size (fun _ => True) v1_ r2 ∧ Below w.heap.size w w' := by
 have hu42 := Try.underlying42
 have hu70 := Try.underlying70
 have HR0 := Aside0.mk hr0
 have HC0 := Aside0.mk hc0
 clear hr0 hc0
 have HB := Aside0.mk (Below.refl w.heap.size w)
 have H : ((cand_newReader.f l0).bind fun bt305 => ((cand_reader_count.f k bt305.1 bt305.2.1 bt305.2.2 1).bind fun bt310 => (cand_Decode.l0 k bt310.1 0 bt305.1 bt310.2.1 bt310.2.2 ([] : List (List (S75)))))) = some (r1, r2, r3) := h
 clear h
 replace H := be H
 obtain ⟨⟨t305, t306, t307⟩, A2, H⟩ := H
 dsimp only at H
 replace H := be H
 obtain ⟨⟨t310, t311, t312⟩, A3, H⟩ := H
 dsimp only at H
 have H' := Aside0.mk H
 clear H
 go_enter Try.func25, Try.ntmps25
 go_wp2_with (first | ((with_reducible refine gate_dst (N := 2) rfl ?_); (try (refine gate_guard (by rfl) ?_; dsimp only)); refine bv 2 #[.slice none 0 0, .slice none 0 0] 42 ?_; intro gb304 hg w4 hbox hb; obtain ⟨n0_, GW304⟩ := nb (w := w) hg hb; clear HB; have HB := n0_; have BK304 := Aside0.mk hbox; have GE304 := GW304; clear n0_ hb hbox hg) | ((with_reducible refine gate_dst (N := 10) rfl ?_); refine bv 10 #[.slice A0 l0.length c0, .bool false] 91 ?_; intro g308 hgr w5 hbox hb2; have hb : Below w.heap.size w w5 := below_step bl hb2; have hi : IsS59 w w5 g308 t305 t306 t307 := (by have e5 := A2.out; simp only [cand_newReader.f, Option.some.injEq, Prod.mk.injEq] at e5; obtain ⟨e5a, e5b, e5c⟩ := e5; rw [← e5a, ← e5b, ← e5c]; exact ⟨A0, (c0, l0.length), hbox, (by rw [hgr]; exact below_size bl), St91.new HR0.out HC0.out⟩); clear hgr hbox; have n0_ := Aside0.mk (blk_below (g := gb304) (o := .cells #[.slice none 0 0, .slice none 0 0] 42 (0, 0)) (bk BK304.out) hb2); have n1_ := Aside0.mk (hb); have n2_ := Aside0.mk (hi); have n3_ := Aside0.mk (IsS59.ne_blk hi (blk_below (g := gb304) (o := .cells #[.slice none 0 0, .slice none 0 0] 42 (0, 0)) (bk BK304.out) hb2) (by decide)); have n4_ := Aside0.mk (Ne.symm (IsS59.ne_blk hi (blk_below (g := gb304) (o := .cells #[.slice none 0 0, .slice none 0 0] 42 (0, 0)) (bk BK304.out) hb2) (by decide))); clear BK304; clear HB; have BK304 := n0_; have HB := n1_; have HI308 := n2_; have NB308_304 := n3_; have NB304_308 := n4_; clear n0_ n1_ n2_ n3_ n4_; (try clear hb)) | ((with_reducible refine gate_dst (N := 5) rfl ?_); (try (refine gate_guard (by rfl) ?_; dsimp only)); refine bv 5 #[.slice none 0 0, .slice none 0 0] 42 ?_; intro gb309 hg w6 hbox hb; have n0_ := Aside0.mk (blk_below (g := gb304) (o := .cells #[.slice none 0 0, .slice none 0 0] 42 (0, 0)) (bk BK304.out) hb); have n1_ := Aside0.mk (IsS59.below (by repeat (first | (with_reducible first | exact HI308.out | apply IsS59.alloc | apply IsS59.drewN | apply IsS59.drew | apply IsS59.set_2 | refine IsS59.far ?_ NB308_304.out _) | exact HI308.out)) hb); have n2_ := Aside0.mk (below_step (by repeat (first | (with_reducible first | exact HB.out | apply below_alloc | apply pw_below_drewN | apply below_drew1 | refine below_set ?_ (IsS59.ge HI308.out) | refine below_set ?_ GE304.out) | exact HB.out)) hb); have n3_ := Aside0.mk (hbox); have n4_ := Aside0.mk ((by rw [hg]; exact (below_size (by repeat (first | (with_reducible first | exact HB.out | apply below_alloc | apply pw_below_drewN | apply below_drew1 | refine below_set ?_ (IsS59.ge HI308.out) | refine below_set ?_ GE304.out) | exact HB.out))) : w.heap.size ≤ gb309)); have n5_ := Aside0.mk ((by rw [hg]; exact (below_size (by repeat (first | (with_reducible first | exact HB.out | apply below_alloc | apply pw_below_drewN | apply below_drew1 | refine below_set ?_ (IsS59.ge HI308.out) | refine below_set ?_ GE304.out) | exact HB.out))) : w.heap.size ≤ gb309)); have n6_ := Aside0.mk ((nl hg (bk BK304.out) : gb304 ≠ gb309)); have n7_ := Aside0.mk ((ng hg (bk BK304.out) : gb309 ≠ gb304)); have n8_ := Aside0.mk ((by rw [hg]; exact Nat.ne_of_lt (IsS59.lt (show IsS59 w _ g308 t305 t306 t307 from by repeat (first | (with_reducible first | exact HI308.out | apply IsS59.alloc | apply IsS59.drewN | apply IsS59.drew | apply IsS59.set_2 | refine IsS59.far ?_ NB308_304.out _) | exact HI308.out))) : g308 ≠ gb309)); have n9_ := Aside0.mk ((by rw [hg]; exact Nat.ne_of_gt (IsS59.lt (show IsS59 w _ g308 t305 t306 t307 from by repeat (first | (with_reducible first | exact HI308.out | apply IsS59.alloc | apply IsS59.drewN | apply IsS59.drew | apply IsS59.set_2 | refine IsS59.far ?_ NB308_304.out _) | exact HI308.out))) : gb309 ≠ g308)); clear BK304; clear HI308; clear HB; have BK304 := n0_; have HI308 := n1_; have HB := n2_; have BK309 := n3_; have GW309 := n4_; have GE309 := n5_; have NB304_309 := n6_; have NB309_304 := n7_; have NB308_309 := n8_; have NB309_308 := n9_; clear n0_ n1_ n2_ n3_ n4_ n5_ n6_ n7_ n8_ n9_; clear hb hbox hg) | ((with_reducible refine gate_callee (f := 52) rfl ?_); refine goesL_ (some 12) rfl rfl Try.func52 (by kernel_rfl) rfl #[.pointer (some ⟨g308, 0, none⟩), .int .i64 1] rfl ga ?_; (with_reducible refine (cand_reader_count.calls k g308 t305 t306 t307 1 t310 t311 t312 w _ ?side1 ?side2 A3.out).mono ?_); (case side1 => repeat (first | (with_reducible first | exact HI308.out | apply IsS59.alloc | apply IsS59.drewN | apply IsS59.drew | apply IsS59.set_2 | refine IsS59.far ?_ NB308_304.out _ | refine IsS59.far ?_ NB308_309.out _) | exact HI308.out)); (case side2 => repeat (first | (with_reducible first | exact HB.out | apply below_alloc | apply pw_below_drewN | apply below_drew1 | refine below_set ?_ (IsS59.ge HI308.out) | refine below_set ?_ GE304.out | refine below_set ?_ GE309.out) | exact HB.out)); rintro e w7 ⟨rfl, hi, hb, hk⟩; refine ⟨_, rfl, ?_⟩; have n0_ := Aside0.mk (KeepBut.blk hk (g' := gb304) (o := .cells #[.slice none 0 0, .slice none 0 0] 42 (0, 0)) (bk BK304.out) NB304_308.out (by simp)); have n1_ := Aside0.mk (KeepBut.blk hk (g' := gb309) (o := .cells #[.slice none 0 0, .slice none 0 0] 42 (0, 0)) (bk BK309.out) NB309_308.out (by simp)); have n2_ := Aside0.mk (hb); have n3_ := Aside0.mk (hi); clear BK304; clear BK309; clear HB; clear HI308; have BK304 := n0_; have BK309 := n1_; have HB := n2_; have HI308 := n3_; clear n0_ n1_ n2_ n3_; (try clear hb)))
 go_loopg [13] k (fun kq v13 w' => ∃ (x13_1 : Int) (x309001_1 : Int) (x309002_1 : Bool) (x310000_1 : List (List (S75))) (u310000 : Value), v13 = .int .i64 x13_1 ∧ Aside0 (cand_Decode.l0 kq t310 x13_1 t305 x309001_1 x309002_1 x310000_1 = some (r1, r2, r3)) ∧ Aside0 (kq ≤ k) ∧ Aside0 (Kd.S (Kd.slice 75 k75) 67 w' w.heap.size (fun _ => True) u310000 x310000_1) ∧ Aside0 (w'.heap[gb304]? = some (.cells #[(.slice none 0 0), (.slice none 0 0)] 42 (0, 0))) ∧ Aside0 (w'.heap[gb309]? = some (.cells #[u310000, (.slice none 0 0)] 42 (0, 0))) ∧ Aside0 (IsS59 w w' g308 t305 x309001_1 x309002_1) ∧ Aside0 (Below w.heap.size w w'))
 case atStart => exact ⟨(0), (t311), (t312), (([] : List (List (S75)))), (.slice none 0 0), fj, H', ⟨Nat.le_refl _⟩, ⟨by first | exact Kd.S_nil _ _ _ _ _ | exact Kd.N_nil _ _ _ _ _ | exact Kd.V_nil _ _ _ _ _ | exact Kd.Q_nil _ _ _ _ _ | exact Kd.R_nil _ _ _ _ _⟩, ⟨by refine bx ?_; exact BK304.out⟩, ⟨by refine bx ?_; exact BK309.out⟩, ⟨by repeat (first | (with_reducible first | exact HI308.out | apply IsS59.alloc | apply IsS59.drewN | apply IsS59.drew | apply IsS59.set_2 | refine IsS59.far ?_ NB308_304.out _ | refine IsS59.far ?_ NB308_309.out _) | exact HI308.out)⟩, ⟨by repeat (first | (with_reducible first | exact HB.out | apply below_alloc | apply pw_below_drewN | apply below_drew1 | refine below_set ?_ (IsS59.ge HI308.out) | refine below_set ?_ GE304.out | refine below_set ?_ GE309.out) | exact HB.out)⟩⟩
 case round =>
  clear H'
  try clear c2
  try clear p2
  try clear c5
  obtain ⟨x13_1, x309001_1, x309002_1, x310000_1, u310000, rfl, HA, HK1, HO_310000, BK304, BK309, HI308, HB⟩ := hrel
  cases gk with
  | zero => exact absurd HA.out (by simp [cand_Decode.l0])
  | succ k1 =>
   have H := HA.out
   clear HA
   simp only [cand_Decode.l0] at H
   by_cases c8 : x13_1 < t310
   ·rw [if_pos c8] at H
    have c8b0 := decide_eq_true c8
    clear c8
    replace H := be H
    obtain ⟨⟨t313, t314, t315⟩, A9, H⟩ := H
    dsimp only at H
    have H' := Aside0.mk H
    clear H
    go_wp2_with (first | ((with_reducible refine gate_callee (f := 52) rfl ?_); refine goesL_ (some 16) rfl rfl Try.func52 (by kernel_rfl) rfl #[.pointer (some ⟨g308, 0, none⟩), .int .i64 5] rfl ga ?_; (with_reducible refine (cand_reader_count.calls k1 g308 t305 x309001_1 x309002_1 5 t313 t314 t315 w _ ?side1 ?side2 A9.out).mono ?_); (case side1 => repeat (first | (with_reducible first | exact HI308.out | apply IsS59.alloc | apply IsS59.drewN | apply IsS59.drew | apply IsS59.set_2 | refine IsS59.far ?_ NB308_304.out _ | refine IsS59.far ?_ NB308_309.out _) | exact HI308.out)); (case side2 => repeat (first | (with_reducible first | exact HB.out | apply below_alloc | apply pw_below_drewN | apply below_drew1 | refine below_set ?_ (IsS59.ge HI308.out) | refine below_set ?_ GE304.out | refine below_set ?_ GE309.out) | exact HB.out)); rintro e w10 ⟨rfl, hi, hb, hk⟩; refine ⟨_, rfl, ?_⟩; have n0_ := Aside0.mk (Kd.S_mono (Kd.S_keep (IsS59.apartS (show IsS59 w _ g308 t305 x309001_1 x309002_1 from by repeat (first | (with_reducible first | exact HI308.out | apply IsS59.alloc | apply IsS59.drewN | apply IsS59.drew | apply IsS59.set_2 | refine IsS59.far ?_ NB308_304.out _ | refine IsS59.far ?_ NB308_309.out _) | exact HI308.out)) (by (with_reducible repeat (first | apply Kd.S_alloc | apply Kd.S_drewN | apply Kd.S_drew)); exact HO_310000.out) (by decide)) hk (fun _ h => h.2)) (fun _ h => h.1)); have n1_ := Aside0.mk (KeepBut.blk hk (g' := gb304) (o := .cells #[.slice none 0 0, .slice none 0 0] 42 (0, 0)) (bk BK304.out) NB304_308.out (by simp)); have n2_ := Aside0.mk (KeepBut.blk hk (g' := gb309) (o := .cells #[u310000, .slice none 0 0] 42 (0, 0)) (bk BK309.out) NB309_308.out (by simp)); have n3_ := Aside0.mk (hb); have n4_ := Aside0.mk (hi); clear HO_310000; clear BK304; clear BK309; clear HB; clear HI308; have HO_310000 := n0_; have BK304 := n1_; have BK309 := n2_; have HB := n3_; have HI308 := n4_; clear n0_ n1_ n2_ n3_ n4_; (try clear hb)))
    go_loopg [6, 17] k1 (fun kq v6 v17 w' => ∃ (x6_2 : List (S75)) (x17_2 : Int) (x309001_2 : Int) (x309002_2 : Bool), v17 = .int .i64 x17_2 ∧ Aside0 (cand_Decode.l1 kq x6_2 t310 x13_1 t313 x17_2 t305 x309001_2 x309002_2 x310000_1 = some (r1, r2, r3)) ∧ Aside0 (kq ≤ k1) ∧ Aside0 (Kd.R k75 75 w' w.heap.size (fun _ => True) v6 x6_2) ∧ Aside0 (Kd.S (Kd.slice 75 k75) 67 w' w.heap.size (fun k_ => some k_ ≠ (v6 : Value).ownBlock) u310000 x310000_1) ∧ Aside0 (w'.heap[gb304]? = some (.cells #[(.slice none 0 0), (.slice none 0 0)] 42 (0, 0))) ∧ Aside0 (w'.heap[gb309]? = some (.cells #[u310000, (.slice none 0 0)] 42 (0, 0))) ∧ Aside0 (IsS59 w w' g308 t305 x309001_2 x309002_2) ∧ Aside0 (Below w.heap.size w w'))
    case atStart => exact ⟨(([] : List (S75))), (0), (t314), (t315), fj, H', ⟨Nat.le_refl _⟩, ⟨by first | exact Kd.R_nil _ _ _ _ _ | exact Kd.N_nil _ _ _ _ _ | exact Kd.V_nil _ _ _ _ _ | exact Kd.Q_nil _ _ _ _ _ | exact Kd.S_nil _ _ _ _ _⟩, ⟨by (with_reducible repeat (first | apply Kd.S_alloc | apply Kd.S_drewN | apply Kd.S_drew)); exact Kd.S_mono HO_310000.out (fun _ hk => (by simp [Value.ownBlock]))⟩, ⟨by refine bx ?_; exact BK304.out⟩, ⟨by refine bx ?_; exact BK309.out⟩, ⟨by repeat (first | (with_reducible first | exact HI308.out | apply IsS59.alloc | apply IsS59.drewN | apply IsS59.drew | apply IsS59.set_2 | refine IsS59.far ?_ NB308_304.out _ | refine IsS59.far ?_ NB308_309.out _) | exact HI308.out)⟩, ⟨by repeat (first | (with_reducible first | exact HB.out | apply below_alloc | apply pw_below_drewN | apply below_drew1 | refine below_set ?_ (IsS59.ge HI308.out) | refine below_set ?_ GE304.out | refine below_set ?_ GE309.out) | exact HB.out)⟩⟩
    case round =>
     clear H'
     try clear c2
     try clear p2
     try clear c5
     try clear c8
     try clear c8b0
     try clear p2
     obtain ⟨x6_2, x17_2, x309001_2, x309002_2, rfl, HA, HK2, HO_6, HO_310000, BK304, BK309, HI308, HB⟩ := hrel
     cases gk with
     | zero => exact absurd HA.out (by simp [cand_Decode.l1])
     | succ k2 =>
      have H := HA.out
      clear HA
      simp only [cand_Decode.l1] at H
      by_cases c11 : x17_2 < t313
      rotate_left
      ·rw [if_neg c11] at H
       have c11b0 := decide_eq_false c11
       clear c11
       by_cases c16 : x310000_1.length < 5864062014805
       rotate_left
       ·rw [if_neg c16] at H
        exact absurd H (by simp)
       rw [if_pos c16] at H
       have LMc16 := Aside0.mk c16
       clear c16
       obtain ⟨y327, hy327⟩ : ∃ y_ : List (List (S75)), y_ = (x310000_1 ++ [x6_2]) := ⟨_, rfl⟩
       replace H : (cand_Decode.l0 k2 t310 (wrap64 (x13_1 + 1)) t305 x309001_2 x309002_2 y327) = some (r1, r2, r3) := by first | (rw [hy327]; with_reducible exact H) | (have H2_ := (Option.bind_some _ _).symm.trans H; rw [hy327]; with_reducible exact H2_) | (have H2_ := (Option.bind_some _ _).symm.trans H; with_reducible exact H2_) | with_reducible exact H | (rw [hy327]; exact H) | exact H
       have Ny327 := Aside0.mk hy327
       clear hy327
       have H' := Aside0.mk H
       clear H
       have hnb17 := NB309_304.out
       have hnc17 := NB304_309.out
       have hnb18 := NB309_308.out
       have hnc18 := NB308_309.out
       obtain ⟨hcz19_0, hcz19_1, hfz19_0, hfz19_1⟩ := cz2 (w := wr) BK309.out
       obtain ⟨Ao21, co21, eo21⟩ := Kd.R_slice HO_6.out
       subst eo21
       go_wp2_with (first | ((with_reducible refine gate_builtin (b := .append) (xs := #[.tmp 26, .tmp 28]) rfl ?_); (try (refine gate_guard (by rfl) ?_; dsimp only)); at_builtin; refine Kd.S_append (Kd.slice 75 k75) (w0 := w) w.heap.size rfl (.tmp 26) (.tmp 28) 39 67 (.slice none 0 0) 24 rfl Try.underlying39 info67 rfl (by decide) (by omega) u310000 x310000_1 x6_2 [.slice Ao21 x6_2.length co21] (fun _ => True) (fun k_ => some k_ = (.slice Ao21 x6_2.length co21 : Value).ownBlock) rfl rfl ?aP (fun k_ hk_ => ((Kd.R_mono (ok' := fun k_ => ((fun _ => True)) k_ ∧ some k_ ≠ (u310000 : Value).ownBlock) (Kd.R_apart' (HO_6.out) (Kd.S_typed HO_310000.out) (by decide)) (fun k_ hk => ⟨trivial, hk.2⟩))).1 k_ hk_.symm) ?aF ?aO ?aB ?aS ?aL ?_; (case aP => exact Kd.M_row (Kd.R_mono (Kd.R_tight rfl (Kd.R_mono (ok' := fun k_ => ((fun _ => True)) k_ ∧ some k_ ≠ (u310000 : Value).ownBlock) (Kd.R_apart' (HO_6.out) (Kd.S_typed HO_310000.out) (by decide)) (fun k_ hk => ⟨trivial, hk.2⟩))) (fun _ h_ => h_))); (case aB => exact (by repeat (first | (with_reducible first | exact HB.out | apply below_alloc | apply pw_below_drewN | apply below_drew1 | refine below_set ?_ (IsS59.ge HI308.out) | refine below_set ?_ GE304.out | refine below_set ?_ GE309.out) | exact HB.out))); (case aF => exact (fun _ _ => trivial)); (case aO => exact (by (with_reducible repeat (first | apply Kd.S_alloc | apply Kd.S_drewN | apply Kd.S_drew)); exact Kd.S_mono HO_310000.out (fun k_ hk => ⟨trivial, fun e_ => hk e_⟩))); (case aS => exact (below_size (by repeat (first | (with_reducible first | exact HB.out | apply below_alloc | apply pw_below_drewN | apply below_drew1 | refine below_set ?_ (IsS59.ge HI308.out) | refine below_set ?_ GE304.out | refine below_set ?_ GE309.out) | exact HB.out)))); (case aL => have := LMc16.out; omega); intro v328 w20 ho hb hg hat; rw [← Ny327.out] at ho; have n0_ := Aside0.mk (blk_grown (g := gb304) (o := .cells #[.slice none 0 0, .slice none 0 0] 42 (0, 0)) (bk BK304.out) hg (Kd.S_ne HO_310000.out BK304.out (by decide))); have n1_ := Aside0.mk (blk_grown (g := gb309) (o := .cells #[u310000, .slice none 0 0] 42 (0, 0)) (bk BK309.out) hg (Kd.S_ne HO_310000.out BK309.out (by decide))); have n2_ := Aside0.mk (IsS59.grown (by repeat (first | (with_reducible first | exact HI308.out | apply IsS59.alloc | apply IsS59.drewN | apply IsS59.drew | apply IsS59.set_2 | refine IsS59.far ?_ NB308_304.out _ | refine IsS59.far ?_ NB308_309.out _) | exact HI308.out)) hg (IsS59.own_neS HI308.out HO_310000.out (by decide))); have n3_ := Aside0.mk (hb); have n4_ := Aside0.mk (ho); clear BK304; clear BK309; clear HI308; clear HB; clear HO_310000; clear HO_6; have BK304 := n0_; have BK309 := n1_; have HI308 := n2_; have HB := n3_; have HO329 := n4_; clear n0_ n1_ n2_ n3_ n4_; clear ho hb hg hat; obtain ⟨Ao22, co22, eo22⟩ := Kd.S_slice HO329.out; subst eo22; obtain ⟨hcz23_0, hcz23_1, hfz23_0, hfz23_1⟩ := cz2 (w := w20) BK309.out))
       go_roundg k2
       case measure => have := HK1.out; have := HK2.out; omega
       case rel => exact ⟨(wrap64 (x13_1 + 1)), (x309001_2), (x309002_2), (y327), (.slice Ao22 y327.length co22), fj, H', ⟨by have := HK1.out; have := HK2.out; omega⟩, ⟨by (with_reducible repeat (first | apply Kd.S_alloc | apply Kd.S_drewN | apply Kd.S_drew)); exact Kd.S_mono (Kd.S_far (p := ⟨gb309, 0, none⟩) (Kd.S_types HO329.out BK309.out (by decide)) (fun _ hk => hk.2) (.slice Ao22 y327.length co22)) (fun _ hk => trivial)⟩, ⟨by refine bx ?_; refine blk_far ?_ NB304_309.out _; refine bx ?_; exact BK304.out⟩, ⟨by refine bx ?_; refine blk_put (cs := #[u310000, .slice none 0 0]) ?_ 0 _ rfl; refine bx ?_; exact BK309.out⟩, ⟨by repeat (first | (with_reducible first | exact HI308.out | apply IsS59.alloc | apply IsS59.drewN | apply IsS59.drew | apply IsS59.set_2 | refine IsS59.far ?_ NB308_304.out _ | refine IsS59.far ?_ NB308_309.out _) | exact HI308.out)⟩, ⟨by repeat (first | (with_reducible first | exact HB.out | apply below_alloc | apply pw_below_drewN | apply below_drew1 | refine below_set ?_ (IsS59.ge HI308.out) | refine below_set ?_ GE304.out | refine below_set ?_ GE309.out) | exact HB.out)⟩⟩
      rw [if_pos c11] at H
      have c11b0 := decide_eq_true c11
      clear c11
      replace H := be H
      obtain ⟨⟨t316, t317, t318, t319, t320, t321, t322, t323⟩, A12, H⟩ := H
      dsimp only at H
      by_cases c13 : x6_2.length < 3518437208883
      rotate_left
      ·rw [if_neg c13] at H
       exact absurd H (by simp)
      rw [if_pos c13] at H
      have LMc13 := Aside0.mk c13
      clear c13
      obtain ⟨y324, hy324⟩ : ∃ y_ : List (S75), y_ = (x6_2 ++ [(⟨t316, t317, (⟨t318, t319⟩ : S73), t320, t321⟩ : S75)]) := ⟨_, rfl⟩
      replace H : (cand_Decode.l1 k2 y324 t310 x13_1 t313 (wrap64 (x17_2 + 1)) t305 t322 t323 x310000_1) = some (r1, r2, r3) := by first | (rw [hy324]; with_reducible exact H) | (have H2_ := (Option.bind_some _ _).symm.trans H; rw [hy324]; with_reducible exact H2_) | (have H2_ := (Option.bind_some _ _).symm.trans H; with_reducible exact H2_) | with_reducible exact H | (rw [hy324]; exact H) | exact H
      have Ny324 := Aside0.mk hy324
      clear hy324
      have H' := Aside0.mk H
      clear H
      go_wp2_with (first | ((with_reducible refine gate_callee (f := 53) rfl ?_); refine goesL_ (some 21) rfl rfl Try.func53 (by kernel_rfl) rfl #[.pointer (some ⟨g308, 0, none⟩)] rfl ga ?_; (with_reducible refine (cand_reader_rec.calls k2 g308 t305 x309001_2 x309002_2 t316 t317 t318 t319 t320 t321 t322 t323 w _ ?side1 ?side2 A12.out).mono ?_); (case side1 => repeat (first | (with_reducible first | exact HI308.out | apply IsS59.alloc | apply IsS59.drewN | apply IsS59.drew | apply IsS59.set_2 | refine IsS59.far ?_ NB308_304.out _ | refine IsS59.far ?_ NB308_309.out _) | exact HI308.out)); (case side2 => repeat (first | (with_reducible first | exact HB.out | apply below_alloc | apply pw_below_drewN | apply below_drew1 | refine below_set ?_ (IsS59.ge HI308.out) | refine below_set ?_ GE304.out | refine below_set ?_ GE309.out) | exact HB.out)); rintro e w14 ⟨rfl, hi, hb, hk⟩; refine ⟨_, rfl, ?_⟩; have n0_ := Aside0.mk (Kd.R_mono (Kd.R_keep (IsS59.apart (show IsS59 w _ g308 t305 x309001_2 x309002_2 from by repeat (first | (with_reducible first | exact HI308.out | apply IsS59.alloc | apply IsS59.drewN | apply IsS59.drew | apply IsS59.set_2 | refine IsS59.far ?_ NB308_304.out _ | refine IsS59.far ?_ NB308_309.out _) | exact HI308.out)) (by (with_reducible repeat (first | apply Kd.R_alloc | apply Kd.R_drewN | apply Kd.R_drew)); exact HO_6.out) (by decide)) hk (fun _ h => h.2)) (fun _ h => h.1)); have n1_ := Aside0.mk (Kd.S_mono (Kd.S_keep (IsS59.apartS (show IsS59 w _ g308 t305 x309001_2 x309002_2 from by repeat (first | (with_reducible first | exact HI308.out | apply IsS59.alloc | apply IsS59.drewN | apply IsS59.drew | apply IsS59.set_2 | refine IsS59.far ?_ NB308_304.out _ | refine IsS59.far ?_ NB308_309.out _) | exact HI308.out)) (by (with_reducible repeat (first | apply Kd.S_alloc | apply Kd.S_drewN | apply Kd.S_drew)); exact HO_310000.out) (by decide)) hk (fun _ h => h.2)) (fun _ h => h.1)); have n2_ := Aside0.mk (KeepBut.blk hk (g' := gb304) (o := .cells #[.slice none 0 0, .slice none 0 0] 42 (0, 0)) (bk BK304.out) NB304_308.out (by simp)); have n3_ := Aside0.mk (KeepBut.blk hk (g' := gb309) (o := .cells #[u310000, .slice none 0 0] 42 (0, 0)) (bk BK309.out) NB309_308.out (by simp)); have n4_ := Aside0.mk (hb); have n5_ := Aside0.mk (hi); clear HO_6; clear HO_310000; clear BK304; clear BK309; clear HB; clear HI308; have HO_6 := n0_; have HO_310000 := n1_; have BK304 := n2_; have BK309 := n3_; have HB := n4_; have HI308 := n5_; clear n0_ n1_ n2_ n3_ n4_ n5_; (try clear hb)) | ((with_reducible refine gate_builtin (b := .append) (xs := #[.tmp 19, .tmp 22]) rfl ?_); (try (refine gate_guard (by rfl) ?_; dsimp only)); at_builtin; refine Kd.R_append k75 (w0 := w) w.heap.size rfl (.tmp 19) (.tmp 22) 67 75 (.agg #[(.int .i64 0), (.int .i64 0), (.int .i64 0), (.int .i64 0), (.bool false), (.bool false)]) 40 rfl Try.underlying67 info75 rfl (by decide) (by omega) u6 x6_2 (⟨t316, t317, (⟨t318, t319⟩ : S73), t320, t321⟩ : S75) [.int .i64 t316, .int .i64 t317, .int .i64 t318, .int .i64 t319, .bool t320, .bool t321] (fun _ => True) (fun _ => False) rfl rfl ?aP (fun _ hk => hk.elim) ?aF ?aO ?aB ?aS ?aL ?_; (case aP => exact k75_mkM _ _ _ (⟨t316, t317, (⟨t318, t319⟩ : S73), t320, t321⟩ : S75)); (case aB => exact (by repeat (first | (with_reducible first | exact HB.out | apply below_alloc | apply pw_below_drewN | apply below_drew1 | refine below_set ?_ (IsS59.ge HI308.out) | refine below_set ?_ GE304.out | refine below_set ?_ GE309.out) | exact HB.out))); (case aF => exact (fun _ _ => trivial)); (case aO => exact (by (with_reducible repeat (first | apply Kd.R_alloc | apply Kd.R_drewN | apply Kd.R_drew)); exact HO_6.out)); (case aS => exact (below_size (by repeat (first | (with_reducible first | exact HB.out | apply below_alloc | apply pw_below_drewN | apply below_drew1 | refine below_set ?_ (IsS59.ge HI308.out) | refine below_set ?_ GE304.out | refine below_set ?_ GE309.out) | exact HB.out)))); (case aL => have := LMc13.out; omega); intro v325 w15 ho hb hg hat; rw [← Ny324.out] at ho; have n0_ := Aside0.mk (Kd.S_after (ok := (fun _ => True)) (by (with_reducible repeat (first | apply Kd.S_alloc | apply Kd.S_drewN | apply Kd.S_drew)); exact Kd.S_mono HO_310000.out (fun _ hk => ⟨trivial, hk⟩)) hg hat); have n1_ := Aside0.mk (blk_grown (g := gb304) (o := .cells #[.slice none 0 0, .slice none 0 0] 42 (0, 0)) (bk BK304.out) hg (Kd.R_ne HO_6.out BK304.out (by decide))); have n2_ := Aside0.mk (blk_grown (g := gb309) (o := .cells #[u310000, .slice none 0 0] 42 (0, 0)) (bk BK309.out) hg (Kd.R_ne HO_6.out BK309.out (by decide))); have n3_ := Aside0.mk (IsS59.grown (by repeat (first | (with_reducible first | exact HI308.out | apply IsS59.alloc | apply IsS59.drewN | apply IsS59.drew | apply IsS59.set_2 | refine IsS59.far ?_ NB308_304.out _ | refine IsS59.far ?_ NB308_309.out _) | exact HI308.out)) hg (IsS59.own_ne HI308.out HO_6.out (by decide))); have n4_ := Aside0.mk (hb); have n5_ := Aside0.mk (ho); clear HO_310000; clear BK304; clear BK309; clear HI308; clear HB; clear HO_6; have HO_310000 := n0_; have BK304 := n1_; have BK309 := n2_; have HI308 := n3_; have HB := n4_; have HO326 := n5_; clear n0_ n1_ n2_ n3_ n4_ n5_; clear ho hb hg hat))
      go_roundg k2
      case measure => have := HK1.out; have := HK2.out; omega
      case rel => exact ⟨(y324), (wrap64 (x17_2 + 1)), (t322), (t323), fj, H', ⟨by have := HK1.out; have := HK2.out; omega⟩, ⟨by (with_reducible repeat (first | apply Kd.R_alloc | apply Kd.R_drewN | apply Kd.R_drew)); exact HO326.out⟩, ⟨by (with_reducible repeat (first | apply Kd.S_alloc | apply Kd.S_drewN | apply Kd.S_drew)); exact Kd.S_mono HO_310000.out (fun _ hk => hk.2)⟩, ⟨by refine bx ?_; exact BK304.out⟩, ⟨by refine bx ?_; exact BK309.out⟩, ⟨by repeat (first | (with_reducible first | exact HI308.out | apply IsS59.alloc | apply IsS59.drewN | apply IsS59.drew | apply IsS59.set_2 | refine IsS59.far ?_ NB308_304.out _ | refine IsS59.far ?_ NB308_309.out _) | exact HI308.out)⟩, ⟨by repeat (first | (with_reducible first | exact HB.out | apply below_alloc | apply pw_below_drewN | apply below_drew1 | refine below_set ?_ (IsS59.ge HI308.out) | refine below_set ?_ GE304.out | refine below_set ?_ GE309.out) | exact HB.out)⟩⟩
   rw [if_neg c8] at H
   have c8b0 := decide_eq_false c8
   clear c8
   replace H := be H
   obtain ⟨⟨t330, t331, t332⟩, A24, H⟩ := H
   dsimp only at H
   have H' := Aside0.mk H
   clear H
   go_wp2_with (first | ((with_reducible refine gate_callee (f := 52) rfl ?_); refine goesL_ (some 33) rfl rfl Try.func52 (by kernel_rfl) rfl #[.pointer (some ⟨g308, 0, none⟩), .int .i64 2] rfl ga ?_; (with_reducible refine (cand_reader_count.calls k1 g308 t305 x309001_1 x309002_1 2 t330 t331 t332 w _ ?side1 ?side2 A24.out).mono ?_); (case side1 => repeat (first | (with_reducible first | exact HI308.out | apply IsS59.alloc | apply IsS59.drewN | apply IsS59.drew | apply IsS59.set_2 | refine IsS59.far ?_ NB308_304.out _ | refine IsS59.far ?_ NB308_309.out _) | exact HI308.out)); (case side2 => repeat (first | (with_reducible first | exact HB.out | apply below_alloc | apply pw_below_drewN | apply below_drew1 | refine below_set ?_ (IsS59.ge HI308.out) | refine below_set ?_ GE304.out | refine below_set ?_ GE309.out) | exact HB.out)); rintro e w25 ⟨rfl, hi, hb, hk⟩; refine ⟨_, rfl, ?_⟩; have n0_ := Aside0.mk (Kd.S_mono (Kd.S_keep (IsS59.apartS (show IsS59 w _ g308 t305 x309001_1 x309002_1 from by repeat (first | (with_reducible first | exact HI308.out | apply IsS59.alloc | apply IsS59.drewN | apply IsS59.drew | apply IsS59.set_2 | refine IsS59.far ?_ NB308_304.out _ | refine IsS59.far ?_ NB308_309.out _) | exact HI308.out)) (by (with_reducible repeat (first | apply Kd.S_alloc | apply Kd.S_drewN | apply Kd.S_drew)); exact HO_310000.out) (by decide)) hk (fun _ h => h.2)) (fun _ h => h.1)); have n1_ := Aside0.mk (KeepBut.blk hk (g' := gb304) (o := .cells #[.slice none 0 0, .slice none 0 0] 42 (0, 0)) (bk BK304.out) NB304_308.out (by simp)); have n2_ := Aside0.mk (KeepBut.blk hk (g' := gb309) (o := .cells #[u310000, .slice none 0 0] 42 (0, 0)) (bk BK309.out) NB309_308.out (by simp)); have n3_ := Aside0.mk (hb); have n4_ := Aside0.mk (hi); clear HO_310000; clear BK304; clear BK309; clear HB; clear HI308; have HO_310000 := n0_; have BK304 := n1_; have BK309 := n2_; have HB := n3_; have HI308 := n4_; clear n0_ n1_ n2_ n3_ n4_; (try clear hb)))
   go_loopg [34] k1 (fun kq v34 w' => ∃ (x34_2 : Int) (x309001_2 : Int) (x309002_2 : Bool) (x310001_2 : List (S70)) (u310001 : Value), v34 = .int .i64 x34_2 ∧ Aside0 (cand_Decode.l2 kq t330 x34_2 t305 x309001_2 x309002_2 x310000_1 x310001_2 = some (r1, r2, r3)) ∧ Aside0 (kq ≤ k1) ∧ Aside0 (Kd.S (Kd.slice 75 k75) 67 w' w.heap.size (fun _ => True) u310000 x310000_1) ∧ Aside0 (Kd.S k70 70 w' w.heap.size (fun _ => True) u310001 x310001_2) ∧ Aside0 (w'.heap[gb304]? = some (.cells #[(.slice none 0 0), (.slice none 0 0)] 42 (0, 0))) ∧ Aside0 (w'.heap[gb309]? = some (.cells #[u310000, u310001] 42 (0, 0))) ∧ Aside0 (IsS59 w w' g308 t305 x309001_2 x309002_2) ∧ Aside0 (Below w.heap.size w w'))
   case atStart => exact ⟨(0), (t331), (t332), (([] : List (S70))), (.slice none 0 0), fj, H', ⟨Nat.le_refl _⟩, ⟨by (with_reducible repeat (first | apply Kd.S_alloc | apply Kd.S_drewN | apply Kd.S_drew)); exact HO_310000.out⟩, ⟨by first | exact Kd.S_nil _ _ _ _ _ | exact Kd.N_nil _ _ _ _ _ | exact Kd.V_nil _ _ _ _ _ | exact Kd.Q_nil _ _ _ _ _ | exact Kd.R_nil _ _ _ _ _⟩, ⟨by refine bx ?_; exact BK304.out⟩, ⟨by refine bx ?_; exact BK309.out⟩, ⟨by repeat (first | (with_reducible first | exact HI308.out | apply IsS59.alloc | apply IsS59.drewN | apply IsS59.drew | apply IsS59.set_2 | refine IsS59.far ?_ NB308_304.out _ | refine IsS59.far ?_ NB308_309.out _) | exact HI308.out)⟩, ⟨by repeat (first | (with_reducible first | exact HB.out | apply below_alloc | apply pw_below_drewN | apply below_drew1 | refine below_set ?_ (IsS59.ge HI308.out) | refine below_set ?_ GE304.out | refine below_set ?_ GE309.out) | exact HB.out)⟩⟩
   case round =>
    clear H'
    try clear c1
    try clear c2
    try clear p2
    try clear c5
    try clear p6
    try clear c8
    try clear c8b0
    try clear c11
    try clear c11b0
    try clear c13
    try clear c16
    try clear c17
    try clear c18
    try clear c25
    try clear hcz19_0 hcz19_1
    try clear hcz23_0 hcz23_1
    try clear hfz19_0 hfz19_1
    try clear hfz23_0 hfz23_1
    try clear p2
    obtain ⟨x34_2, x309001_2, x309002_2, x310001_2, u310001, rfl, HA, HK2, HO_310000, HO_310001, BK304, BK309, HI308, HB⟩ := hrel
    cases gk with
    | zero => exact absurd HA.out (by simp [cand_Decode.l2])
    | succ k2 =>
     have H := HA.out
     clear HA
     simp only [cand_Decode.l2] at H
     by_cases c26 : x34_2 < t330
     rotate_left
     ·rw [if_neg c26] at H
      have c26b0 := decide_eq_false c26
      clear c26
      by_cases c56 : x309002_2 = true
      ·subst c56
       have H1 : (some (([] : List (List (S75))), ([] : List (S70)), 1)) = some (r1, r2, r3) := by rw [if_pos rfl] at H; exact H
       clear H
       have H := H1
       clear H1
       simp only [Option.some.injEq, Prod.mk.injEq] at H
       obtain ⟨rfl, rfl, rfl⟩ := H
       obtain ⟨ASz57_0, cSz57_0, HGz57, hgz57, HSz57_0⟩ := HI308.out
       have hnn57 := HSz57_0.lenw
       have hcz57_0 := cellS59_0 HGz57
       have hcz57_2 := cellS59_2 HGz57
       have hfz57_1 := blk_frozen HGz57 1
       have hfz57_2 := blk_frozen HGz57 2
       clear HGz57 hgz57
       have hnb58 := NB304_309.out
       have hnc58 := NB309_304.out
       have hnb59 := NB304_308.out
       have hnc59 := NB308_304.out
       obtain ⟨hcz60_0, hcz60_1, hfz60_0, hfz60_1⟩ := cz2 (w := wr) BK304.out
       go_wp2
       refine bodyPost_ret (results_ct rfl _ _ gb304 42 #[.slice none 0 0, .slice none 0 0] (0, 0) _ rfl (by refine bx ?_; refine blk_put (cs := #[.slice none 0 0, .slice none 0 0]) ?_ 1 _ rfl; refine bx ?_; refine blk_put (cs := #[.slice none 0 0, .slice none 0 0]) ?_ 0 _ rfl; refine bx ?_; exact BK304.out) Try.underlying42 rfl (by kernel_rfl)) rfl ?_
       exact ⟨_, _, fi, by first | exact Kd.S_nil _ _ _ _ _ | exact Kd.N_nil _ _ _ _ _ | exact Kd.V_nil _ _ _ _ _ | exact Kd.Q_nil _ _ _ _ _ | exact Kd.R_nil _ _ _ _ _, by first | exact Kd.S_nil _ _ _ _ _ | exact Kd.N_nil _ _ _ _ _ | exact Kd.V_nil _ _ _ _ _ | exact Kd.Q_nil _ _ _ _ _ | exact Kd.R_nil _ _ _ _ _, by repeat (first | (with_reducible first | exact HB.out | apply below_alloc | apply pw_below_drewN | apply below_drew1 | refine below_set ?_ (IsS59.ge HI308.out) | refine below_set ?_ GE304.out | refine below_set ?_ GE309.out) | exact HB.out)⟩
      replace c56 := Bool.eq_false_iff.mpr c56
      subst c56
      have H1 : (if (wrap64 ((t305.length : Int) - x309001_2)) > 0 then (some (([] : List (List (S75))), ([] : List (S70)), 1)) else ((cand_Check.f k2 x310000_1 x310001_2).bind fun t333 => (if t333 = 0 then (some (x310000_1, x310001_2, 0)) else (some (([] : List (List (S75))), ([] : List (S70)), 1))))) = some (r1, r2, r3) := by rw [if_neg (show ¬ (false = true) by decide)] at H; exact H
      clear H
      have H := H1
      clear H1
      by_cases c61 : (wrap64 ((t305.length : Int) - x309001_2)) > 0
      ·rw [if_pos c61] at H
       have c61b0 := decide_eq_true c61
       clear c61
       simp only [Option.some.injEq, Prod.mk.injEq] at H
       obtain ⟨rfl, rfl, rfl⟩ := H
       obtain ⟨ASz62_0, cSz62_0, HGz62, hgz62, HSz62_0⟩ := HI308.out
       have hnn62 := HSz62_0.lenw
       have hcz62_0 := cellS59_0 HGz62
       have hcz62_2 := cellS59_2 HGz62
       have hfz62_1 := blk_frozen HGz62 1
       have hfz62_2 := blk_frozen HGz62 2
       clear HGz62 hgz62
       have hnb63 := NB304_309.out
       have hnc63 := NB309_304.out
       have hnb64 := NB304_308.out
       have hnc64 := NB308_304.out
       obtain ⟨hcz65_0, hcz65_1, hfz65_0, hfz65_1⟩ := cz2 (w := wr) BK304.out
       go_wp2
       refine bodyPost_ret (results_ct rfl _ _ gb304 42 #[.slice none 0 0, .slice none 0 0] (0, 0) _ rfl (by refine bx ?_; refine blk_put (cs := #[.slice none 0 0, .slice none 0 0]) ?_ 1 _ rfl; refine bx ?_; refine blk_put (cs := #[.slice none 0 0, .slice none 0 0]) ?_ 0 _ rfl; refine bx ?_; exact BK304.out) Try.underlying42 rfl (by kernel_rfl)) rfl ?_
       exact ⟨_, _, fi, by first | exact Kd.S_nil _ _ _ _ _ | exact Kd.N_nil _ _ _ _ _ | exact Kd.V_nil _ _ _ _ _ | exact Kd.Q_nil _ _ _ _ _ | exact Kd.R_nil _ _ _ _ _, by first | exact Kd.S_nil _ _ _ _ _ | exact Kd.N_nil _ _ _ _ _ | exact Kd.V_nil _ _ _ _ _ | exact Kd.Q_nil _ _ _ _ _ | exact Kd.R_nil _ _ _ _ _, by repeat (first | (with_reducible first | exact HB.out | apply below_alloc | apply pw_below_drewN | apply below_drew1 | refine below_set ?_ (IsS59.ge HI308.out) | refine below_set ?_ GE304.out | refine below_set ?_ GE309.out) | exact HB.out)⟩
      rw [if_neg c61] at H
      have c61b0 := decide_eq_false c61
      clear c61
      replace H := be H
      obtain ⟨t333, A66, H⟩ := H
      by_cases c67 : t333 = 0
      rotate_left
      ·rw [if_neg c67] at H
       have c67b0 : (t333 == 0) = false := beq_eq_false_iff_ne.mpr c67
       have c67b1 : (t333 != 0) = true := bne_iff_ne.mpr c67
       simp only [Option.some.injEq, Prod.mk.injEq] at H
       obtain ⟨rfl, rfl, rfl⟩ := H
       obtain ⟨ASz78_0, cSz78_0, HGz78, hgz78, HSz78_0⟩ := HI308.out
       have hnn78 := HSz78_0.lenw
       have hcz78_0 := cellS59_0 HGz78
       have hcz78_2 := cellS59_2 HGz78
       have hfz78_1 := blk_frozen HGz78 1
       have hfz78_2 := blk_frozen HGz78 2
       clear HGz78 hgz78
       have hnb79 := NB309_304.out
       have hnc79 := NB304_309.out
       have hnb80 := NB309_308.out
       have hnc80 := NB308_309.out
       obtain ⟨hcz81_0, hcz81_1, hfz81_0, hfz81_1⟩ := cz2 (w := wr) BK309.out
       obtain ⟨Ao82, co82, eo82⟩ := Kd.S_slice HO_310000.out
       subst eo82
       obtain ⟨Ao83, co83, eo83⟩ := Kd.S_slice HO_310001.out
       subst eo83
       go_wp2_with (first | (go_at_call 24; (with_reducible refine (cand_Check.calls k2 _ _ x310000_1 _ _ x310001_2 t333 _ ?side1 ?side2 ?side3 ?side4 A66.out).mono ?_); (case side1 => repeat (first | exact (Kd.S_reads' HO_310000.out).2.2 | (with_reducible refine Kd.C_alloc ?_ _) | (with_reducible refine Kd.C_drewN ?_ _) | (with_reducible refine Kd.C_drew ?_))); (case side2 => exact (Kd.S_reads' HO_310000.out).2.1); (case side3 => repeat (first | exact (Kd.S_reads' HO_310001.out).2.2 | (with_reducible refine Kd.C_alloc ?_ _) | (with_reducible refine Kd.C_drewN ?_ _) | (with_reducible refine Kd.C_drew ?_))); (case side4 => exact (Kd.S_reads' HO_310001.out).2.1); rintro e w84 ⟨rfl, hb⟩; have n0_ := Aside0.mk (Kd.S_below (by (with_reducible repeat (first | apply Kd.S_alloc | apply Kd.S_drewN | apply Kd.S_drew)); exact HO_310000.out) hb); have n1_ := Aside0.mk (Kd.S_below (by (with_reducible repeat (first | apply Kd.S_alloc | apply Kd.S_drewN | apply Kd.S_drew)); exact HO_310001.out) hb); have n2_ := Aside0.mk (blk_below (g := gb304) (o := .cells #[.slice none 0 0, .slice none 0 0] 42 (0, 0)) (bk BK304.out) hb); have n3_ := Aside0.mk (blk_below (g := gb309) (o := .cells #[.slice Ao82 x310000_1.length co82, .slice Ao83 x310001_2.length co83] 42 (0, 0)) (bk BK309.out) hb); have n4_ := Aside0.mk (IsS59.below (by repeat (first | (with_reducible first | exact HI308.out | apply IsS59.alloc | apply IsS59.drewN | apply IsS59.drew | apply IsS59.set_2 | refine IsS59.far ?_ NB308_304.out _ | refine IsS59.far ?_ NB308_309.out _) | exact HI308.out)) hb); have n5_ := Aside0.mk (below_step (by repeat (first | (with_reducible first | exact HB.out | apply below_alloc | apply pw_below_drewN | apply below_drew1 | refine below_set ?_ (IsS59.ge HI308.out) | refine below_set ?_ GE304.out | refine below_set ?_ GE309.out) | exact HB.out)) hb); clear HO_310000; clear HO_310001; clear BK304; clear BK309; clear HI308; clear HB; have HO_310000 := n0_; have HO_310001 := n1_; have BK304 := n2_; have BK309 := n3_; have HI308 := n4_; have HB := n5_; clear n0_ n1_ n2_ n3_ n4_ n5_; (try clear hb); have hnb85 := NB304_308.out; have hnc85 := NB308_304.out; obtain ⟨hcz86_0, hcz86_1, hfz86_0, hfz86_1⟩ := cz2 (w := w84) BK304.out))
       refine bodyPost_ret (results_ct rfl _ _ gb304 42 #[.slice none 0 0, .slice none 0 0] (0, 0) _ rfl (by refine bx ?_; refine blk_put (cs := #[.slice none 0 0, .slice none 0 0]) ?_ 1 _ rfl; refine bx ?_; refine blk_put (cs := #[.slice none 0 0, .slice none 0 0]) ?_ 0 _ rfl; refine bx ?_; exact BK304.out) Try.underlying42 rfl (by kernel_rfl)) rfl ?_
       exact ⟨_, _, fi, by first | exact Kd.S_nil _ _ _ _ _ | exact Kd.N_nil _ _ _ _ _ | exact Kd.V_nil _ _ _ _ _ | exact Kd.Q_nil _ _ _ _ _ | exact Kd.R_nil _ _ _ _ _, by first | exact Kd.S_nil _ _ _ _ _ | exact Kd.N_nil _ _ _ _ _ | exact Kd.V_nil _ _ _ _ _ | exact Kd.Q_nil _ _ _ _ _ | exact Kd.R_nil _ _ _ _ _, by repeat (first | (with_reducible first | exact HB.out | apply below_alloc | apply pw_below_drewN | apply below_drew1 | refine below_set ?_ (IsS59.ge HI308.out) | refine below_set ?_ GE304.out | refine below_set ?_ GE309.out) | exact HB.out)⟩
      rw [if_pos c67] at H
      obtain ⟨c67b0, c67b1⟩ := eqs c67
      clear c67
      simp only [Option.some.injEq, Prod.mk.injEq] at H
      obtain ⟨rfl, rfl, rfl⟩ := H
      obtain ⟨ASz68_0, cSz68_0, HGz68, hgz68, HSz68_0⟩ := HI308.out
      have hnn68 := HSz68_0.lenw
      have hcz68_0 := cellS59_0 HGz68
      have hcz68_2 := cellS59_2 HGz68
      have hfz68_1 := blk_frozen HGz68 1
      have hfz68_2 := blk_frozen HGz68 2
      clear HGz68 hgz68
      have hnb69 := NB309_304.out
      have hnc69 := NB304_309.out
      have hnb70 := NB309_308.out
      have hnc70 := NB308_309.out
      obtain ⟨hcz71_0, hcz71_1, hfz71_0, hfz71_1⟩ := cz2 (w := wr) BK309.out
      obtain ⟨Ao72, co72, eo72⟩ := Kd.S_slice HO_310000.out
      subst eo72
      obtain ⟨Ao73, co73, eo73⟩ := Kd.S_slice HO_310001.out
      subst eo73
      go_wp2_with (first | (go_at_call 24; (with_reducible refine (cand_Check.calls k2 _ _ x310000_1 _ _ x310001_2 t333 _ ?side1 ?side2 ?side3 ?side4 A66.out).mono ?_); (case side1 => repeat (first | exact (Kd.S_reads' HO_310000.out).2.2 | (with_reducible refine Kd.C_alloc ?_ _) | (with_reducible refine Kd.C_drewN ?_ _) | (with_reducible refine Kd.C_drew ?_))); (case side2 => exact (Kd.S_reads' HO_310000.out).2.1); (case side3 => repeat (first | exact (Kd.S_reads' HO_310001.out).2.2 | (with_reducible refine Kd.C_alloc ?_ _) | (with_reducible refine Kd.C_drewN ?_ _) | (with_reducible refine Kd.C_drew ?_))); (case side4 => exact (Kd.S_reads' HO_310001.out).2.1); rintro e w74 ⟨rfl, hb⟩; have n0_ := Aside0.mk (Kd.S_below (by (with_reducible repeat (first | apply Kd.S_alloc | apply Kd.S_drewN | apply Kd.S_drew)); exact HO_310000.out) hb); have n1_ := Aside0.mk (Kd.S_below (by (with_reducible repeat (first | apply Kd.S_alloc | apply Kd.S_drewN | apply Kd.S_drew)); exact HO_310001.out) hb); have n2_ := Aside0.mk (blk_below (g := gb304) (o := .cells #[.slice none 0 0, .slice none 0 0] 42 (0, 0)) (bk BK304.out) hb); have n3_ := Aside0.mk (blk_below (g := gb309) (o := .cells #[.slice Ao72 x310000_1.length co72, .slice Ao73 x310001_2.length co73] 42 (0, 0)) (bk BK309.out) hb); have n4_ := Aside0.mk (IsS59.below (by repeat (first | (with_reducible first | exact HI308.out | apply IsS59.alloc | apply IsS59.drewN | apply IsS59.drew | apply IsS59.set_2 | refine IsS59.far ?_ NB308_304.out _ | refine IsS59.far ?_ NB308_309.out _) | exact HI308.out)) hb); have n5_ := Aside0.mk (below_step (by repeat (first | (with_reducible first | exact HB.out | apply below_alloc | apply pw_below_drewN | apply below_drew1 | refine below_set ?_ (IsS59.ge HI308.out) | refine below_set ?_ GE304.out | refine below_set ?_ GE309.out) | exact HB.out)) hb); clear HO_310000; clear HO_310001; clear BK304; clear BK309; clear HI308; clear HB; have HO_310000 := n0_; have HO_310001 := n1_; have BK304 := n2_; have BK309 := n3_; have HI308 := n4_; have HB := n5_; clear n0_ n1_ n2_ n3_ n4_ n5_; (try clear hb); obtain ⟨hcz75_0, hcz75_1, hfz75_0, hfz75_1⟩ := cz2 (w := w74) BK309.out; have hnb76 := NB304_308.out; have hnc76 := NB308_304.out; obtain ⟨hcz77_0, hcz77_1, hfz77_0, hfz77_1⟩ := cz2 (w := w74) BK304.out))
      refine bodyPost_ret (results_ct rfl _ _ gb304 42 #[.slice Ao72 x310000_1.length co72, .slice Ao73 x310001_2.length co73] (0, 0) _ rfl (by refine bx ?_; refine blk_put (cs := #[.slice Ao72 x310000_1.length co72, .slice none 0 0]) ?_ 1 _ rfl; refine bx ?_; refine blk_put (cs := #[.slice none 0 0, .slice none 0 0]) ?_ 0 _ rfl; refine bx ?_; exact BK304.out) Try.underlying42 rfl (by kernel_rfl)) rfl ?_
      exact ⟨_, _, fi, by (with_reducible repeat (first | apply Kd.S_alloc | apply Kd.S_drewN | apply Kd.S_drew)); exact Kd.S_mono (Kd.S_far (p := ⟨gb304, 1, none⟩) (Kd.S_far (p := ⟨gb304, 0, none⟩) (Kd.S_types HO_310000.out BK304.out (by decide)) (fun _ hk => hk.2) (.slice Ao72 x310000_1.length co72)) (fun _ hk => hk.2) (.slice Ao73 x310001_2.length co73)) (fun _ hk => trivial), by (with_reducible repeat (first | apply Kd.S_alloc | apply Kd.S_drewN | apply Kd.S_drew)); exact Kd.S_mono (Kd.S_far (p := ⟨gb304, 1, none⟩) (Kd.S_far (p := ⟨gb304, 0, none⟩) (Kd.S_types HO_310001.out BK304.out (by decide)) (fun _ hk => hk.2) (.slice Ao72 x310000_1.length co72)) (fun _ hk => hk.2) (.slice Ao73 x310001_2.length co73)) (fun _ hk => trivial), by repeat (first | (with_reducible first | exact HB.out | apply below_alloc | apply pw_below_drewN | apply below_drew1 | refine below_set ?_ (IsS59.ge HI308.out) | refine below_set ?_ GE304.out | refine below_set ?_ GE309.out) | exact HB.out)⟩
     rw [if_pos c26] at H
     have c26b0 := decide_eq_true c26
     clear c26
     replace H := be H
     obtain ⟨⟨t334, t335, t336⟩, A27, H⟩ := H
     dsimp only at H
     replace H := be H
     obtain ⟨⟨t338, t339, t340⟩, A28, H⟩ := H
     dsimp only at H
     have H' := Aside0.mk H
     clear H
     go_wp2_with (first | ((with_reducible refine gate_callee (f := 54) rfl ?_); refine goesL_ (some 37) rfl rfl Try.func54 (by kernel_rfl) rfl #[.pointer (some ⟨g308, 0, none⟩)] rfl ga ?_; (with_reducible refine (cand_reader_number.calls k2 g308 t305 x309001_2 x309002_2 t334 t335 t336 w _ ?side1 ?side2 A27.out).mono ?_); (case side1 => repeat (first | (with_reducible first | exact HI308.out | apply IsS59.alloc | apply IsS59.drewN | apply IsS59.drew | apply IsS59.set_2 | refine IsS59.far ?_ NB308_304.out _ | refine IsS59.far ?_ NB308_309.out _) | exact HI308.out)); (case side2 => repeat (first | (with_reducible first | exact HB.out | apply below_alloc | apply pw_below_drewN | apply below_drew1 | refine below_set ?_ (IsS59.ge HI308.out) | refine below_set ?_ GE304.out | refine below_set ?_ GE309.out) | exact HB.out)); rintro e w29 ⟨rfl, hi, hb, hk⟩; refine ⟨_, rfl, ?_⟩; have n0_ := Aside0.mk (Kd.S_mono (Kd.S_keep (IsS59.apartS (show IsS59 w _ g308 t305 x309001_2 x309002_2 from by repeat (first | (with_reducible first | exact HI308.out | apply IsS59.alloc | apply IsS59.drewN | apply IsS59.drew | apply IsS59.set_2 | refine IsS59.far ?_ NB308_304.out _ | refine IsS59.far ?_ NB308_309.out _) | exact HI308.out)) (by (with_reducible repeat (first | apply Kd.S_alloc | apply Kd.S_drewN | apply Kd.S_drew)); exact HO_310000.out) (by decide)) hk (fun _ h => h.2)) (fun _ h => h.1)); have n1_ := Aside0.mk (Kd.S_mono (Kd.S_keep (IsS59.apartS (show IsS59 w _ g308 t305 x309001_2 x309002_2 from by repeat (first | (with_reducible first | exact HI308.out | apply IsS59.alloc | apply IsS59.drewN | apply IsS59.drew | apply IsS59.set_2 | refine IsS59.far ?_ NB308_304.out _ | refine IsS59.far ?_ NB308_309.out _) | exact HI308.out)) (by (with_reducible repeat (first | apply Kd.S_alloc | apply Kd.S_drewN | apply Kd.S_drew)); exact HO_310001.out) (by decide)) hk (fun _ h => h.2)) (fun _ h => h.1)); have n2_ := Aside0.mk (KeepBut.blk hk (g' := gb304) (o := .cells #[.slice none 0 0, .slice none 0 0] 42 (0, 0)) (bk BK304.out) NB304_308.out (by simp)); have n3_ := Aside0.mk (KeepBut.blk hk (g' := gb309) (o := .cells #[u310000, u310001] 42 (0, 0)) (bk BK309.out) NB309_308.out (by simp)); have n4_ := Aside0.mk (hb); have n5_ := Aside0.mk (hi); clear HO_310000; clear HO_310001; clear BK304; clear BK309; clear HB; clear HI308; have HO_310000 := n0_; have HO_310001 := n1_; have BK304 := n2_; have BK309 := n3_; have HB := n4_; have HI308 := n5_; clear n0_ n1_ n2_ n3_ n4_ n5_; (try clear hb)) | ((with_reducible refine gate_dst (N := 7) rfl ?_); (try (refine gate_guard (by rfl) ?_; dsimp only)); refine bv 7 #[.int .i64 0, .slice none 0 0] 70 ?_; intro gb337 hg w30 hbox hb; have n0_ := Aside0.mk (Kd.S_below (by (with_reducible repeat (first | apply Kd.S_alloc | apply Kd.S_drewN | apply Kd.S_drew)); exact HO_310000.out) hb); have n1_ := Aside0.mk (Kd.S_below (Kd.S_elderB (by (with_reducible repeat (first | apply Kd.S_alloc | apply Kd.S_drewN | apply Kd.S_drew)); exact HO_310001.out) gb337 (Nat.le_of_eq hg.symm)) hb); have n2_ := Aside0.mk (blk_below (g := gb304) (o := .cells #[.slice none 0 0, .slice none 0 0] 42 (0, 0)) (bk BK304.out) hb); have n3_ := Aside0.mk (blk_below (g := gb309) (o := .cells #[u310000, u310001] 42 (0, 0)) (bk BK309.out) hb); have n4_ := Aside0.mk (IsS59.below (by repeat (first | (with_reducible first | exact HI308.out | apply IsS59.alloc | apply IsS59.drewN | apply IsS59.drew | apply IsS59.set_2 | refine IsS59.far ?_ NB308_304.out _ | refine IsS59.far ?_ NB308_309.out _) | exact HI308.out)) hb); have n5_ := Aside0.mk (below_step (by repeat (first | (with_reducible first | exact HB.out | apply below_alloc | apply pw_below_drewN | apply below_drew1 | refine below_set ?_ (IsS59.ge HI308.out) | refine below_set ?_ GE304.out | refine below_set ?_ GE309.out) | exact HB.out)) hb); have n6_ := Aside0.mk (hbox); have n7_ := Aside0.mk ((by rw [hg]; exact (below_size (by repeat (first | (with_reducible first | exact HB.out | apply below_alloc | apply pw_below_drewN | apply below_drew1 | refine below_set ?_ (IsS59.ge HI308.out) | refine below_set ?_ GE304.out | refine below_set ?_ GE309.out) | exact HB.out))) : w.heap.size ≤ gb337)); have n8_ := Aside0.mk ((by rw [hg]; exact (below_size (by repeat (first | (with_reducible first | exact HB.out | apply below_alloc | apply pw_below_drewN | apply below_drew1 | refine below_set ?_ (IsS59.ge HI308.out) | refine below_set ?_ GE304.out | refine below_set ?_ GE309.out) | exact HB.out))) : w.heap.size ≤ gb337)); have n9_ := Aside0.mk ((nl hg (bk BK304.out) : gb304 ≠ gb337)); have n10_ := Aside0.mk ((ng hg (bk BK304.out) : gb337 ≠ gb304)); have n11_ := Aside0.mk ((nl hg (bk BK309.out) : gb309 ≠ gb337)); have n12_ := Aside0.mk ((ng hg (bk BK309.out) : gb337 ≠ gb309)); have n13_ := Aside0.mk ((by rw [hg]; exact Nat.ne_of_lt (IsS59.lt (show IsS59 w _ g308 t305 t335 t336 from by repeat (first | (with_reducible first | exact HI308.out | apply IsS59.alloc | apply IsS59.drewN | apply IsS59.drew | apply IsS59.set_2 | refine IsS59.far ?_ NB308_304.out _ | refine IsS59.far ?_ NB308_309.out _) | exact HI308.out))) : g308 ≠ gb337)); have n14_ := Aside0.mk ((by rw [hg]; exact Nat.ne_of_gt (IsS59.lt (show IsS59 w _ g308 t305 t335 t336 from by repeat (first | (with_reducible first | exact HI308.out | apply IsS59.alloc | apply IsS59.drewN | apply IsS59.drew | apply IsS59.set_2 | refine IsS59.far ?_ NB308_304.out _ | refine IsS59.far ?_ NB308_309.out _) | exact HI308.out))) : gb337 ≠ g308)); clear HO_310000; clear HO_310001; clear BK304; clear BK309; clear HI308; clear HB; have HO_310000 := n0_; have HO_310001 := n1_; have BK304 := n2_; have BK309 := n3_; have HI308 := n4_; have HB := n5_; have BK337 := n6_; have GW337 := n7_; have GE337 := n8_; have NB304_337 := n9_; have NB337_304 := n10_; have NB309_337 := n11_; have NB337_309 := n12_; have NB308_337 := n13_; have NB337_308 := n14_; clear n0_ n1_ n2_ n3_ n4_ n5_ n6_ n7_ n8_ n9_ n10_ n11_ n12_ n13_ n14_; clear hb hbox hg; have hnb31 := NB337_304.out; have hnc31 := NB304_337.out; have hnb32 := NB337_309.out; have hnc32 := NB309_337.out; have hnb33 := NB337_308.out; have hnc33 := NB308_337.out; obtain ⟨hcz34_0, hcz34_1, hfz34_0, hfz34_1⟩ := cz2 (w := w30) BK337.out) | ((with_reducible refine gate_callee (f := 52) rfl ?_); refine goesL_ (some 40) rfl rfl Try.func52 (by kernel_rfl) rfl #[.pointer (some ⟨g308, 0, none⟩), .int .i64 2] rfl ga ?_; (with_reducible refine (cand_reader_count.calls k2 g308 t305 t335 t336 2 t338 t339 t340 w _ ?side1 ?side2 A28.out).mono ?_); (case side1 => repeat (first | (with_reducible first | exact HI308.out | apply IsS59.alloc | apply IsS59.drewN | apply IsS59.drew | apply IsS59.set_2 | refine IsS59.far ?_ NB308_304.out _ | refine IsS59.far ?_ NB308_309.out _ | refine IsS59.far ?_ NB308_337.out _) | exact HI308.out)); (case side2 => repeat (first | (with_reducible first | exact HB.out | apply below_alloc | apply pw_below_drewN | apply below_drew1 | refine below_set ?_ (IsS59.ge HI308.out) | refine below_set ?_ GE304.out | refine below_set ?_ GE309.out | refine below_set ?_ GE337.out) | exact HB.out)); rintro e w35 ⟨rfl, hi, hb, hk⟩; refine ⟨_, rfl, ?_⟩; have n0_ := Aside0.mk (Kd.S_mono (Kd.S_keep (IsS59.apartS (show IsS59 w _ g308 t305 t335 t336 from by repeat (first | (with_reducible first | exact HI308.out | apply IsS59.alloc | apply IsS59.drewN | apply IsS59.drew | apply IsS59.set_2 | refine IsS59.far ?_ NB308_304.out _ | refine IsS59.far ?_ NB308_309.out _ | refine IsS59.far ?_ NB308_337.out _) | exact HI308.out)) (by (with_reducible repeat (first | apply Kd.S_alloc | apply Kd.S_drewN | apply Kd.S_drew)); exact (Kd.S_mono (Kd.S_far (p := ⟨gb337, 1, none⟩) (Kd.S_far (p := ⟨gb337, 0, none⟩) (Kd.S_types HO_310000.out BK337.out (by decide)) (fun _ hk => hk.2) (.int .i64 t334)) (fun _ hk => hk.2) (.slice none 0 0)) (fun _ h_ => h_.1))) (by decide)) hk (fun _ h => h.2)) (fun _ h => h.1)); have n1_ := Aside0.mk (Kd.S_mono (Kd.S_keep (IsS59.apartS (show IsS59 w _ g308 t305 t335 t336 from by repeat (first | (with_reducible first | exact HI308.out | apply IsS59.alloc | apply IsS59.drewN | apply IsS59.drew | apply IsS59.set_2 | refine IsS59.far ?_ NB308_304.out _ | refine IsS59.far ?_ NB308_309.out _ | refine IsS59.far ?_ NB308_337.out _) | exact HI308.out)) (by (with_reducible repeat (first | apply Kd.S_alloc | apply Kd.S_drewN | apply Kd.S_drew)); exact (Kd.S_mono (Kd.S_far (p := ⟨gb337, 1, none⟩) (Kd.S_far (p := ⟨gb337, 0, none⟩) (Kd.S_mono HO_310001.out (fun k_ hk => (⟨hk, hk.2⟩ : _ ∧ k_ ≠ gb337))) (fun _ hk => hk.2) (.int .i64 t334)) (fun _ hk => hk.2) (.slice none 0 0)) (fun _ h_ => h_.1))) (by decide)) hk (fun _ h => h.2)) (fun _ h => h.1)); have n2_ := Aside0.mk (KeepBut.blk hk (g' := gb304) (o := .cells #[.slice none 0 0, .slice none 0 0] 42 (0, 0)) (by refine bx ?_; refine blk_far ?_ NB304_337.out _; refine bx ?_; refine blk_far ?_ NB304_337.out _; refine bx ?_; exact BK304.out) NB304_308.out (by simp)); have n3_ := Aside0.mk (KeepBut.blk hk (g' := gb309) (o := .cells #[u310000, u310001] 42 (0, 0)) (by refine bx ?_; refine blk_far ?_ NB309_337.out _; refine bx ?_; refine blk_far ?_ NB309_337.out _; refine bx ?_; exact BK309.out) NB309_308.out (by simp)); have n4_ := Aside0.mk (KeepBut.blk hk (g' := gb337) (o := .cells #[.int .i64 t334, .slice none 0 0] 70 (0, 0)) (by refine bx ?_; refine blk_put (cs := #[.int .i64 t334, .slice none 0 0]) ?_ 1 _ rfl; refine bx ?_; refine blk_put (cs := #[.int .i64 0, .slice none 0 0]) ?_ 0 _ rfl; refine bx ?_; exact BK337.out) NB337_308.out (by simp)); have n5_ := Aside0.mk (hb); have n6_ := Aside0.mk (hi); clear HO_310000; clear HO_310001; clear BK304; clear BK309; clear BK337; clear HB; clear HI308; have HO_310000 := n0_; have HO_310001 := n1_; have BK304 := n2_; have BK309 := n3_; have BK337 := n4_; have HB := n5_; have HI308 := n6_; clear n0_ n1_ n2_ n3_ n4_ n5_ n6_; (try clear hb)))
     go_loopg [41] k2 (fun kq v41 w' => ∃ (x41_3 : Int) (x309001_3 : Int) (x309002_3 : Bool) (x338001_3 : List (S73)) (u338001 : Value), v41 = .int .i64 x41_3 ∧ Aside0 (cand_Decode.l3 kq t330 x34_2 t338 x41_3 t305 x309001_3 x309002_3 x310000_1 x310001_2 t334 x338001_3 = some (r1, r2, r3)) ∧ Aside0 (kq ≤ k2) ∧ Aside0 (Kd.S (Kd.slice 75 k75) 67 w' w.heap.size (fun _ => True) u310000 x310000_1) ∧ Aside0 (Kd.S k70 70 w' w.heap.size (fun k_ => some k_ ≠ (u338001 : Value).ownBlock ∧ k_ ≠ gb337) u310001 x310001_2) ∧ Aside0 (Kd.R k73 73 w' w.heap.size (fun _ => True) u338001 x338001_3) ∧ Aside0 (w'.heap[gb304]? = some (.cells #[(.slice none 0 0), (.slice none 0 0)] 42 (0, 0))) ∧ Aside0 (w'.heap[gb309]? = some (.cells #[u310000, u310001] 42 (0, 0))) ∧ Aside0 (w'.heap[gb337]? = some (.cells #[.int .i64 t334, u338001] 70 (0, 0))) ∧ Aside0 (IsS59 w w' g308 t305 x309001_3 x309002_3) ∧ Aside0 (Below w.heap.size w w'))
     case atStart => exact ⟨(0), (t339), (t340), (([] : List (S73))), (.slice none 0 0), fj, H', ⟨Nat.le_refl _⟩, ⟨by (with_reducible repeat (first | apply Kd.S_alloc | apply Kd.S_drewN | apply Kd.S_drew)); exact HO_310000.out⟩, ⟨by (with_reducible repeat (first | apply Kd.S_alloc | apply Kd.S_drewN | apply Kd.S_drew)); exact Kd.S_mono HO_310001.out (fun _ hk => ⟨(by simp [Value.ownBlock]), hk.2⟩)⟩, ⟨by first | exact Kd.R_nil _ _ _ _ _ | exact Kd.N_nil _ _ _ _ _ | exact Kd.V_nil _ _ _ _ _ | exact Kd.Q_nil _ _ _ _ _ | exact Kd.S_nil _ _ _ _ _⟩, ⟨by refine bx ?_; exact BK304.out⟩, ⟨by refine bx ?_; exact BK309.out⟩, ⟨by refine bx ?_; exact BK337.out⟩, ⟨by repeat (first | (with_reducible first | exact HI308.out | apply IsS59.alloc | apply IsS59.drewN | apply IsS59.drew | apply IsS59.set_2 | refine IsS59.far ?_ NB308_304.out _ | refine IsS59.far ?_ NB308_309.out _ | refine IsS59.far ?_ NB308_337.out _) | exact HI308.out)⟩, ⟨by repeat (first | (with_reducible first | exact HB.out | apply below_alloc | apply pw_below_drewN | apply below_drew1 | refine below_set ?_ (IsS59.ge HI308.out) | refine below_set ?_ GE304.out | refine below_set ?_ GE309.out | refine below_set ?_ GE337.out) | exact HB.out)⟩⟩
     case round =>
      clear H'
      try clear c1
      try clear c2
      try clear p2
      try clear c3
      try clear c5
      try clear p6
      try clear c8
      try clear c8b0
      try clear c11
      try clear c11b0
      try clear c13
      try clear c16
      try clear c17
      try clear c18
      try clear c25
      try clear c26
      try clear c26b0
      try clear c31
      try clear c32
      try clear c33
      try clear hcz19_0 hcz19_1
      try clear hcz23_0 hcz23_1
      try clear hcz34_0 hcz34_1
      try clear hfz19_0 hfz19_1
      try clear hfz23_0 hfz23_1
      try clear hfz34_0 hfz34_1
      try clear p2
      try clear p6
      obtain ⟨x41_3, x309001_3, x309002_3, x338001_3, u338001, rfl, HA, HK3, HO_310000, HO_310001, HO_338001, BK304, BK309, BK337, HI308, HB⟩ := hrel
      cases gk with
      | zero => exact absurd HA.out (by simp [cand_Decode.l3])
      | succ k3 =>
       have H := HA.out
       clear HA
       simp only [cand_Decode.l3] at H
       by_cases c36 : x41_3 < t338
       rotate_left
       ·rw [if_neg c36] at H
        have c36b0 := decide_eq_false c36
        clear c36
        by_cases c44 : x310001_2.length < 4398046511104
        rotate_left
        ·rw [if_neg c44] at H
         exact absurd H (by simp)
        rw [if_pos c44] at H
        have LMc44 := Aside0.mk c44
        clear c44
        obtain ⟨y348, hy348⟩ : ∃ y_ : List (S70), y_ = (x310001_2 ++ [(⟨t334, x338001_3⟩ : S70)]) := ⟨_, rfl⟩
        replace H : (cand_Decode.l2 k3 t330 (wrap64 (x34_2 + 1)) t305 x309001_3 x309002_3 x310000_1 y348) = some (r1, r2, r3) := by first | (rw [hy348]; with_reducible exact H) | (have H2_ := (Option.bind_some _ _).symm.trans H; rw [hy348]; with_reducible exact H2_) | (have H2_ := (Option.bind_some _ _).symm.trans H; with_reducible exact H2_) | with_reducible exact H | (rw [hy348]; exact H) | exact H
        have Ny348 := Aside0.mk hy348
        clear hy348
        have H' := Aside0.mk H
        clear H
        have hnb45 := NB309_304.out
        have hnc45 := NB304_309.out
        have hnb46 := NB309_337.out
        have hnc46 := NB337_309.out
        have hnb47 := NB309_308.out
        have hnc47 := NB308_309.out
        obtain ⟨hcz48_0, hcz48_1, hfz48_0, hfz48_1⟩ := cz2 (w := wr) BK309.out
        have hnb49 := NB337_304.out
        have hnc49 := NB304_337.out
        have hnb50 := NB337_308.out
        have hnc50 := NB308_337.out
        obtain ⟨hcz51_0, hcz51_1, hfz51_0, hfz51_1⟩ := cz2 (w := wr) BK337.out
        obtain ⟨Ao53, co53, eo53⟩ := Kd.R_slice HO_338001.out
        subst eo53
        go_wp2_with (first | ((with_reducible refine gate_builtin (b := .append) (xs := #[.tmp 52, .tmp 54]) rfl ?_); (try (refine gate_guard (by rfl) ?_; dsimp only)); at_builtin; refine Kd.S_append k70 (w0 := w) w.heap.size rfl (.tmp 52) (.tmp 54) 40 70 (.agg #[(.int .i64 0), (.slice none 0 0)]) 32 rfl Try.underlying40 info70 rfl (by decide) (by omega) u310001 x310001_2 (⟨t334, x338001_3⟩ : S70) [.int .i64 t334, .slice Ao53 x338001_3.length co53] (fun k_ => k_ ≠ gb337) (fun k_ => some k_ = (.slice Ao53 x338001_3.length co53 : Value).ownBlock) rfl rfl ?aP (fun k_ hk_ => ((Kd.R_mono (ok' := fun k_ => ((fun k_ => k_ ≠ gb337)) k_ ∧ some k_ ≠ (u310001 : Value).ownBlock) (Kd.R_types (Kd.R_apart' (HO_338001.out) (Kd.S_typed HO_310001.out) (by decide)) BK337.out (by decide)) (fun k_ hk => ⟨hk.2, hk.1.2⟩))).1 k_ hk_.symm) ?aF ?aO ?aB ?aS ?aL ?_; (case aP => exact k70_mkM _ _ _ (⟨t334, x338001_3⟩ : S70) (Kd.R_mono (Kd.R_tight rfl (Kd.R_mono (ok' := fun k_ => ((fun k_ => k_ ≠ gb337)) k_ ∧ some k_ ≠ (u310001 : Value).ownBlock) (Kd.R_types (Kd.R_apart' (HO_338001.out) (Kd.S_typed HO_310001.out) (by decide)) BK337.out (by decide)) (fun k_ hk => ⟨hk.2, hk.1.2⟩))) (fun _ h_ => h_))); (case aB => exact (by repeat (first | (with_reducible first | exact HB.out | apply below_alloc | apply pw_below_drewN | apply below_drew1 | refine below_set ?_ (IsS59.ge HI308.out) | refine below_set ?_ GE304.out | refine below_set ?_ GE309.out | refine below_set ?_ GE337.out) | exact HB.out))); (case aF => exact (fun k_ hk => Kd.freshB (g := gb337) (o := .cells #[.int .i64 t334, .slice Ao53 x338001_3.length co53] 70 (0, 0)) (bk BK337.out) k_ hk)); (case aO => exact (by (with_reducible repeat (first | apply Kd.S_alloc | apply Kd.S_drewN | apply Kd.S_drew)); exact Kd.S_mono HO_310001.out (fun k_ hk => ⟨hk.2, fun e_ => hk.1 e_⟩))); (case aS => exact (below_size (by repeat (first | (with_reducible first | exact HB.out | apply below_alloc | apply pw_below_drewN | apply below_drew1 | refine below_set ?_ (IsS59.ge HI308.out) | refine below_set ?_ GE304.out | refine below_set ?_ GE309.out | refine below_set ?_ GE337.out) | exact HB.out)))); (case aL => have := LMc44.out; omega); intro v349 w52 ho hb hg hat; rw [← Ny348.out] at ho; have n0_ := Aside0.mk (Kd.S_over' (by (with_reducible repeat (first | apply Kd.S_alloc | apply Kd.S_drewN | apply Kd.S_drew)); exact HO_310000.out) (Kd.S_typed (by (with_reducible repeat (first | apply Kd.S_alloc | apply Kd.S_drewN | apply Kd.S_drew)); exact HO_310001.out)) (by decide) hg); have n1_ := Aside0.mk (blk_grown (g := gb304) (o := .cells #[.slice none 0 0, .slice none 0 0] 42 (0, 0)) (bk BK304.out) hg (Kd.S_ne HO_310001.out BK304.out (by decide))); have n2_ := Aside0.mk (blk_grown (g := gb309) (o := .cells #[u310000, u310001] 42 (0, 0)) (bk BK309.out) hg (Kd.S_ne HO_310001.out BK309.out (by decide))); have n3_ := Aside0.mk (blk_grown (g := gb337) (o := .cells #[.int .i64 t334, .slice Ao53 x338001_3.length co53] 70 (0, 0)) (bk BK337.out) hg (Kd.S_away HO_310001.out (fun _ hk => hk.2))); have n4_ := Aside0.mk (IsS59.grown (by repeat (first | (with_reducible first | exact HI308.out | apply IsS59.alloc | apply IsS59.drewN | apply IsS59.drew | apply IsS59.set_2 | refine IsS59.far ?_ NB308_304.out _ | refine IsS59.far ?_ NB308_309.out _ | refine IsS59.far ?_ NB308_337.out _) | exact HI308.out)) hg (IsS59.own_neS HI308.out HO_310001.out (by decide))); have n5_ := Aside0.mk (hb); have n6_ := Aside0.mk (ho); clear HO_310000; clear BK304; clear BK309; clear BK337; clear HI308; clear HB; clear HO_310001; clear HO_338001; have HO_310000 := n0_; have BK304 := n1_; have BK309 := n2_; have BK337 := n3_; have HI308 := n4_; have HB := n5_; have HO350 := n6_; clear n0_ n1_ n2_ n3_ n4_ n5_ n6_; clear ho hb hg hat; obtain ⟨Ao54, co54, eo54⟩ := Kd.S_slice HO350.out; subst eo54; obtain ⟨hcz55_0, hcz55_1, hfz55_0, hfz55_1⟩ := cz2 (w := w52) BK309.out))
        go_roundg k3
        case measure => have := HK1.out; have := HK2.out; have := HK3.out; omega
        case rel => exact ⟨(wrap64 (x34_2 + 1)), (x309001_3), (x309002_3), (y348), (.slice Ao54 y348.length co54), fj, H', ⟨by have := HK1.out; have := HK2.out; have := HK3.out; omega⟩, ⟨by (with_reducible repeat (first | apply Kd.S_alloc | apply Kd.S_drewN | apply Kd.S_drew)); exact Kd.S_mono (Kd.S_far (p := ⟨gb309, 1, none⟩) (Kd.S_types HO_310000.out BK309.out (by decide)) (fun _ hk => hk.2) (.slice Ao54 y348.length co54)) (fun _ hk => trivial)⟩, ⟨by (with_reducible repeat (first | apply Kd.S_alloc | apply Kd.S_drewN | apply Kd.S_drew)); exact Kd.S_mono (Kd.S_far (p := ⟨gb309, 1, none⟩) (Kd.S_types HO350.out BK309.out (by decide)) (fun _ hk => hk.2) (.slice Ao54 y348.length co54)) (fun _ hk => trivial)⟩, ⟨by refine bx ?_; refine blk_far ?_ NB304_309.out _; refine bx ?_; exact BK304.out⟩, ⟨by refine bx ?_; refine blk_put (cs := #[u310000, u310001]) ?_ 1 _ rfl; refine bx ?_; exact BK309.out⟩, ⟨by repeat (first | (with_reducible first | exact HI308.out | apply IsS59.alloc | apply IsS59.drewN | apply IsS59.drew | apply IsS59.set_2 | refine IsS59.far ?_ NB308_304.out _ | refine IsS59.far ?_ NB308_309.out _ | refine IsS59.far ?_ NB308_337.out _) | exact HI308.out)⟩, ⟨by repeat (first | (with_reducible first | exact HB.out | apply below_alloc | apply pw_below_drewN | apply below_drew1 | refine below_set ?_ (IsS59.ge HI308.out) | refine below_set ?_ GE304.out | refine below_set ?_ GE309.out | refine below_set ?_ GE337.out) | exact HB.out)⟩⟩
       rw [if_pos c36] at H
       have c36b0 := decide_eq_true c36
       clear c36
       replace H := be H
       obtain ⟨⟨t341, t342, t343, t344⟩, A37, H⟩ := H
       dsimp only at H
       by_cases c38 : x338001_3.length < 8796093022208
       rotate_left
       ·rw [if_neg c38] at H
        exact absurd H (by simp)
       rw [if_pos c38] at H
       have LMc38 := Aside0.mk c38
       clear c38
       obtain ⟨y345, hy345⟩ : ∃ y_ : List (S73), y_ = (x338001_3 ++ [(⟨t341, t342⟩ : S73)]) := ⟨_, rfl⟩
       replace H : (cand_Decode.l3 k3 t330 x34_2 t338 (wrap64 (x41_3 + 1)) t305 t343 t344 x310000_1 x310001_2 t334 y345) = some (r1, r2, r3) := by first | (rw [hy345]; with_reducible exact H) | (have H2_ := (Option.bind_some _ _).symm.trans H; rw [hy345]; with_reducible exact H2_) | (have H2_ := (Option.bind_some _ _).symm.trans H; with_reducible exact H2_) | with_reducible exact H | (rw [hy345]; exact H) | exact H
       have Ny345 := Aside0.mk hy345
       clear hy345
       have H' := Aside0.mk H
       clear H
       try go_wp2
       have n0_ := Aside0.mk (Kd.S_drew HO_310000.out)
       have n1_ := Aside0.mk (Kd.S_drew HO_310001.out)
       have n2_ := Aside0.mk (Kd.R_drew HO_338001.out)
       have n3_ := Aside0.mk (blk_drew BK304.out)
       have n4_ := Aside0.mk (blk_drew BK309.out)
       have n5_ := Aside0.mk (blk_drew BK337.out)
       have n6_ := Aside0.mk (IsS59.drew HI308.out)
       have n7_ := Aside0.mk (below_drew1 HB.out)
       clear HO_310000
       clear HO_310001
       clear HO_338001
       clear BK304
       clear BK309
       clear BK337
       clear HI308
       clear HB
       have HO_310000 := n0_
       have HO_310001 := n1_
       have HO_338001 := n2_
       have BK304 := n3_
       have BK309 := n4_
       have BK337 := n5_
       have HI308 := n6_
       have HB := n7_
       clear n0_ n1_ n2_ n3_ n4_ n5_ n6_ n7_
       refine start_ (n := 8) (S := fun w' => w'.cell? ⟨gb337, 0, none⟩ = some (.int .i64 t334) ∧ w'.cell? ⟨gb337, 1, none⟩ = some (u338001)) (ds := [7]) (fl 8 0) (by kernel_rfl) rfl rfl (cy2 BK337.out) (fun hHeld => ?_); refine with_tabW cand_Decode.tab17 cand_Decode.bits17 (fun HT_ HW_ => ?_)
       generalize wr.drew = w39 at HO_310000 HO_310001 HO_338001 BK304 BK309 BK337 HI308 HB hHeld ⊢
       refine pq 0 (some 43) ?_ (fl 8 1) HT_.out rfl rfl ?_ ?_ ?_ ?_
       rotate_left
       ·intro w'
        go_simp
        with_reducible rfl
       rotate_left
       ·refine pt ?_
        rfl
       refine pq 2 (some 45) ?_ #[true, false, true, false, false, false, false, false] HT_.out rfl rfl ?_ ?_ ?_ ?_
       rotate_left
       ·intro w'
        go_simp
        with_reducible rfl
       rotate_left
       ·refine pt ?_
        rfl
       refine pk 1 (some 44) ?_ (fl 8 3) HT_.out HW_.out rfl rfl ?_ hHeld ?_ ?_ ?_
       rotate_left
       ·rintro w' ⟨s0, s1⟩
        go_simp
        with_reducible rfl
       rotate_left
       ·refine pt ?_
        rfl
       refine one_ (i := 3) (N := some 46) (fl 8 4) rfl rfl (one_of HT_.out (by kernel_rfl)) (by decide) (fun K hK => ?_)
       refine goes_ Try.func55 (by kernel_rfl) rfl #[.pointer (some ⟨g308, 0, none⟩)] (by rfl) rfl rfl ga ?_
       with_reducible refine (cand_reader_ref.calls k3 g308 t305 x309001_3 x309002_3 t341 t342 t343 t344 w _ ?side1 ?side2 A37.out).mono ?_
       (case side1 => repeat (first | (with_reducible first | exact HI308.out | apply IsS59.alloc | apply IsS59.drewN | apply IsS59.drew | apply IsS59.set_2 | refine IsS59.far ?_ NB308_304.out _ | refine IsS59.far ?_ NB308_309.out _ | refine IsS59.far ?_ NB308_337.out _) | exact HI308.out))
       (case side2 => repeat (first | (with_reducible first | exact HB.out | apply below_alloc | apply pw_below_drewN | apply below_drew1 | refine below_set ?_ (IsS59.ge HI308.out) | refine below_set ?_ GE304.out | refine below_set ?_ GE309.out | refine below_set ?_ GE337.out) | exact HB.out))
       rintro e w40 ⟨rfl, hi, hb, hk⟩
       refine ⟨_, rfl, ?_⟩
       have n0_ := Aside0.mk (Kd.S_mono (Kd.S_keep (IsS59.apartS (show IsS59 w _ g308 t305 x309001_3 x309002_3 from by repeat (first | (with_reducible first | exact HI308.out | apply IsS59.alloc | apply IsS59.drewN | apply IsS59.drew | apply IsS59.set_2 | refine IsS59.far ?_ NB308_304.out _ | refine IsS59.far ?_ NB308_309.out _ | refine IsS59.far ?_ NB308_337.out _) | exact HI308.out)) (by (with_reducible repeat (first | apply Kd.S_alloc | apply Kd.S_drewN | apply Kd.S_drew)); exact HO_310000.out) (by decide)) hk (fun _ h => h.2)) (fun _ h => h.1))
       have n1_ := Aside0.mk (Kd.S_mono (Kd.S_keep (IsS59.apartS (show IsS59 w _ g308 t305 x309001_3 x309002_3 from by repeat (first | (with_reducible first | exact HI308.out | apply IsS59.alloc | apply IsS59.drewN | apply IsS59.drew | apply IsS59.set_2 | refine IsS59.far ?_ NB308_304.out _ | refine IsS59.far ?_ NB308_309.out _ | refine IsS59.far ?_ NB308_337.out _) | exact HI308.out)) (by (with_reducible repeat (first | apply Kd.S_alloc | apply Kd.S_drewN | apply Kd.S_drew)); exact HO_310001.out) (by decide)) hk (fun _ h => h.2)) (fun _ h => h.1))
       have n2_ := Aside0.mk (Kd.R_mono (Kd.R_keep (IsS59.apart (show IsS59 w _ g308 t305 x309001_3 x309002_3 from by repeat (first | (with_reducible first | exact HI308.out | apply IsS59.alloc | apply IsS59.drewN | apply IsS59.drew | apply IsS59.set_2 | refine IsS59.far ?_ NB308_304.out _ | refine IsS59.far ?_ NB308_309.out _ | refine IsS59.far ?_ NB308_337.out _) | exact HI308.out)) (by (with_reducible repeat (first | apply Kd.R_alloc | apply Kd.R_drewN | apply Kd.R_drew)); exact HO_338001.out) (by decide)) hk (fun _ h => h.2)) (fun _ h => h.1))
       have n3_ := Aside0.mk (KeepBut.blk hk (g' := gb304) (o := .cells #[.slice none 0 0, .slice none 0 0] 42 (0, 0)) (bk BK304.out) NB304_308.out (by simp))
       have n4_ := Aside0.mk (KeepBut.blk hk (g' := gb309) (o := .cells #[u310000, u310001] 42 (0, 0)) (bk BK309.out) NB309_308.out (by simp))
       have n5_ := Aside0.mk (KeepBut.blk hk (g' := gb337) (o := .cells #[.int .i64 t334, u338001] 70 (0, 0)) (bk BK337.out) NB337_308.out (by simp))
       have n6_ := Aside0.mk (hb)
       have n7_ := Aside0.mk (hi)
       clear HO_310000
       clear HO_310001
       clear HO_338001
       clear BK304
       clear BK309
       clear BK337
       clear HB
       clear HI308
       have HO_310000 := n0_
       have HO_310001 := n1_
       have HO_338001 := n2_
       have BK304 := n3_
       have BK309 := n4_
       have BK337 := n5_
       have HB := n6_
       have HI308 := n7_
       clear n0_ n1_ n2_ n3_ n4_ n5_ n6_ n7_
       (try clear hb)
       (try clear hb2)
       (try clear hk)
       (try clear hi)
       refine hK.out _ _ (cy2 BK337.out) (fun hHeld => ?_)
       clear hK K
       refine norm_ (a' := ?_) ?_ ?_
       rotate_left
       ·show Act.put _ (some 46) _ = _
        refine pt ?_
        rfl
       refine one_ (i := 4) (N := some 47) (fl 8 5) rfl rfl (one_of HT_.out (by kernel_rfl)) (by decide) (fun K hK => ?_)
       refine value_ (w1 := ?_) (v := ?_) (by rfl) rfl ?_ ?_
       rotate_left 2
       ·go_simp
        constructor
        ·rfl
        ·rfl
       refine hK.out _ _ ⟨(blk_cell (blk_alloc BK337.out _) 0).trans rfl, (blk_cell (blk_alloc BK337.out _) 1).trans rfl⟩ (fun hHeld => ?_)
       clear hK K
       refine norm_ (a' := ?_) ?_ ?_
       rotate_left
       ·show Act.put _ (some 47) _ = _
        refine pt ?_
        rfl
       refine one_ (i := 5) (N := some 48) (fl 8 6) rfl rfl (one_of HT_.out (by kernel_rfl)) (by decide) (fun K hK => ?_)
       refine Kd.R_append_step k73 (w0 := w) w.heap.size (by rfl) (.tmp 44) (.tmp 47) 68 73 (.agg #[(.int .i64 0), (.int .i64 0)]) 16 rfl Try.underlying68 info73 rfl (by decide) (by omega) u338001 x338001_3 (⟨t341, t342⟩ : S73) [.int .i64 t341, .int .i64 t342] (fun _ => True) (fun _ => False) rfl rfl ?aP (fun _ hk => hk.elim) ?aF ?aO ?aB ?aS ?aL ?_
       (case aP => exact k73_mkM _ _ _ (⟨t341, t342⟩ : S73))
       (case aB => exact (by repeat (first | (with_reducible first | exact HB.out | apply below_alloc | apply pw_below_drewN | apply below_drew1 | refine below_set ?_ (IsS59.ge HI308.out) | refine below_set ?_ GE304.out | refine below_set ?_ GE309.out | refine below_set ?_ GE337.out) | exact HB.out)))
       (case aF => exact (fun _ _ => trivial))
       (case aO => exact (by (with_reducible repeat (first | apply Kd.R_alloc | apply Kd.R_drewN | apply Kd.R_drew)); exact HO_338001.out))
       (case aS => exact (below_size (by repeat (first | (with_reducible first | exact HB.out | apply below_alloc | apply pw_below_drewN | apply below_drew1 | refine below_set ?_ (IsS59.ge HI308.out) | refine below_set ?_ GE304.out | refine below_set ?_ GE309.out | refine below_set ?_ GE337.out) | exact HB.out))))
       (case aL => have := LMc38.out; omega)
       intro v346 w41 ho hb hg hat
       rw [← Ny345.out] at ho
       have n0_ := Aside0.mk (Kd.S_over' (by (with_reducible repeat (first | apply Kd.S_alloc | apply Kd.S_drewN | apply Kd.S_drew)); exact HO_310000.out) (Kd.R_typed (by (with_reducible repeat (first | apply Kd.R_alloc | apply Kd.R_drewN | apply Kd.R_drew)); exact HO_338001.out)) (by decide) hg)
       have n1_ := Aside0.mk (Kd.S_after (ok := (fun k_ => k_ ≠ gb337)) (by (with_reducible repeat (first | apply Kd.S_alloc | apply Kd.S_drewN | apply Kd.S_drew)); exact Kd.S_mono HO_310001.out (fun _ hk => ⟨hk.2, hk.1⟩)) hg hat)
       have n2_ := Aside0.mk (blk_grown (g := gb304) (o := .cells #[.slice none 0 0, .slice none 0 0] 42 (0, 0)) (bk BK304.out) hg (Kd.R_ne HO_338001.out BK304.out (by decide)))
       have n3_ := Aside0.mk (blk_grown (g := gb309) (o := .cells #[u310000, u310001] 42 (0, 0)) (bk BK309.out) hg (Kd.R_ne HO_338001.out BK309.out (by decide)))
       have n4_ := Aside0.mk (blk_grown (g := gb337) (o := .cells #[.int .i64 t334, u338001] 70 (0, 0)) (bk BK337.out) hg (Kd.R_ne HO_338001.out BK337.out (by decide)))
       have n5_ := Aside0.mk (IsS59.grown (by repeat (first | (with_reducible first | exact HI308.out | apply IsS59.alloc | apply IsS59.drewN | apply IsS59.drew | apply IsS59.set_2 | refine IsS59.far ?_ NB308_304.out _ | refine IsS59.far ?_ NB308_309.out _ | refine IsS59.far ?_ NB308_337.out _) | exact HI308.out)) hg (IsS59.own_ne HI308.out HO_338001.out (by decide)))
       have n6_ := Aside0.mk (hb)
       have n7_ := Aside0.mk (ho)
       clear HO_310000
       clear HO_310001
       clear BK304
       clear BK309
       clear BK337
       clear HI308
       clear HB
       clear HO_338001
       have HO_310000 := n0_
       have HO_310001 := n1_
       have BK304 := n2_
       have BK309 := n3_
       have BK337 := n4_
       have HI308 := n5_
       have HB := n6_
       have HO347 := n7_
       clear n0_ n1_ n2_ n3_ n4_ n5_ n6_ n7_
       clear ho hb hg hat
       obtain ⟨Ao42, co42, eo42⟩ := Kd.R_slice HO347.out
       (first | subst eo42 | (injection eo42 with f1_ f2_ f3_; have f4_ := f1_.symm; have f5_ := f3_.symm; clear f1_ f2_ f3_; subst f4_; subst f5_))
       refine hK.out _ _ (cy2 BK337.out) (fun hHeld => ?_)
       clear hK K
       refine norm_ (a' := ?_) ?_ ?_
       rotate_left
       ·show Act.put _ (some 48) _ = _
        refine pt ?_
        rfl
       refine pq 6 (some 49) ?_ (fl 8 7) HT_.out rfl rfl ?_ ?_ ?_ ?_
       rotate_left
       ·intro w'
        go_simp
        with_reducible rfl
       rotate_left
       ·refine pt ?_
        rfl
       refine last_ (i := 7) (N := none) (fl 8 8) rfl rfl (one_of HT_.out (by kernel_rfl)) (by decide) (fun K hK => ?_)
       have hs43 : w41.cell? ⟨gb337, 1, none⟩ = some (u338001) := (blk_cell BK337.out 1).trans rfl
       have hfs43 := blk_frozen BK337.out 1
       have hns43_0 := NB304_337.out
       have hns43_1 := NB309_337.out
       have hms43_0 := NB337_304.out
       have hms43_1 := NB337_309.out
       refine skip_ (w1 := ?_) (by rfl) rfl ?_ ?_
       rotate_left
       ·go_simp
        rfl
       refine hK.out _ _ ?_
       clear hK K
       refine done_ (done_of HT_.out (by kernel_rfl)) ?_
       try go_wp2
       go_roundg k3
       case measure => have := HK1.out; have := HK2.out; have := HK3.out; omega
       case rel => exact ⟨(wrap64 (x41_3 + 1)), (t343), (t344), (y345), (.slice Ao42 y345.length co42), fj, H', ⟨by have := HK1.out; have := HK2.out; have := HK3.out; omega⟩, ⟨by (with_reducible repeat (first | apply Kd.S_alloc | apply Kd.S_drewN | apply Kd.S_drew)); exact Kd.S_mono (Kd.S_far (p := ⟨gb337, 1, none⟩) (Kd.S_types HO_310000.out BK337.out (by decide)) (fun _ hk => hk.2) (.slice Ao42 y345.length co42)) (fun _ hk => trivial)⟩, ⟨by (with_reducible repeat (first | apply Kd.S_alloc | apply Kd.S_drewN | apply Kd.S_drew)); exact Kd.S_mono (Kd.S_far (p := ⟨gb337, 1, none⟩) (Kd.S_mono HO_310001.out (fun k_ hk => (⟨hk, hk.1⟩ : _ ∧ k_ ≠ gb337))) (fun _ hk => hk.2) (.slice Ao42 y345.length co42)) (fun _ hk => ⟨hk.1.2, hk.1.1⟩)⟩, ⟨by (with_reducible repeat (first | apply Kd.R_alloc | apply Kd.R_drewN | apply Kd.R_drew)); exact Kd.R_mono (Kd.R_far (p := ⟨gb337, 1, none⟩) (Kd.R_types HO347.out BK337.out (by decide)) (fun _ hk => hk.2) (.slice Ao42 y345.length co42)) (fun _ hk => trivial)⟩, ⟨by refine bx ?_; refine blk_far ?_ NB304_337.out _; refine bx ?_; exact BK304.out⟩, ⟨by refine bx ?_; refine blk_far ?_ NB309_337.out _; refine bx ?_; exact BK309.out⟩, ⟨by refine bx ?_; refine blk_put (cs := #[.int .i64 t334, u338001]) ?_ 1 _ rfl; refine bx ?_; exact BK337.out⟩, ⟨by repeat (first | (with_reducible first | exact HI308.out | apply IsS59.alloc | apply IsS59.drewN | apply IsS59.drew | apply IsS59.set_2 | refine IsS59.far ?_ NB308_304.out _ | refine IsS59.far ?_ NB308_309.out _ | refine IsS59.far ?_ NB308_337.out _) | exact HI308.out)⟩, ⟨by repeat (first | (with_reducible first | exact HB.out | apply below_alloc | apply pw_below_drewN | apply below_drew1 | refine below_set ?_ (IsS59.ge HI308.out) | refine below_set ?_ GE304.out | refine below_set ?_ GE309.out | refine below_set ?_ GE337.out) | exact HB.out)⟩⟩

end Go.Proofs.Ytfpphaflbmlpeaa.GCandChecks
