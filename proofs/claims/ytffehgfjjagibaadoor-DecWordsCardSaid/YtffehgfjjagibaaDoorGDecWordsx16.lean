-- Written by wip/stub.py of this repo.
import Derived.Test.YtffehgfjjagibaaDoorGDecWordsx0
import Derived.Test.YtffehgfjjagibaaDoorGDecWordsx1
import Derived.Test.YtffehgfjjagibaaDoorGDecWordsx10
import Derived.Test.YtffehgfjjagibaaDoorGDecWordsx15
namespace Go.Proofs.YtffehgfjjagibaaDoor.GDecWords
open Go.RowKit Go.Proofs.YtffehgfjjagibaaDoorW.PrintWords Go.Proofs.YtffehgfjjagibaaDoorW.PrintLast Go.Proofs.YtffehgfjjagibaaDoorW.PrintMore
attribute [local go_sem] max2_int min2_int max_two min_two max_three min_three max_four min_four   -- for this text's walks alone
set_option linter.unusedVariables false
set_option linter.unusedSimpArgs false

attribute [local go_sem high] eqA24
/-! ### dec_Is: function 11 -/
def dec_Is.f (k : Nat) (a0 : Int) : Option (Bool) := (dec_Decode.f k a0).bind fun bt400 => (some (bt400.1 != 0))
theorem dec_Is.mono : ∀ a0 k, LeO (dec_Is.f k a0) (dec_Is.f (k + 1) a0) := by
 intro a0 k
 unfold dec_Is.f
 repeat' first
   | (with_reducible exact dec_Decode.mono _ _)
   | (with_reducible exact LeO.refl _)
   | (with_reducible exact LeO.none _)
   | (with_reducible refine LeO.ite ?_ ?_)
   | (with_reducible refine LeO.bind ?_ (fun _ => ?_))
   | exact dec_Decode.mono _ _
   | exact LeO.none _
   | refine LeO.ite ?_ ?_
   | refine LeO.bind ?_ (fun _ => ?_)
set_option maxHeartbeats 8000000 in
set_option maxRecDepth 100000 in
theorem dec_Is.calls (k : Nat) (a0 : Int) (r : Bool) (w : World) (hL : Laid w) (h : dec_Is.f k a0 = some r) :
  Calls Tryd.prog 11 #[.int .u32 a0] w fun e w' => e = .returned (.bool r) ∧ Below w.heap.size w w' := by
 have HL := Aside0.mk hL
 clear hL
 have HB := Aside0.mk (Below.refl w.heap.size w)
 have H : ((dec_Decode.f k a0).bind fun bt400 => (some (bt400.1 != 0))) = some r := h
 clear h
 replace H := be H
 obtain ⟨⟨t400, t401, t402, t403, t404, t405, t406⟩, A2, H⟩ := H
 dsimp only at H
 obtain rfl := Option.some.inj H
 have hu24 := Tryd.underlying24
 have hfd : ∀ W : World, Sem.run Tryd.prog (Instr.field 24 (.agg #[.int .i64 t400, .int .i64 t401, .int .i64 t402, .int .i64 t403, .int .i64 t404, .bool t405, .bool t406]) 0) W = Result.ok (.int .i64 t400) W := fun W => by rfl
 go_enter Tryd.func11, Tryd.ntmps11
 go_wp2_with (first | ((with_reducible refine gate_callee (f := 9) rfl ?_); refine goesL_ (some 4) rfl rfl Tryd.func9 (by kernel_rfl) rfl #[.int .u32 a0] rfl ga ?_; (with_reducible refine (dec_Decode.calls k a0 t400 t401 t402 t403 t404 t405 t406 _ (by first | exact HL.out | exact laid_drewN HL.out | exact laid_below HL.out bl | exact laid_below HL.out HB.out | exact laid_belowd HL.out HB.out) A2.out).mono ?_); rintro e w3 ⟨rfl, hb⟩; refine ⟨_, rfl, ?_⟩; have n0_ := Aside0.mk (below_step bl hb); clear HB; have HB := n0_; clear n0_; (try clear hb)))
 go_ret
 exact ⟨fi, bl⟩

/-! ### spinnakerlaw05_awake: function 12 -/
def spinnakerlaw05_awake.f (k : Nat)  : Option (Bool) := (dec_Decode.f k 4293918867).bind fun bt407 => (if (bt407.1 == 22 && (bt407.2.1 == 1 && (bt407.2.2.1 == 0 && (bt407.2.2.2.1 == 0 && (bt407.2.2.2.2.1 == (-1) && (!bt407.2.2.2.2.2.1 && (!bt407.2.2.2.2.2.2))))))) = true then ((dec_Is.f k 0).bind fun t414 => (if t414 = true then (some false) else ((dec_Is.f k 115).bind fun t415 => (some t415)))) else (some false))
theorem spinnakerlaw05_awake.mono : ∀ k, LeO (spinnakerlaw05_awake.f k ) (spinnakerlaw05_awake.f (k + 1) ) := by
 intro  k
 unfold spinnakerlaw05_awake.f
 repeat' first
   | (with_reducible exact dec_Decode.mono _ _)
   | (with_reducible exact dec_Is.mono _ _)
   | (with_reducible exact LeO.refl _)
   | (with_reducible exact LeO.none _)
   | (with_reducible refine LeO.ite ?_ ?_)
   | (with_reducible refine LeO.bind ?_ (fun _ => ?_))
   | exact dec_Decode.mono _ _
   | exact dec_Is.mono _ _
   | exact LeO.none _
   | refine LeO.ite ?_ ?_
   | refine LeO.bind ?_ (fun _ => ?_)
set_option maxHeartbeats 8000000 in
set_option maxRecDepth 100000 in
theorem spinnakerlaw05_awake.calls (k : Nat)  (r : Bool) (w : World) (hL : Laid w) (h : spinnakerlaw05_awake.f k  = some r) :
  Calls Tryd.prog 12 #[] w fun e w' => e = .returned (.bool r) ∧ Below w.heap.size w w' := by
 have HL := Aside0.mk hL
 clear hL
 have hu24 := Tryd.underlying24
 have HB := Aside0.mk (Below.refl w.heap.size w)
 have H : ((dec_Decode.f k 4293918867).bind fun bt407 => (if (bt407.1 == 22 && (bt407.2.1 == 1 && (bt407.2.2.1 == 0 && (bt407.2.2.2.1 == 0 && (bt407.2.2.2.2.1 == (-1) && (!bt407.2.2.2.2.2.1 && (!bt407.2.2.2.2.2.2))))))) = true then ((dec_Is.f k 0).bind fun t414 => (if t414 = true then (some false) else ((dec_Is.f k 115).bind fun t415 => (some t415)))) else (some false))) = some r := h
 clear h
 replace H := be H
 obtain ⟨⟨t407, t408, t409, t410, t411, t412, t413⟩, A1, H⟩ := H
 dsimp only at H
 by_cases c2 : (t407 == 22 && (t408 == 1 && (t409 == 0 && (t410 == 0 && (t411 == (-1) && (!t412 && (!t413))))))) = true
 ·rw [if_pos c2] at H
  have c2b0 : (t407 == 22 && (t408 == 1 && (t409 == 0 && (t410 == 0 && (t411 == (-1) && (!t412 && (!t413))))))) = true := c2
  (try (have c2b1 : decide (t407 = 22 && (t408 == 1 && (t409 == 0 && (t410 == 0 && (t411 == (-1) && (!t412 && (!t413))))))) = true := by simpa using c2))
  (try (have c2b2 : (t407 == 22 && (t408 == 1 && (t409 == 0 && (t410 == 0 && (t411 == (-1) && (!t412 && (!t413))))))) = true := by simpa using c2))
  clear c2
  replace H := be H
  obtain ⟨t414, A3, H⟩ := H
  by_cases c4 : t414 = true
  ·subst c4
   have H1 : (some false) = some r := by rw [if_pos rfl] at H; exact H
   clear H
   have H := H1
   clear H1
   obtain rfl := Option.some.inj H
   go_enter Tryd.func12, Tryd.ntmps12
   go_wp2_with (first | ((with_reducible refine gate_callee (f := 9) rfl ?_); refine goesL_ (some 1) rfl rfl Tryd.func9 (by kernel_rfl) rfl #[.int .u32 4293918867] rfl ga ?_; (with_reducible refine (dec_Decode.calls k 4293918867 t407 t408 t409 t410 t411 t412 t413 _ (by first | exact HL.out | exact laid_drewN HL.out | exact laid_below HL.out bl | exact laid_below HL.out HB.out | exact laid_belowd HL.out HB.out) A1.out).mono ?_); rintro e w5 ⟨rfl, hb⟩; refine ⟨_, rfl, ?_⟩; have n0_ := Aside0.mk (below_step bl hb); clear HB; have HB := n0_; clear n0_; (try clear hb)) | (go_at_call 11; (with_reducible refine (dec_Is.calls k 0 true _ (by first | exact HL.out | exact laid_drewN HL.out | exact laid_below HL.out bl | exact laid_below HL.out HB.out | exact laid_belowd HL.out HB.out) A3.out).mono ?_); rintro e w6 ⟨rfl, hb⟩; have n0_ := Aside0.mk (below_step bl hb); clear HB; have HB := n0_; clear n0_; (try clear hb)))
   go_ret
   exact ⟨fi, bl⟩
  ·replace c4 := Bool.eq_false_iff.mpr c4
   subst c4
   have H1 : ((dec_Is.f k 115).bind fun t415 => (some t415)) = some r := by rw [if_neg (show ¬ (false = true) by decide)] at H; exact H
   clear H
   have H := H1
   clear H1
   replace H := be H
   obtain ⟨t415, A7, H⟩ := H
   obtain rfl := Option.some.inj H
   go_enter Tryd.func12, Tryd.ntmps12
   go_wp2_with (first | ((with_reducible refine gate_callee (f := 9) rfl ?_); refine goesL_ (some 1) rfl rfl Tryd.func9 (by kernel_rfl) rfl #[.int .u32 4293918867] rfl ga ?_; (with_reducible refine (dec_Decode.calls k 4293918867 t407 t408 t409 t410 t411 t412 t413 _ (by first | exact HL.out | exact laid_drewN HL.out | exact laid_below HL.out bl | exact laid_below HL.out HB.out | exact laid_belowd HL.out HB.out) A1.out).mono ?_); rintro e w8 ⟨rfl, hb⟩; refine ⟨_, rfl, ?_⟩; have n0_ := Aside0.mk (below_step bl hb); clear HB; have HB := n0_; clear n0_; (try clear hb)) | (go_at_call 11; (with_reducible refine (dec_Is.calls k 0 false _ (by first | exact HL.out | exact laid_drewN HL.out | exact laid_below HL.out bl | exact laid_below HL.out HB.out | exact laid_belowd HL.out HB.out) A3.out).mono ?_); rintro e w9 ⟨rfl, hb⟩; have n0_ := Aside0.mk (below_step bl hb); clear HB; have HB := n0_; clear n0_; (try clear hb)) | (go_at_call 11; (with_reducible refine (dec_Is.calls k 115 t415 _ (by first | exact HL.out | exact laid_drewN HL.out | exact laid_below HL.out bl | exact laid_below HL.out HB.out | exact laid_belowd HL.out HB.out) A7.out).mono ?_); rintro e w10 ⟨rfl, hb⟩; have n0_ := Aside0.mk (below_step bl hb); clear HB; have HB := n0_; clear n0_; (try clear hb)))
   go_ret
   exact ⟨fi, bl⟩
 ·rw [if_neg c2] at H
  have c2b0 : (t407 == 22 && (t408 == 1 && (t409 == 0 && (t410 == 0 && (t411 == (-1) && (!t412 && (!t413))))))) = false := by simpa using c2
  (try (have c2b1 : decide (t407 = 22 && (t408 == 1 && (t409 == 0 && (t410 == 0 && (t411 == (-1) && (!t412 && (!t413))))))) = false := by simpa using c2))
  (try (have c2b2 : (t407 == 22 && (t408 == 1 && (t409 == 0 && (t410 == 0 && (t411 == (-1) && (!t412 && (!t413))))))) = false := by simpa using c2))
  (try (have c2b3 : ¬ (t407 = 22 && (t408 == 1 && (t409 == 0 && (t410 == 0 && (t411 == (-1) && (!t412 && (!t413))))))) := by simpa using c2))
  clear c2
  obtain rfl := Option.some.inj H
  go_enter Tryd.func12, Tryd.ntmps12
  go_wp2_with (first | ((with_reducible refine gate_callee (f := 9) rfl ?_); refine goesL_ (some 1) rfl rfl Tryd.func9 (by kernel_rfl) rfl #[.int .u32 4293918867] rfl ga ?_; (with_reducible refine (dec_Decode.calls k 4293918867 t407 t408 t409 t410 t411 t412 t413 _ (by first | exact HL.out | exact laid_drewN HL.out | exact laid_below HL.out bl | exact laid_below HL.out HB.out | exact laid_belowd HL.out HB.out) A1.out).mono ?_); rintro e w11 ⟨rfl, hb⟩; refine ⟨_, rfl, ?_⟩; have n0_ := Aside0.mk (below_step bl hb); clear HB; have HB := n0_; clear n0_; (try clear hb)))
  go_ret
  exact ⟨fi, bl⟩

/-! ### spinnakerlaw05_DecWords: function 3 -/
def spinnakerlaw05_DecWords.f (k : Nat) (a0 : Int) : Option (Bool) := (dec_Decode.f k a0).bind fun bt416 => ((spinnakerref05_Decode.f k a0).bind fun bt424 => (if (bt416.1 == bt424.1 && (bt416.2.1 == bt424.2.1 && (bt416.2.2.1 == bt424.2.2.1 && (bt416.2.2.2.1 == bt424.2.2.2.1 && (bt416.2.2.2.2.1 == bt424.2.2.2.2.1 && (bt416.2.2.2.2.2.1 == bt424.2.2.2.2.2.1 && (bt416.2.2.2.2.2.2 == bt424.2.2.2.2.2.2))))))) = true then ((dec_Is.f k a0).bind fun t431 => (if (t431 == (bt416.1 != 0)) = true then ((spinnakerlaw05_awake.f k).bind fun t432 => (some t432)) else (some false))) else (some false)))
theorem spinnakerlaw05_DecWords.mono : ∀ a0 k, LeO (spinnakerlaw05_DecWords.f k a0) (spinnakerlaw05_DecWords.f (k + 1) a0) := by
 intro a0 k
 unfold spinnakerlaw05_DecWords.f
 repeat' first
   | (with_reducible exact dec_Decode.mono _ _)
   | (with_reducible exact dec_Is.mono _ _)
   | (with_reducible exact spinnakerlaw05_awake.mono _)
   | (with_reducible exact spinnakerref05_Decode.mono _ _)
   | (with_reducible exact LeO.refl _)
   | (with_reducible exact LeO.none _)
   | (with_reducible refine LeO.ite ?_ ?_)
   | (with_reducible refine LeO.bind ?_ (fun _ => ?_))
   | exact dec_Decode.mono _ _
   | exact dec_Is.mono _ _
   | exact spinnakerlaw05_awake.mono _
   | exact spinnakerref05_Decode.mono _ _
   | exact LeO.none _
   | refine LeO.ite ?_ ?_
   | refine LeO.bind ?_ (fun _ => ?_)
def spinnakerlaw05_DecWords.T2 : Bool × List (List Nat × List Nat) := (true, [([], []), ([], []), ([1], [1]), ([0, 2], [0, 2]), ([3, 2], [3]), ([4], [4]), ([5, 4, 4], [4, 5]), ([4], [4]), ([7, 4], [4, 7]), ([8, 4], [4, 8]), ([6, 9, 4], [4, 6, 9]), ([4, 10], [4, 10]), ([11, 6], [11]), ([12, 12], [12]), ([12, 13], [12, 13]), ([14, 13, 0, 1, 2, 3, 4, 5, 6, 7, 8, 9, 10, 11, 12, 13, 14], [14])])
def spinnakerlaw05_DecWords.B2 : List Nat := [0, 0, 2, 7, 15, 31, 63, 31, 159, 415, 1023, 2047, 4095, 8191, 16383, 32767]
theorem spinnakerlaw05_DecWords.tab2 : rtab .any (opsOf Tryd.f3 2) = spinnakerlaw05_DecWords.T2 := by kernel_rfl
theorem spinnakerlaw05_DecWords.bits2 : waitsOk spinnakerlaw05_DecWords.T2.2 spinnakerlaw05_DecWords.B2 = true := by kernel_rfl
set_option maxHeartbeats 8000000 in
set_option maxRecDepth 100000 in
theorem spinnakerlaw05_DecWords.calls (k : Nat) (a0 : Int) (r : Bool) (w : World) (hL : Laid w) (h : spinnakerlaw05_DecWords.f k a0 = some r) :
  Calls Tryd.prog 3 #[.int .u32 a0] w fun e w' => e = .returned (.bool r) ∧ Below w.heap.size w w' := by
 have HL := Aside0.mk hL
 clear hL
 have hu24 := Tryd.underlying24
 have HB := Aside0.mk (Below.refl w.heap.size w)
 have H : ((dec_Decode.f k a0).bind fun bt416 => ((spinnakerref05_Decode.f k a0).bind fun bt424 => (if (bt416.1 == bt424.1 && (bt416.2.1 == bt424.2.1 && (bt416.2.2.1 == bt424.2.2.1 && (bt416.2.2.2.1 == bt424.2.2.2.1 && (bt416.2.2.2.2.1 == bt424.2.2.2.2.1 && (bt416.2.2.2.2.2.1 == bt424.2.2.2.2.2.1 && (bt416.2.2.2.2.2.2 == bt424.2.2.2.2.2.2))))))) = true then ((dec_Is.f k a0).bind fun t431 => (if (t431 == (bt416.1 != 0)) = true then ((spinnakerlaw05_awake.f k).bind fun t432 => (some t432)) else (some false))) else (some false)))) = some r := h
 clear h
 replace H := be H
 obtain ⟨⟨t416, t417, t418, t419, t420, t421, t422⟩, A2, H⟩ := H
 dsimp only at H
 replace H := be H
 obtain ⟨⟨t424, t425, t426, t427, t428, t429, t430⟩, A3, H⟩ := H
 dsimp only at H
 by_cases c4 : (t416 == t424 && (t417 == t425 && (t418 == t426 && (t419 == t427 && (t420 == t428 && (t421 == t429 && (t422 == t430))))))) = true
 ·rw [if_pos c4] at H
  have c4b0 : (t416 == t424 && (t417 == t425 && (t418 == t426 && (t419 == t427 && (t420 == t428 && (t421 == t429 && (t422 == t430))))))) = true := c4
  (try (have c4b1 : decide (t416 = t424 && (t417 == t425 && (t418 == t426 && (t419 == t427 && (t420 == t428 && (t421 == t429 && (t422 == t430))))))) = true := by simpa using c4))
  (try (have c4b2 : (t416 == t424 && (t417 == t425 && (t418 == t426 && (t419 == t427 && (t420 == t428 && (t421 == t429 && (t422 == t430))))))) = true := by simpa using c4))
  clear c4
  replace H := be H
  obtain ⟨t431, A5, H⟩ := H
  by_cases c6 : (t431 == (t416 != 0)) = true
  ·rw [if_pos c6] at H
   have c6b0 : (t431 == (t416 != 0)) = true := c6
   (try (have c6b1 : decide (t431 = (t416 != 0)) = true := by simpa using c6))
   (try (have c6b2 : (t431 == (t416 != 0)) = true := by simpa using c6))
   clear c6
   replace H := be H
   obtain ⟨t432, A7, H⟩ := H
   obtain rfl := Option.some.inj H
   go_enter Tryd.func3, Tryd.ntmps3
   try go_wp2_with (first | ((with_reducible refine gate_callee (f := 9) rfl ?_); refine goesL_ (some 5) rfl rfl Tryd.func9 (by kernel_rfl) rfl #[.int .u32 a0] rfl ga ?_; (with_reducible refine (dec_Decode.calls k a0 t416 t417 t418 t419 t420 t421 t422 _ (by first | exact HL.out | exact laid_drewN HL.out | exact laid_below HL.out bl | exact laid_below HL.out HB.out | exact laid_belowd HL.out HB.out) A2.out).mono ?_); rintro e w8 ⟨rfl, hb⟩; refine ⟨_, rfl, ?_⟩; have n0_ := Aside0.mk (below_step bl hb); clear HB; have HB := n0_; clear n0_; (try clear hb)) | ((with_reducible refine gate_dst (N := 3) rfl ?_); refine box_event ?hg (N := 3) ?hd (cs := #[.int .i64 0, .int .i64 0, .int .i64 0, .int .i64 0, .int .i64 0, .bool false, .bool false]) (t := 24) ?hr ?_; (case hd => rfl); (case hg => rfl); (case hr => first | (go_simp; done) | (go_simp; rfl)); intro gb423 hg w9 hbox hb; obtain ⟨n0_, GW423⟩ := nb (w := w) hg hb; clear HB; have HB := n0_; have BK423 := Aside0.mk hbox; have GE423 := GW423; clear n0_ hb hbox hg; obtain ⟨hcz10_0, hcz10_1, hcz10_2, hcz10_3, hcz10_4, hcz10_5, hcz10_6, hfz10_0, hfz10_1, hfz10_2, hfz10_3, hfz10_4, hfz10_5, hfz10_6⟩ := cz7 (w := w9) BK423.out))
   have n0_ : Aside0 ((((((((w9.setCell ⟨gb423, 0, none⟩ (.int .i64 t416)).setCell ⟨gb423, 1, none⟩ (.int .i64 t417)).setCell ⟨gb423, 2, none⟩ (.int .i64 t418)).setCell ⟨gb423, 3, none⟩ (.int .i64 t419)).setCell ⟨gb423, 4, none⟩ (.int .i64 t420)).setCell ⟨gb423, 5, none⟩ (.bool t421)).setCell ⟨gb423, 6, none⟩ (.bool t422)).heap[gb423]? = some (.cells #[.int .i64 t416, .int .i64 t417, .int .i64 t418, .int .i64 t419, .int .i64 t420, .bool t421, .bool t422] 24 (0, 0))) := ⟨by refine bx ?_; refine blk_put (cs := #[.int .i64 t416, .int .i64 t417, .int .i64 t418, .int .i64 t419, .int .i64 t420, .bool t421, .bool false]) ?_ 6 _ rfl; refine bx ?_; refine blk_put (cs := #[.int .i64 t416, .int .i64 t417, .int .i64 t418, .int .i64 t419, .int .i64 t420, .bool false, .bool false]) ?_ 5 _ rfl; refine bx ?_; refine blk_put (cs := #[.int .i64 t416, .int .i64 t417, .int .i64 t418, .int .i64 t419, .int .i64 0, .bool false, .bool false]) ?_ 4 _ rfl; refine bx ?_; refine blk_put (cs := #[.int .i64 t416, .int .i64 t417, .int .i64 t418, .int .i64 0, .int .i64 0, .bool false, .bool false]) ?_ 3 _ rfl; refine bx ?_; refine blk_put (cs := #[.int .i64 t416, .int .i64 t417, .int .i64 0, .int .i64 0, .int .i64 0, .bool false, .bool false]) ?_ 2 _ rfl; refine bx ?_; refine blk_put (cs := #[.int .i64 t416, .int .i64 0, .int .i64 0, .int .i64 0, .int .i64 0, .bool false, .bool false]) ?_ 1 _ rfl; refine bx ?_; refine blk_put (cs := #[.int .i64 0, .int .i64 0, .int .i64 0, .int .i64 0, .int .i64 0, .bool false, .bool false]) ?_ 0 _ rfl; refine bx ?_; exact BK423.out⟩
   have n1_ : Aside0 (Below w.heap.size w (((((((w9.setCell ⟨gb423, 0, none⟩ (.int .i64 t416)).setCell ⟨gb423, 1, none⟩ (.int .i64 t417)).setCell ⟨gb423, 2, none⟩ (.int .i64 t418)).setCell ⟨gb423, 3, none⟩ (.int .i64 t419)).setCell ⟨gb423, 4, none⟩ (.int .i64 t420)).setCell ⟨gb423, 5, none⟩ (.bool t421)).setCell ⟨gb423, 6, none⟩ (.bool t422))) := ⟨bl⟩
   (try clear BK423)
   (try clear HB)
   generalize (((((((w9.setCell ⟨gb423, 0, none⟩ (.int .i64 t416)).setCell ⟨gb423, 1, none⟩ (.int .i64 t417)).setCell ⟨gb423, 2, none⟩ (.int .i64 t418)).setCell ⟨gb423, 3, none⟩ (.int .i64 t419)).setCell ⟨gb423, 4, none⟩ (.int .i64 t420)).setCell ⟨gb423, 5, none⟩ (.bool t421)).setCell ⟨gb423, 6, none⟩ (.bool t422)) = w11 at n0_ n1_ ⊢
   have BK423 := n0_
   have HB := n1_
   clear n0_ n1_
   have n0_ := Aside0.mk (blk_drew BK423.out)
   have n1_ := Aside0.mk (below_drew1 HB.out)
   clear BK423
   clear HB
   have BK423 := n0_
   have HB := n1_
   clear n0_ n1_
   refine start_ (n := 16) (S := fun w' => w'.cell? ⟨gb423, 0, none⟩ = some (.int .i64 t416) ∧ w'.cell? ⟨gb423, 1, none⟩ = some (.int .i64 t417) ∧ w'.cell? ⟨gb423, 2, none⟩ = some (.int .i64 t418) ∧ w'.cell? ⟨gb423, 3, none⟩ = some (.int .i64 t419) ∧ w'.cell? ⟨gb423, 4, none⟩ = some (.int .i64 t420) ∧ w'.cell? ⟨gb423, 5, none⟩ = some (.bool t421) ∧ w'.cell? ⟨gb423, 6, none⟩ = some (.bool t422)) (ds := []) (fl 16 0) (by kernel_rfl) rfl rfl (cy7 BK423.out) (fun hHeld => ?_); refine with_tabW spinnakerlaw05_DecWords.tab2 spinnakerlaw05_DecWords.bits2 (fun HT_ HW_ => ?_)
   generalize w11.drew = w12 at BK423 HB hHeld ⊢
   refine pure_ (i := 1) (N := some 7) (v := ?_) (a' := ?_) #[false, true, false, false, false, false, false, false, false, false, false, false, false, false, false, false] rfl rfl (any_of HT_.out (by kernel_rfl)) (fun _ _ _ h => h) (Or.inl ⟨by rfl, ?_⟩) ?_ ?_
   rotate_left
   ·intro w'
    go_simp
    with_reducible rfl
   rotate_left
   ·refine pt ?_
    rfl
   refine take_ (i := 0) (N := some 6) (v := ?_) (a' := ?_) (fl 16 2) rfl rfl (take_ofW HT_.out HW_.out (by kernel_rfl)) (fun _ _ _ h => h) (Or.inl ⟨by rfl, ?_⟩) hHeld ?_ ?_
   rotate_left
   ·rintro w' ⟨s0, s1, s2, s3, s4, s5, s6⟩
    go_simp
    with_reducible rfl
   rotate_left
   ·refine pt ?_
    rfl
   refine one_ (i := 2) (N := some 8) (fl 16 3) rfl rfl (one_of HT_.out (by kernel_rfl)) (by decide) (fun K hK => ?_)
   refine goes_ Tryd.func10 (by kernel_rfl) rfl #[.int .u32 a0] (by rfl) rfl rfl ga ?_
   with_reducible refine (spinnakerref05_Decode.calls k a0 t424 t425 t426 t427 t428 t429 t430 _ A3.out).mono ?_
   rintro e w13 ⟨rfl, hb⟩
   refine ⟨_, rfl, ?_⟩
   have n0_ := Aside0.mk (blk_below (g := gb423) (o := .cells #[.int .i64 t416, .int .i64 t417, .int .i64 t418, .int .i64 t419, .int .i64 t420, .bool t421, .bool t422] 24 (0, 0)) (bk BK423.out) hb)
   have n1_ := Aside0.mk (below_step bl hb)
   clear BK423
   clear HB
   have BK423 := n0_
   have HB := n1_
   clear n0_ n1_
   (try clear hb)
   (try clear hb2)
   (try clear hk)
   (try clear hi)
   refine hK.out _ _ (cy7 BK423.out) (fun hHeld => ?_)
   clear hK K
   refine norm_ (a' := ?_) ?_ ?_
   rotate_left
   ·show Act.put _ (some 8) _ = _
    refine pt ?_
    rfl
   refine pure_ (i := 3) (N := some 9) (v := ?_) (a' := ?_) (fl 16 4) rfl rfl (any_of HT_.out (by kernel_rfl)) (fun _ _ _ h => h) (Or.inl ⟨by rfl, ?_⟩) ?_ ?_
   rotate_left
   ·intro w'
    go_simp
    with_reducible rfl
   rotate_left
   ·refine pt ?_
    rfl
   refine pure_ (i := 4) (N := some 10) (v := ?_) (a' := ?_) (fl 16 5) rfl rfl (any_of HT_.out (by kernel_rfl)) (fun _ _ _ h => h) (Or.inl ⟨by rfl, ?_⟩) ?_ ?_
   rotate_left
   ·intro w'
    go_simp
    with_reducible rfl
   rotate_left
   ·refine pt ?_
    rfl
   refine pure_ (i := 5) (N := some 11) (v := ?_) (a' := ?_) (fl 16 6) rfl rfl (any_of HT_.out (by kernel_rfl)) (fun _ _ _ h => h) (Or.inl ⟨by rfl, ?_⟩) ?_ ?_
   rotate_left
   ·intro w'
    go_simp
    with_reducible rfl
   rotate_left
   ·refine pt ?_
    rfl
   refine pure_ (i := 7) (N := some 13) (v := ?_) (a' := ?_) #[true, true, true, true, true, true, false, true, false, false, false, false, false, false, false, false] rfl rfl (any_of HT_.out (by kernel_rfl)) (fun _ _ _ h => h) (Or.inl ⟨by rfl, ?_⟩) ?_ ?_
   rotate_left
   ·intro w'
    go_simp
    with_reducible rfl
   rotate_left
   ·refine pt ?_
    rfl
   refine take_ (i := 8) (N := some 14) (v := ?_) (a' := ?_) #[true, true, true, true, true, true, false, true, true, false, false, false, false, false, false, false] rfl rfl (take_ofW HT_.out HW_.out (by kernel_rfl)) (fun _ _ _ h => h) (Or.inl ⟨by rfl, ?_⟩) hHeld ?_ ?_
   rotate_left
   ·rintro w' ⟨s0, s1, s2, s3, s4, s5, s6⟩
    go_simp
    with_reducible rfl
   rotate_left
   ·refine pt ?_
    rfl
   refine pure_ (i := 9) (N := some 15) (v := ?_) (a' := ?_) #[true, true, true, true, true, true, false, true, true, true, false, false, false, false, false, false] rfl rfl (any_of HT_.out (by kernel_rfl)) (fun _ _ _ h => h) (Or.inl ⟨by rfl, ?_⟩) ?_ ?_
   rotate_left
   ·intro w'
    go_simp
    with_reducible rfl
   rotate_left
   ·refine pt ?_
    rfl
   refine one_ (i := 6) (N := some 12) (fl 16 10) rfl rfl (one_of HT_.out (by kernel_rfl)) (by decide) (fun K hK => ?_)
   refine goes_ Tryd.func11 (by kernel_rfl) rfl #[.int .u32 a0] (by rfl) rfl rfl ga ?_
   with_reducible refine (dec_Is.calls k a0 t431 _ (by first | exact HL.out | exact laid_drewN HL.out | exact laid_below HL.out bl | exact laid_below HL.out HB.out | exact laid_belowd HL.out HB.out) A5.out).mono ?_
   rintro e w14 ⟨rfl, hb⟩
   refine ⟨_, rfl, ?_⟩
   have n0_ := Aside0.mk (blk_below (g := gb423) (o := .cells #[.int .i64 t416, .int .i64 t417, .int .i64 t418, .int .i64 t419, .int .i64 t420, .bool t421, .bool t422] 24 (0, 0)) (bk BK423.out) hb)
   have n1_ := Aside0.mk (below_step bl hb)
   clear BK423
   clear HB
   have BK423 := n0_
   have HB := n1_
   clear n0_ n1_
   (try clear hb)
   (try clear hb2)
   (try clear hk)
   (try clear hi)
   refine hK.out _ _ (cy7 BK423.out) (fun hHeld => ?_)
   clear hK K
   refine norm_ (a' := ?_) ?_ ?_
   rotate_left
   ·show Act.put _ (some 12) _ = _
    refine pt ?_
    rfl
   refine pure_ (i := 10) (N := some 16) (v := ?_) (a' := ?_) (fl 16 11) rfl rfl (any_of HT_.out (by kernel_rfl)) (fun _ _ _ h => h) (Or.inl ⟨by rfl, ?_⟩) ?_ ?_
   rotate_left
   ·intro w'
    go_simp
    with_reducible rfl
   rotate_left
   ·refine pt ?_
    rfl
   refine pure_ (i := 11) (N := some 17) (v := ?_) (a' := ?_) (fl 16 12) rfl rfl (any_of HT_.out (by kernel_rfl)) (fun _ _ _ h => h) (Or.inl ⟨by rfl, ?_⟩) ?_ ?_
   rotate_left
   ·intro w'
    go_simp
    with_reducible rfl
   rotate_left
   ·refine pt ?_
    rfl
   refine pure_ (i := 12) (N := some 18) (v := ?_) (a' := ?_) (fl 16 13) rfl rfl (any_of HT_.out (by kernel_rfl)) (fun _ _ _ h => h) (Or.inl ⟨by rfl, ?_⟩) ?_ ?_
   rotate_left
   ·intro w'
    go_simp
    with_reducible rfl
   rotate_left
   ·refine pt ?_
    rfl
   refine one_ (i := 13) (N := some 19) (fl 16 14) rfl rfl (one_of HT_.out (by kernel_rfl)) (by decide) (fun K hK => ?_)
   refine goes_ Tryd.func12 (by kernel_rfl) rfl #[] (by rfl) rfl rfl ga ?_
   with_reducible refine (spinnakerlaw05_awake.calls k  t432 _ (by first | exact HL.out | exact laid_drewN HL.out | exact laid_below HL.out bl | exact laid_below HL.out HB.out | exact laid_belowd HL.out HB.out) A7.out).mono ?_
   rintro e w15 ⟨rfl, hb⟩
   refine ⟨_, rfl, ?_⟩
   have n0_ := Aside0.mk (blk_below (g := gb423) (o := .cells #[.int .i64 t416, .int .i64 t417, .int .i64 t418, .int .i64 t419, .int .i64 t420, .bool t421, .bool t422] 24 (0, 0)) (bk BK423.out) hb)
   have n1_ := Aside0.mk (below_step bl hb)
   clear BK423
   clear HB
   have BK423 := n0_
   have HB := n1_
   clear n0_ n1_
   (try clear hb)
   (try clear hb2)
   (try clear hk)
   (try clear hi)
   refine hK.out _ _ (cy7 BK423.out) (fun hHeld => ?_)
   clear hK K
   refine norm_ (a' := ?_) ?_ ?_
   rotate_left
   ·show Act.put _ (some 19) _ = _
    refine pt ?_
    rfl
   refine pure_ (i := 14) (N := some 20) (v := ?_) (a' := ?_) (fl 16 15) rfl rfl (any_of HT_.out (by kernel_rfl)) (fun _ _ _ h => h) (Or.inl ⟨by rfl, ?_⟩) ?_ ?_
   rotate_left
   ·intro w'
    go_simp
    with_reducible rfl
   rotate_left
   ·refine pt ?_
    rfl
   refine pure_ (i := 15) (N := some 2) (v := ?_) (a' := ?_) (fl 16 16) rfl rfl (any_of HT_.out (by kernel_rfl)) (fun _ _ _ h => h) (Or.inl ⟨by rfl, ?_⟩) ?_ ?_
   rotate_left
   ·intro w'
    go_simp
    with_reducible rfl
   rotate_left
   ·refine pt ?_
    rfl
   refine done_ (done_of HT_.out (by kernel_rfl)) ?_
   try go_wp2
   go_ret
   exact ⟨fi, bl⟩
  ·rw [if_neg c6] at H
   have c6b0 : (t431 == (t416 != 0)) = false := by simpa using c6
   (try (have c6b1 : decide (t431 = (t416 != 0)) = false := by simpa using c6))
   (try (have c6b2 : (t431 == (t416 != 0)) = false := by simpa using c6))
   (try (have c6b3 : ¬ (t431 = (t416 != 0)) := by simpa using c6))
   clear c6
   obtain rfl := Option.some.inj H
   go_enter Tryd.func3, Tryd.ntmps3
   try go_wp2_with (first | ((with_reducible refine gate_callee (f := 9) rfl ?_); refine goesL_ (some 5) rfl rfl Tryd.func9 (by kernel_rfl) rfl #[.int .u32 a0] rfl ga ?_; (with_reducible refine (dec_Decode.calls k a0 t416 t417 t418 t419 t420 t421 t422 _ (by first | exact HL.out | exact laid_drewN HL.out | exact laid_below HL.out bl | exact laid_below HL.out HB.out | exact laid_belowd HL.out HB.out) A2.out).mono ?_); rintro e w16 ⟨rfl, hb⟩; refine ⟨_, rfl, ?_⟩; have n0_ := Aside0.mk (below_step bl hb); clear HB; have HB := n0_; clear n0_; (try clear hb)) | ((with_reducible refine gate_dst (N := 3) rfl ?_); refine box_event ?hg (N := 3) ?hd (cs := #[.int .i64 0, .int .i64 0, .int .i64 0, .int .i64 0, .int .i64 0, .bool false, .bool false]) (t := 24) ?hr ?_; (case hd => rfl); (case hg => rfl); (case hr => first | (go_simp; done) | (go_simp; rfl)); intro gb423 hg w17 hbox hb; obtain ⟨n0_, GW423⟩ := nb (w := w) hg hb; clear HB; have HB := n0_; have BK423 := Aside0.mk hbox; have GE423 := GW423; clear n0_ hb hbox hg; obtain ⟨hcz18_0, hcz18_1, hcz18_2, hcz18_3, hcz18_4, hcz18_5, hcz18_6, hfz18_0, hfz18_1, hfz18_2, hfz18_3, hfz18_4, hfz18_5, hfz18_6⟩ := cz7 (w := w17) BK423.out))
   have n0_ : Aside0 ((((((((w17.setCell ⟨gb423, 0, none⟩ (.int .i64 t416)).setCell ⟨gb423, 1, none⟩ (.int .i64 t417)).setCell ⟨gb423, 2, none⟩ (.int .i64 t418)).setCell ⟨gb423, 3, none⟩ (.int .i64 t419)).setCell ⟨gb423, 4, none⟩ (.int .i64 t420)).setCell ⟨gb423, 5, none⟩ (.bool t421)).setCell ⟨gb423, 6, none⟩ (.bool t422)).heap[gb423]? = some (.cells #[.int .i64 t416, .int .i64 t417, .int .i64 t418, .int .i64 t419, .int .i64 t420, .bool t421, .bool t422] 24 (0, 0))) := ⟨by refine bx ?_; refine blk_put (cs := #[.int .i64 t416, .int .i64 t417, .int .i64 t418, .int .i64 t419, .int .i64 t420, .bool t421, .bool false]) ?_ 6 _ rfl; refine bx ?_; refine blk_put (cs := #[.int .i64 t416, .int .i64 t417, .int .i64 t418, .int .i64 t419, .int .i64 t420, .bool false, .bool false]) ?_ 5 _ rfl; refine bx ?_; refine blk_put (cs := #[.int .i64 t416, .int .i64 t417, .int .i64 t418, .int .i64 t419, .int .i64 0, .bool false, .bool false]) ?_ 4 _ rfl; refine bx ?_; refine blk_put (cs := #[.int .i64 t416, .int .i64 t417, .int .i64 t418, .int .i64 0, .int .i64 0, .bool false, .bool false]) ?_ 3 _ rfl; refine bx ?_; refine blk_put (cs := #[.int .i64 t416, .int .i64 t417, .int .i64 0, .int .i64 0, .int .i64 0, .bool false, .bool false]) ?_ 2 _ rfl; refine bx ?_; refine blk_put (cs := #[.int .i64 t416, .int .i64 0, .int .i64 0, .int .i64 0, .int .i64 0, .bool false, .bool false]) ?_ 1 _ rfl; refine bx ?_; refine blk_put (cs := #[.int .i64 0, .int .i64 0, .int .i64 0, .int .i64 0, .int .i64 0, .bool false, .bool false]) ?_ 0 _ rfl; refine bx ?_; exact BK423.out⟩
   have n1_ : Aside0 (Below w.heap.size w (((((((w17.setCell ⟨gb423, 0, none⟩ (.int .i64 t416)).setCell ⟨gb423, 1, none⟩ (.int .i64 t417)).setCell ⟨gb423, 2, none⟩ (.int .i64 t418)).setCell ⟨gb423, 3, none⟩ (.int .i64 t419)).setCell ⟨gb423, 4, none⟩ (.int .i64 t420)).setCell ⟨gb423, 5, none⟩ (.bool t421)).setCell ⟨gb423, 6, none⟩ (.bool t422))) := ⟨bl⟩
   (try clear BK423)
   (try clear HB)
   generalize (((((((w17.setCell ⟨gb423, 0, none⟩ (.int .i64 t416)).setCell ⟨gb423, 1, none⟩ (.int .i64 t417)).setCell ⟨gb423, 2, none⟩ (.int .i64 t418)).setCell ⟨gb423, 3, none⟩ (.int .i64 t419)).setCell ⟨gb423, 4, none⟩ (.int .i64 t420)).setCell ⟨gb423, 5, none⟩ (.bool t421)).setCell ⟨gb423, 6, none⟩ (.bool t422)) = w19 at n0_ n1_ ⊢
   have BK423 := n0_
   have HB := n1_
   clear n0_ n1_
   have n0_ := Aside0.mk (blk_drew BK423.out)
   have n1_ := Aside0.mk (below_drew1 HB.out)
   clear BK423
   clear HB
   have BK423 := n0_
   have HB := n1_
   clear n0_ n1_
   refine start_ (n := 16) (S := fun w' => w'.cell? ⟨gb423, 0, none⟩ = some (.int .i64 t416) ∧ w'.cell? ⟨gb423, 1, none⟩ = some (.int .i64 t417) ∧ w'.cell? ⟨gb423, 2, none⟩ = some (.int .i64 t418) ∧ w'.cell? ⟨gb423, 3, none⟩ = some (.int .i64 t419) ∧ w'.cell? ⟨gb423, 4, none⟩ = some (.int .i64 t420) ∧ w'.cell? ⟨gb423, 5, none⟩ = some (.bool t421) ∧ w'.cell? ⟨gb423, 6, none⟩ = some (.bool t422)) (ds := []) (fl 16 0) (by kernel_rfl) rfl rfl (cy7 BK423.out) (fun hHeld => ?_); refine with_tabW spinnakerlaw05_DecWords.tab2 spinnakerlaw05_DecWords.bits2 (fun HT_ HW_ => ?_)
   generalize w19.drew = w20 at BK423 HB hHeld ⊢
   refine pure_ (i := 1) (N := some 7) (v := ?_) (a' := ?_) #[false, true, false, false, false, false, false, false, false, false, false, false, false, false, false, false] rfl rfl (any_of HT_.out (by kernel_rfl)) (fun _ _ _ h => h) (Or.inl ⟨by rfl, ?_⟩) ?_ ?_
   rotate_left
   ·intro w'
    go_simp
    with_reducible rfl
   rotate_left
   ·refine pt ?_
    rfl
   refine take_ (i := 0) (N := some 6) (v := ?_) (a' := ?_) (fl 16 2) rfl rfl (take_ofW HT_.out HW_.out (by kernel_rfl)) (fun _ _ _ h => h) (Or.inl ⟨by rfl, ?_⟩) hHeld ?_ ?_
   rotate_left
   ·rintro w' ⟨s0, s1, s2, s3, s4, s5, s6⟩
    go_simp
    with_reducible rfl
   rotate_left
   ·refine pt ?_
    rfl
   refine one_ (i := 2) (N := some 8) (fl 16 3) rfl rfl (one_of HT_.out (by kernel_rfl)) (by decide) (fun K hK => ?_)
   refine goes_ Tryd.func10 (by kernel_rfl) rfl #[.int .u32 a0] (by rfl) rfl rfl ga ?_
   with_reducible refine (spinnakerref05_Decode.calls k a0 t424 t425 t426 t427 t428 t429 t430 _ A3.out).mono ?_
   rintro e w21 ⟨rfl, hb⟩
   refine ⟨_, rfl, ?_⟩
   have n0_ := Aside0.mk (blk_below (g := gb423) (o := .cells #[.int .i64 t416, .int .i64 t417, .int .i64 t418, .int .i64 t419, .int .i64 t420, .bool t421, .bool t422] 24 (0, 0)) (bk BK423.out) hb)
   have n1_ := Aside0.mk (below_step bl hb)
   clear BK423
   clear HB
   have BK423 := n0_
   have HB := n1_
   clear n0_ n1_
   (try clear hb)
   (try clear hb2)
   (try clear hk)
   (try clear hi)
   refine hK.out _ _ (cy7 BK423.out) (fun hHeld => ?_)
   clear hK K
   refine norm_ (a' := ?_) ?_ ?_
   rotate_left
   ·show Act.put _ (some 8) _ = _
    refine pt ?_
    rfl
   refine pure_ (i := 3) (N := some 9) (v := ?_) (a' := ?_) (fl 16 4) rfl rfl (any_of HT_.out (by kernel_rfl)) (fun _ _ _ h => h) (Or.inl ⟨by rfl, ?_⟩) ?_ ?_
   rotate_left
   ·intro w'
    go_simp
    with_reducible rfl
   rotate_left
   ·refine pt ?_
    rfl
   refine pure_ (i := 4) (N := some 10) (v := ?_) (a' := ?_) (fl 16 5) rfl rfl (any_of HT_.out (by kernel_rfl)) (fun _ _ _ h => h) (Or.inl ⟨by rfl, ?_⟩) ?_ ?_
   rotate_left
   ·intro w'
    go_simp
    with_reducible rfl
   rotate_left
   ·refine pt ?_
    rfl
   refine pure_ (i := 5) (N := some 11) (v := ?_) (a' := ?_) (fl 16 6) rfl rfl (any_of HT_.out (by kernel_rfl)) (fun _ _ _ h => h) (Or.inl ⟨by rfl, ?_⟩) ?_ ?_
   rotate_left
   ·intro w'
    go_simp
    with_reducible rfl
   rotate_left
   ·refine pt ?_
    rfl
   refine pure_ (i := 7) (N := some 13) (v := ?_) (a' := ?_) #[true, true, true, true, true, true, false, true, false, false, false, false, false, false, false, false] rfl rfl (any_of HT_.out (by kernel_rfl)) (fun _ _ _ h => h) (Or.inl ⟨by rfl, ?_⟩) ?_ ?_
   rotate_left
   ·intro w'
    go_simp
    with_reducible rfl
   rotate_left
   ·refine pt ?_
    rfl
   refine take_ (i := 8) (N := some 14) (v := ?_) (a' := ?_) #[true, true, true, true, true, true, false, true, true, false, false, false, false, false, false, false] rfl rfl (take_ofW HT_.out HW_.out (by kernel_rfl)) (fun _ _ _ h => h) (Or.inl ⟨by rfl, ?_⟩) hHeld ?_ ?_
   rotate_left
   ·rintro w' ⟨s0, s1, s2, s3, s4, s5, s6⟩
    go_simp
    with_reducible rfl
   rotate_left
   ·refine pt ?_
    rfl
   refine pure_ (i := 9) (N := some 15) (v := ?_) (a' := ?_) #[true, true, true, true, true, true, false, true, true, true, false, false, false, false, false, false] rfl rfl (any_of HT_.out (by kernel_rfl)) (fun _ _ _ h => h) (Or.inl ⟨by rfl, ?_⟩) ?_ ?_
   rotate_left
   ·intro w'
    go_simp
    with_reducible rfl
   rotate_left
   ·refine pt ?_
    rfl
   refine one_ (i := 6) (N := some 12) (fl 16 10) rfl rfl (one_of HT_.out (by kernel_rfl)) (by decide) (fun K hK => ?_)
   refine goes_ Tryd.func11 (by kernel_rfl) rfl #[.int .u32 a0] (by rfl) rfl rfl ga ?_
   with_reducible refine (dec_Is.calls k a0 t431 _ (by first | exact HL.out | exact laid_drewN HL.out | exact laid_below HL.out bl | exact laid_below HL.out HB.out | exact laid_belowd HL.out HB.out) A5.out).mono ?_
   rintro e w22 ⟨rfl, hb⟩
   refine ⟨_, rfl, ?_⟩
   have n0_ := Aside0.mk (blk_below (g := gb423) (o := .cells #[.int .i64 t416, .int .i64 t417, .int .i64 t418, .int .i64 t419, .int .i64 t420, .bool t421, .bool t422] 24 (0, 0)) (bk BK423.out) hb)
   have n1_ := Aside0.mk (below_step bl hb)
   clear BK423
   clear HB
   have BK423 := n0_
   have HB := n1_
   clear n0_ n1_
   (try clear hb)
   (try clear hb2)
   (try clear hk)
   (try clear hi)
   refine hK.out _ _ (cy7 BK423.out) (fun hHeld => ?_)
   clear hK K
   refine norm_ (a' := ?_) ?_ ?_
   rotate_left
   ·show Act.put _ (some 12) _ = _
    refine pt ?_
    rfl
   refine pure_ (i := 10) (N := some 16) (v := ?_) (a' := ?_) (fl 16 11) rfl rfl (any_of HT_.out (by kernel_rfl)) (fun _ _ _ h => h) (Or.inl ⟨by rfl, ?_⟩) ?_ ?_
   rotate_left
   ·intro w'
    go_simp
    with_reducible rfl
   rotate_left
   ·refine pt ?_
    rfl
   refine pure_ (i := 11) (N := some 17) (v := ?_) (a' := ?_) (fl 16 12) rfl rfl (any_of HT_.out (by kernel_rfl)) (fun _ _ _ h => h) (Or.inl ⟨by rfl, ?_⟩) ?_ ?_
   rotate_left
   ·intro w'
    go_simp
    with_reducible rfl
   rotate_left
   ·refine pt ?_
    rfl
   refine pure_ (i := 12) (N := some 18) (v := ?_) (a' := ?_) (fl 16 13) rfl rfl (any_of HT_.out (by kernel_rfl)) (fun _ _ _ h => h) (Or.inl ⟨by rfl, ?_⟩) ?_ ?_
   rotate_left
   ·intro w'
    go_simp
    with_reducible rfl
   rotate_left
   ·refine pt ?_
    rfl
   refine pure_ (i := 13) (N := some 19) (v := undef) (a' := ?_) (fl 16 14) rfl rfl (any_of HT_.out (by kernel_rfl)) (fun _ _ _ h => h) (Or.inr ⟨by rfl, rfl⟩) ?_ ?_
   rotate_left
   ·refine pt ?_
    rfl
   refine pure_ (i := 14) (N := some 20) (v := ?_) (a' := ?_) (fl 16 15) rfl rfl (any_of HT_.out (by kernel_rfl)) (fun _ _ _ h => h) (Or.inl ⟨by rfl, ?_⟩) ?_ ?_
   rotate_left
   ·intro w'
    go_simp
    with_reducible rfl
   rotate_left
   ·refine pt ?_
    rfl
   refine pure_ (i := 15) (N := some 2) (v := ?_) (a' := ?_) (fl 16 16) rfl rfl (any_of HT_.out (by kernel_rfl)) (fun _ _ _ h => h) (Or.inl ⟨by rfl, ?_⟩) ?_ ?_
   rotate_left
   ·intro w'
    go_simp
    with_reducible rfl
   rotate_left
   ·refine pt ?_
    rfl
   refine done_ (done_of HT_.out (by kernel_rfl)) ?_
   try go_wp2
   go_ret
   exact ⟨fi, bl⟩
 ·rw [if_neg c4] at H
  have c4b0 : (t416 == t424 && (t417 == t425 && (t418 == t426 && (t419 == t427 && (t420 == t428 && (t421 == t429 && (t422 == t430))))))) = false := by simpa using c4
  (try (have c4b1 : decide (t416 = t424 && (t417 == t425 && (t418 == t426 && (t419 == t427 && (t420 == t428 && (t421 == t429 && (t422 == t430))))))) = false := by simpa using c4))
  (try (have c4b2 : (t416 == t424 && (t417 == t425 && (t418 == t426 && (t419 == t427 && (t420 == t428 && (t421 == t429 && (t422 == t430))))))) = false := by simpa using c4))
  (try (have c4b3 : ¬ (t416 = t424 && (t417 == t425 && (t418 == t426 && (t419 == t427 && (t420 == t428 && (t421 == t429 && (t422 == t430))))))) := by simpa using c4))
  clear c4
  obtain rfl := Option.some.inj H
  go_enter Tryd.func3, Tryd.ntmps3
  try go_wp2_with (first | ((with_reducible refine gate_callee (f := 9) rfl ?_); refine goesL_ (some 5) rfl rfl Tryd.func9 (by kernel_rfl) rfl #[.int .u32 a0] rfl ga ?_; (with_reducible refine (dec_Decode.calls k a0 t416 t417 t418 t419 t420 t421 t422 _ (by first | exact HL.out | exact laid_drewN HL.out | exact laid_below HL.out bl | exact laid_below HL.out HB.out | exact laid_belowd HL.out HB.out) A2.out).mono ?_); rintro e w23 ⟨rfl, hb⟩; refine ⟨_, rfl, ?_⟩; have n0_ := Aside0.mk (below_step bl hb); clear HB; have HB := n0_; clear n0_; (try clear hb)) | ((with_reducible refine gate_dst (N := 3) rfl ?_); refine box_event ?hg (N := 3) ?hd (cs := #[.int .i64 0, .int .i64 0, .int .i64 0, .int .i64 0, .int .i64 0, .bool false, .bool false]) (t := 24) ?hr ?_; (case hd => rfl); (case hg => rfl); (case hr => first | (go_simp; done) | (go_simp; rfl)); intro gb423 hg w24 hbox hb; obtain ⟨n0_, GW423⟩ := nb (w := w) hg hb; clear HB; have HB := n0_; have BK423 := Aside0.mk hbox; have GE423 := GW423; clear n0_ hb hbox hg; obtain ⟨hcz25_0, hcz25_1, hcz25_2, hcz25_3, hcz25_4, hcz25_5, hcz25_6, hfz25_0, hfz25_1, hfz25_2, hfz25_3, hfz25_4, hfz25_5, hfz25_6⟩ := cz7 (w := w24) BK423.out))
  have n0_ : Aside0 ((((((((w24.setCell ⟨gb423, 0, none⟩ (.int .i64 t416)).setCell ⟨gb423, 1, none⟩ (.int .i64 t417)).setCell ⟨gb423, 2, none⟩ (.int .i64 t418)).setCell ⟨gb423, 3, none⟩ (.int .i64 t419)).setCell ⟨gb423, 4, none⟩ (.int .i64 t420)).setCell ⟨gb423, 5, none⟩ (.bool t421)).setCell ⟨gb423, 6, none⟩ (.bool t422)).heap[gb423]? = some (.cells #[.int .i64 t416, .int .i64 t417, .int .i64 t418, .int .i64 t419, .int .i64 t420, .bool t421, .bool t422] 24 (0, 0))) := ⟨by refine bx ?_; refine blk_put (cs := #[.int .i64 t416, .int .i64 t417, .int .i64 t418, .int .i64 t419, .int .i64 t420, .bool t421, .bool false]) ?_ 6 _ rfl; refine bx ?_; refine blk_put (cs := #[.int .i64 t416, .int .i64 t417, .int .i64 t418, .int .i64 t419, .int .i64 t420, .bool false, .bool false]) ?_ 5 _ rfl; refine bx ?_; refine blk_put (cs := #[.int .i64 t416, .int .i64 t417, .int .i64 t418, .int .i64 t419, .int .i64 0, .bool false, .bool false]) ?_ 4 _ rfl; refine bx ?_; refine blk_put (cs := #[.int .i64 t416, .int .i64 t417, .int .i64 t418, .int .i64 0, .int .i64 0, .bool false, .bool false]) ?_ 3 _ rfl; refine bx ?_; refine blk_put (cs := #[.int .i64 t416, .int .i64 t417, .int .i64 0, .int .i64 0, .int .i64 0, .bool false, .bool false]) ?_ 2 _ rfl; refine bx ?_; refine blk_put (cs := #[.int .i64 t416, .int .i64 0, .int .i64 0, .int .i64 0, .int .i64 0, .bool false, .bool false]) ?_ 1 _ rfl; refine bx ?_; refine blk_put (cs := #[.int .i64 0, .int .i64 0, .int .i64 0, .int .i64 0, .int .i64 0, .bool false, .bool false]) ?_ 0 _ rfl; refine bx ?_; exact BK423.out⟩
  have n1_ : Aside0 (Below w.heap.size w (((((((w24.setCell ⟨gb423, 0, none⟩ (.int .i64 t416)).setCell ⟨gb423, 1, none⟩ (.int .i64 t417)).setCell ⟨gb423, 2, none⟩ (.int .i64 t418)).setCell ⟨gb423, 3, none⟩ (.int .i64 t419)).setCell ⟨gb423, 4, none⟩ (.int .i64 t420)).setCell ⟨gb423, 5, none⟩ (.bool t421)).setCell ⟨gb423, 6, none⟩ (.bool t422))) := ⟨bl⟩
  (try clear BK423)
  (try clear HB)
  generalize (((((((w24.setCell ⟨gb423, 0, none⟩ (.int .i64 t416)).setCell ⟨gb423, 1, none⟩ (.int .i64 t417)).setCell ⟨gb423, 2, none⟩ (.int .i64 t418)).setCell ⟨gb423, 3, none⟩ (.int .i64 t419)).setCell ⟨gb423, 4, none⟩ (.int .i64 t420)).setCell ⟨gb423, 5, none⟩ (.bool t421)).setCell ⟨gb423, 6, none⟩ (.bool t422)) = w26 at n0_ n1_ ⊢
  have BK423 := n0_
  have HB := n1_
  clear n0_ n1_
  have n0_ := Aside0.mk (blk_drew BK423.out)
  have n1_ := Aside0.mk (below_drew1 HB.out)
  clear BK423
  clear HB
  have BK423 := n0_
  have HB := n1_
  clear n0_ n1_
  refine start_ (n := 16) (S := fun w' => w'.cell? ⟨gb423, 0, none⟩ = some (.int .i64 t416) ∧ w'.cell? ⟨gb423, 1, none⟩ = some (.int .i64 t417) ∧ w'.cell? ⟨gb423, 2, none⟩ = some (.int .i64 t418) ∧ w'.cell? ⟨gb423, 3, none⟩ = some (.int .i64 t419) ∧ w'.cell? ⟨gb423, 4, none⟩ = some (.int .i64 t420) ∧ w'.cell? ⟨gb423, 5, none⟩ = some (.bool t421) ∧ w'.cell? ⟨gb423, 6, none⟩ = some (.bool t422)) (ds := []) (fl 16 0) (by kernel_rfl) rfl rfl (cy7 BK423.out) (fun hHeld => ?_); refine with_tabW spinnakerlaw05_DecWords.tab2 spinnakerlaw05_DecWords.bits2 (fun HT_ HW_ => ?_)
  generalize w26.drew = w27 at BK423 HB hHeld ⊢
  refine pure_ (i := 1) (N := some 7) (v := ?_) (a' := ?_) #[false, true, false, false, false, false, false, false, false, false, false, false, false, false, false, false] rfl rfl (any_of HT_.out (by kernel_rfl)) (fun _ _ _ h => h) (Or.inl ⟨by rfl, ?_⟩) ?_ ?_
  rotate_left
  ·intro w'
   go_simp
   with_reducible rfl
  rotate_left
  ·refine pt ?_
   rfl
  refine take_ (i := 0) (N := some 6) (v := ?_) (a' := ?_) (fl 16 2) rfl rfl (take_ofW HT_.out HW_.out (by kernel_rfl)) (fun _ _ _ h => h) (Or.inl ⟨by rfl, ?_⟩) hHeld ?_ ?_
  rotate_left
  ·rintro w' ⟨s0, s1, s2, s3, s4, s5, s6⟩
   go_simp
   with_reducible rfl
  rotate_left
  ·refine pt ?_
   rfl
  refine one_ (i := 2) (N := some 8) (fl 16 3) rfl rfl (one_of HT_.out (by kernel_rfl)) (by decide) (fun K hK => ?_)
  refine goes_ Tryd.func10 (by kernel_rfl) rfl #[.int .u32 a0] (by rfl) rfl rfl ga ?_
  with_reducible refine (spinnakerref05_Decode.calls k a0 t424 t425 t426 t427 t428 t429 t430 _ A3.out).mono ?_
  rintro e w28 ⟨rfl, hb⟩
  refine ⟨_, rfl, ?_⟩
  have n0_ := Aside0.mk (blk_below (g := gb423) (o := .cells #[.int .i64 t416, .int .i64 t417, .int .i64 t418, .int .i64 t419, .int .i64 t420, .bool t421, .bool t422] 24 (0, 0)) (bk BK423.out) hb)
  have n1_ := Aside0.mk (below_step bl hb)
  clear BK423
  clear HB
  have BK423 := n0_
  have HB := n1_
  clear n0_ n1_
  (try clear hb)
  (try clear hb2)
  (try clear hk)
  (try clear hi)
  refine hK.out _ _ (cy7 BK423.out) (fun hHeld => ?_)
  clear hK K
  refine norm_ (a' := ?_) ?_ ?_
  rotate_left
  ·show Act.put _ (some 8) _ = _
   refine pt ?_
   rfl
  refine pure_ (i := 3) (N := some 9) (v := ?_) (a' := ?_) (fl 16 4) rfl rfl (any_of HT_.out (by kernel_rfl)) (fun _ _ _ h => h) (Or.inl ⟨by rfl, ?_⟩) ?_ ?_
  rotate_left
  ·intro w'
   go_simp
   with_reducible rfl
  rotate_left
  ·refine pt ?_
   rfl
  refine pure_ (i := 4) (N := some 10) (v := ?_) (a' := ?_) (fl 16 5) rfl rfl (any_of HT_.out (by kernel_rfl)) (fun _ _ _ h => h) (Or.inl ⟨by rfl, ?_⟩) ?_ ?_
  rotate_left
  ·intro w'
   go_simp
   with_reducible rfl
  rotate_left
  ·refine pt ?_
   rfl
  refine pure_ (i := 5) (N := some 11) (v := undef) (a' := ?_) (fl 16 6) rfl rfl (any_of HT_.out (by kernel_rfl)) (fun _ _ _ h => h) (Or.inr ⟨by rfl, rfl⟩) ?_ ?_
  rotate_left
  ·refine pt ?_
   rfl
  refine pure_ (i := 6) (N := some 12) (v := undef) (a' := ?_) (fl 16 7) rfl rfl (any_of HT_.out (by kernel_rfl)) (fun _ _ _ h => h) (Or.inr ⟨by rfl, rfl⟩) ?_ ?_
  rotate_left
  ·refine pt ?_
   rfl
  refine pure_ (i := 7) (N := some 13) (v := undef) (a' := ?_) (fl 16 8) rfl rfl (any_of HT_.out (by kernel_rfl)) (fun _ _ _ h => h) (Or.inr ⟨by rfl, rfl⟩) ?_ ?_
  rotate_left
  ·refine pt ?_
   rfl
  refine pure_ (i := 8) (N := some 14) (v := undef) (a' := ?_) (fl 16 9) rfl rfl (any_of HT_.out (by kernel_rfl)) (fun _ _ _ h => h) (Or.inr ⟨by rfl, rfl⟩) ?_ ?_
  rotate_left
  ·refine pt ?_
   rfl
  refine pure_ (i := 9) (N := some 15) (v := undef) (a' := ?_) (fl 16 10) rfl rfl (any_of HT_.out (by kernel_rfl)) (fun _ _ _ h => h) (Or.inr ⟨by rfl, rfl⟩) ?_ ?_
  rotate_left
  ·refine pt ?_
   rfl
  refine pure_ (i := 10) (N := some 16) (v := undef) (a' := ?_) (fl 16 11) rfl rfl (any_of HT_.out (by kernel_rfl)) (fun _ _ _ h => h) (Or.inr ⟨by rfl, rfl⟩) ?_ ?_
  rotate_left
  ·refine pt ?_
   rfl
  refine pure_ (i := 11) (N := some 17) (v := ?_) (a' := ?_) (fl 16 12) rfl rfl (any_of HT_.out (by kernel_rfl)) (fun _ _ _ h => h) (Or.inl ⟨by rfl, ?_⟩) ?_ ?_
  rotate_left
  ·intro w'
   go_simp
   with_reducible rfl
  rotate_left
  ·refine pt ?_
   rfl
  refine pure_ (i := 12) (N := some 18) (v := ?_) (a' := ?_) (fl 16 13) rfl rfl (any_of HT_.out (by kernel_rfl)) (fun _ _ _ h => h) (Or.inl ⟨by rfl, ?_⟩) ?_ ?_
  rotate_left
  ·intro w'
   go_simp
   with_reducible rfl
  rotate_left
  ·refine pt ?_
   rfl
  refine pure_ (i := 13) (N := some 19) (v := undef) (a' := ?_) (fl 16 14) rfl rfl (any_of HT_.out (by kernel_rfl)) (fun _ _ _ h => h) (Or.inr ⟨by rfl, rfl⟩) ?_ ?_
  rotate_left
  ·refine pt ?_
   rfl
  refine pure_ (i := 14) (N := some 20) (v := ?_) (a' := ?_) (fl 16 15) rfl rfl (any_of HT_.out (by kernel_rfl)) (fun _ _ _ h => h) (Or.inl ⟨by rfl, ?_⟩) ?_ ?_
  rotate_left
  ·intro w'
   go_simp
   with_reducible rfl
  rotate_left
  ·refine pt ?_
   rfl
  refine pure_ (i := 15) (N := some 2) (v := ?_) (a' := ?_) (fl 16 16) rfl rfl (any_of HT_.out (by kernel_rfl)) (fun _ _ _ h => h) (Or.inl ⟨by rfl, ?_⟩) ?_ ?_
  rotate_left
  ·intro w'
   go_simp
   with_reducible rfl
  rotate_left
  ·refine pt ?_
   rfl
  refine done_ (done_of HT_.out (by kernel_rfl)) ?_
  try go_wp2
  go_ret
  exact ⟨fi, bl⟩

/-- THE ONE PURE STATEMENT of spinnakerlaw05_DecWords: yours. -/
def spinnakerlaw05_DecWords.Pure : Prop := ∀ (a0 : Int), (Lit.int .u32 a0).wf = true → ∃ k, spinnakerlaw05_DecWords.f k a0 = some true
theorem spinnakerlaw05_DecWords.walk (P : spinnakerlaw05_DecWords.Pure) (a0 : Int) (w : World) (hL : Laid w) (w0 : (Lit.int .u32 a0).wf = true) :
  Calls Tryd.prog 3 #[.int .u32 a0] w fun e w' => e = .returned (.bool true) ∧ Below w.heap.size w w' := by
 have HL := Aside0.mk hL
 clear hL
 obtain ⟨k, h⟩ := P a0 w0
 refine (spinnakerlaw05_DecWords.calls k a0 true w HL.out h).mono ?_
 rintro e w' ⟨rfl, hd⟩
 exact ⟨rfl, hd⟩

end Go.Proofs.YtffehgfjjagibaaDoor.GDecWords
