-- Written by wip/stub.py of this repo.
import Derived.Test.YtmkcnbaknnohgaaGAluEvalsx0
import Derived.Test.YtmkcnbaknnohgaaGAluEvalsx4
import Derived.Test.YtmkcnbaknnohgaaGAluEvalsx7
namespace Go.Proofs.Ytmkcnbaknnohgaa.GAluEvals
open Go.RowKit Go.Proofs.YtmkcnbaknnohgaaW.PrintWords Go.Proofs.YtmkcnbaknnohgaaW.PrintLast Go.Proofs.YtmkcnbaknnohgaaW.PrintMore
attribute [local go_sem] max2_int min2_int max_two min_two max_three min_three max_four min_four   -- for this text's walks alone
set_option linter.unusedVariables false
set_option linter.unusedSimpArgs false

/-! ### spinnakerlaw07_AluEvals: function 3 -/
def spinnakerlaw07_AluEvals.j0 : Nat → Int → Int → Int → Int → Bool → Bool → Option (Bool)
  | 0, _, _, _, _, _, _ => none
  | k + 1, x0, x1, x2, x7, x8, x21 => if x21 = true then (if x7 = 0 then (if x8 = true then (some false) else ((spinnakerlaw07_awake.f k).bind fun t239 => (some t239))) else (some false)) else ((spinnakerref07_Eval.f k x0 x1 x2).bind fun t240 => (if x7 = t240 then (if x8 = true then ((spinnakerlaw07_awake.f k).bind fun t241 => (some t241)) else (some false)) else (some false)))
def spinnakerlaw07_AluEvals.f (k : Nat) (a0 : Int) (a1 : Int) (a2 : Int) : Option (Bool) := (alu_Eval.f k a0 a1 a2).bind fun bt237 => (if a0 < 22 then (spinnakerlaw07_AluEvals.j0 k a0 a1 a2 bt237.1 bt237.2 true) else (spinnakerlaw07_AluEvals.j0 k a0 a1 a2 bt237.1 bt237.2 (decide (a0 > 62))))
theorem spinnakerlaw07_AluEvals.mono_l : ∀ k, (∀ y0 y1 y2 y3 y4 y5, LeO (spinnakerlaw07_AluEvals.j0 k y0 y1 y2 y3 y4 y5) (spinnakerlaw07_AluEvals.j0 (k + 1) y0 y1 y2 y3 y4 y5))
 | 0 => fun _ _ _ _ _ _ r h => by simp [spinnakerlaw07_AluEvals.j0] at h
 | k + 1 => by
  have ih0 := spinnakerlaw07_AluEvals.mono_l k
  ·intro y0 y1 y2 y3 y4 y5
   unfold spinnakerlaw07_AluEvals.j0
   repeat' first | (with_reducible first | exact ih0 _ _ _ _ _ _ | exact alu_Eval.mono _ _ _ _ | exact spinnakerlaw07_awake.mono _ | exact spinnakerref07_Eval.mono _ _ _ _ | exact LeO.refl _ | exact LeO.none _ | refine LeO.ite ?_ ?_ | refine LeO.bind ?_ (fun _ => ?_)) | exact ih0 _ _ _ _ _ _ | exact alu_Eval.mono _ _ _ _ | exact spinnakerlaw07_awake.mono _ | exact spinnakerref07_Eval.mono _ _ _ _ | exact LeO.none _ | refine LeO.ite ?_ ?_ | refine LeO.bind ?_ (fun _ => ?_)
theorem spinnakerlaw07_AluEvals.mono : ∀ a0 a1 a2 k, LeO (spinnakerlaw07_AluEvals.f k a0 a1 a2) (spinnakerlaw07_AluEvals.f (k + 1) a0 a1 a2) := by
 intro a0 a1 a2 k
 have ih0 := spinnakerlaw07_AluEvals.mono_l k
 unfold spinnakerlaw07_AluEvals.f
 repeat' first | (with_reducible first | exact ih0 _ _ _ _ _ _ | exact alu_Eval.mono _ _ _ _ | exact spinnakerlaw07_awake.mono _ | exact spinnakerref07_Eval.mono _ _ _ _ | exact LeO.refl _ | exact LeO.none _ | refine LeO.ite ?_ ?_ | refine LeO.bind ?_ (fun _ => ?_)) | exact ih0 _ _ _ _ _ _ | exact alu_Eval.mono _ _ _ _ | exact spinnakerlaw07_awake.mono _ | exact spinnakerref07_Eval.mono _ _ _ _ | exact LeO.none _ | refine LeO.ite ?_ ?_ | refine LeO.bind ?_ (fun _ => ?_)
set_option maxHeartbeats 8000000 in
set_option maxRecDepth 100000 in
theorem spinnakerlaw07_AluEvals.calls (k : Nat) (a0 : Int) (a1 : Int) (a2 : Int) (r : Bool) (w : World) (h : spinnakerlaw07_AluEvals.f k a0 a1 a2 = some r) :
  Calls Try.prog 3 #[.int .i64 a0, .int .i64 a1, .int .i64 a2] w fun e w' => e = .returned (.bool r) ∧ Below w.heap.size w w' := by
 have HB := Aside0.mk (Below.refl w.heap.size w)
 have H : ((alu_Eval.f k a0 a1 a2).bind fun bt237 => (if a0 < 22 then (spinnakerlaw07_AluEvals.j0 k a0 a1 a2 bt237.1 bt237.2 true) else (spinnakerlaw07_AluEvals.j0 k a0 a1 a2 bt237.1 bt237.2 (decide (a0 > 62))))) = some r := h
 clear h
 replace H := be H
 obtain ⟨⟨t237, t238⟩, A4, H⟩ := H
 dsimp only at H
 have HC5 := Aside0.mk H
 clear H
 go_enter Try.func3, Try.ntmps3
 go_upto_region 2 with (first | ((with_reducible refine gate_callee (f := 4) rfl ?_); refine goesL_ (some 13) rfl rfl Try.func4 (by kernel_rfl) rfl #[.int .i64 a0, .int .i64 a1, .int .i64 a2] rfl ga ?_; (with_reducible refine (alu_Eval.calls k a0 a1 a2 t237 t238 _ A4.out).mono ?_); rintro e w' ⟨rfl, ⟨nd, rfl⟩⟩; refine ⟨_, rfl, ?_⟩))
 (try simp only [Act.put, List.setIfInBounds_toArray, List.set_cons_zero, List.set_cons_succ])
 go_cut [21] (fun v21 wc => ∃ (kq : Nat) (x21_4 : Bool), v21 = .bool x21_4 ∧ Aside0 (spinnakerlaw07_AluEvals.j0 kq a0 a1 a2 t237 t238 x21_4 = some r) ∧ Aside0 (kq ≤ k) ∧ Aside0 (Below w.heap.size w wc))
 case first =>
  have H := HC5.out
  clear HC5
  by_cases c6 : a0 < 22
  ·rw [if_pos c6] at H
   have c6b0 := decide_eq_true c6
   clear c6
   (first | rw [c6b0] | (simp only [i64_w, i32_w]; rw [c6b0]) | skip)
   have H' := Aside0.mk H
   clear H
   go_wp2
   go_meet
   case rel => exact ⟨_, (true), fj, H', ⟨by first | omega | exact Nat.le_refl _⟩, ⟨bl⟩⟩
  ·rw [if_neg c6] at H
   have c6b0 := decide_eq_false c6
   clear c6
   (first | rw [c6b0] | (simp only [i64_w, i32_w]; rw [c6b0]) | skip)
   have H' := Aside0.mk H
   clear H
   go_wp2
   go_meet
   case rel => exact ⟨_, (decide (a0 > 62)), fj, H', ⟨by first | omega | exact Nat.le_refl _⟩, ⟨bl⟩⟩
 case rest =>
  clear HC5
  try clear p2
  try clear c3
  try clear c4
  try clear c6
  try clear c6b0
  obtain ⟨kq, x21_4, rfl, HA, HJ4, HB⟩ := hcut
  cases kq with
  | zero => exact absurd HA.out (by simp [spinnakerlaw07_AluEvals.j0])
  | succ kj4 =>
   have H := HA.out
   clear HA
   simp only [spinnakerlaw07_AluEvals.j0] at H
   by_cases c7 : x21_4 = true
   ·subst c7
    have H1 : (if t237 = 0 then (if t238 = true then (some false) else ((spinnakerlaw07_awake.f kj4).bind fun t239 => (some t239))) else (some false)) = some r := by rw [if_pos rfl] at H; exact H
    clear H
    have H := H1
    clear H1
    by_cases c8 : t237 = 0
    ·rw [if_pos c8] at H
     obtain ⟨c8b0, c8b1⟩ := eqs c8
     clear c8
     by_cases c9 : t238 = true
     ·subst c9
      have H1 : (some false) = some r := by rw [if_pos rfl] at H; exact H
      clear H
      have H := H1
      clear H1
      obtain rfl := Option.some.inj H
      go_wp2
      go_ret
      exact ⟨fi, bl⟩
     ·replace c9 := Bool.eq_false_iff.mpr c9
      subst c9
      have H1 : ((spinnakerlaw07_awake.f kj4).bind fun t239 => (some t239)) = some r := by rw [if_neg (show ¬ (false = true) by decide)] at H; exact H
      clear H
      have H := H1
      clear H1
      replace H := be H
      obtain ⟨t239, A10, H⟩ := H
      obtain rfl := Option.some.inj H
      go_wp2_with (first | (go_at_call 5; (with_reducible refine (spinnakerlaw07_awake.calls kj4  t239 _ A10.out).mono ?_); rintro e w' ⟨rfl, ⟨nd, rfl⟩⟩))
      go_ret
      exact ⟨fi, bl⟩
    ·rw [if_neg c8] at H
     have c8b0 : (t237 == 0) = false := beq_eq_false_iff_ne.mpr c8
     have c8b1 : (t237 != 0) = true := bne_iff_ne.mpr c8
     obtain rfl := Option.some.inj H
     go_wp2
     go_ret
     exact ⟨fi, bl⟩
   ·replace c7 := Bool.eq_false_iff.mpr c7
    subst c7
    have H1 : ((spinnakerref07_Eval.f kj4 a0 a1 a2).bind fun t240 => (if t237 = t240 then (if t238 = true then ((spinnakerlaw07_awake.f kj4).bind fun t241 => (some t241)) else (some false)) else (some false))) = some r := by rw [if_neg (show ¬ (false = true) by decide)] at H; exact H
    clear H
    have H := H1
    clear H1
    replace H := be H
    obtain ⟨t240, A11, H⟩ := H
    by_cases c12 : t237 = t240
    ·rw [if_pos c12] at H
     have c12b0 : (t237 == t240) = true := beq_iff_eq.mpr c12
     have c12b1 : (t237 != t240) = false := bne_eq_false_iff_eq.mpr c12
     clear c12
     by_cases c13 : t238 = true
     ·subst c13
      have H1 : ((spinnakerlaw07_awake.f kj4).bind fun t241 => (some t241)) = some r := by rw [if_pos rfl] at H; exact H
      clear H
      have H := H1
      clear H1
      replace H := be H
      obtain ⟨t241, A14, H⟩ := H
      obtain rfl := Option.some.inj H
      go_wp2_with (first | ((with_reducible refine gate_callee (f := 6) rfl ?_); refine goesL_ (some 35) rfl rfl Try.func6 (by kernel_rfl) rfl #[.int .i64 a0, .int .i64 a1, .int .i64 a2] rfl ga ?_; (with_reducible refine (spinnakerref07_Eval.calls kj4 a0 a1 a2 t240 _ A11.out).mono ?_); rintro e w15 ⟨rfl, hb⟩; refine ⟨_, rfl, ?_⟩; have n0_ := Aside0.mk (below_step bl hb); clear HB; have HB := n0_; clear n0_; (try clear hb)) | (go_at_call 5; (with_reducible refine (spinnakerlaw07_awake.calls kj4  t241 _ A14.out).mono ?_); rintro e w' ⟨rfl, ⟨nd, rfl⟩⟩))
      go_ret
      exact ⟨fi, bl⟩
     ·replace c13 := Bool.eq_false_iff.mpr c13
      subst c13
      have H1 : (some false) = some r := by rw [if_neg (show ¬ (false = true) by decide)] at H; exact H
      clear H
      have H := H1
      clear H1
      obtain rfl := Option.some.inj H
      go_wp2_with (first | ((with_reducible refine gate_callee (f := 6) rfl ?_); refine goesL_ (some 35) rfl rfl Try.func6 (by kernel_rfl) rfl #[.int .i64 a0, .int .i64 a1, .int .i64 a2] rfl ga ?_; (with_reducible refine (spinnakerref07_Eval.calls kj4 a0 a1 a2 t240 _ A11.out).mono ?_); rintro e w16 ⟨rfl, hb⟩; refine ⟨_, rfl, ?_⟩; have n0_ := Aside0.mk (below_step bl hb); clear HB; have HB := n0_; clear n0_; (try clear hb)))
      go_ret
      exact ⟨fi, bl⟩
    ·rw [if_neg c12] at H
     have c12b0 : (t237 == t240) = false := beq_eq_false_iff_ne.mpr c12
     have c12b1 : (t237 != t240) = true := bne_iff_ne.mpr c12
     obtain rfl := Option.some.inj H
     go_wp2_with (first | ((with_reducible refine gate_callee (f := 6) rfl ?_); refine goesL_ (some 35) rfl rfl Try.func6 (by kernel_rfl) rfl #[.int .i64 a0, .int .i64 a1, .int .i64 a2] rfl ga ?_; (with_reducible refine (spinnakerref07_Eval.calls kj4 a0 a1 a2 t240 _ A11.out).mono ?_); rintro e w17 ⟨rfl, hb⟩; refine ⟨_, rfl, ?_⟩; have n0_ := Aside0.mk (below_step bl hb); clear HB; have HB := n0_; clear n0_; (try clear hb)))
     go_ret
     exact ⟨fi, bl⟩

/-- THE ONE PURE STATEMENT of spinnakerlaw07_AluEvals: yours. -/
def spinnakerlaw07_AluEvals.Pure : Prop := ∀ (a0 : Int) (a1 : Int) (a2 : Int), (Lit.int .i64 a0).wf = true → (Lit.int .i64 a1).wf = true → (Lit.int .i64 a2).wf = true → ∃ k, spinnakerlaw07_AluEvals.f k a0 a1 a2 = some true
theorem spinnakerlaw07_AluEvals.walk (P : spinnakerlaw07_AluEvals.Pure) (a0 : Int) (a1 : Int) (a2 : Int) (w : World) (w0 : (Lit.int .i64 a0).wf = true) (w1 : (Lit.int .i64 a1).wf = true) (w2 : (Lit.int .i64 a2).wf = true) :
  Calls Try.prog 3 #[.int .i64 a0, .int .i64 a1, .int .i64 a2] w fun e w' => e = .returned (.bool true) ∧ Below w.heap.size w w' := by
 obtain ⟨k, h⟩ := P a0 a1 a2 w0 w1 w2
 refine (spinnakerlaw07_AluEvals.calls k a0 a1 a2 true w h).mono ?_
 rintro e w' ⟨rfl, hd⟩
 exact ⟨rfl, hd⟩

end Go.Proofs.Ytmkcnbaknnohgaa.GAluEvals
