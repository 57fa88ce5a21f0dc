-- Written by wip/stub.py of this repo.
import Derived.Test.YtmkcnbaknnohgaaGAluEvalsx0
import Derived.Test.YtmkcnbaknnohgaaGAluEvalsx1
namespace Go.Proofs.Ytmkcnbaknnohgaa.GAluEvals
open Go.RowKit Go.Proofs.YtmkcnbaknnohgaaW.PrintWords Go.Proofs.YtmkcnbaknnohgaaW.PrintLast Go.Proofs.YtmkcnbaknnohgaaW.PrintMore
attribute [local go_sem] max2_int min2_int max_two min_two max_three min_three max_four min_four   -- for this text's walks alone
set_option linter.unusedVariables false
set_option linter.unusedSimpArgs false

/-! ### alu_plain: function 7 -/
mutual
def alu_plain.j0 : Nat → Int → Int → Int → Int → Bool → Option (Int)
  | 0, _, _, _, _, _ => none
  | k + 1, x1, x2, x7, x11, x12 => if x12 = true then (some (wrap64 (x1 + x2))) else (if x11 = 36 then (some (wrap64 (x1 - x2))) else (if x11 = 37 then (alu_plain.j1 k x1 x2 x7 x11 (x11 == 37)) else (alu_plain.j1 k x1 x2 x7 x11 (x11 == 28))))
def alu_plain.j1 : Nat → Int → Int → Int → Int → Bool → Option (Int)
  | 0, _, _, _, _, _ => none
  | k + 1, x1, x2, x7, x11, x23 => if x23 = true then (if 0 ≤ x7 then (some (shl .i64 x1 x7)) else (none)) else (if x11 = 38 then (alu_plain.j2 k x1 x2 x7 x11 (x11 == 38)) else (alu_plain.j2 k x1 x2 x7 x11 (x11 == 23)))
def alu_plain.j2 : Nat → Int → Int → Int → Int → Bool → Option (Int)
  | 0, _, _, _, _, _ => none
  | k + 1, x1, x2, x7, x11, x29 => if x29 = true then ((alu_flag.f (decide (x1 < x2))).bind fun t101 => (some t101)) else (if x11 = 39 then (alu_plain.j3 k x1 x2 x7 x11 (x11 == 39)) else (alu_plain.j3 k x1 x2 x7 x11 (x11 == 24)))
def alu_plain.j3 : Nat → Int → Int → Int → Int → Bool → Option (Int)
  | 0, _, _, _, _, _ => none
  | k + 1, x1, x2, x7, x11, x36 => if x36 = true then ((alu_flag.f (decide ((IntKind.u64.wrap (x1)) < (IntKind.u64.wrap (x2))))).bind fun t102 => (some t102)) else (if x11 = 40 then (alu_plain.j4 k x1 x2 x7 x11 (x11 == 40)) else (alu_plain.j4 k x1 x2 x7 x11 (x11 == 25)))
def alu_plain.j4 : Nat → Int → Int → Int → Int → Bool → Option (Int)
  | 0, _, _, _, _, _ => none
  | k + 1, x1, x2, x7, x11, x45 => if x45 = true then (some (Go.bits .xor .i64 x1 x2)) else (if x11 = 41 then (alu_plain.j5 k x1 x2 x7 x11 (x11 == 41)) else (alu_plain.j5 k x1 x2 x7 x11 (x11 == 29)))
def alu_plain.j5 : Nat → Int → Int → Int → Int → Bool → Option (Int)
  | 0, _, _, _, _, _ => none
  | k + 1, x1, x2, x7, x11, x51 => if x51 = true then (if 0 ≤ x7 then (some (wrap64 (shr .u64 (IntKind.u64.wrap (x1)) x7))) else (none)) else (if x11 = 42 then (alu_plain.j6 k x1 x2 x7 x11 (x11 == 42)) else (alu_plain.j6 k x1 x2 x7 x11 (x11 == 30)))
def alu_plain.j6 : Nat → Int → Int → Int → Int → Bool → Option (Int)
  | 0, _, _, _, _, _ => none
  | k + 1, x1, x2, x7, x11, x59 => if x59 = true then (if 0 ≤ x7 then (some (shr .i64 x1 x7)) else (none)) else (if x11 = 43 then (some (Go.bits .or .i64 x1 x2)) else (if x11 = 26 then (some (Go.bits .or .i64 x1 x2)) else (some (Go.bits .and .i64 x1 x2))))
end
def alu_plain.f (k : Nat) (a0 : Int) (a1 : Int) (a2 : Int) : Option (Int) := if a0 = 35 then (alu_plain.j0 k a1 a2 (Go.bits .and .u64 (IntKind.u64.wrap (a2)) 63) a0 (a0 == 35)) else (alu_plain.j0 k a1 a2 (Go.bits .and .u64 (IntKind.u64.wrap (a2)) 63) a0 (a0 == 22))
theorem alu_plain.mono_l : ∀ k, (∀ y0 y1 y2 y3 y4, LeO (alu_plain.j0 k y0 y1 y2 y3 y4) (alu_plain.j0 (k + 1) y0 y1 y2 y3 y4)) ∧ (∀ y0 y1 y2 y3 y4, LeO (alu_plain.j1 k y0 y1 y2 y3 y4) (alu_plain.j1 (k + 1) y0 y1 y2 y3 y4)) ∧ (∀ y0 y1 y2 y3 y4, LeO (alu_plain.j2 k y0 y1 y2 y3 y4) (alu_plain.j2 (k + 1) y0 y1 y2 y3 y4)) ∧ (∀ y0 y1 y2 y3 y4, LeO (alu_plain.j3 k y0 y1 y2 y3 y4) (alu_plain.j3 (k + 1) y0 y1 y2 y3 y4)) ∧ (∀ y0 y1 y2 y3 y4, LeO (alu_plain.j4 k y0 y1 y2 y3 y4) (alu_plain.j4 (k + 1) y0 y1 y2 y3 y4)) ∧ (∀ y0 y1 y2 y3 y4, LeO (alu_plain.j5 k y0 y1 y2 y3 y4) (alu_plain.j5 (k + 1) y0 y1 y2 y3 y4)) ∧ (∀ y0 y1 y2 y3 y4, LeO (alu_plain.j6 k y0 y1 y2 y3 y4) (alu_plain.j6 (k + 1) y0 y1 y2 y3 y4))
 | 0 => ⟨fun _ _ _ _ _ r h => by simp [alu_plain.j0] at h, fun _ _ _ _ _ r h => by simp [alu_plain.j1] at h, fun _ _ _ _ _ r h => by simp [alu_plain.j2] at h, fun _ _ _ _ _ r h => by simp [alu_plain.j3] at h, fun _ _ _ _ _ r h => by simp [alu_plain.j4] at h, fun _ _ _ _ _ r h => by simp [alu_plain.j5] at h, fun _ _ _ _ _ r h => by simp [alu_plain.j6] at h⟩
 | k + 1 => by
  obtain ⟨ih0, ih1, ih2, ih3, ih4, ih5, ih6⟩ := alu_plain.mono_l k
  refine ⟨?_, ?_, ?_, ?_, ?_, ?_, ?_⟩
  all_goals (intros; (first | unfold alu_plain.j0 | unfold alu_plain.j1 | unfold alu_plain.j2 | unfold alu_plain.j3 | unfold alu_plain.j4 | unfold alu_plain.j5 | unfold alu_plain.j6); repeat' first | (with_reducible first | exact ih0 _ _ _ _ _ | exact ih1 _ _ _ _ _ | exact ih2 _ _ _ _ _ | exact ih3 _ _ _ _ _ | exact ih4 _ _ _ _ _ | exact ih5 _ _ _ _ _ | exact ih6 _ _ _ _ _ | exact LeO.refl _ | exact LeO.none _ | refine LeO.ite ?_ ?_ | refine LeO.bind ?_ (fun _ => ?_)) | exact ih0 _ _ _ _ _ | exact ih1 _ _ _ _ _ | exact ih2 _ _ _ _ _ | exact ih3 _ _ _ _ _ | exact ih4 _ _ _ _ _ | exact ih5 _ _ _ _ _ | exact ih6 _ _ _ _ _ | exact LeO.none _ | refine LeO.ite ?_ ?_ | refine LeO.bind ?_ (fun _ => ?_))
theorem alu_plain.mono : ∀ a0 a1 a2 k, LeO (alu_plain.f k a0 a1 a2) (alu_plain.f (k + 1) a0 a1 a2) := by
 intro a0 a1 a2 k
 obtain ⟨ih0, ih1, ih2, ih3, ih4, ih5, ih6⟩ := alu_plain.mono_l k
 unfold alu_plain.f
 repeat' first | (with_reducible first | exact ih0 _ _ _ _ _ | exact ih1 _ _ _ _ _ | exact ih2 _ _ _ _ _ | exact ih3 _ _ _ _ _ | exact ih4 _ _ _ _ _ | exact ih5 _ _ _ _ _ | exact ih6 _ _ _ _ _ | exact LeO.refl _ | exact LeO.none _ | refine LeO.ite ?_ ?_ | refine LeO.bind ?_ (fun _ => ?_)) | exact ih0 _ _ _ _ _ | exact ih1 _ _ _ _ _ | exact ih2 _ _ _ _ _ | exact ih3 _ _ _ _ _ | exact ih4 _ _ _ _ _ | exact ih5 _ _ _ _ _ | exact ih6 _ _ _ _ _ | exact LeO.none _ | refine LeO.ite ?_ ?_ | refine LeO.bind ?_ (fun _ => ?_)
set_option maxHeartbeats 8000000 in
set_option maxRecDepth 100000 in
theorem alu_plain.calls (k : Nat) (a0 : Int) (a1 : Int) (a2 : Int) (r : Int) (w : World) (h : alu_plain.f k a0 a1 a2 = some r) :
  Calls Try.prog 7 #[.int .i64 a0, .int .i64 a1, .int .i64 a2] w fun e w' => e = .returned (.int .i64 r) ∧ Drawn0 w w' := by
 have H : (if a0 = 35 then (alu_plain.j0 k a1 a2 (Go.bits .and .u64 (IntKind.u64.wrap (a2)) 63) a0 (a0 == 35)) else (alu_plain.j0 k a1 a2 (Go.bits .and .u64 (IntKind.u64.wrap (a2)) 63) a0 (a0 == 22))) = some r := h
 clear h
 have HC4 := Aside0.mk H
 clear H
 go_enter Try.func7, Try.ntmps7
 go_upto_if 12 with (fail)
 go_cut [12] (fun v12 wc => ∃ (kq : Nat) (x12_3 : Bool), v12 = .bool x12_3 ∧ Aside0 (alu_plain.j0 kq a1 a2 (Go.bits .and .u64 (IntKind.u64.wrap (a2)) 63) a0 x12_3 = some r) ∧ Aside0 (kq ≤ k) ∧ Drawn0 w wc)
 case first =>
  have H := HC4.out
  clear HC4
  by_cases c5 : a0 = 35
  ·rw [if_pos c5] at H
   obtain ⟨c5b0, c5b1⟩ := eqs c5
   clear c5
   (first | rw [c5b0] | (simp only [i64_w, i32_w]; rw [c5b0]) | skip)
   have H' := Aside0.mk H
   clear H
   go_wp2
   go_meet
   case rel => exact ⟨_, ((a0 == 35)), fj, H', ⟨by first | omega | exact Nat.le_refl _⟩, fd⟩
  ·rw [if_neg c5] at H
   have c5b0 : (a0 == 35) = false := beq_eq_false_iff_ne.mpr c5
   have c5b1 : (a0 != 35) = true := bne_iff_ne.mpr c5
   (first | rw [c5b0] | (simp only [i64_w, i32_w]; rw [c5b0]) | skip)
   have H' := Aside0.mk H
   clear H
   go_wp2
   go_meet
   case rel => exact ⟨_, ((a0 == 22)), fj, H', ⟨by first | omega | exact Nat.le_refl _⟩, fd⟩
 case rest =>
  clear HC4
  try clear p2
  try clear c5
  try clear c5b0
  try clear c5b1
  obtain ⟨kq, x12_3, rfl, HA, HJ3, ⟨mc3, rfl⟩⟩ := hcut
  cases kq with
  | zero => exact absurd HA.out (by simp [alu_plain.j0])
  | succ kj3 =>
   have H := HA.out
   clear HA
   simp only [alu_plain.j0] at H
   by_cases c6 : x12_3 = true
   ·subst c6
    have H1 : (some (wrap64 (a1 + a2))) = some r := by rw [if_pos rfl] at H; exact H
    clear H
    have H := H1
    clear H1
    obtain rfl := Option.some.inj H
    go_wp2
    go_ret
    exact ⟨fj, fd⟩
   ·replace c6 := Bool.eq_false_iff.mpr c6
    subst c6
    have H1 : (if a0 = 36 then (some (wrap64 (a1 - a2))) else (if a0 = 37 then (alu_plain.j1 kj3 a1 a2 (Go.bits .and .u64 (IntKind.u64.wrap (a2)) 63) a0 (a0 == 37)) else (alu_plain.j1 kj3 a1 a2 (Go.bits .and .u64 (IntKind.u64.wrap (a2)) 63) a0 (a0 == 28)))) = some r := by rw [if_neg (show ¬ (false = true) by decide)] at H; exact H
    clear H
    have H := H1
    clear H1
    by_cases c7 : a0 = 36
    ·rw [if_pos c7] at H
     obtain ⟨c7b0, c7b1⟩ := eqs c7
     clear c7
     obtain rfl := Option.some.inj H
     go_wp2
     go_ret
     exact ⟨fj, fd⟩
    ·rw [if_neg c7] at H
     have c7b0 : (a0 == 36) = false := beq_eq_false_iff_ne.mpr c7
     have c7b1 : (a0 != 36) = true := bne_iff_ne.mpr c7
     have HC8 := Aside0.mk H
     clear H
     go_upto_if 23 with (fail)
     go_cut [23] (fun v23 wc => ∃ (kq : Nat) (x23_7 : Bool), v23 = .bool x23_7 ∧ Aside0 (alu_plain.j1 kq a1 a2 (Go.bits .and .u64 (IntKind.u64.wrap (a2)) 63) a0 x23_7 = some r) ∧ Aside0 (kq ≤ kj3) ∧ Drawn0 w wc)
     case first =>
      have H := HC8.out
      clear HC8
      by_cases c9 : a0 = 37
      ·rw [if_pos c9] at H
       obtain ⟨c9b0, c9b1⟩ := eqs c9
       clear c9
       (first | rw [c9b0] | (simp only [i64_w, i32_w]; rw [c9b0]) | skip)
       have H' := Aside0.mk H
       clear H
       go_wp2
       go_meet
       case rel => exact ⟨_, ((a0 == 37)), fj, H', ⟨by have := HJ3.out; first | omega | exact Nat.le_refl _⟩, fd⟩
      ·rw [if_neg c9] at H
       have c9b0 : (a0 == 37) = false := beq_eq_false_iff_ne.mpr c9
       have c9b1 : (a0 != 37) = true := bne_iff_ne.mpr c9
       (first | rw [c9b0] | (simp only [i64_w, i32_w]; rw [c9b0]) | skip)
       have H' := Aside0.mk H
       clear H
       go_wp2
       go_meet
       case rel => exact ⟨_, ((a0 == 28)), fj, H', ⟨by have := HJ3.out; first | omega | exact Nat.le_refl _⟩, fd⟩
     case rest =>
      clear HC8
      try clear p2
      try clear c3
      try clear c5
      try clear c5b0
      try clear c5b1
      try clear c6
      try clear p6
      try clear c7
      try clear c7b0
      try clear c7b1
      try clear c9
      try clear c9b0
      try clear c9b1
      try clear p2
      obtain ⟨kq, x23_7, rfl, HA, HJ7, ⟨mc7, rfl⟩⟩ := hcut
      cases kq with
      | zero => exact absurd HA.out (by simp [alu_plain.j1])
      | succ kj7 =>
       have H := HA.out
       clear HA
       simp only [alu_plain.j1] at H
       by_cases c10 : x23_7 = true
       ·subst c10
        have H1 : (if 0 ≤ (Go.bits .and .u64 (IntKind.u64.wrap (a2)) 63) then (some (shl .i64 a1 (Go.bits .and .u64 (IntKind.u64.wrap (a2)) 63))) else (none)) = some r := by rw [if_pos rfl] at H; exact H
        clear H
        have H := H1
        clear H1
        obtain ⟨ji11, hji11⟩ : ∃ j_ : Int, (Go.bits .and .u64 (IntKind.u64.wrap (a2)) 63) = j_ := ⟨_, rfl⟩
        replace H : (if 0 ≤ (ji11) then (some (shl .i64 a1 (ji11))) else (none)) = some r := by first | (rw [hji11] at H; exact H) | (simp only [hji11] at H ⊢; exact H)
        by_cases c12 : 0 ≤ (ji11)
        ·rw [if_pos c12] at H
         have c12b0 := eq_true c12
         have c12b1 : decide (0 ≤ (ji11)) = true := decide_eq_true c12
         clear c12
         obtain ⟨ji13, hji13⟩ : ∃ j_ : Int, (shl .i64 a1 (ji11)) = j_ := ⟨_, rfl⟩
         replace H : (some ji13) = some r := by first | (rw [hji13] at H; exact H) | (simp only [hji13] at H ⊢; exact H)
         have hji13_ : (IntKind.i64.wrap (a1 * 2 ^ min (ji11).toNat 64)) = ji13 := hji13
         have hji13z : (ji11) ≤ 64 → (IntKind.i64.wrap (a1 * 2 ^ (ji11).toNat)) = ji13 := shl_small hji13
         have hji13y : (wrap64 (a1 * 2 ^ min (ji11).toNat 64)) = ji13 := (i64_w _).symm.trans hji13_
         have hji13x : (ji11) ≤ 64 → (wrap64 (a1 * 2 ^ (ji11).toNat)) = ji13 := fun h_ => (i64_w _).symm.trans (hji13z h_)
         obtain rfl := Option.some.inj H
         go_wp2
         go_ret
         exact ⟨by first | rfl | (simp; done) | (simp only [← hji11, ← hji13] <;> (first | rfl | simp)) | (simp [*]; done), fd⟩
        ·rw [if_neg c12] at H
         exact absurd H (by simp)
       ·replace c10 := Bool.eq_false_iff.mpr c10
        subst c10
        have H1 : (if a0 = 38 then (alu_plain.j2 kj7 a1 a2 (Go.bits .and .u64 (IntKind.u64.wrap (a2)) 63) a0 (a0 == 38)) else (alu_plain.j2 kj7 a1 a2 (Go.bits .and .u64 (IntKind.u64.wrap (a2)) 63) a0 (a0 == 23))) = some r := by rw [if_neg (show ¬ (false = true) by decide)] at H; exact H
        clear H
        have H := H1
        clear H1
        have HC14 := Aside0.mk H
        clear H
        go_upto_if 29 with (fail)
        go_cut [29] (fun v29 wc => ∃ (kq : Nat) (x29_13 : Bool), v29 = .bool x29_13 ∧ Aside0 (alu_plain.j2 kq a1 a2 (Go.bits .and .u64 (IntKind.u64.wrap (a2)) 63) a0 x29_13 = some r) ∧ Aside0 (kq ≤ kj7) ∧ Drawn0 w wc)
        case first =>
         have H := HC14.out
         clear HC14
         by_cases c15 : a0 = 38
         ·rw [if_pos c15] at H
          obtain ⟨c15b0, c15b1⟩ := eqs c15
          clear c15
          (first | rw [c15b0] | (simp only [i64_w, i32_w]; rw [c15b0]) | skip)
          have H' := Aside0.mk H
          clear H
          go_wp2
          go_meet
          case rel => exact ⟨_, ((a0 == 38)), fj, H', ⟨by have := HJ3.out; have := HJ7.out; first | omega | exact Nat.le_refl _⟩, fd⟩
         ·rw [if_neg c15] at H
          have c15b0 : (a0 == 38) = false := beq_eq_false_iff_ne.mpr c15
          have c15b1 : (a0 != 38) = true := bne_iff_ne.mpr c15
          (first | rw [c15b0] | (simp only [i64_w, i32_w]; rw [c15b0]) | skip)
          have H' := Aside0.mk H
          clear H
          go_wp2
          go_meet
          case rel => exact ⟨_, ((a0 == 23)), fj, H', ⟨by have := HJ3.out; have := HJ7.out; first | omega | exact Nat.le_refl _⟩, fd⟩
        case rest =>
         clear HC14
         try clear c1
         try clear p2
         try clear c3
         try clear c5
         try clear c5b0
         try clear c5b1
         try clear c6
         try clear p6
         try clear c7
         try clear c7b0
         try clear c7b1
         try clear c9
         try clear c9b0
         try clear c9b1
         try clear c10
         try clear c12
         try clear c12b0
         try clear c12b1
         try clear c15
         try clear c15b0
         try clear c15b1
         try clear p2
         try clear p6
         obtain ⟨kq, x29_13, rfl, HA, HJ13, ⟨mc13, rfl⟩⟩ := hcut
         cases kq with
         | zero => exact absurd HA.out (by simp [alu_plain.j2])
         | succ kj13 =>
          have H := HA.out
          clear HA
          simp only [alu_plain.j2] at H
          by_cases c16 : x29_13 = true
          ·subst c16
           have H1 : ((alu_flag.f (decide (a1 < a2))).bind fun t101 => (some t101)) = some r := by rw [if_pos rfl] at H; exact H
           clear H
           have H := H1
           clear H1
           replace H := be H
           obtain ⟨t101, A17, H⟩ := H
           obtain rfl := Option.some.inj H
           go_wp2_with (first | ((with_reducible refine gate_callee (f := 18) rfl ?_); refine goesL_ (some 35) rfl rfl Try.func18 (by kernel_rfl) rfl #[.bool (decide (a1 < a2))] rfl ga ?_; (with_reducible refine (alu_flag.calls (decide (a1 < a2)) t101 _ A17.out).mono ?_); rintro e w' ⟨rfl, ⟨nd, rfl⟩⟩; refine ⟨_, rfl, ?_⟩))
           go_ret
           exact ⟨fj, fd⟩
          ·replace c16 := Bool.eq_false_iff.mpr c16
           subst c16
           have H1 : (if a0 = 39 then (alu_plain.j3 kj13 a1 a2 (Go.bits .and .u64 (IntKind.u64.wrap (a2)) 63) a0 (a0 == 39)) else (alu_plain.j3 kj13 a1 a2 (Go.bits .and .u64 (IntKind.u64.wrap (a2)) 63) a0 (a0 == 24))) = some r := by rw [if_neg (show ¬ (false = true) by decide)] at H; exact H
           clear H
           have H := H1
           clear H1
           have HC18 := Aside0.mk H
           clear H
           go_upto_if 36 with (fail)
           go_cut [36] (fun v36 wc => ∃ (kq : Nat) (x36_17 : Bool), v36 = .bool x36_17 ∧ Aside0 (alu_plain.j3 kq a1 a2 (Go.bits .and .u64 (IntKind.u64.wrap (a2)) 63) a0 x36_17 = some r) ∧ Aside0 (kq ≤ kj13) ∧ Drawn0 w wc)
           case first =>
            have H := HC18.out
            clear HC18
            by_cases c19 : a0 = 39
            ·rw [if_pos c19] at H
             obtain ⟨c19b0, c19b1⟩ := eqs c19
             clear c19
             (first | rw [c19b0] | (simp only [i64_w, i32_w]; rw [c19b0]) | skip)
             have H' := Aside0.mk H
             clear H
             go_wp2
             go_meet
             case rel => exact ⟨_, ((a0 == 39)), fj, H', ⟨by have := HJ3.out; have := HJ7.out; have := HJ13.out; first | omega | exact Nat.le_refl _⟩, fd⟩
            ·rw [if_neg c19] at H
             have c19b0 : (a0 == 39) = false := beq_eq_false_iff_ne.mpr c19
             have c19b1 : (a0 != 39) = true := bne_iff_ne.mpr c19
             (first | rw [c19b0] | (simp only [i64_w, i32_w]; rw [c19b0]) | skip)
             have H' := Aside0.mk H
             clear H
             go_wp2
             go_meet
             case rel => exact ⟨_, ((a0 == 24)), fj, H', ⟨by have := HJ3.out; have := HJ7.out; have := HJ13.out; first | omega | exact Nat.le_refl _⟩, fd⟩
           case rest =>
            clear HC18
            try clear c1
            try clear p2
            try clear c3
            try clear c5
            try clear c5b0
            try clear c5b1
            try clear c6
            try clear p6
            try clear c7
            try clear c7b0
            try clear c7b1
            try clear c9
            try clear c9b0
            try clear c9b1
            try clear c10
            try clear c12
            try clear c12b0
            try clear c12b1
            try clear c13
            try clear c15
            try clear c15b0
            try clear c15b1
            try clear c16
            try clear c18
            try clear c19
            try clear c19b0
            try clear c19b1
            try clear p2
            try clear p6
            obtain ⟨kq, x36_17, rfl, HA, HJ17, ⟨mc17, rfl⟩⟩ := hcut
            cases kq with
            | zero => exact absurd HA.out (by simp [alu_plain.j3])
            | succ kj17 =>
             have H := HA.out
             clear HA
             simp only [alu_plain.j3] at H
             by_cases c20 : x36_17 = true
             ·subst c20
              have H1 : ((alu_flag.f (decide ((IntKind.u64.wrap (a1)) < (IntKind.u64.wrap (a2))))).bind fun t102 => (some t102)) = some r := by rw [if_pos rfl] at H; exact H
              clear H
              have H := H1
              clear H1
              replace H := be H
              obtain ⟨t102, A21, H⟩ := H
              obtain rfl := Option.some.inj H
              go_wp2_with (first | ((with_reducible refine gate_callee (f := 18) rfl ?_); refine goesL_ (some 44) rfl rfl Try.func18 (by kernel_rfl) rfl #[.bool (decide ((IntKind.u64.wrap (a1)) < (IntKind.u64.wrap (a2))))] rfl ga ?_; (with_reducible refine (alu_flag.calls (decide ((IntKind.u64.wrap (a1)) < (IntKind.u64.wrap (a2)))) t102 _ A21.out).mono ?_); rintro e w' ⟨rfl, ⟨nd, rfl⟩⟩; refine ⟨_, rfl, ?_⟩))
              go_ret
              exact ⟨fj, fd⟩
             ·replace c20 := Bool.eq_false_iff.mpr c20
              subst c20
              have H1 : (if a0 = 40 then (alu_plain.j4 kj17 a1 a2 (Go.bits .and .u64 (IntKind.u64.wrap (a2)) 63) a0 (a0 == 40)) else (alu_plain.j4 kj17 a1 a2 (Go.bits .and .u64 (IntKind.u64.wrap (a2)) 63) a0 (a0 == 25))) = some r := by rw [if_neg (show ¬ (false = true) by decide)] at H; exact H
              clear H
              have H := H1
              clear H1
              have HC22 := Aside0.mk H
              clear H
              go_upto_if 45 with (fail)
              go_cut [45] (fun v45 wc => ∃ (kq : Nat) (x45_21 : Bool), v45 = .bool x45_21 ∧ Aside0 (alu_plain.j4 kq a1 a2 (Go.bits .and .u64 (IntKind.u64.wrap (a2)) 63) a0 x45_21 = some r) ∧ Aside0 (kq ≤ kj17) ∧ Drawn0 w wc)
              case first =>
               have H := HC22.out
               clear HC22
               by_cases c23 : a0 = 40
               ·rw [if_pos c23] at H
                obtain ⟨c23b0, c23b1⟩ := eqs c23
                clear c23
                (first | rw [c23b0] | (simp only [i64_w, i32_w]; rw [c23b0]) | skip)
                have H' := Aside0.mk H
                clear H
                go_wp2
                go_meet
                case rel => exact ⟨_, ((a0 == 40)), fj, H', ⟨by have := HJ3.out; have := HJ7.out; have := HJ13.out; have := HJ17.out; first | omega | exact Nat.le_refl _⟩, fd⟩
               ·rw [if_neg c23] at H
                have c23b0 : (a0 == 40) = false := beq_eq_false_iff_ne.mpr c23
                have c23b1 : (a0 != 40) = true := bne_iff_ne.mpr c23
                (first | rw [c23b0] | (simp only [i64_w, i32_w]; rw [c23b0]) | skip)
                have H' := Aside0.mk H
                clear H
                go_wp2
                go_meet
                case rel => exact ⟨_, ((a0 == 25)), fj, H', ⟨by have := HJ3.out; have := HJ7.out; have := HJ13.out; have := HJ17.out; first | omega | exact Nat.le_refl _⟩, fd⟩
              case rest =>
               clear HC22
               try clear c1
               try clear c2
               try clear p2
               try clear c3
               try clear c5
               try clear c5b0
               try clear c5b1
               try clear c6
               try clear p6
               try clear c7
               try clear c7b0
               try clear c7b1
               try clear c9
               try clear c9b0
               try clear c9b1
               try clear c10
               try clear c12
               try clear c12b0
               try clear c12b1
               try clear c13
               try clear c15
               try clear c15b0
               try clear c15b1
               try clear c16
               try clear c17
               try clear c18
               try clear c19
               try clear c19b0
               try clear c19b1
               try clear c20
               try clear c23
               try clear c23b0
               try clear c23b1
               try clear p2
               try clear p6
               obtain ⟨kq, x45_21, rfl, HA, HJ21, ⟨mc21, rfl⟩⟩ := hcut
               cases kq with
               | zero => exact absurd HA.out (by simp [alu_plain.j4])
               | succ kj21 =>
                have H := HA.out
                clear HA
                simp only [alu_plain.j4] at H
                by_cases c24 : x45_21 = true
                ·subst c24
                 have H1 : (some (Go.bits .xor .i64 a1 a2)) = some r := by rw [if_pos rfl] at H; exact H
                 clear H
                 have H := H1
                 clear H1
                 obtain rfl := Option.some.inj H
                 go_wp2
                 go_ret
                 exact ⟨fj, fd⟩
                ·replace c24 := Bool.eq_false_iff.mpr c24
                 subst c24
                 have H1 : (if a0 = 41 then (alu_plain.j5 kj21 a1 a2 (Go.bits .and .u64 (IntKind.u64.wrap (a2)) 63) a0 (a0 == 41)) else (alu_plain.j5 kj21 a1 a2 (Go.bits .and .u64 (IntKind.u64.wrap (a2)) 63) a0 (a0 == 29))) = some r := by rw [if_neg (show ¬ (false = true) by decide)] at H; exact H
                 clear H
                 have H := H1
                 clear H1
                 have HC25 := Aside0.mk H
                 clear H
                 go_upto_if 51 with (fail)
                 go_cut [51] (fun v51 wc => ∃ (kq : Nat) (x51_24 : Bool), v51 = .bool x51_24 ∧ Aside0 (alu_plain.j5 kq a1 a2 (Go.bits .and .u64 (IntKind.u64.wrap (a2)) 63) a0 x51_24 = some r) ∧ Aside0 (kq ≤ kj21) ∧ Drawn0 w wc)
                 case first =>
                  have H := HC25.out
                  clear HC25
                  by_cases c26 : a0 = 41
                  ·rw [if_pos c26] at H
                   obtain ⟨c26b0, c26b1⟩ := eqs c26
                   clear c26
                   (first | rw [c26b0] | (simp only [i64_w, i32_w]; rw [c26b0]) | skip)
                   have H' := Aside0.mk H
                   clear H
                   go_wp2
                   go_meet
                   case rel => exact ⟨_, ((a0 == 41)), fj, H', ⟨by have := HJ3.out; have := HJ7.out; have := HJ13.out; have := HJ17.out; have := HJ21.out; first | omega | exact Nat.le_refl _⟩, fd⟩
                  ·rw [if_neg c26] at H
                   have c26b0 : (a0 == 41) = false := beq_eq_false_iff_ne.mpr c26
                   have c26b1 : (a0 != 41) = true := bne_iff_ne.mpr c26
                   (first | rw [c26b0] | (simp only [i64_w, i32_w]; rw [c26b0]) | skip)
                   have H' := Aside0.mk H
                   clear H
                   go_wp2
                   go_meet
                   case rel => exact ⟨_, ((a0 == 29)), fj, H', ⟨by have := HJ3.out; have := HJ7.out; have := HJ13.out; have := HJ17.out; have := HJ21.out; first | omega | exact Nat.le_refl _⟩, fd⟩
                 case rest =>
                  clear HC25
                  try clear c1
                  try clear c2
                  try clear p2
                  try clear c3
                  try clear c5
                  try clear c5b0
                  try clear c5b1
                  try clear c6
                  try clear p6
                  try clear c7
                  try clear c7b0
                  try clear c7b1
                  try clear c9
                  try clear c9b0
                  try clear c9b1
                  try clear c10
                  try clear c12
                  try clear c12b0
                  try clear c12b1
                  try clear c13
                  try clear c15
                  try clear c15b0
                  try clear c15b1
                  try clear c16
                  try clear c17
                  try clear c18
                  try clear c19
                  try clear c19b0
                  try clear c19b1
                  try clear c20
                  try clear c21
                  try clear c23
                  try clear c23b0
                  try clear c23b1
                  try clear c24
                  try clear c26
                  try clear c26b0
                  try clear c26b1
                  try clear p2
                  try clear p6
                  obtain ⟨kq, x51_24, rfl, HA, HJ24, ⟨mc24, rfl⟩⟩ := hcut
                  cases kq with
                  | zero => exact absurd HA.out (by simp [alu_plain.j5])
                  | succ kj24 =>
                   have H := HA.out
                   clear HA
                   simp only [alu_plain.j5] at H
                   by_cases c27 : x51_24 = true
                   ·subst c27
                    have H1 : (if 0 ≤ (Go.bits .and .u64 (IntKind.u64.wrap (a2)) 63) then (some (wrap64 (shr .u64 (IntKind.u64.wrap (a1)) (Go.bits .and .u64 (IntKind.u64.wrap (a2)) 63)))) else (none)) = some r := by rw [if_pos rfl] at H; exact H
                    clear H
                    have H := H1
                    clear H1
                    obtain ⟨ji28, hji28⟩ : ∃ j_ : Int, (Go.bits .and .u64 (IntKind.u64.wrap (a2)) 63) = j_ := ⟨_, rfl⟩
                    replace H : (if 0 ≤ (ji28) then (some (wrap64 (shr .u64 (IntKind.u64.wrap (a1)) (ji28)))) else (none)) = some r := by first | (rw [hji28] at H; exact H) | (simp only [hji28] at H ⊢; exact H)
                    by_cases c29 : 0 ≤ (ji28)
                    ·rw [if_pos c29] at H
                     have c29b0 := eq_true c29
                     have c29b1 : decide (0 ≤ (ji28)) = true := decide_eq_true c29
                     clear c29
                     obtain ⟨ji30, hji30⟩ : ∃ j_ : Int, (shr .u64 (IntKind.u64.wrap (a1)) (ji28)) = j_ := ⟨_, rfl⟩
                     replace H : (some (wrap64 (ji30))) = some r := by first | (rw [hji30] at H; exact H) | (simp only [hji30] at H ⊢; exact H)
                     have hji30_ : ((IntKind.u64.wrap (a1)) / 2 ^ min (ji28).toNat 64) = ji30 := hji30
                     have hji30z : (ji28) ≤ 64 → ((IntKind.u64.wrap (a1)) / 2 ^ (ji28).toNat) = ji30 := shr_small hji30
                     obtain rfl := Option.some.inj H
                     go_wp2
                     go_ret
                     exact ⟨by first | rfl | (simp; done) | (simp only [← hji28, ← hji30] <;> (first | rfl | simp)) | (simp [*]; done), fd⟩
                    ·rw [if_neg c29] at H
                     exact absurd H (by simp)
                   ·replace c27 := Bool.eq_false_iff.mpr c27
                    subst c27
                    have H1 : (if a0 = 42 then (alu_plain.j6 kj24 a1 a2 (Go.bits .and .u64 (IntKind.u64.wrap (a2)) 63) a0 (a0 == 42)) else (alu_plain.j6 kj24 a1 a2 (Go.bits .and .u64 (IntKind.u64.wrap (a2)) 63) a0 (a0 == 30))) = some r := by rw [if_neg (show ¬ (false = true) by decide)] at H; exact H
                    clear H
                    have H := H1
                    clear H1
                    have HC31 := Aside0.mk H
                    clear H
                    go_upto_if 59 with (fail)
                    go_cut [59] (fun v59 wc => ∃ (kq : Nat) (x59_30 : Bool), v59 = .bool x59_30 ∧ Aside0 (alu_plain.j6 kq a1 a2 (Go.bits .and .u64 (IntKind.u64.wrap (a2)) 63) a0 x59_30 = some r) ∧ Aside0 (kq ≤ kj24) ∧ Drawn0 w wc)
                    case first =>
                     have H := HC31.out
                     clear HC31
                     by_cases c32 : a0 = 42
                     ·rw [if_pos c32] at H
                      obtain ⟨c32b0, c32b1⟩ := eqs c32
                      clear c32
                      (first | rw [c32b0] | (simp only [i64_w, i32_w]; rw [c32b0]) | skip)
                      have H' := Aside0.mk H
                      clear H
                      go_wp2
                      go_meet
                      case rel => exact ⟨_, ((a0 == 42)), fj, H', ⟨by have := HJ3.out; have := HJ7.out; have := HJ13.out; have := HJ17.out; have := HJ21.out; have := HJ24.out; first | omega | exact Nat.le_refl _⟩, fd⟩
                     ·rw [if_neg c32] at H
                      have c32b0 : (a0 == 42) = false := beq_eq_false_iff_ne.mpr c32
                      have c32b1 : (a0 != 42) = true := bne_iff_ne.mpr c32
                      (first | rw [c32b0] | (simp only [i64_w, i32_w]; rw [c32b0]) | skip)
                      have H' := Aside0.mk H
                      clear H
                      go_wp2
                      go_meet
                      case rel => exact ⟨_, ((a0 == 30)), fj, H', ⟨by have := HJ3.out; have := HJ7.out; have := HJ13.out; have := HJ17.out; have := HJ21.out; have := HJ24.out; first | omega | exact Nat.le_refl _⟩, fd⟩
                    case rest =>
                     clear HC31
                     try clear c1
                     try clear c2
                     try clear p2
                     try clear c3
                     try clear c5
                     try clear c5b0
                     try clear c5b1
                     try clear c6
                     try clear p6
                     try clear c7
                     try clear c7b0
                     try clear c7b1
                     try clear c9
                     try clear c9b0
                     try clear c9b1
                     try clear c10
                     try clear c12
                     try clear c12b0
                     try clear c12b1
                     try clear c13
                     try clear c15
                     try clear c15b0
                     try clear c15b1
                     try clear c16
                     try clear c17
                     try clear c18
                     try clear c19
                     try clear c19b0
                     try clear c19b1
                     try clear c20
                     try clear c21
                     try clear c23
                     try clear c23b0
                     try clear c23b1
                     try clear c24
                     try clear c26
                     try clear c26b0
                     try clear c26b1
                     try clear c27
                     try clear c29
                     try clear c29b0
                     try clear c29b1
                     try clear c32
                     try clear c32b0
                     try clear c32b1
                     try clear p2
                     try clear p6
                     obtain ⟨kq, x59_30, rfl, HA, HJ30, ⟨mc30, rfl⟩⟩ := hcut
                     cases kq with
                     | zero => exact absurd HA.out (by simp [alu_plain.j6])
                     | succ kj30 =>
                      have H := HA.out
                      clear HA
                      simp only [alu_plain.j6] at H
                      by_cases c33 : x59_30 = true
                      ·subst c33
                       have H1 : (if 0 ≤ (Go.bits .and .u64 (IntKind.u64.wrap (a2)) 63) then (some (shr .i64 a1 (Go.bits .and .u64 (IntKind.u64.wrap (a2)) 63))) else (none)) = some r := by rw [if_pos rfl] at H; exact H
                       clear H
                       have H := H1
                       clear H1
                       obtain ⟨ji34, hji34⟩ : ∃ j_ : Int, (Go.bits .and .u64 (IntKind.u64.wrap (a2)) 63) = j_ := ⟨_, rfl⟩
                       replace H : (if 0 ≤ (ji34) then (some (shr .i64 a1 (ji34))) else (none)) = some r := by first | (rw [hji34] at H; exact H) | (simp only [hji34] at H ⊢; exact H)
                       by_cases c35 : 0 ≤ (ji34)
                       ·rw [if_pos c35] at H
                        have c35b0 := eq_true c35
                        have c35b1 : decide (0 ≤ (ji34)) = true := decide_eq_true c35
                        clear c35
                        obtain ⟨ji36, hji36⟩ : ∃ j_ : Int, (shr .i64 a1 (ji34)) = j_ := ⟨_, rfl⟩
                        replace H : (some ji36) = some r := by first | (rw [hji36] at H; exact H) | (simp only [hji36] at H ⊢; exact H)
                        have hji36_ : (a1 / 2 ^ min (ji34).toNat 64) = ji36 := hji36
                        have hji36z : (ji34) ≤ 64 → (a1 / 2 ^ (ji34).toNat) = ji36 := shr_small hji36
                        obtain rfl := Option.some.inj H
                        go_wp2
                        go_ret
                        exact ⟨by first | rfl | (simp; done) | (simp only [← hji34, ← hji36] <;> (first | rfl | simp)) | (simp [*]; done), fd⟩
                       ·rw [if_neg c35] at H
                        exact absurd H (by simp)
                      ·replace c33 := Bool.eq_false_iff.mpr c33
                       subst c33
                       have H1 : (if a0 = 43 then (some (Go.bits .or .i64 a1 a2)) else (if a0 = 26 then (some (Go.bits .or .i64 a1 a2)) else (some (Go.bits .and .i64 a1 a2)))) = some r := by rw [if_neg (show ¬ (false = true) by decide)] at H; exact H
                       clear H
                       have H := H1
                       clear H1
                       by_cases c37 : a0 = 43
                       ·rw [if_pos c37] at H
                        obtain ⟨c37b0, c37b1⟩ := eqs c37
                        clear c37
                        obtain rfl := Option.some.inj H
                        go_wp2
                        go_ret
                        exact ⟨fj, fd⟩
                       ·rw [if_neg c37] at H
                        have c37b0 : (a0 == 43) = false := beq_eq_false_iff_ne.mpr c37
                        have c37b1 : (a0 != 43) = true := bne_iff_ne.mpr c37
                        by_cases c38 : a0 = 26
                        ·rw [if_pos c38] at H
                         obtain ⟨c38b0, c38b1⟩ := eqs c38
                         clear c38
                         obtain rfl := Option.some.inj H
                         go_wp2
                         go_ret
                         exact ⟨fj, fd⟩
                        ·rw [if_neg c38] at H
                         have c38b0 : (a0 == 26) = false := beq_eq_false_iff_ne.mpr c38
                         have c38b1 : (a0 != 26) = true := bne_iff_ne.mpr c38
                         obtain rfl := Option.some.inj H
                         go_wp2
                         go_ret
                         exact ⟨fj, fd⟩

/-! ### alu_half: function 19 -/
def alu_half.f (a0 : Int) : Option (Int) := some (wrap64 (wrap32 (a0)))
set_option maxHeartbeats 8000000 in
set_option maxRecDepth 100000 in
theorem alu_half.calls (a0 : Int) (r : Int) (w : World) (h : alu_half.f a0 = some r) :
  Calls Try.prog 19 #[.int .i64 a0] w fun e w' => e = .returned (.int .i64 r) ∧ Drawn0 w w' := by
 have H : (some (wrap64 (wrap32 (a0)))) = some r := h
 clear h
 obtain rfl := Option.some.inj H
 go_enter Try.func19, Try.ntmps19
 go_wp2
 go_ret
 exact ⟨fj, fd⟩

end Go.Proofs.Ytmkcnbaknnohgaa.GAluEvals
