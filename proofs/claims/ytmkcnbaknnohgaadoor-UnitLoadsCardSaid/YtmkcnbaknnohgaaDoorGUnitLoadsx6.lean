-- Written by wip/stub.py of this repo.
import Derived.Test.YtmkcnbaknnohgaaDoorGUnitLoadsx0
import Derived.Test.YtmkcnbaknnohgaaDoorGUnitLoadsx3
namespace Go.Proofs.YtmkcnbaknnohgaaDoor.GUnitLoads
open Go.RowKit Go.Proofs.YtmkcnbaknnohgaaDoorW.PrintWords Go.Proofs.YtmkcnbaknnohgaaDoorW.PrintLast Go.Proofs.YtmkcnbaknnohgaaDoorW.PrintMore
attribute [local go_sem] max2_int min2_int max_two min_two max_three min_three max_four min_four   -- for this text's walks alone
set_option linter.unusedVariables false
set_option linter.unusedSimpArgs false

/-! ### spinnakerref07_base: function 29 -/
def spinnakerref07_base.j0 : Nat → ByteArray → ByteArray → Bool → Option (ByteArray)
  | 0, _, _, _ => none
  | k + 1, x0, x3, x4 => if x4 = true then (if 0 ≤ (wrap64 ((x0.size : Int) - 1)) then (if (wrap64 ((x0.size : Int) - 1)) ≤ (x0.size : Int) then (some (x0.extract 0 ((wrap64 ((x0.size : Int) - 1)) : Int).toNat)) else (none)) else (none)) else (if x3.toList = ([115, 108, 116, 105, 117] : List UInt8) then (some (⟨#[115, 108, 116, 117]⟩ : ByteArray)) else (if x3.toList = ([97, 100, 100, 105, 119] : List UInt8) then (if 0 ≤ (wrap64 ((x0.size : Int) - 2)) then (if (wrap64 ((x0.size : Int) - 2)) ≤ (x0.size : Int) then (if (x0.extract 0 ((wrap64 ((x0.size : Int) - 2)) : Int).toNat).size + 1 ≤ 9223372036854775807 then (some ((x0.extract 0 ((wrap64 ((x0.size : Int) - 2)) : Int).toNat) ++ (⟨#[119]⟩ : ByteArray))) else (none)) else (none)) else (none)) else (if x3.toList = ([115, 108, 108, 105, 119] : List UInt8) then (if 0 ≤ (wrap64 ((x0.size : Int) - 2)) then (if (wrap64 ((x0.size : Int) - 2)) ≤ (x0.size : Int) then (if (x0.extract 0 ((wrap64 ((x0.size : Int) - 2)) : Int).toNat).size + 1 ≤ 9223372036854775807 then (some ((x0.extract 0 ((wrap64 ((x0.size : Int) - 2)) : Int).toNat) ++ (⟨#[119]⟩ : ByteArray))) else (none)) else (none)) else (none)) else (if x3.toList = ([115, 114, 108, 105, 119] : List UInt8) then (if 0 ≤ (wrap64 ((x0.size : Int) - 2)) then (if (wrap64 ((x0.size : Int) - 2)) ≤ (x0.size : Int) then (if (x0.extract 0 ((wrap64 ((x0.size : Int) - 2)) : Int).toNat).size + 1 ≤ 9223372036854775807 then (some ((x0.extract 0 ((wrap64 ((x0.size : Int) - 2)) : Int).toNat) ++ (⟨#[119]⟩ : ByteArray))) else (none)) else (none)) else (none)) else (if x3.toList = ([115, 114, 97, 105, 119] : List UInt8) then (if 0 ≤ (wrap64 ((x0.size : Int) - 2)) then (if (wrap64 ((x0.size : Int) - 2)) ≤ (x0.size : Int) then (if (x0.extract 0 ((wrap64 ((x0.size : Int) - 2)) : Int).toNat).size + 1 ≤ 9223372036854775807 then (some ((x0.extract 0 ((wrap64 ((x0.size : Int) - 2)) : Int).toNat) ++ (⟨#[119]⟩ : ByteArray))) else (none)) else (none)) else (none)) else (some x0))))))
def spinnakerref07_base.f (k : Nat) (a0 : ByteArray) : Option (ByteArray) := if a0.toList = ([97, 100, 100, 105] : List UInt8) then (spinnakerref07_base.j0 k a0 a0 (a0.toList == ([97, 100, 100, 105] : List UInt8))) else (if a0.toList = ([115, 108, 116, 105] : List UInt8) then (spinnakerref07_base.j0 k a0 a0 (a0.toList == ([115, 108, 116, 105] : List UInt8))) else (if a0.toList = ([120, 111, 114, 105] : List UInt8) then (spinnakerref07_base.j0 k a0 a0 (a0.toList == ([120, 111, 114, 105] : List UInt8))) else (if a0.toList = ([111, 114, 105] : List UInt8) then (spinnakerref07_base.j0 k a0 a0 (a0.toList == ([111, 114, 105] : List UInt8))) else (if a0.toList = ([97, 110, 100, 105] : List UInt8) then (spinnakerref07_base.j0 k a0 a0 (a0.toList == ([97, 110, 100, 105] : List UInt8))) else (if a0.toList = ([115, 108, 108, 105] : List UInt8) then (spinnakerref07_base.j0 k a0 a0 (a0.toList == ([115, 108, 108, 105] : List UInt8))) else (if a0.toList = ([115, 114, 108, 105] : List UInt8) then (spinnakerref07_base.j0 k a0 a0 (a0.toList == ([115, 114, 108, 105] : List UInt8))) else (spinnakerref07_base.j0 k a0 a0 (a0.toList == ([115, 114, 97, 105] : List UInt8)))))))))
theorem spinnakerref07_base.mono_l : ∀ k, (∀ y0 y1 y2, LeO (spinnakerref07_base.j0 k y0 y1 y2) (spinnakerref07_base.j0 (k + 1) y0 y1 y2))
 | 0 => fun _ _ _ r h => by simp [spinnakerref07_base.j0] at h
 | k + 1 => by
  have ih0 := spinnakerref07_base.mono_l k
  ·intro y0 y1 y2
   unfold spinnakerref07_base.j0
   repeat' first | (with_reducible first | exact ih0 _ _ _ | exact LeO.refl _ | exact LeO.none _ | refine LeO.ite ?_ ?_ | refine LeO.bind ?_ (fun _ => ?_)) | exact ih0 _ _ _ | exact LeO.none _ | refine LeO.ite ?_ ?_ | refine LeO.bind ?_ (fun _ => ?_)
theorem spinnakerref07_base.mono : ∀ a0 k, LeO (spinnakerref07_base.f k a0) (spinnakerref07_base.f (k + 1) a0) := by
 intro a0 k
 have ih0 := spinnakerref07_base.mono_l k
 unfold spinnakerref07_base.f
 repeat' first | (with_reducible first | exact ih0 _ _ _ | exact LeO.refl _ | exact LeO.none _ | refine LeO.ite ?_ ?_ | refine LeO.bind ?_ (fun _ => ?_)) | exact ih0 _ _ _ | exact LeO.none _ | refine LeO.ite ?_ ?_ | refine LeO.bind ?_ (fun _ => ?_)
set_option maxHeartbeats 8000000 in
set_option maxRecDepth 100000 in
theorem spinnakerref07_base.calls (k : Nat) (a0 : ByteArray) (r : ByteArray) (w : World) (h : spinnakerref07_base.f k a0 = some r) :
  Calls Tryd.prog 29 #[.string a0] w fun e w' => e = .returned (.string r) ∧ Drawn0 w w' := by
 have H : (if a0.toList = ([97, 100, 100, 105] : List UInt8) then (spinnakerref07_base.j0 k a0 a0 (a0.toList == ([97, 100, 100, 105] : List UInt8))) else (if a0.toList = ([115, 108, 116, 105] : List UInt8) then (spinnakerref07_base.j0 k a0 a0 (a0.toList == ([115, 108, 116, 105] : List UInt8))) else (if a0.toList = ([120, 111, 114, 105] : List UInt8) then (spinnakerref07_base.j0 k a0 a0 (a0.toList == ([120, 111, 114, 105] : List UInt8))) else (if a0.toList = ([111, 114, 105] : List UInt8) then (spinnakerref07_base.j0 k a0 a0 (a0.toList == ([111, 114, 105] : List UInt8))) else (if a0.toList = ([97, 110, 100, 105] : List UInt8) then (spinnakerref07_base.j0 k a0 a0 (a0.toList == ([97, 110, 100, 105] : List UInt8))) else (if a0.toList = ([115, 108, 108, 105] : List UInt8) then (spinnakerref07_base.j0 k a0 a0 (a0.toList == ([115, 108, 108, 105] : List UInt8))) else (if a0.toList = ([115, 114, 108, 105] : List UInt8) then (spinnakerref07_base.j0 k a0 a0 (a0.toList == ([115, 114, 108, 105] : List UInt8))) else (spinnakerref07_base.j0 k a0 a0 (a0.toList == ([115, 114, 97, 105] : List UInt8)))))))))) = some r := h
 clear h
 have HC2 := Aside0.mk H
 clear H
 go_enter Tryd.func29, Tryd.ntmps29
 go_upto_if 4 with (fail)
 go_cut [4] (fun v4 wc => ∃ (kq : Nat) (x4_1 : Bool), v4 = .bool x4_1 ∧ Aside0 (spinnakerref07_base.j0 kq a0 a0 x4_1 = some r) ∧ Aside0 (kq ≤ k) ∧ Drawn0 w wc)
 case first =>
  have H := HC2.out
  clear HC2
  by_cases c3 : a0.toList = ([97, 100, 100, 105] : List UInt8)
  ·rw [if_pos c3] at H
   have c3b0 : (a0.toList == ([97, 100, 100, 105] : List UInt8)) = true := beq_iff_eq.mpr c3
   have c3b1 : (a0.toList != ([97, 100, 100, 105] : List UInt8)) = false := bne_eq_false_iff_eq.mpr c3
   clear c3
   (first | rw [c3b0] | (simp only [i64_w, i32_w]; rw [c3b0]) | skip)
   have H' := Aside0.mk H
   clear H
   go_wp2
   go_meet
   case rel => exact ⟨_, ((a0.toList == ([97, 100, 100, 105] : List UInt8))), fj, H', ⟨by first | omega | exact Nat.le_refl _⟩, fd⟩
  ·rw [if_neg c3] at H
   have c3b0 : (a0.toList == ([97, 100, 100, 105] : List UInt8)) = false := beq_eq_false_iff_ne.mpr c3
   have c3b1 : (a0.toList != ([97, 100, 100, 105] : List UInt8)) = true := bne_iff_ne.mpr c3
   (first | rw [c3b0] | (simp only [i64_w, i32_w]; rw [c3b0]) | skip)
   by_cases c4 : a0.toList = ([115, 108, 116, 105] : List UInt8)
   ·rw [if_pos c4] at H
    have c4b0 : (a0.toList == ([115, 108, 116, 105] : List UInt8)) = true := beq_iff_eq.mpr c4
    have c4b1 : (a0.toList != ([115, 108, 116, 105] : List UInt8)) = false := bne_eq_false_iff_eq.mpr c4
    clear c4
    have H' := Aside0.mk H
    clear H
    go_wp2
    go_meet
    case rel => exact ⟨_, ((a0.toList == ([115, 108, 116, 105] : List UInt8))), fj, H', ⟨by first | omega | exact Nat.le_refl _⟩, fd⟩
   ·rw [if_neg c4] at H
    have c4b0 : (a0.toList == ([115, 108, 116, 105] : List UInt8)) = false := beq_eq_false_iff_ne.mpr c4
    have c4b1 : (a0.toList != ([115, 108, 116, 105] : List UInt8)) = true := bne_iff_ne.mpr c4
    by_cases c5 : a0.toList = ([120, 111, 114, 105] : List UInt8)
    ·rw [if_pos c5] at H
     have c5b0 : (a0.toList == ([120, 111, 114, 105] : List UInt8)) = true := beq_iff_eq.mpr c5
     have c5b1 : (a0.toList != ([120, 111, 114, 105] : List UInt8)) = false := bne_eq_false_iff_eq.mpr c5
     clear c5
     have H' := Aside0.mk H
     clear H
     go_wp2
     go_meet
     case rel => exact ⟨_, ((a0.toList == ([120, 111, 114, 105] : List UInt8))), fj, H', ⟨by first | omega | exact Nat.le_refl _⟩, fd⟩
    ·rw [if_neg c5] at H
     have c5b0 : (a0.toList == ([120, 111, 114, 105] : List UInt8)) = false := beq_eq_false_iff_ne.mpr c5
     have c5b1 : (a0.toList != ([120, 111, 114, 105] : List UInt8)) = true := bne_iff_ne.mpr c5
     by_cases c6 : a0.toList = ([111, 114, 105] : List UInt8)
     ·rw [if_pos c6] at H
      have c6b0 : (a0.toList == ([111, 114, 105] : List UInt8)) = true := beq_iff_eq.mpr c6
      have c6b1 : (a0.toList != ([111, 114, 105] : List UInt8)) = false := bne_eq_false_iff_eq.mpr c6
      clear c6
      have H' := Aside0.mk H
      clear H
      go_wp2
      go_meet
      case rel => exact ⟨_, ((a0.toList == ([111, 114, 105] : List UInt8))), fj, H', ⟨by first | omega | exact Nat.le_refl _⟩, fd⟩
     ·rw [if_neg c6] at H
      have c6b0 : (a0.toList == ([111, 114, 105] : List UInt8)) = false := beq_eq_false_iff_ne.mpr c6
      have c6b1 : (a0.toList != ([111, 114, 105] : List UInt8)) = true := bne_iff_ne.mpr c6
      by_cases c7 : a0.toList = ([97, 110, 100, 105] : List UInt8)
      ·rw [if_pos c7] at H
       have c7b0 : (a0.toList == ([97, 110, 100, 105] : List UInt8)) = true := beq_iff_eq.mpr c7
       have c7b1 : (a0.toList != ([97, 110, 100, 105] : List UInt8)) = false := bne_eq_false_iff_eq.mpr c7
       clear c7
       have H' := Aside0.mk H
       clear H
       go_wp2
       go_meet
       case rel => exact ⟨_, ((a0.toList == ([97, 110, 100, 105] : List UInt8))), fj, H', ⟨by first | omega | exact Nat.le_refl _⟩, fd⟩
      ·rw [if_neg c7] at H
       have c7b0 : (a0.toList == ([97, 110, 100, 105] : List UInt8)) = false := beq_eq_false_iff_ne.mpr c7
       have c7b1 : (a0.toList != ([97, 110, 100, 105] : List UInt8)) = true := bne_iff_ne.mpr c7
       by_cases c8 : a0.toList = ([115, 108, 108, 105] : List UInt8)
       ·rw [if_pos c8] at H
        have c8b0 : (a0.toList == ([115, 108, 108, 105] : List UInt8)) = true := beq_iff_eq.mpr c8
        have c8b1 : (a0.toList != ([115, 108, 108, 105] : List UInt8)) = false := bne_eq_false_iff_eq.mpr c8
        clear c8
        have H' := Aside0.mk H
        clear H
        go_wp2
        go_meet
        case rel => exact ⟨_, ((a0.toList == ([115, 108, 108, 105] : List UInt8))), fj, H', ⟨by first | omega | exact Nat.le_refl _⟩, fd⟩
       ·rw [if_neg c8] at H
        have c8b0 : (a0.toList == ([115, 108, 108, 105] : List UInt8)) = false := beq_eq_false_iff_ne.mpr c8
        have c8b1 : (a0.toList != ([115, 108, 108, 105] : List UInt8)) = true := bne_iff_ne.mpr c8
        by_cases c9 : a0.toList = ([115, 114, 108, 105] : List UInt8)
        ·rw [if_pos c9] at H
         have c9b0 : (a0.toList == ([115, 114, 108, 105] : List UInt8)) = true := beq_iff_eq.mpr c9
         have c9b1 : (a0.toList != ([115, 114, 108, 105] : List UInt8)) = false := bne_eq_false_iff_eq.mpr c9
         clear c9
         have H' := Aside0.mk H
         clear H
         go_wp2
         go_meet
         case rel => exact ⟨_, ((a0.toList == ([115, 114, 108, 105] : List UInt8))), fj, H', ⟨by first | omega | exact Nat.le_refl _⟩, fd⟩
        ·rw [if_neg c9] at H
         have c9b0 : (a0.toList == ([115, 114, 108, 105] : List UInt8)) = false := beq_eq_false_iff_ne.mpr c9
         have c9b1 : (a0.toList != ([115, 114, 108, 105] : List UInt8)) = true := bne_iff_ne.mpr c9
         have H' := Aside0.mk H
         clear H
         go_wp2
         go_meet
         case rel => exact ⟨_, ((a0.toList == ([115, 114, 97, 105] : List UInt8))), fj, H', ⟨by first | omega | exact Nat.le_refl _⟩, fd⟩
 case rest =>
  clear HC2
  try clear c2
  try clear p2
  try clear c3
  try clear c3b0
  try clear c3b1
  try clear c4
  try clear c4b0
  try clear c4b1
  try clear c5
  try clear c5b0
  try clear c5b1
  try clear c6
  try clear c6b0
  try clear c6b1
  try clear c7
  try clear c7b0
  try clear c7b1
  try clear c8
  try clear c8b0
  try clear c8b1
  try clear c9
  try clear c9b0
  try clear c9b1
  obtain ⟨kq, x4_1, rfl, HA, HJ1, ⟨mc1, rfl⟩⟩ := hcut
  cases kq with
  | zero => exact absurd HA.out (by simp [spinnakerref07_base.j0])
  | succ kj1 =>
   have H := HA.out
   clear HA
   simp only [spinnakerref07_base.j0] at H
   by_cases c10 : x4_1 = true
   ·subst c10
    have H1 : (if 0 ≤ (wrap64 ((a0.size : Int) - 1)) then (if (wrap64 ((a0.size : Int) - 1)) ≤ (a0.size : Int) then (some (a0.extract 0 ((wrap64 ((a0.size : Int) - 1)) : Int).toNat)) else (none)) else (none)) = some r := by rw [if_pos rfl] at H; exact H
    clear H
    have H := H1
    clear H1
    obtain ⟨ji11, hji11⟩ : ∃ j_ : Int, (wrap64 ((a0.size : Int) - 1)) = j_ := ⟨_, rfl⟩
    replace H : (if 0 ≤ (ji11) then (if (ji11) ≤ (a0.size : Int) then (some (a0.extract 0 ((ji11) : Int).toNat)) else (none)) else (none)) = some r := by first | (rw [hji11] at H; exact H) | (simp only [hji11] at H ⊢; exact H)
    have hji11w : (IntKind.i64.wrap ((a0.size : Int) - 1)) = ji11 := (i64_w _).trans hji11
    by_cases c12 : 0 ≤ (ji11)
    ·rw [if_pos c12] at H
     have c12b0 := eq_true c12
     have c12b1 : decide (0 ≤ (ji11)) = true := decide_eq_true c12
     clear c12
     by_cases c13 : (ji11) ≤ (a0.size : Int)
     ·rw [if_pos c13] at H
      have c13b0 := eq_true c13
      have c13b1 : decide ((ji11) ≤ (a0.size : Int)) = true := decide_eq_true c13
      clear c13
      obtain rfl := Option.some.inj H
      go_wp2
      go_ret
      exact ⟨by first | rfl | (simp; done) | (simp only [← hji11] <;> (first | rfl | simp)) | (simp [*]; done), fd⟩
     ·rw [if_neg c13] at H
      exact absurd H (by simp)
    ·rw [if_neg c12] at H
     exact absurd H (by simp)
   ·replace c10 := Bool.eq_false_iff.mpr c10
    subst c10
    have H1 : (if a0.toList = ([115, 108, 116, 105, 117] : List UInt8) then (some (⟨#[115, 108, 116, 117]⟩ : ByteArray)) else (if a0.toList = ([97, 100, 100, 105, 119] : List UInt8) then (if 0 ≤ (wrap64 ((a0.size : Int) - 2)) then (if (wrap64 ((a0.size : Int) - 2)) ≤ (a0.size : Int) then (if (a0.extract 0 ((wrap64 ((a0.size : Int) - 2)) : Int).toNat).size + 1 ≤ 9223372036854775807 then (some ((a0.extract 0 ((wrap64 ((a0.size : Int) - 2)) : Int).toNat) ++ (⟨#[119]⟩ : ByteArray))) else (none)) else (none)) else (none)) else (if a0.toList = ([115, 108, 108, 105, 119] : List UInt8) then (if 0 ≤ (wrap64 ((a0.size : Int) - 2)) then (if (wrap64 ((a0.size : Int) - 2)) ≤ (a0.size : Int) then (if (a0.extract 0 ((wrap64 ((a0.size : Int) - 2)) : Int).toNat).size + 1 ≤ 9223372036854775807 then (some ((a0.extract 0 ((wrap64 ((a0.size : Int) - 2)) : Int).toNat) ++ (⟨#[119]⟩ : ByteArray))) else (none)) else (none)) else (none)) else (if a0.toList = ([115, 114, 108, 105, 119] : List UInt8) then (if 0 ≤ (wrap64 ((a0.size : Int) - 2)) then (if (wrap64 ((a0.size : Int) - 2)) ≤ (a0.size : Int) then (if (a0.extract 0 ((wrap64 ((a0.size : Int) - 2)) : Int).toNat).size + 1 ≤ 9223372036854775807 then (some ((a0.extract 0 ((wrap64 ((a0.size : Int) - 2)) : Int).toNat) ++ (⟨#[119]⟩ : ByteArray))) else (none)) else (none)) else (none)) else (if a0.toList = ([115, 114, 97, 105, 119] : List UInt8) then (if 0 ≤ (wrap64 ((a0.size : Int) - 2)) then (if (wrap64 ((a0.size : Int) - 2)) ≤ (a0.size : Int) then (if (a0.extract 0 ((wrap64 ((a0.size : Int) - 2)) : Int).toNat).size + 1 ≤ 9223372036854775807 then (some ((a0.extract 0 ((wrap64 ((a0.size : Int) - 2)) : Int).toNat) ++ (⟨#[119]⟩ : ByteArray))) else (none)) else (none)) else (none)) else (some a0)))))) = some r := by rw [if_neg (show ¬ (false = true) by decide)] at H; exact H
    clear H
    have H := H1
    clear H1
    by_cases c14 : a0.toList = ([115, 108, 116, 105, 117] : List UInt8)
    ·rw [if_pos c14] at H
     have c14b0 : (a0.toList == ([115, 108, 116, 105, 117] : List UInt8)) = true := beq_iff_eq.mpr c14
     have c14b1 : (a0.toList != ([115, 108, 116, 105, 117] : List UInt8)) = false := bne_eq_false_iff_eq.mpr c14
     clear c14
     obtain rfl := Option.some.inj H
     go_wp2
     go_ret
     exact ⟨fj, fd⟩
    ·rw [if_neg c14] at H
     have c14b0 : (a0.toList == ([115, 108, 116, 105, 117] : List UInt8)) = false := beq_eq_false_iff_ne.mpr c14
     have c14b1 : (a0.toList != ([115, 108, 116, 105, 117] : List UInt8)) = true := bne_iff_ne.mpr c14
     by_cases c15 : a0.toList = ([97, 100, 100, 105, 119] : List UInt8)
     ·rw [if_pos c15] at H
      have c15b0 : (a0.toList == ([97, 100, 100, 105, 119] : List UInt8)) = true := beq_iff_eq.mpr c15
      have c15b1 : (a0.toList != ([97, 100, 100, 105, 119] : List UInt8)) = false := bne_eq_false_iff_eq.mpr c15
      clear c15
      obtain ⟨ji16, hji16⟩ : ∃ j_ : Int, (wrap64 ((a0.size : Int) - 2)) = j_ := ⟨_, rfl⟩
      replace H : (if 0 ≤ (ji16) then (if (ji16) ≤ (a0.size : Int) then (if (a0.extract 0 ((ji16) : Int).toNat).size + 1 ≤ 9223372036854775807 then (some ((a0.extract 0 ((ji16) : Int).toNat) ++ (⟨#[119]⟩ : ByteArray))) else (none)) else (none)) else (none)) = some r := by first | (rw [hji16] at H; exact H) | (simp only [hji16] at H ⊢; exact H)
      have hji16w : (IntKind.i64.wrap ((a0.size : Int) - 2)) = ji16 := (i64_w _).trans hji16
      by_cases c17 : 0 ≤ (ji16)
      ·rw [if_pos c17] at H
       have c17b0 := eq_true c17
       have c17b1 : decide (0 ≤ (ji16)) = true := decide_eq_true c17
       clear c17
       by_cases c18 : (ji16) ≤ (a0.size : Int)
       ·rw [if_pos c18] at H
        have c18b0 := eq_true c18
        have c18b1 : decide ((ji16) ≤ (a0.size : Int)) = true := decide_eq_true c18
        clear c18
        by_cases c19 : (a0.extract 0 ((ji16) : Int).toNat).size + 1 ≤ 9223372036854775807
        ·rw [if_pos c19] at H
         have c19b0 := eq_true c19
         have c19b1 : decide ((a0.extract 0 ((ji16) : Int).toNat).size + 1 ≤ 9223372036854775807) = true := decide_eq_true c19
         try have c19b2 : (9223372036854775807 < (a0.extract 0 ((ji16) : Int).toNat).size + 1) = False := eq_false (Nat.not_lt.2 c19)
         have c19b3 : (9223372036854775807 < (ji16).toNat + 1) = False := eq_false (by have h18 := of_eq_true (by assumption : ((ji16) ≤ (a0.size : Int)) = True); have h19 := c19; rw [ByteArray.size_extract] at h19; omega)
         obtain rfl := Option.some.inj H
         go_wp2
         go_ret
         exact ⟨by first | rfl | (simp; done) | (simp only [← hji16] <;> (first | rfl | simp)) | (simp [*]; done), fd⟩
        ·rw [if_neg c19] at H
         exact absurd H (by simp)
       ·rw [if_neg c18] at H
        exact absurd H (by simp)
      ·rw [if_neg c17] at H
       exact absurd H (by simp)
     ·rw [if_neg c15] at H
      have c15b0 : (a0.toList == ([97, 100, 100, 105, 119] : List UInt8)) = false := beq_eq_false_iff_ne.mpr c15
      have c15b1 : (a0.toList != ([97, 100, 100, 105, 119] : List UInt8)) = true := bne_iff_ne.mpr c15
      by_cases c20 : a0.toList = ([115, 108, 108, 105, 119] : List UInt8)
      ·rw [if_pos c20] at H
       have c20b0 : (a0.toList == ([115, 108, 108, 105, 119] : List UInt8)) = true := beq_iff_eq.mpr c20
       have c20b1 : (a0.toList != ([115, 108, 108, 105, 119] : List UInt8)) = false := bne_eq_false_iff_eq.mpr c20
       clear c20
       obtain ⟨ji21, hji21⟩ : ∃ j_ : Int, (wrap64 ((a0.size : Int) - 2)) = j_ := ⟨_, rfl⟩
       replace H : (if 0 ≤ (ji21) then (if (ji21) ≤ (a0.size : Int) then (if (a0.extract 0 ((ji21) : Int).toNat).size + 1 ≤ 9223372036854775807 then (some ((a0.extract 0 ((ji21) : Int).toNat) ++ (⟨#[119]⟩ : ByteArray))) else (none)) else (none)) else (none)) = some r := by first | (rw [hji21] at H; exact H) | (simp only [hji21] at H ⊢; exact H)
       have hji21w : (IntKind.i64.wrap ((a0.size : Int) - 2)) = ji21 := (i64_w _).trans hji21
       by_cases c22 : 0 ≤ (ji21)
       ·rw [if_pos c22] at H
        have c22b0 := eq_true c22
        have c22b1 : decide (0 ≤ (ji21)) = true := decide_eq_true c22
        clear c22
        by_cases c23 : (ji21) ≤ (a0.size : Int)
        ·rw [if_pos c23] at H
         have c23b0 := eq_true c23
         have c23b1 : decide ((ji21) ≤ (a0.size : Int)) = true := decide_eq_true c23
         clear c23
         by_cases c24 : (a0.extract 0 ((ji21) : Int).toNat).size + 1 ≤ 9223372036854775807
         ·rw [if_pos c24] at H
          have c24b0 := eq_true c24
          have c24b1 : decide ((a0.extract 0 ((ji21) : Int).toNat).size + 1 ≤ 9223372036854775807) = true := decide_eq_true c24
          try have c24b2 : (9223372036854775807 < (a0.extract 0 ((ji21) : Int).toNat).size + 1) = False := eq_false (Nat.not_lt.2 c24)
          have c24b3 : (9223372036854775807 < (ji21).toNat + 1) = False := eq_false (by have h18 := of_eq_true (by assumption : ((ji21) ≤ (a0.size : Int)) = True); have h19 := c24; rw [ByteArray.size_extract] at h19; omega)
          obtain rfl := Option.some.inj H
          go_wp2
          go_ret
          exact ⟨by first | rfl | (simp; done) | (simp only [← hji21] <;> (first | rfl | simp)) | (simp [*]; done), fd⟩
         ·rw [if_neg c24] at H
          exact absurd H (by simp)
        ·rw [if_neg c23] at H
         exact absurd H (by simp)
       ·rw [if_neg c22] at H
        exact absurd H (by simp)
      ·rw [if_neg c20] at H
       have c20b0 : (a0.toList == ([115, 108, 108, 105, 119] : List UInt8)) = false := beq_eq_false_iff_ne.mpr c20
       have c20b1 : (a0.toList != ([115, 108, 108, 105, 119] : List UInt8)) = true := bne_iff_ne.mpr c20
       by_cases c25 : a0.toList = ([115, 114, 108, 105, 119] : List UInt8)
       ·rw [if_pos c25] at H
        have c25b0 : (a0.toList == ([115, 114, 108, 105, 119] : List UInt8)) = true := beq_iff_eq.mpr c25
        have c25b1 : (a0.toList != ([115, 114, 108, 105, 119] : List UInt8)) = false := bne_eq_false_iff_eq.mpr c25
        clear c25
        obtain ⟨ji26, hji26⟩ : ∃ j_ : Int, (wrap64 ((a0.size : Int) - 2)) = j_ := ⟨_, rfl⟩
        replace H : (if 0 ≤ (ji26) then (if (ji26) ≤ (a0.size : Int) then (if (a0.extract 0 ((ji26) : Int).toNat).size + 1 ≤ 9223372036854775807 then (some ((a0.extract 0 ((ji26) : Int).toNat) ++ (⟨#[119]⟩ : ByteArray))) else (none)) else (none)) else (none)) = some r := by first | (rw [hji26] at H; exact H) | (simp only [hji26] at H ⊢; exact H)
        have hji26w : (IntKind.i64.wrap ((a0.size : Int) - 2)) = ji26 := (i64_w _).trans hji26
        by_cases c27 : 0 ≤ (ji26)
        ·rw [if_pos c27] at H
         have c27b0 := eq_true c27
         have c27b1 : decide (0 ≤ (ji26)) = true := decide_eq_true c27
         clear c27
         by_cases c28 : (ji26) ≤ (a0.size : Int)
         ·rw [if_pos c28] at H
          have c28b0 := eq_true c28
          have c28b1 : decide ((ji26) ≤ (a0.size : Int)) = true := decide_eq_true c28
          clear c28
          by_cases c29 : (a0.extract 0 ((ji26) : Int).toNat).size + 1 ≤ 9223372036854775807
          ·rw [if_pos c29] at H
           have c29b0 := eq_true c29
           have c29b1 : decide ((a0.extract 0 ((ji26) : Int).toNat).size + 1 ≤ 9223372036854775807) = true := decide_eq_true c29
           try have c29b2 : (9223372036854775807 < (a0.extract 0 ((ji26) : Int).toNat).size + 1) = False := eq_false (Nat.not_lt.2 c29)
           have c29b3 : (9223372036854775807 < (ji26).toNat + 1) = False := eq_false (by have h18 := of_eq_true (by assumption : ((ji26) ≤ (a0.size : Int)) = True); have h19 := c29; rw [ByteArray.size_extract] at h19; omega)
           obtain rfl := Option.some.inj H
           go_wp2
           go_ret
           exact ⟨by first | rfl | (simp; done) | (simp only [← hji26] <;> (first | rfl | simp)) | (simp [*]; done), fd⟩
          ·rw [if_neg c29] at H
           exact absurd H (by simp)
         ·rw [if_neg c28] at H
          exact absurd H (by simp)
        ·rw [if_neg c27] at H
         exact absurd H (by simp)
       ·rw [if_neg c25] at H
        have c25b0 : (a0.toList == ([115, 114, 108, 105, 119] : List UInt8)) = false := beq_eq_false_iff_ne.mpr c25
        have c25b1 : (a0.toList != ([115, 114, 108, 105, 119] : List UInt8)) = true := bne_iff_ne.mpr c25
        by_cases c30 : a0.toList = ([115, 114, 97, 105, 119] : List UInt8)
        ·rw [if_pos c30] at H
         have c30b0 : (a0.toList == ([115, 114, 97, 105, 119] : List UInt8)) = true := beq_iff_eq.mpr c30
         have c30b1 : (a0.toList != ([115, 114, 97, 105, 119] : List UInt8)) = false := bne_eq_false_iff_eq.mpr c30
         clear c30
         obtain ⟨ji31, hji31⟩ : ∃ j_ : Int, (wrap64 ((a0.size : Int) - 2)) = j_ := ⟨_, rfl⟩
         replace H : (if 0 ≤ (ji31) then (if (ji31) ≤ (a0.size : Int) then (if (a0.extract 0 ((ji31) : Int).toNat).size + 1 ≤ 9223372036854775807 then (some ((a0.extract 0 ((ji31) : Int).toNat) ++ (⟨#[119]⟩ : ByteArray))) else (none)) else (none)) else (none)) = some r := by first | (rw [hji31] at H; exact H) | (simp only [hji31] at H ⊢; exact H)
         have hji31w : (IntKind.i64.wrap ((a0.size : Int) - 2)) = ji31 := (i64_w _).trans hji31
         by_cases c32 : 0 ≤ (ji31)
         ·rw [if_pos c32] at H
          have c32b0 := eq_true c32
          have c32b1 : decide (0 ≤ (ji31)) = true := decide_eq_true c32
          clear c32
          by_cases c33 : (ji31) ≤ (a0.size : Int)
          ·rw [if_pos c33] at H
           have c33b0 := eq_true c33
           have c33b1 : decide ((ji31) ≤ (a0.size : Int)) = true := decide_eq_true c33
           clear c33
           by_cases c34 : (a0.extract 0 ((ji31) : Int).toNat).size + 1 ≤ 9223372036854775807
           ·rw [if_pos c34] at H
            have c34b0 := eq_true c34
            have c34b1 : decide ((a0.extract 0 ((ji31) : Int).toNat).size + 1 ≤ 9223372036854775807) = true := decide_eq_true c34
            try have c34b2 : (9223372036854775807 < (a0.extract 0 ((ji31) : Int).toNat).size + 1) = False := eq_false (Nat.not_lt.2 c34)
            have c34b3 : (9223372036854775807 < (ji31).toNat + 1) = False := eq_false (by have h18 := of_eq_true (by assumption : ((ji31) ≤ (a0.size : Int)) = True); have h19 := c34; rw [ByteArray.size_extract] at h19; omega)
            obtain rfl := Option.some.inj H
            go_wp2
            go_ret
            exact ⟨by first | rfl | (simp; done) | (simp only [← hji31] <;> (first | rfl | simp)) | (simp [*]; done), fd⟩
           ·rw [if_neg c34] at H
            exact absurd H (by simp)
          ·rw [if_neg c33] at H
           exact absurd H (by simp)
         ·rw [if_neg c32] at H
          exact absurd H (by simp)
        ·rw [if_neg c30] at H
         have c30b0 : (a0.toList == ([115, 114, 97, 105, 119] : List UInt8)) = false := beq_eq_false_iff_ne.mpr c30
         have c30b1 : (a0.toList != ([115, 114, 97, 105, 119] : List UInt8)) = true := bne_iff_ne.mpr c30
         obtain rfl := Option.some.inj H
         go_wp2
         go_ret
         exact ⟨fj, fd⟩

/-! ### spinnakerref03_Names: function 37 -/
def spinnakerref03_Names.f  : Option (List ByteArray) := some (([(⟨#[108, 117, 105]⟩ : ByteArray), (⟨#[97, 117, 105, 112, 99]⟩ : ByteArray), (⟨#[106, 97, 108]⟩ : ByteArray), (⟨#[106, 97, 108, 114]⟩ : ByteArray), (⟨#[98, 101, 113]⟩ : ByteArray), (⟨#[98, 110, 101]⟩ : ByteArray), (⟨#[98, 108, 116]⟩ : ByteArray), (⟨#[98, 103, 101]⟩ : ByteArray), (⟨#[98, 108, 116, 117]⟩ : ByteArray), (⟨#[98, 103, 101, 117]⟩ : ByteArray), (⟨#[108, 98]⟩ : ByteArray), (⟨#[108, 104]⟩ : ByteArray), (⟨#[108, 119]⟩ : ByteArray), (⟨#[108, 100]⟩ : ByteArray), (⟨#[108, 98, 117]⟩ : ByteArray), (⟨#[108, 104, 117]⟩ : ByteArray), (⟨#[108, 119, 117]⟩ : ByteArray), (⟨#[115, 98]⟩ : ByteArray), (⟨#[115, 104]⟩ : ByteArray), (⟨#[115, 119]⟩ : ByteArray), (⟨#[115, 100]⟩ : ByteArray), (⟨#[97, 100, 100, 105]⟩ : ByteArray), (⟨#[115, 108, 116, 105]⟩ : ByteArray), (⟨#[115, 108, 116, 105, 117]⟩ : ByteArray), (⟨#[120, 111, 114, 105]⟩ : ByteArray), (⟨#[111, 114, 105]⟩ : ByteArray), (⟨#[97, 110, 100, 105]⟩ : ByteArray), (⟨#[115, 108, 108, 105]⟩ : ByteArray), (⟨#[115, 114, 108, 105]⟩ : ByteArray), (⟨#[115, 114, 97, 105]⟩ : ByteArray), (⟨#[97, 100, 100, 105, 119]⟩ : ByteArray), (⟨#[115, 108, 108, 105, 119]⟩ : ByteArray), (⟨#[115, 114, 108, 105, 119]⟩ : ByteArray), (⟨#[115, 114, 97, 105, 119]⟩ : ByteArray), (⟨#[97, 100, 100]⟩ : ByteArray), (⟨#[115, 117, 98]⟩ : ByteArray), (⟨#[115, 108, 108]⟩ : ByteArray), (⟨#[115, 108, 116]⟩ : ByteArray), (⟨#[115, 108, 116, 117]⟩ : ByteArray), (⟨#[120, 111, 114]⟩ : ByteArray), (⟨#[115, 114, 108]⟩ : ByteArray), (⟨#[115, 114, 97]⟩ : ByteArray), (⟨#[111, 114]⟩ : ByteArray), (⟨#[97, 110, 100]⟩ : ByteArray), (⟨#[97, 100, 100, 119]⟩ : ByteArray), (⟨#[115, 117, 98, 119]⟩ : ByteArray), (⟨#[115, 108, 108, 119]⟩ : ByteArray), (⟨#[115, 114, 108, 119]⟩ : ByteArray), (⟨#[115, 114, 97, 119]⟩ : ByteArray), (⟨#[109, 117, 108]⟩ : ByteArray), (⟨#[109, 117, 108, 104]⟩ : ByteArray), (⟨#[109, 117, 108, 104, 115, 117]⟩ : ByteArray), (⟨#[109, 117, 108, 104, 117]⟩ : ByteArray), (⟨#[100, 105, 118]⟩ : ByteArray), (⟨#[100, 105, 118, 117]⟩ : ByteArray), (⟨#[114, 101, 109]⟩ : ByteArray), (⟨#[114, 101, 109, 117]⟩ : ByteArray), (⟨#[109, 117, 108, 119]⟩ : ByteArray), (⟨#[100, 105, 118, 119]⟩ : ByteArray), (⟨#[100, 105, 118, 117, 119]⟩ : ByteArray), (⟨#[114, 101, 109, 119]⟩ : ByteArray), (⟨#[114, 101, 109, 117, 119]⟩ : ByteArray), (⟨#[102, 101, 110, 99, 101]⟩ : ByteArray), (⟨#[101, 99, 97, 108, 108]⟩ : ByteArray), (⟨#[101, 98, 114, 101, 97, 107]⟩ : ByteArray), (⟨#[108, 114, 46, 119]⟩ : ByteArray), (⟨#[115, 99, 46, 119]⟩ : ByteArray), (⟨#[97, 109, 111, 115, 119, 97, 112, 46, 119]⟩ : ByteArray), (⟨#[97, 109, 111, 97, 100, 100, 46, 119]⟩ : ByteArray), (⟨#[97, 109, 111, 120, 111, 114, 46, 119]⟩ : ByteArray), (⟨#[97, 109, 111, 97, 110, 100, 46, 119]⟩ : ByteArray), (⟨#[97, 109, 111, 111, 114, 46, 119]⟩ : ByteArray), (⟨#[97, 109, 111, 109, 105, 110, 46, 119]⟩ : ByteArray), (⟨#[97, 109, 111, 109, 97, 120, 46, 119]⟩ : ByteArray), (⟨#[97, 109, 111, 109, 105, 110, 117, 46, 119]⟩ : ByteArray), (⟨#[97, 109, 111, 109, 97, 120, 117, 46, 119]⟩ : ByteArray), (⟨#[108, 114, 46, 100]⟩ : ByteArray), (⟨#[115, 99, 46, 100]⟩ : ByteArray), (⟨#[97, 109, 111, 115, 119, 97, 112, 46, 100]⟩ : ByteArray), (⟨#[97, 109, 111, 97, 100, 100, 46, 100]⟩ : ByteArray), (⟨#[97, 109, 111, 120, 111, 114, 46, 100]⟩ : ByteArray), (⟨#[97, 109, 111, 97, 110, 100, 46, 100]⟩ : ByteArray), (⟨#[97, 109, 111, 111, 114, 46, 100]⟩ : ByteArray), (⟨#[97, 109, 111, 109, 105, 110, 46, 100]⟩ : ByteArray), (⟨#[97, 109, 111, 109, 97, 120, 46, 100]⟩ : ByteArray), (⟨#[97, 109, 111, 109, 105, 110, 117, 46, 100]⟩ : ByteArray), (⟨#[97, 109, 111, 109, 97, 120, 117, 46, 100]⟩ : ByteArray)] : List ByteArray))
set_option maxHeartbeats 8000000 in
set_option maxRecDepth 100000 in
theorem spinnakerref03_Names.calls  (r : List ByteArray) (w : World) (h : spinnakerref03_Names.f  = some r) :
  Calls Tryd.prog 37 #[] w fun e w' => ∃ v0_ : Value, e = .returned (v0_) ∧ Kd.R Kd.string 9 w' w.heap.size (fun _ => True) v0_ r ∧ Below w.heap.size w w' := by
 have HB := Aside0.mk (Below.refl w.heap.size w)
 have H : (some (([(⟨#[108, 117, 105]⟩ : ByteArray), (⟨#[97, 117, 105, 112, 99]⟩ : ByteArray), (⟨#[106, 97, 108]⟩ : ByteArray), (⟨#[106, 97, 108, 114]⟩ : ByteArray), (⟨#[98, 101, 113]⟩ : ByteArray), (⟨#[98, 110, 101]⟩ : ByteArray), (⟨#[98, 108, 116]⟩ : ByteArray), (⟨#[98, 103, 101]⟩ : ByteArray), (⟨#[98, 108, 116, 117]⟩ : ByteArray), (⟨#[98, 103, 101, 117]⟩ : ByteArray), (⟨#[108, 98]⟩ : ByteArray), (⟨#[108, 104]⟩ : ByteArray), (⟨#[108, 119]⟩ : ByteArray), (⟨#[108, 100]⟩ : ByteArray), (⟨#[108, 98, 117]⟩ : ByteArray), (⟨#[108, 104, 117]⟩ : ByteArray), (⟨#[108, 119, 117]⟩ : ByteArray), (⟨#[115, 98]⟩ : ByteArray), (⟨#[115, 104]⟩ : ByteArray), (⟨#[115, 119]⟩ : ByteArray), (⟨#[115, 100]⟩ : ByteArray), (⟨#[97, 100, 100, 105]⟩ : ByteArray), (⟨#[115, 108, 116, 105]⟩ : ByteArray), (⟨#[115, 108, 116, 105, 117]⟩ : ByteArray), (⟨#[120, 111, 114, 105]⟩ : ByteArray), (⟨#[111, 114, 105]⟩ : ByteArray), (⟨#[97, 110, 100, 105]⟩ : ByteArray), (⟨#[115, 108, 108, 105]⟩ : ByteArray), (⟨#[115, 114, 108, 105]⟩ : ByteArray), (⟨#[115, 114, 97, 105]⟩ : ByteArray), (⟨#[97, 100, 100, 105, 119]⟩ : ByteArray), (⟨#[115, 108, 108, 105, 119]⟩ : ByteArray), (⟨#[115, 114, 108, 105, 119]⟩ : ByteArray), (⟨#[115, 114, 97, 105, 119]⟩ : ByteArray), (⟨#[97, 100, 100]⟩ : ByteArray), (⟨#[115, 117, 98]⟩ : ByteArray), (⟨#[115, 108, 108]⟩ : ByteArray), (⟨#[115, 108, 116]⟩ : ByteArray), (⟨#[115, 108, 116, 117]⟩ : ByteArray), (⟨#[120, 111, 114]⟩ : ByteArray), (⟨#[115, 114, 108]⟩ : ByteArray), (⟨#[115, 114, 97]⟩ : ByteArray), (⟨#[111, 114]⟩ : ByteArray), (⟨#[97, 110, 100]⟩ : ByteArray), (⟨#[97, 100, 100, 119]⟩ : ByteArray), (⟨#[115, 117, 98, 119]⟩ : ByteArray), (⟨#[115, 108, 108, 119]⟩ : ByteArray), (⟨#[115, 114, 108, 119]⟩ : ByteArray), (⟨#[115, 114, 97, 119]⟩ : ByteArray), (⟨#[109, 117, 108]⟩ : ByteArray), (⟨#[109, 117, 108, 104]⟩ : ByteArray), (⟨#[109, 117, 108, 104, 115, 117]⟩ : ByteArray), (⟨#[109, 117, 108, 104, 117]⟩ : ByteArray), (⟨#[100, 105, 118]⟩ : ByteArray), (⟨#[100, 105, 118, 117]⟩ : ByteArray), (⟨#[114, 101, 109]⟩ : ByteArray), (⟨#[114, 101, 109, 117]⟩ : ByteArray), (⟨#[109, 117, 108, 119]⟩ : ByteArray), (⟨#[100, 105, 118, 119]⟩ : ByteArray), (⟨#[100, 105, 118, 117, 119]⟩ : ByteArray), (⟨#[114, 101, 109, 119]⟩ : ByteArray), (⟨#[114, 101, 109, 117, 119]⟩ : ByteArray), (⟨#[102, 101, 110, 99, 101]⟩ : ByteArray), (⟨#[101, 99, 97, 108, 108]⟩ : ByteArray), (⟨#[101, 98, 114, 101, 97, 107]⟩ : ByteArray), (⟨#[108, 114, 46, 119]⟩ : ByteArray), (⟨#[115, 99, 46, 119]⟩ : ByteArray), (⟨#[97, 109, 111, 115, 119, 97, 112, 46, 119]⟩ : ByteArray), (⟨#[97, 109, 111, 97, 100, 100, 46, 119]⟩ : ByteArray), (⟨#[97, 109, 111, 120, 111, 114, 46, 119]⟩ : ByteArray), (⟨#[97, 109, 111, 97, 110, 100, 46, 119]⟩ : ByteArray), (⟨#[97, 109, 111, 111, 114, 46, 119]⟩ : ByteArray), (⟨#[97, 109, 111, 109, 105, 110, 46, 119]⟩ : ByteArray), (⟨#[97, 109, 111, 109, 97, 120, 46, 119]⟩ : ByteArray), (⟨#[97, 109, 111, 109, 105, 110, 117, 46, 119]⟩ : ByteArray), (⟨#[97, 109, 111, 109, 97, 120, 117, 46, 119]⟩ : ByteArray), (⟨#[108, 114, 46, 100]⟩ : ByteArray), (⟨#[115, 99, 46, 100]⟩ : ByteArray), (⟨#[97, 109, 111, 115, 119, 97, 112, 46, 100]⟩ : ByteArray), (⟨#[97, 109, 111, 97, 100, 100, 46, 100]⟩ : ByteArray), (⟨#[97, 109, 111, 120, 111, 114, 46, 100]⟩ : ByteArray), (⟨#[97, 109, 111, 97, 110, 100, 46, 100]⟩ : ByteArray), (⟨#[97, 109, 111, 111, 114, 46, 100]⟩ : ByteArray), (⟨#[97, 109, 111, 109, 105, 110, 46, 100]⟩ : ByteArray), (⟨#[97, 109, 111, 109, 97, 120, 46, 100]⟩ : ByteArray), (⟨#[97, 109, 111, 109, 105, 110, 117, 46, 100]⟩ : ByteArray), (⟨#[97, 109, 111, 109, 97, 120, 117, 46, 100]⟩ : ByteArray)] : List ByteArray))) = some r := h
 clear h
 obtain ⟨y208, hy208⟩ : ∃ y_ : List ByteArray, y_ = (([(⟨#[108, 117, 105]⟩ : ByteArray), (⟨#[97, 117, 105, 112, 99]⟩ : ByteArray), (⟨#[106, 97, 108]⟩ : ByteArray), (⟨#[106, 97, 108, 114]⟩ : ByteArray), (⟨#[98, 101, 113]⟩ : ByteArray), (⟨#[98, 110, 101]⟩ : ByteArray), (⟨#[98, 108, 116]⟩ : ByteArray), (⟨#[98, 103, 101]⟩ : ByteArray), (⟨#[98, 108, 116, 117]⟩ : ByteArray), (⟨#[98, 103, 101, 117]⟩ : ByteArray), (⟨#[108, 98]⟩ : ByteArray), (⟨#[108, 104]⟩ : ByteArray), (⟨#[108, 119]⟩ : ByteArray), (⟨#[108, 100]⟩ : ByteArray), (⟨#[108, 98, 117]⟩ : ByteArray), (⟨#[108, 104, 117]⟩ : ByteArray), (⟨#[108, 119, 117]⟩ : ByteArray), (⟨#[115, 98]⟩ : ByteArray), (⟨#[115, 104]⟩ : ByteArray), (⟨#[115, 119]⟩ : ByteArray), (⟨#[115, 100]⟩ : ByteArray), (⟨#[97, 100, 100, 105]⟩ : ByteArray), (⟨#[115, 108, 116, 105]⟩ : ByteArray), (⟨#[115, 108, 116, 105, 117]⟩ : ByteArray), (⟨#[120, 111, 114, 105]⟩ : ByteArray), (⟨#[111, 114, 105]⟩ : ByteArray), (⟨#[97, 110, 100, 105]⟩ : ByteArray), (⟨#[115, 108, 108, 105]⟩ : ByteArray), (⟨#[115, 114, 108, 105]⟩ : ByteArray), (⟨#[115, 114, 97, 105]⟩ : ByteArray), (⟨#[97, 100, 100, 105, 119]⟩ : ByteArray), (⟨#[115, 108, 108, 105, 119]⟩ : ByteArray), (⟨#[115, 114, 108, 105, 119]⟩ : ByteArray), (⟨#[115, 114, 97, 105, 119]⟩ : ByteArray), (⟨#[97, 100, 100]⟩ : ByteArray), (⟨#[115, 117, 98]⟩ : ByteArray), (⟨#[115, 108, 108]⟩ : ByteArray), (⟨#[115, 108, 116]⟩ : ByteArray), (⟨#[115, 108, 116, 117]⟩ : ByteArray), (⟨#[120, 111, 114]⟩ : ByteArray), (⟨#[115, 114, 108]⟩ : ByteArray), (⟨#[115, 114, 97]⟩ : ByteArray), (⟨#[111, 114]⟩ : ByteArray), (⟨#[97, 110, 100]⟩ : ByteArray), (⟨#[97, 100, 100, 119]⟩ : ByteArray), (⟨#[115, 117, 98, 119]⟩ : ByteArray), (⟨#[115, 108, 108, 119]⟩ : ByteArray), (⟨#[115, 114, 108, 119]⟩ : ByteArray), (⟨#[115, 114, 97, 119]⟩ : ByteArray), (⟨#[109, 117, 108]⟩ : ByteArray), (⟨#[109, 117, 108, 104]⟩ : ByteArray), (⟨#[109, 117, 108, 104, 115, 117]⟩ : ByteArray), (⟨#[109, 117, 108, 104, 117]⟩ : ByteArray), (⟨#[100, 105, 118]⟩ : ByteArray), (⟨#[100, 105, 118, 117]⟩ : ByteArray), (⟨#[114, 101, 109]⟩ : ByteArray), (⟨#[114, 101, 109, 117]⟩ : ByteArray), (⟨#[109, 117, 108, 119]⟩ : ByteArray), (⟨#[100, 105, 118, 119]⟩ : ByteArray), (⟨#[100, 105, 118, 117, 119]⟩ : ByteArray), (⟨#[114, 101, 109, 119]⟩ : ByteArray), (⟨#[114, 101, 109, 117, 119]⟩ : ByteArray), (⟨#[102, 101, 110, 99, 101]⟩ : ByteArray), (⟨#[101, 99, 97, 108, 108]⟩ : ByteArray), (⟨#[101, 98, 114, 101, 97, 107]⟩ : ByteArray), (⟨#[108, 114, 46, 119]⟩ : ByteArray), (⟨#[115, 99, 46, 119]⟩ : ByteArray), (⟨#[97, 109, 111, 115, 119, 97, 112, 46, 119]⟩ : ByteArray), (⟨#[97, 109, 111, 97, 100, 100, 46, 119]⟩ : ByteArray), (⟨#[97, 109, 111, 120, 111, 114, 46, 119]⟩ : ByteArray), (⟨#[97, 109, 111, 97, 110, 100, 46, 119]⟩ : ByteArray), (⟨#[97, 109, 111, 111, 114, 46, 119]⟩ : ByteArray), (⟨#[97, 109, 111, 109, 105, 110, 46, 119]⟩ : ByteArray), (⟨#[97, 109, 111, 109, 97, 120, 46, 119]⟩ : ByteArray), (⟨#[97, 109, 111, 109, 105, 110, 117, 46, 119]⟩ : ByteArray), (⟨#[97, 109, 111, 109, 97, 120, 117, 46, 119]⟩ : ByteArray), (⟨#[108, 114, 46, 100]⟩ : ByteArray), (⟨#[115, 99, 46, 100]⟩ : ByteArray), (⟨#[97, 109, 111, 115, 119, 97, 112, 46, 100]⟩ : ByteArray), (⟨#[97, 109, 111, 97, 100, 100, 46, 100]⟩ : ByteArray), (⟨#[97, 109, 111, 120, 111, 114, 46, 100]⟩ : ByteArray), (⟨#[97, 109, 111, 97, 110, 100, 46, 100]⟩ : ByteArray), (⟨#[97, 109, 111, 111, 114, 46, 100]⟩ : ByteArray), (⟨#[97, 109, 111, 109, 105, 110, 46, 100]⟩ : ByteArray), (⟨#[97, 109, 111, 109, 97, 120, 46, 100]⟩ : ByteArray), (⟨#[97, 109, 111, 109, 105, 110, 117, 46, 100]⟩ : ByteArray), (⟨#[97, 109, 111, 109, 97, 120, 117, 46, 100]⟩ : ByteArray)] : List ByteArray)) := ⟨_, rfl⟩
 replace H : (some y208) = some r := by first | (rw [hy208]; with_reducible exact H) | (have H2_ := (Option.bind_some _ _).symm.trans H; rw [hy208]; with_reducible exact H2_) | (have H2_ := (Option.bind_some _ _).symm.trans H; with_reducible exact H2_) | with_reducible exact H | (rw [hy208]; exact H) | exact H
 have Ny208 := Aside0.mk hy208
 clear hy208
 obtain rfl := Option.some.inj H
 go_enter Tryd.func37, Tryd.ntmps37
 go_wp2_with (first | ((with_reducible refine gate_dst (N := 1) rfl ?_); refine Kd.R_lit Kd.string _ 9 ?hg (N := 1) ?hd (xs := ([(⟨#[108, 117, 105]⟩ : ByteArray), (⟨#[97, 117, 105, 112, 99]⟩ : ByteArray), (⟨#[106, 97, 108]⟩ : ByteArray), (⟨#[106, 97, 108, 114]⟩ : ByteArray), (⟨#[98, 101, 113]⟩ : ByteArray), (⟨#[98, 110, 101]⟩ : ByteArray), (⟨#[98, 108, 116]⟩ : ByteArray), (⟨#[98, 103, 101]⟩ : ByteArray), (⟨#[98, 108, 116, 117]⟩ : ByteArray), (⟨#[98, 103, 101, 117]⟩ : ByteArray), (⟨#[108, 98]⟩ : ByteArray), (⟨#[108, 104]⟩ : ByteArray), (⟨#[108, 119]⟩ : ByteArray), (⟨#[108, 100]⟩ : ByteArray), (⟨#[108, 98, 117]⟩ : ByteArray), (⟨#[108, 104, 117]⟩ : ByteArray), (⟨#[108, 119, 117]⟩ : ByteArray), (⟨#[115, 98]⟩ : ByteArray), (⟨#[115, 104]⟩ : ByteArray), (⟨#[115, 119]⟩ : ByteArray), (⟨#[115, 100]⟩ : ByteArray), (⟨#[97, 100, 100, 105]⟩ : ByteArray), (⟨#[115, 108, 116, 105]⟩ : ByteArray), (⟨#[115, 108, 116, 105, 117]⟩ : ByteArray), (⟨#[120, 111, 114, 105]⟩ : ByteArray), (⟨#[111, 114, 105]⟩ : ByteArray), (⟨#[97, 110, 100, 105]⟩ : ByteArray), (⟨#[115, 108, 108, 105]⟩ : ByteArray), (⟨#[115, 114, 108, 105]⟩ : ByteArray), (⟨#[115, 114, 97, 105]⟩ : ByteArray), (⟨#[97, 100, 100, 105, 119]⟩ : ByteArray), (⟨#[115, 108, 108, 105, 119]⟩ : ByteArray), (⟨#[115, 114, 108, 105, 119]⟩ : ByteArray), (⟨#[115, 114, 97, 105, 119]⟩ : ByteArray), (⟨#[97, 100, 100]⟩ : ByteArray), (⟨#[115, 117, 98]⟩ : ByteArray), (⟨#[115, 108, 108]⟩ : ByteArray), (⟨#[115, 108, 116]⟩ : ByteArray), (⟨#[115, 108, 116, 117]⟩ : ByteArray), (⟨#[120, 111, 114]⟩ : ByteArray), (⟨#[115, 114, 108]⟩ : ByteArray), (⟨#[115, 114, 97]⟩ : ByteArray), (⟨#[111, 114]⟩ : ByteArray), (⟨#[97, 110, 100]⟩ : ByteArray), (⟨#[97, 100, 100, 119]⟩ : ByteArray), (⟨#[115, 117, 98, 119]⟩ : ByteArray), (⟨#[115, 108, 108, 119]⟩ : ByteArray), (⟨#[115, 114, 108, 119]⟩ : ByteArray), (⟨#[115, 114, 97, 119]⟩ : ByteArray), (⟨#[109, 117, 108]⟩ : ByteArray), (⟨#[109, 117, 108, 104]⟩ : ByteArray), (⟨#[109, 117, 108, 104, 115, 117]⟩ : ByteArray), (⟨#[109, 117, 108, 104, 117]⟩ : ByteArray), (⟨#[100, 105, 118]⟩ : ByteArray), (⟨#[100, 105, 118, 117]⟩ : ByteArray), (⟨#[114, 101, 109]⟩ : ByteArray), (⟨#[114, 101, 109, 117]⟩ : ByteArray), (⟨#[109, 117, 108, 119]⟩ : ByteArray), (⟨#[100, 105, 118, 119]⟩ : ByteArray), (⟨#[100, 105, 118, 117, 119]⟩ : ByteArray), (⟨#[114, 101, 109, 119]⟩ : ByteArray), (⟨#[114, 101, 109, 117, 119]⟩ : ByteArray), (⟨#[102, 101, 110, 99, 101]⟩ : ByteArray), (⟨#[101, 99, 97, 108, 108]⟩ : ByteArray), (⟨#[101, 98, 114, 101, 97, 107]⟩ : ByteArray), (⟨#[108, 114, 46, 119]⟩ : ByteArray), (⟨#[115, 99, 46, 119]⟩ : ByteArray), (⟨#[97, 109, 111, 115, 119, 97, 112, 46, 119]⟩ : ByteArray), (⟨#[97, 109, 111, 97, 100, 100, 46, 119]⟩ : ByteArray), (⟨#[97, 109, 111, 120, 111, 114, 46, 119]⟩ : ByteArray), (⟨#[97, 109, 111, 97, 110, 100, 46, 119]⟩ : ByteArray), (⟨#[97, 109, 111, 111, 114, 46, 119]⟩ : ByteArray), (⟨#[97, 109, 111, 109, 105, 110, 46, 119]⟩ : ByteArray), (⟨#[97, 109, 111, 109, 97, 120, 46, 119]⟩ : ByteArray), (⟨#[97, 109, 111, 109, 105, 110, 117, 46, 119]⟩ : ByteArray), (⟨#[97, 109, 111, 109, 97, 120, 117, 46, 119]⟩ : ByteArray), (⟨#[108, 114, 46, 100]⟩ : ByteArray), (⟨#[115, 99, 46, 100]⟩ : ByteArray), (⟨#[97, 109, 111, 115, 119, 97, 112, 46, 100]⟩ : ByteArray), (⟨#[97, 109, 111, 97, 100, 100, 46, 100]⟩ : ByteArray), (⟨#[97, 109, 111, 120, 111, 114, 46, 100]⟩ : ByteArray), (⟨#[97, 109, 111, 97, 110, 100, 46, 100]⟩ : ByteArray), (⟨#[97, 109, 111, 111, 114, 46, 100]⟩ : ByteArray), (⟨#[97, 109, 111, 109, 105, 110, 46, 100]⟩ : ByteArray), (⟨#[97, 109, 111, 109, 97, 120, 46, 100]⟩ : ByteArray), (⟨#[97, 109, 111, 109, 105, 110, 117, 46, 100]⟩ : ByteArray), (⟨#[97, 109, 111, 109, 97, 120, 117, 46, 100]⟩ : ByteArray)] : List ByteArray)) (inner := [.string (⟨#[108, 117, 105]⟩ : ByteArray), .string (⟨#[97, 117, 105, 112, 99]⟩ : ByteArray), .string (⟨#[106, 97, 108]⟩ : ByteArray), .string (⟨#[106, 97, 108, 114]⟩ : ByteArray), .string (⟨#[98, 101, 113]⟩ : ByteArray), .string (⟨#[98, 110, 101]⟩ : ByteArray), .string (⟨#[98, 108, 116]⟩ : ByteArray), .string (⟨#[98, 103, 101]⟩ : ByteArray), .string (⟨#[98, 108, 116, 117]⟩ : ByteArray), .string (⟨#[98, 103, 101, 117]⟩ : ByteArray), .string (⟨#[108, 98]⟩ : ByteArray), .string (⟨#[108, 104]⟩ : ByteArray), .string (⟨#[108, 119]⟩ : ByteArray), .string (⟨#[108, 100]⟩ : ByteArray), .string (⟨#[108, 98, 117]⟩ : ByteArray), .string (⟨#[108, 104, 117]⟩ : ByteArray), .string (⟨#[108, 119, 117]⟩ : ByteArray), .string (⟨#[115, 98]⟩ : ByteArray), .string (⟨#[115, 104]⟩ : ByteArray), .string (⟨#[115, 119]⟩ : ByteArray), .string (⟨#[115, 100]⟩ : ByteArray), .string (⟨#[97, 100, 100, 105]⟩ : ByteArray), .string (⟨#[115, 108, 116, 105]⟩ : ByteArray), .string (⟨#[115, 108, 116, 105, 117]⟩ : ByteArray), .string (⟨#[120, 111, 114, 105]⟩ : ByteArray), .string (⟨#[111, 114, 105]⟩ : ByteArray), .string (⟨#[97, 110, 100, 105]⟩ : ByteArray), .string (⟨#[115, 108, 108, 105]⟩ : ByteArray), .string (⟨#[115, 114, 108, 105]⟩ : ByteArray), .string (⟨#[115, 114, 97, 105]⟩ : ByteArray), .string (⟨#[97, 100, 100, 105, 119]⟩ : ByteArray), .string (⟨#[115, 108, 108, 105, 119]⟩ : ByteArray), .string (⟨#[115, 114, 108, 105, 119]⟩ : ByteArray), .string (⟨#[115, 114, 97, 105, 119]⟩ : ByteArray), .string (⟨#[97, 100, 100]⟩ : ByteArray), .string (⟨#[115, 117, 98]⟩ : ByteArray), .string (⟨#[115, 108, 108]⟩ : ByteArray), .string (⟨#[115, 108, 116]⟩ : ByteArray), .string (⟨#[115, 108, 116, 117]⟩ : ByteArray), .string (⟨#[120, 111, 114]⟩ : ByteArray), .string (⟨#[115, 114, 108]⟩ : ByteArray), .string (⟨#[115, 114, 97]⟩ : ByteArray), .string (⟨#[111, 114]⟩ : ByteArray), .string (⟨#[97, 110, 100]⟩ : ByteArray), .string (⟨#[97, 100, 100, 119]⟩ : ByteArray), .string (⟨#[115, 117, 98, 119]⟩ : ByteArray), .string (⟨#[115, 108, 108, 119]⟩ : ByteArray), .string (⟨#[115, 114, 108, 119]⟩ : ByteArray), .string (⟨#[115, 114, 97, 119]⟩ : ByteArray), .string (⟨#[109, 117, 108]⟩ : ByteArray), .string (⟨#[109, 117, 108, 104]⟩ : ByteArray), .string (⟨#[109, 117, 108, 104, 115, 117]⟩ : ByteArray), .string (⟨#[109, 117, 108, 104, 117]⟩ : ByteArray), .string (⟨#[100, 105, 118]⟩ : ByteArray), .string (⟨#[100, 105, 118, 117]⟩ : ByteArray), .string (⟨#[114, 101, 109]⟩ : ByteArray), .string (⟨#[114, 101, 109, 117]⟩ : ByteArray), .string (⟨#[109, 117, 108, 119]⟩ : ByteArray), .string (⟨#[100, 105, 118, 119]⟩ : ByteArray), .string (⟨#[100, 105, 118, 117, 119]⟩ : ByteArray), .string (⟨#[114, 101, 109, 119]⟩ : ByteArray), .string (⟨#[114, 101, 109, 117, 119]⟩ : ByteArray), .string (⟨#[102, 101, 110, 99, 101]⟩ : ByteArray), .string (⟨#[101, 99, 97, 108, 108]⟩ : ByteArray), .string (⟨#[101, 98, 114, 101, 97, 107]⟩ : ByteArray), .string (⟨#[108, 114, 46, 119]⟩ : ByteArray), .string (⟨#[115, 99, 46, 119]⟩ : ByteArray), .string (⟨#[97, 109, 111, 115, 119, 97, 112, 46, 119]⟩ : ByteArray), .string (⟨#[97, 109, 111, 97, 100, 100, 46, 119]⟩ : ByteArray), .string (⟨#[97, 109, 111, 120, 111, 114, 46, 119]⟩ : ByteArray), .string (⟨#[97, 109, 111, 97, 110, 100, 46, 119]⟩ : ByteArray), .string (⟨#[97, 109, 111, 111, 114, 46, 119]⟩ : ByteArray), .string (⟨#[97, 109, 111, 109, 105, 110, 46, 119]⟩ : ByteArray), .string (⟨#[97, 109, 111, 109, 97, 120, 46, 119]⟩ : ByteArray), .string (⟨#[97, 109, 111, 109, 105, 110, 117, 46, 119]⟩ : ByteArray), .string (⟨#[97, 109, 111, 109, 97, 120, 117, 46, 119]⟩ : ByteArray), .string (⟨#[108, 114, 46, 100]⟩ : ByteArray), .string (⟨#[115, 99, 46, 100]⟩ : ByteArray), .string (⟨#[97, 109, 111, 115, 119, 97, 112, 46, 100]⟩ : ByteArray), .string (⟨#[97, 109, 111, 97, 100, 100, 46, 100]⟩ : ByteArray), .string (⟨#[97, 109, 111, 120, 111, 114, 46, 100]⟩ : ByteArray), .string (⟨#[97, 109, 111, 97, 110, 100, 46, 100]⟩ : ByteArray), .string (⟨#[97, 109, 111, 111, 114, 46, 100]⟩ : ByteArray), .string (⟨#[97, 109, 111, 109, 105, 110, 46, 100]⟩ : ByteArray), .string (⟨#[97, 109, 111, 109, 97, 120, 46, 100]⟩ : ByteArray), .string (⟨#[97, 109, 111, 109, 105, 110, 117, 46, 100]⟩ : ByteArray), .string (⟨#[97, 109, 111, 109, 97, 120, 117, 46, 100]⟩ : ByteArray)]) (ok := fun _ => True) (okp := fun _ => True) ?hr ?hp (fun _ hk => hk) trivial (Below.refl _ _) (Nat.le_refl _) (by simp) ?_; (case hd => rfl); (case hg => rfl); (case hr => first | (go_simp; done) | (go_simp; rfl)); (case hp => exact (Reps.one (show Kd.M Kd.string _ _ _ (⟨#[108, 117, 105]⟩ : ByteArray) [.string (⟨#[108, 117, 105]⟩ : ByteArray)] from rfl) (Reps.one (show Kd.M Kd.string _ _ _ (⟨#[97, 117, 105, 112, 99]⟩ : ByteArray) [.string (⟨#[97, 117, 105, 112, 99]⟩ : ByteArray)] from rfl) (Reps.one (show Kd.M Kd.string _ _ _ (⟨#[106, 97, 108]⟩ : ByteArray) [.string (⟨#[106, 97, 108]⟩ : ByteArray)] from rfl) (Reps.one (show Kd.M Kd.string _ _ _ (⟨#[106, 97, 108, 114]⟩ : ByteArray) [.string (⟨#[106, 97, 108, 114]⟩ : ByteArray)] from rfl) (Reps.one (show Kd.M Kd.string _ _ _ (⟨#[98, 101, 113]⟩ : ByteArray) [.string (⟨#[98, 101, 113]⟩ : ByteArray)] from rfl) (Reps.one (show Kd.M Kd.string _ _ _ (⟨#[98, 110, 101]⟩ : ByteArray) [.string (⟨#[98, 110, 101]⟩ : ByteArray)] from rfl) (Reps.one (show Kd.M Kd.string _ _ _ (⟨#[98, 108, 116]⟩ : ByteArray) [.string (⟨#[98, 108, 116]⟩ : ByteArray)] from rfl) (Reps.one (show Kd.M Kd.string _ _ _ (⟨#[98, 103, 101]⟩ : ByteArray) [.string (⟨#[98, 103, 101]⟩ : ByteArray)] from rfl) (Reps.one (show Kd.M Kd.string _ _ _ (⟨#[98, 108, 116, 117]⟩ : ByteArray) [.string (⟨#[98, 108, 116, 117]⟩ : ByteArray)] from rfl) (Reps.one (show Kd.M Kd.string _ _ _ (⟨#[98, 103, 101, 117]⟩ : ByteArray) [.string (⟨#[98, 103, 101, 117]⟩ : ByteArray)] from rfl) (Reps.one (show Kd.M Kd.string _ _ _ (⟨#[108, 98]⟩ : ByteArray) [.string (⟨#[108, 98]⟩ : ByteArray)] from rfl) (Reps.one (show Kd.M Kd.string _ _ _ (⟨#[108, 104]⟩ : ByteArray) [.string (⟨#[108, 104]⟩ : ByteArray)] from rfl) (Reps.one (show Kd.M Kd.string _ _ _ (⟨#[108, 119]⟩ : ByteArray) [.string (⟨#[108, 119]⟩ : ByteArray)] from rfl) (Reps.one (show Kd.M Kd.string _ _ _ (⟨#[108, 100]⟩ : ByteArray) [.string (⟨#[108, 100]⟩ : ByteArray)] from rfl) (Reps.one (show Kd.M Kd.string _ _ _ (⟨#[108, 98, 117]⟩ : ByteArray) [.string (⟨#[108, 98, 117]⟩ : ByteArray)] from rfl) (Reps.one (show Kd.M Kd.string _ _ _ (⟨#[108, 104, 117]⟩ : ByteArray) [.string (⟨#[108, 104, 117]⟩ : ByteArray)] from rfl) (Reps.one (show Kd.M Kd.string _ _ _ (⟨#[108, 119, 117]⟩ : ByteArray) [.string (⟨#[108, 119, 117]⟩ : ByteArray)] from rfl) (Reps.one (show Kd.M Kd.string _ _ _ (⟨#[115, 98]⟩ : ByteArray) [.string (⟨#[115, 98]⟩ : ByteArray)] from rfl) (Reps.one (show Kd.M Kd.string _ _ _ (⟨#[115, 104]⟩ : ByteArray) [.string (⟨#[115, 104]⟩ : ByteArray)] from rfl) (Reps.one (show Kd.M Kd.string _ _ _ (⟨#[115, 119]⟩ : ByteArray) [.string (⟨#[115, 119]⟩ : ByteArray)] from rfl) (Reps.one (show Kd.M Kd.string _ _ _ (⟨#[115, 100]⟩ : ByteArray) [.string (⟨#[115, 100]⟩ : ByteArray)] from rfl) (Reps.one (show Kd.M Kd.string _ _ _ (⟨#[97, 100, 100, 105]⟩ : ByteArray) [.string (⟨#[97, 100, 100, 105]⟩ : ByteArray)] from rfl) (Reps.one (show Kd.M Kd.string _ _ _ (⟨#[115, 108, 116, 105]⟩ : ByteArray) [.string (⟨#[115, 108, 116, 105]⟩ : ByteArray)] from rfl) (Reps.one (show Kd.M Kd.string _ _ _ (⟨#[115, 108, 116, 105, 117]⟩ : ByteArray) [.string (⟨#[115, 108, 116, 105, 117]⟩ : ByteArray)] from rfl) (Reps.one (show Kd.M Kd.string _ _ _ (⟨#[120, 111, 114, 105]⟩ : ByteArray) [.string (⟨#[120, 111, 114, 105]⟩ : ByteArray)] from rfl) (Reps.one (show Kd.M Kd.string _ _ _ (⟨#[111, 114, 105]⟩ : ByteArray) [.string (⟨#[111, 114, 105]⟩ : ByteArray)] from rfl) (Reps.one (show Kd.M Kd.string _ _ _ (⟨#[97, 110, 100, 105]⟩ : ByteArray) [.string (⟨#[97, 110, 100, 105]⟩ : ByteArray)] from rfl) (Reps.one (show Kd.M Kd.string _ _ _ (⟨#[115, 108, 108, 105]⟩ : ByteArray) [.string (⟨#[115, 108, 108, 105]⟩ : ByteArray)] from rfl) (Reps.one (show Kd.M Kd.string _ _ _ (⟨#[115, 114, 108, 105]⟩ : ByteArray) [.string (⟨#[115, 114, 108, 105]⟩ : ByteArray)] from rfl) (Reps.one (show Kd.M Kd.string _ _ _ (⟨#[115, 114, 97, 105]⟩ : ByteArray) [.string (⟨#[115, 114, 97, 105]⟩ : ByteArray)] from rfl) (Reps.one (show Kd.M Kd.string _ _ _ (⟨#[97, 100, 100, 105, 119]⟩ : ByteArray) [.string (⟨#[97, 100, 100, 105, 119]⟩ : ByteArray)] from rfl) (Reps.one (show Kd.M Kd.string _ _ _ (⟨#[115, 108, 108, 105, 119]⟩ : ByteArray) [.string (⟨#[115, 108, 108, 105, 119]⟩ : ByteArray)] from rfl) (Reps.one (show Kd.M Kd.string _ _ _ (⟨#[115, 114, 108, 105, 119]⟩ : ByteArray) [.string (⟨#[115, 114, 108, 105, 119]⟩ : ByteArray)] from rfl) (Reps.one (show Kd.M Kd.string _ _ _ (⟨#[115, 114, 97, 105, 119]⟩ : ByteArray) [.string (⟨#[115, 114, 97, 105, 119]⟩ : ByteArray)] from rfl) (Reps.one (show Kd.M Kd.string _ _ _ (⟨#[97, 100, 100]⟩ : ByteArray) [.string (⟨#[97, 100, 100]⟩ : ByteArray)] from rfl) (Reps.one (show Kd.M Kd.string _ _ _ (⟨#[115, 117, 98]⟩ : ByteArray) [.string (⟨#[115, 117, 98]⟩ : ByteArray)] from rfl) (Reps.one (show Kd.M Kd.string _ _ _ (⟨#[115, 108, 108]⟩ : ByteArray) [.string (⟨#[115, 108, 108]⟩ : ByteArray)] from rfl) (Reps.one (show Kd.M Kd.string _ _ _ (⟨#[115, 108, 116]⟩ : ByteArray) [.string (⟨#[115, 108, 116]⟩ : ByteArray)] from rfl) (Reps.one (show Kd.M Kd.string _ _ _ (⟨#[115, 108, 116, 117]⟩ : ByteArray) [.string (⟨#[115, 108, 116, 117]⟩ : ByteArray)] from rfl) (Reps.one (show Kd.M Kd.string _ _ _ (⟨#[120, 111, 114]⟩ : ByteArray) [.string (⟨#[120, 111, 114]⟩ : ByteArray)] from rfl) (Reps.one (show Kd.M Kd.string _ _ _ (⟨#[115, 114, 108]⟩ : ByteArray) [.string (⟨#[115, 114, 108]⟩ : ByteArray)] from rfl) (Reps.one (show Kd.M Kd.string _ _ _ (⟨#[115, 114, 97]⟩ : ByteArray) [.string (⟨#[115, 114, 97]⟩ : ByteArray)] from rfl) (Reps.one (show Kd.M Kd.string _ _ _ (⟨#[111, 114]⟩ : ByteArray) [.string (⟨#[111, 114]⟩ : ByteArray)] from rfl) (Reps.one (show Kd.M Kd.string _ _ _ (⟨#[97, 110, 100]⟩ : ByteArray) [.string (⟨#[97, 110, 100]⟩ : ByteArray)] from rfl) (Reps.one (show Kd.M Kd.string _ _ _ (⟨#[97, 100, 100, 119]⟩ : ByteArray) [.string (⟨#[97, 100, 100, 119]⟩ : ByteArray)] from rfl) (Reps.one (show Kd.M Kd.string _ _ _ (⟨#[115, 117, 98, 119]⟩ : ByteArray) [.string (⟨#[115, 117, 98, 119]⟩ : ByteArray)] from rfl) (Reps.one (show Kd.M Kd.string _ _ _ (⟨#[115, 108, 108, 119]⟩ : ByteArray) [.string (⟨#[115, 108, 108, 119]⟩ : ByteArray)] from rfl) (Reps.one (show Kd.M Kd.string _ _ _ (⟨#[115, 114, 108, 119]⟩ : ByteArray) [.string (⟨#[115, 114, 108, 119]⟩ : ByteArray)] from rfl) (Reps.one (show Kd.M Kd.string _ _ _ (⟨#[115, 114, 97, 119]⟩ : ByteArray) [.string (⟨#[115, 114, 97, 119]⟩ : ByteArray)] from rfl) (Reps.one (show Kd.M Kd.string _ _ _ (⟨#[109, 117, 108]⟩ : ByteArray) [.string (⟨#[109, 117, 108]⟩ : ByteArray)] from rfl) (Reps.one (show Kd.M Kd.string _ _ _ (⟨#[109, 117, 108, 104]⟩ : ByteArray) [.string (⟨#[109, 117, 108, 104]⟩ : ByteArray)] from rfl) (Reps.one (show Kd.M Kd.string _ _ _ (⟨#[109, 117, 108, 104, 115, 117]⟩ : ByteArray) [.string (⟨#[109, 117, 108, 104, 115, 117]⟩ : ByteArray)] from rfl) (Reps.one (show Kd.M Kd.string _ _ _ (⟨#[109, 117, 108, 104, 117]⟩ : ByteArray) [.string (⟨#[109, 117, 108, 104, 117]⟩ : ByteArray)] from rfl) (Reps.one (show Kd.M Kd.string _ _ _ (⟨#[100, 105, 118]⟩ : ByteArray) [.string (⟨#[100, 105, 118]⟩ : ByteArray)] from rfl) (Reps.one (show Kd.M Kd.string _ _ _ (⟨#[100, 105, 118, 117]⟩ : ByteArray) [.string (⟨#[100, 105, 118, 117]⟩ : ByteArray)] from rfl) (Reps.one (show Kd.M Kd.string _ _ _ (⟨#[114, 101, 109]⟩ : ByteArray) [.string (⟨#[114, 101, 109]⟩ : ByteArray)] from rfl) (Reps.one (show Kd.M Kd.string _ _ _ (⟨#[114, 101, 109, 117]⟩ : ByteArray) [.string (⟨#[114, 101, 109, 117]⟩ : ByteArray)] from rfl) (Reps.one (show Kd.M Kd.string _ _ _ (⟨#[109, 117, 108, 119]⟩ : ByteArray) [.string (⟨#[109, 117, 108, 119]⟩ : ByteArray)] from rfl) (Reps.one (show Kd.M Kd.string _ _ _ (⟨#[100, 105, 118, 119]⟩ : ByteArray) [.string (⟨#[100, 105, 118, 119]⟩ : ByteArray)] from rfl) (Reps.one (show Kd.M Kd.string _ _ _ (⟨#[100, 105, 118, 117, 119]⟩ : ByteArray) [.string (⟨#[100, 105, 118, 117, 119]⟩ : ByteArray)] from rfl) (Reps.one (show Kd.M Kd.string _ _ _ (⟨#[114, 101, 109, 119]⟩ : ByteArray) [.string (⟨#[114, 101, 109, 119]⟩ : ByteArray)] from rfl) (Reps.one (show Kd.M Kd.string _ _ _ (⟨#[114, 101, 109, 117, 119]⟩ : ByteArray) [.string (⟨#[114, 101, 109, 117, 119]⟩ : ByteArray)] from rfl) (Reps.one (show Kd.M Kd.string _ _ _ (⟨#[102, 101, 110, 99, 101]⟩ : ByteArray) [.string (⟨#[102, 101, 110, 99, 101]⟩ : ByteArray)] from rfl) (Reps.one (show Kd.M Kd.string _ _ _ (⟨#[101, 99, 97, 108, 108]⟩ : ByteArray) [.string (⟨#[101, 99, 97, 108, 108]⟩ : ByteArray)] from rfl) (Reps.one (show Kd.M Kd.string _ _ _ (⟨#[101, 98, 114, 101, 97, 107]⟩ : ByteArray) [.string (⟨#[101, 98, 114, 101, 97, 107]⟩ : ByteArray)] from rfl) (Reps.one (show Kd.M Kd.string _ _ _ (⟨#[108, 114, 46, 119]⟩ : ByteArray) [.string (⟨#[108, 114, 46, 119]⟩ : ByteArray)] from rfl) (Reps.one (show Kd.M Kd.string _ _ _ (⟨#[115, 99, 46, 119]⟩ : ByteArray) [.string (⟨#[115, 99, 46, 119]⟩ : ByteArray)] from rfl) (Reps.one (show Kd.M Kd.string _ _ _ (⟨#[97, 109, 111, 115, 119, 97, 112, 46, 119]⟩ : ByteArray) [.string (⟨#[97, 109, 111, 115, 119, 97, 112, 46, 119]⟩ : ByteArray)] from rfl) (Reps.one (show Kd.M Kd.string _ _ _ (⟨#[97, 109, 111, 97, 100, 100, 46, 119]⟩ : ByteArray) [.string (⟨#[97, 109, 111, 97, 100, 100, 46, 119]⟩ : ByteArray)] from rfl) (Reps.one (show Kd.M Kd.string _ _ _ (⟨#[97, 109, 111, 120, 111, 114, 46, 119]⟩ : ByteArray) [.string (⟨#[97, 109, 111, 120, 111, 114, 46, 119]⟩ : ByteArray)] from rfl) (Reps.one (show Kd.M Kd.string _ _ _ (⟨#[97, 109, 111, 97, 110, 100, 46, 119]⟩ : ByteArray) [.string (⟨#[97, 109, 111, 97, 110, 100, 46, 119]⟩ : ByteArray)] from rfl) (Reps.one (show Kd.M Kd.string _ _ _ (⟨#[97, 109, 111, 111, 114, 46, 119]⟩ : ByteArray) [.string (⟨#[97, 109, 111, 111, 114, 46, 119]⟩ : ByteArray)] from rfl) (Reps.one (show Kd.M Kd.string _ _ _ (⟨#[97, 109, 111, 109, 105, 110, 46, 119]⟩ : ByteArray) [.string (⟨#[97, 109, 111, 109, 105, 110, 46, 119]⟩ : ByteArray)] from rfl) (Reps.one (show Kd.M Kd.string _ _ _ (⟨#[97, 109, 111, 109, 97, 120, 46, 119]⟩ : ByteArray) [.string (⟨#[97, 109, 111, 109, 97, 120, 46, 119]⟩ : ByteArray)] from rfl) (Reps.one (show Kd.M Kd.string _ _ _ (⟨#[97, 109, 111, 109, 105, 110, 117, 46, 119]⟩ : ByteArray) [.string (⟨#[97, 109, 111, 109, 105, 110, 117, 46, 119]⟩ : ByteArray)] from rfl) (Reps.one (show Kd.M Kd.string _ _ _ (⟨#[97, 109, 111, 109, 97, 120, 117, 46, 119]⟩ : ByteArray) [.string (⟨#[97, 109, 111, 109, 97, 120, 117, 46, 119]⟩ : ByteArray)] from rfl) (Reps.one (show Kd.M Kd.string _ _ _ (⟨#[108, 114, 46, 100]⟩ : ByteArray) [.string (⟨#[108, 114, 46, 100]⟩ : ByteArray)] from rfl) (Reps.one (show Kd.M Kd.string _ _ _ (⟨#[115, 99, 46, 100]⟩ : ByteArray) [.string (⟨#[115, 99, 46, 100]⟩ : ByteArray)] from rfl) (Reps.one (show Kd.M Kd.string _ _ _ (⟨#[97, 109, 111, 115, 119, 97, 112, 46, 100]⟩ : ByteArray) [.string (⟨#[97, 109, 111, 115, 119, 97, 112, 46, 100]⟩ : ByteArray)] from rfl) (Reps.one (show Kd.M Kd.string _ _ _ (⟨#[97, 109, 111, 97, 100, 100, 46, 100]⟩ : ByteArray) [.string (⟨#[97, 109, 111, 97, 100, 100, 46, 100]⟩ : ByteArray)] from rfl) (Reps.one (show Kd.M Kd.string _ _ _ (⟨#[97, 109, 111, 120, 111, 114, 46, 100]⟩ : ByteArray) [.string (⟨#[97, 109, 111, 120, 111, 114, 46, 100]⟩ : ByteArray)] from rfl) (Reps.one (show Kd.M Kd.string _ _ _ (⟨#[97, 109, 111, 97, 110, 100, 46, 100]⟩ : ByteArray) [.string (⟨#[97, 109, 111, 97, 110, 100, 46, 100]⟩ : ByteArray)] from rfl) (Reps.one (show Kd.M Kd.string _ _ _ (⟨#[97, 109, 111, 111, 114, 46, 100]⟩ : ByteArray) [.string (⟨#[97, 109, 111, 111, 114, 46, 100]⟩ : ByteArray)] from rfl) (Reps.one (show Kd.M Kd.string _ _ _ (⟨#[97, 109, 111, 109, 105, 110, 46, 100]⟩ : ByteArray) [.string (⟨#[97, 109, 111, 109, 105, 110, 46, 100]⟩ : ByteArray)] from rfl) (Reps.one (show Kd.M Kd.string _ _ _ (⟨#[97, 109, 111, 109, 97, 120, 46, 100]⟩ : ByteArray) [.string (⟨#[97, 109, 111, 109, 97, 120, 46, 100]⟩ : ByteArray)] from rfl) (Reps.one (show Kd.M Kd.string _ _ _ (⟨#[97, 109, 111, 109, 105, 110, 117, 46, 100]⟩ : ByteArray) [.string (⟨#[97, 109, 111, 109, 105, 110, 117, 46, 100]⟩ : ByteArray)] from rfl) (Reps.one (show Kd.M Kd.string _ _ _ (⟨#[97, 109, 111, 109, 97, 120, 117, 46, 100]⟩ : ByteArray) [.string (⟨#[97, 109, 111, 109, 97, 120, 117, 46, 100]⟩ : ByteArray)] from rfl) (Reps.none _ _))))))))))))))))))))))))))))))))))))))))))))))))))))))))))))))))))))))))))))))))))))))))); intro v209 w1 ho2 hb hg_ hnew_; clear hg_ hnew_; (first | rw [← Ny208.out] at ho2 | (simp only [Int.reduceToNat] at ho2; rw [← Ny208.out] at ho2)); have n0_ := Aside0.mk (Kd.R_lower ho2 (below_size bl)); have n1_ := Aside0.mk (below_step bl hb); clear HB; have HO210 := n0_; have HB := n1_; clear n0_ n1_; clear hb ho2))
 go_ret
 exact ⟨_, fi, by (with_reducible repeat (first | apply Kd.R_alloc | apply Kd.R_drewN | apply Kd.R_drew)); exact HO210.out, bl⟩

/-! ### spinnakerref03_Name: function 30 -/
def spinnakerref03_Name.f (a0 : Int) : Option (ByteArray) := if a0 < 1 then (some (⟨#[]⟩ : ByteArray)) else (if a0 > 87 then (some (⟨#[]⟩ : ByteArray)) else ((spinnakerref03_Names.f).bind fun t211 => (if 0 ≤ (wrap64 (a0 - 1)) then (if (wrap64 (a0 - 1)) < (t211.length : Int) then (some (rdOf ByteArray.empty t211 (wrap64 (a0 - 1)))) else (none)) else (none))))
set_option maxHeartbeats 8000000 in
set_option maxRecDepth 100000 in
theorem spinnakerref03_Name.calls (a0 : Int) (r : ByteArray) (w : World) (h : spinnakerref03_Name.f a0 = some r) :
  Calls Tryd.prog 30 #[.int .i64 a0] w fun e w' => e = .returned (.string r) ∧ Below w.heap.size w w' := by
 have HB := Aside0.mk (Below.refl w.heap.size w)
 have H : (if a0 < 1 then (some (⟨#[]⟩ : ByteArray)) else (if a0 > 87 then (some (⟨#[]⟩ : ByteArray)) else ((spinnakerref03_Names.f).bind fun t211 => (if 0 ≤ (wrap64 (a0 - 1)) then (if (wrap64 (a0 - 1)) < (t211.length : Int) then (some (rdOf ByteArray.empty t211 (wrap64 (a0 - 1)))) else (none)) else (none))))) = some r := h
 clear h
 by_cases c2 : a0 < 1
 ·rw [if_pos c2] at H
  have c2b0 := decide_eq_true c2
  clear c2
  obtain rfl := Option.some.inj H
  go_enter Tryd.func30, Tryd.ntmps30
  go_wp2
  go_ret
  exact ⟨fi, bl⟩
 ·rw [if_neg c2] at H
  have c2b0 := decide_eq_false c2
  clear c2
  by_cases c3 : a0 > 87
  ·rw [if_pos c3] at H
   have c3b0 := decide_eq_true c3
   clear c3
   obtain rfl := Option.some.inj H
   go_enter Tryd.func30, Tryd.ntmps30
   go_wp2
   go_ret
   exact ⟨fi, bl⟩
  ·rw [if_neg c3] at H
   have c3b0 := decide_eq_false c3
   clear c3
   replace H := be H
   obtain ⟨t211, A4, H⟩ := H
   obtain ⟨ji5, hji5⟩ : ∃ j_ : Int, (wrap64 (a0 - 1)) = j_ := ⟨_, rfl⟩
   replace H : (if 0 ≤ (ji5) then (if (ji5) < (t211.length : Int) then (some (rdOf ByteArray.empty t211 (ji5))) else (none)) else (none)) = some r := by first | (rw [hji5] at H; exact H) | (simp only [hji5] at H ⊢; exact H)
   (try rw [hji5] at A4)
   have hji5w : (IntKind.i64.wrap (a0 - 1)) = ji5 := (i64_w _).trans hji5
   by_cases c6 : 0 ≤ (ji5)
   ·rw [if_pos c6] at H
    have c6b0 := decide_eq_true c6
    clear c6
    by_cases c7 : (ji5) < (t211.length : Int)
    ·rw [if_pos c7] at H
     have c7b0 := decide_eq_true c7
     clear c7
     obtain rfl := Option.some.inj H
     go_enter Tryd.func30, Tryd.ntmps30
     go_wp2_with (first | ((with_reducible refine gate_callee (f := 37) rfl ?_); refine goesL_ (some 9) rfl rfl Tryd.func37 (by kernel_rfl) rfl #[] rfl ga ?_; (with_reducible refine (spinnakerref03_Names.calls  t211 _ A4.out).mono ?_); rintro e w8 ⟨v212, rfl, ho0, hb⟩; refine ⟨_, rfl, ?_⟩; have n0_ := Aside0.mk (Kd.R_lower ho0 (below_size bl)); have n1_ := Aside0.mk (below_step bl hb); clear HB; have HO213 := n0_; have HB := n1_; clear n0_ n1_; (try clear hb); (try clear ho0); obtain ⟨Ao9, co9, eo9⟩ := Kd.R_slice HO213.out; subst eo9; have p214 : 0 ≤ ((ji5) : Int) := of_decide_eq_true (by first | (with_reducible assumption) | assumption); have q214 : (ji5) < (t211.length : Int) := of_decide_eq_true (by first | (with_reducible assumption) | assumption); obtain ⟨ad214, e214, hx214_0⟩ := Kd.at_string (Kd.R_reads' HO213.out).2.2 (ji5) p214 q214; cases e214; replace p214 := eq_true p214; replace q214 := eq_true q214))
     go_ret
     exact ⟨by first | rfl | (simp [errW_none, errW_some] <;> rfl) | (simp only [← hji5]; first | rfl | (simp [errW_none, errW_some] <;> rfl)) | (simp [*, errW_none, errW_some] <;> rfl), bl⟩
    ·rw [if_neg c7] at H
     exact absurd H (by simp)
   ·rw [if_neg c6] at H
    exact absurd H (by simp)

/-! ### spinnakerref07_num: function 38 -/
def spinnakerref07_num.l0 : Nat → List Int → Int → Int → Option (Int)
  | 0, _, _, _ => none
  | k + 1, x0, x3, x4 => if x4 < 64 then (if 0 ≤ x4 then (if x4 < (x0.length : Int) then ((spinnakerref01_Power.f k x4).bind fun t216 => (spinnakerref07_num.l0 k x0 (IntKind.u64.wrap (x3 + (IntKind.u64.wrap ((IntKind.u64.wrap (rd x0 x4)) * t216)))) (wrap64 (x4 + 1)))) else (none)) else (none)) else (some (wrap64 (x3)))
def spinnakerref07_num.f (k : Nat) (l0 : List Int) : Option (Int) := spinnakerref07_num.l0 k l0 0 0
theorem spinnakerref07_num.mono_l : ∀ k, (∀ y0 y1 y2, LeO (spinnakerref07_num.l0 k y0 y1 y2) (spinnakerref07_num.l0 (k + 1) y0 y1 y2))
 | 0 => fun _ _ _ r h => by simp [spinnakerref07_num.l0] at h
 | k + 1 => by
  have ih0 := spinnakerref07_num.mono_l k
  ·intro y0 y1 y2
   unfold spinnakerref07_num.l0
   repeat' first | (with_reducible first | exact ih0 _ _ _ | exact spinnakerref01_Power.mono _ _ | exact LeO.refl _ | exact LeO.none _ | refine LeO.ite ?_ ?_ | refine LeO.bind ?_ (fun _ => ?_)) | exact ih0 _ _ _ | exact spinnakerref01_Power.mono _ _ | exact LeO.none _ | refine LeO.ite ?_ ?_ | refine LeO.bind ?_ (fun _ => ?_)
theorem spinnakerref07_num.mono : ∀ a0 k, LeO (spinnakerref07_num.f k a0) (spinnakerref07_num.f (k + 1) a0) := by
 intro a0 k
 have ih0 := spinnakerref07_num.mono_l k
 unfold spinnakerref07_num.f
 repeat' first | (with_reducible first | exact ih0 _ _ _ | exact spinnakerref01_Power.mono _ _ | exact LeO.refl _ | exact LeO.none _ | refine LeO.ite ?_ ?_ | refine LeO.bind ?_ (fun _ => ?_)) | exact ih0 _ _ _ | exact spinnakerref01_Power.mono _ _ | exact LeO.none _ | refine LeO.ite ?_ ?_ | refine LeO.bind ?_ (fun _ => ?_)
set_option maxHeartbeats 8000000 in
set_option maxRecDepth 100000 in
theorem spinnakerref07_num.calls (k : Nat) (A0 : Option Addr) (c0 : Nat) (l0 : List Int) (r : Int) (w : World) (hr0 : Kd.C (Kd.int .i64) w A0 l0.length l0) (hc0 : l0.length ≤ c0) (h : spinnakerref07_num.f k l0 = some r) :
  Calls Tryd.prog 38 #[.slice A0 l0.length c0] w fun e w' => e = .returned (.int .i64 r) ∧ Drawn0 w w' := by
 have HR0 := Aside0.mk hr0
 have HC0 := Aside0.mk hc0
 clear hr0 hc0
 have H : (spinnakerref07_num.l0 k l0 0 0) = some r := h
 clear h
 have H' := Aside0.mk H
 clear H
 go_enter Tryd.func38, Tryd.ntmps38
 go_wp2
 repeat (go_quiet (fail); try go_wp2)
 go_loopg [3, 4] k (fun kq v3 v4 w' => ∃ (x3_1 : Int) (x4_1 : Int), v3 = .int .u64 x3_1 ∧ v4 = .int .i64 x4_1 ∧ Aside0 (spinnakerref07_num.l0 kq l0 x3_1 x4_1 = some r) ∧ Aside0 (kq ≤ k) ∧ Drawn0 w w')
 case atStart => exact ⟨(0), (0), fj, fj, H', ⟨Nat.le_refl _⟩, fd⟩
 case round =>
  clear H'
  obtain ⟨x3_1, x4_1, rfl, rfl, HA, HK1, ⟨m1, rfl⟩⟩ := hrel
  cases gk with
  | zero => exact absurd HA.out (by simp [spinnakerref07_num.l0])
  | succ k1 =>
   have H := HA.out
   clear HA
   simp only [spinnakerref07_num.l0] at H
   by_cases c2 : x4_1 < 64
   ·rw [if_pos c2] at H
    have c2b0 := decide_eq_true c2
    clear c2
    by_cases c3 : 0 ≤ x4_1
    ·rw [if_pos c3] at H
     have c3b0 := decide_eq_true c3
     clear c3
     by_cases c4 : x4_1 < (l0.length : Int)
     ·rw [if_pos c4] at H
      have c4b0 := decide_eq_true c4
      clear c4
      replace H := be H
      obtain ⟨t216, A5, H⟩ := H
      have H' := Aside0.mk H
      clear H
      have p215 : 0 ≤ (x4_1 : Int) := of_decide_eq_true (by first | (with_reducible assumption) | assumption)
      have q215 : x4_1 < (l0.length : Int) := of_decide_eq_true (by first | (with_reducible assumption) | assumption)
      obtain ⟨ad215, e215, hx215_0⟩ := Kd.at_int HR0.out x4_1 p215 q215
      cases e215
      replace p215 := eq_true p215
      replace q215 := eq_true q215
      go_wp2_with (first | (go_at_call 27; (with_reducible refine (spinnakerref01_Power.calls k1 x4_1 t216 _ A5.out).mono ?_); rintro e w' ⟨rfl, ⟨nd, rfl⟩⟩; (try first | exact ⟨rfl, _, World.drewN_drewN _ _ _⟩ | exact ⟨rfl, _, Eq.trans (World.drewN_drewN _ _ _) (congrArg (World.drewN _) (Nat.add_assoc _ _ _))⟩)))
      repeat (go_quiet (first | (go_at_call 27; (with_reducible refine (spinnakerref01_Power.calls k1 x4_1 t216 _ A5.out).mono ?_); rintro e w' ⟨rfl, ⟨nd, rfl⟩⟩; (try first | exact ⟨rfl, _, World.drewN_drewN _ _ _⟩ | exact ⟨rfl, _, Eq.trans (World.drewN_drewN _ _ _) (congrArg (World.drewN _) (Nat.add_assoc _ _ _))⟩))); try go_wp2_with (first | (go_at_call 27; (with_reducible refine (spinnakerref01_Power.calls k1 x4_1 t216 _ A5.out).mono ?_); rintro e w' ⟨rfl, ⟨nd, rfl⟩⟩; (try first | exact ⟨rfl, _, World.drewN_drewN _ _ _⟩ | exact ⟨rfl, _, Eq.trans (World.drewN_drewN _ _ _) (congrArg (World.drewN _) (Nat.add_assoc _ _ _))⟩))))
      go_roundg k1
      case measure => have := HK1.out; omega
      case rel => exact ⟨(IntKind.u64.wrap (x3_1 + (IntKind.u64.wrap ((IntKind.u64.wrap (rd l0 x4_1)) * t216)))), (wrap64 (x4_1 + 1)), fj, fj, H', ⟨by have := HK1.out; omega⟩, fd⟩
     ·rw [if_neg c4] at H
      exact absurd H (by simp)
    ·rw [if_neg c3] at H
     exact absurd H (by simp)
   ·rw [if_neg c2] at H
    have c2b0 := decide_eq_false c2
    clear c2
    obtain rfl := Option.some.inj H
    go_wp2
    repeat (go_quiet (fail); try go_wp2)
    go_ret
    exact ⟨fj, fd⟩

/-! ### spinnakerref07_moved: function 31 -/
def spinnakerref07_moved.l0 : Nat → Int → Int → Bool → Int → Int → List Int → Int → Option (Int)
  | 0, _, _, _, _, _, _, _ => none
  | k + 1, x0, x1, x2, x3, x4, x11, x12 => if x12 < x4 then (if x2 = true then (if 0 ≤ x12 then (if x12 < (x11.length : Int) then ((some (x11.set (x12 : Int).toNat x3 : List Int)).bind fun y221 => (if (wrap64 (x12 - x1)) ≥ 0 then (if (wrap64 (x12 - x1)) < x4 then ((spinnakerref01_Bit.f k (IntKind.u64.wrap (x0)) (wrap64 (x12 - x1))).bind fun t222 => (spinnakerref07_moved.l0 k x0 x1 x2 x3 x4 (y221.set (x12 : Int).toNat t222) (wrap64 (x12 + 1)))) else (spinnakerref07_moved.l0 k x0 x1 x2 x3 x4 y221 (wrap64 (x12 + 1)))) else (spinnakerref07_moved.l0 k x0 x1 x2 x3 x4 y221 (wrap64 (x12 + 1))))) else (none)) else (none)) else (if 0 ≤ x12 then (if x12 < (x11.length : Int) then ((some (x11.set (x12 : Int).toNat x3 : List Int)).bind fun y224 => (if (wrap64 (x12 + x1)) ≥ 0 then (if (wrap64 (x12 + x1)) < x4 then ((spinnakerref01_Bit.f k (IntKind.u64.wrap (x0)) (wrap64 (x12 + x1))).bind fun t225 => (spinnakerref07_moved.l0 k x0 x1 x2 x3 x4 (y224.set (x12 : Int).toNat t225) (wrap64 (x12 + 1)))) else (spinnakerref07_moved.l0 k x0 x1 x2 x3 x4 y224 (wrap64 (x12 + 1)))) else (spinnakerref07_moved.l0 k x0 x1 x2 x3 x4 y224 (wrap64 (x12 + 1))))) else (none)) else (none))) else ((spinnakerref07_num.f k x11).bind fun t220 => (some t220))
def spinnakerref07_moved.f (k : Nat) (a0 : Int) (a1 : Int) (a2 : Bool) (a3 : Int) (a4 : Int) : Option (Int) := if 64 ≤ 35184372088832 then (spinnakerref07_moved.l0 k a0 a1 a2 a3 a4 (List.replicate 64 0) 0) else (none)
theorem spinnakerref07_moved.mono_l : ∀ k, (∀ y0 y1 y2 y3 y4 y5 y6, LeO (spinnakerref07_moved.l0 k y0 y1 y2 y3 y4 y5 y6) (spinnakerref07_moved.l0 (k + 1) y0 y1 y2 y3 y4 y5 y6))
 | 0 => fun _ _ _ _ _ _ _ r h => by simp [spinnakerref07_moved.l0] at h
 | k + 1 => by
  have ih0 := spinnakerref07_moved.mono_l k
  ·intro y0 y1 y2 y3 y4 y5 y6
   unfold spinnakerref07_moved.l0
   repeat' first | (with_reducible first | exact ih0 _ _ _ _ _ _ _ | exact spinnakerref01_Bit.mono _ _ _ | exact spinnakerref07_num.mono _ _ | exact LeO.refl _ | exact LeO.none _ | refine LeO.ite ?_ ?_ | refine LeO.bind ?_ (fun _ => ?_)) | exact ih0 _ _ _ _ _ _ _ | exact spinnakerref01_Bit.mono _ _ _ | exact spinnakerref07_num.mono _ _ | exact LeO.none _ | refine LeO.ite ?_ ?_ | refine LeO.bind ?_ (fun _ => ?_)
theorem spinnakerref07_moved.mono : ∀ a0 a1 a2 a3 a4 k, LeO (spinnakerref07_moved.f k a0 a1 a2 a3 a4) (spinnakerref07_moved.f (k + 1) a0 a1 a2 a3 a4) := by
 intro a0 a1 a2 a3 a4 k
 have ih0 := spinnakerref07_moved.mono_l k
 unfold spinnakerref07_moved.f
 repeat' first | (with_reducible first | exact ih0 _ _ _ _ _ _ _ | exact spinnakerref01_Bit.mono _ _ _ | exact spinnakerref07_num.mono _ _ | exact LeO.refl _ | exact LeO.none _ | refine LeO.ite ?_ ?_ | refine LeO.bind ?_ (fun _ => ?_)) | exact ih0 _ _ _ _ _ _ _ | exact spinnakerref01_Bit.mono _ _ _ | exact spinnakerref07_num.mono _ _ | exact LeO.none _ | refine LeO.ite ?_ ?_ | refine LeO.bind ?_ (fun _ => ?_)
set_option maxHeartbeats 8000000 in
set_option maxRecDepth 100000 in
theorem spinnakerref07_moved.calls (k : Nat) (a0 : Int) (a1 : Int) (a2 : Bool) (a3 : Int) (a4 : Int) (r : Int) (w : World) (h : spinnakerref07_moved.f k a0 a1 a2 a3 a4 = some r) :
  Calls Tryd.prog 31 #[.int .i64 a0, .int .i64 a1, .bool a2, .int .i64 a3, .int .i64 a4] w fun e w' => e = .returned (.int .i64 r) ∧ Below w.heap.size w w' := by
 have HB := Aside0.mk (Below.refl w.heap.size w)
 have H : (if 64 ≤ 35184372088832 then (spinnakerref07_moved.l0 k a0 a1 a2 a3 a4 (List.replicate 64 0) 0) else (none)) = some r := h
 clear h
 by_cases c6 : 64 ≤ 35184372088832
 ·rw [if_pos c6] at H
  have c6b0 := eq_true c6
  have c6b1 : decide (64 ≤ 35184372088832) = true := decide_eq_true c6
  clear c6
  obtain ⟨y217, hy217⟩ : ∃ y_ : List Int, y_ = (List.replicate 64 0) := ⟨_, rfl⟩
  replace H : (spinnakerref07_moved.l0 k a0 a1 a2 a3 a4 y217 0) = some r := by first | (rw [hy217]; with_reducible exact H) | (have H2_ := (Option.bind_some _ _).symm.trans H; rw [hy217]; with_reducible exact H2_) | (have H2_ := (Option.bind_some _ _).symm.trans H; with_reducible exact H2_) | with_reducible exact H | (rw [hy217]; exact H) | exact H
  have Ny217 := Aside0.mk hy217
  clear hy217
  have H' := Aside0.mk H
  clear H
  go_enter Tryd.func31, Tryd.ntmps31
  go_wp2_with (first | ((with_reducible refine gate_dst (N := 14) rfl ?_); refine Kd.R_make (Kd.int .i64) _ 3 rfl (N := 14) rfl 56 _ _ rfl 64 rfl rfl Tryd.underlying56 (.int .i64 0) 8 info3 rfl (by decide) (by omega) 0 (ok := fun _ => True) (okp := fun _ => True) rfl (fun _ hk => hk) trivial (by omega) (by omega) (Below.refl _ _) (Nat.le_refl _) ?_; intro v218 w7 ho8 hb hg_ hnew_; clear hg_ hnew_; (first | rw [← Ny217.out] at ho8 | (simp only [Int.reduceToNat] at ho8; rw [← Ny217.out] at ho8)); have n0_ := Aside0.mk (Kd.R_lower ho8 (below_size bl)); have n1_ := Aside0.mk (below_step bl hb); clear HB; have HO219 := n0_; have HB := n1_; clear n0_ n1_; clear hb ho8))
  go_loopg [12] k (fun kq v12 w' => ∃ (x11_1 : List Int) (x12_1 : Int), v12 = .int .i64 x12_1 ∧ Aside0 (spinnakerref07_moved.l0 kq a0 a1 a2 a3 a4 x11_1 x12_1 = some r) ∧ Aside0 (kq ≤ k) ∧ Aside0 (Kd.R (Kd.int .i64) 3 w' w.heap.size (fun _ => True) v218 x11_1) ∧ Aside0 (Below w.heap.size w w'))
  case atStart => exact ⟨(y217), (0), fj, H', ⟨Nat.le_refl _⟩, ⟨by (with_reducible repeat (first | apply Kd.R_alloc | apply Kd.R_drewN | apply Kd.R_drew)); exact HO219.out⟩, ⟨bl⟩⟩
  case round =>
   clear H'
   try clear p2
   try clear c3
   try clear c6
   try clear c6b0
   try clear c6b1
   obtain ⟨x11_1, x12_1, rfl, HA, HK1, HO_11, HB⟩ := hrel
   cases gk with
   | zero => exact absurd HA.out (by simp [spinnakerref07_moved.l0])
   | succ k1 =>
    have H := HA.out
    clear HA
    simp only [spinnakerref07_moved.l0] at H
    by_cases c9 : x12_1 < a4
    ·rw [if_pos c9] at H
     have c9b0 := decide_eq_true c9
     clear c9
     by_cases c10 : a2 = true
     ·subst c10
      have H1 : (if 0 ≤ x12_1 then (if x12_1 < (x11_1.length : Int) then ((some (x11_1.set (x12_1 : Int).toNat a3 : List Int)).bind fun y221 => (if (wrap64 (x12_1 - a1)) ≥ 0 then (if (wrap64 (x12_1 - a1)) < a4 then ((spinnakerref01_Bit.f k1 (IntKind.u64.wrap (a0)) (wrap64 (x12_1 - a1))).bind fun t222 => (spinnakerref07_moved.l0 k1 a0 a1 true a3 a4 (y221.set (x12_1 : Int).toNat t222) (wrap64 (x12_1 + 1)))) else (spinnakerref07_moved.l0 k1 a0 a1 true a3 a4 y221 (wrap64 (x12_1 + 1)))) else (spinnakerref07_moved.l0 k1 a0 a1 true a3 a4 y221 (wrap64 (x12_1 + 1))))) else (none)) else (none)) = some r := by rw [if_pos rfl] at H; exact H
      clear H
      have H := H1
      clear H1
      by_cases c11 : 0 ≤ x12_1
      ·rw [if_pos c11] at H
       have c11b0 := decide_eq_true c11
       clear c11
       by_cases c12 : x12_1 < (x11_1.length : Int)
       ·rw [if_pos c12] at H
        have c12b0 := decide_eq_true c12
        clear c12
        obtain ⟨y221, hy221⟩ : ∃ y_ : List Int, y_ = (x11_1.set (x12_1 : Int).toNat a3) := ⟨_, rfl⟩
        replace H : (if (wrap64 (x12_1 - a1)) ≥ 0 then (if (wrap64 (x12_1 - a1)) < a4 then ((spinnakerref01_Bit.f k1 (IntKind.u64.wrap (a0)) (wrap64 (x12_1 - a1))).bind fun t222 => (spinnakerref07_moved.l0 k1 a0 a1 true a3 a4 (y221.set (x12_1 : Int).toNat t222) (wrap64 (x12_1 + 1)))) else (spinnakerref07_moved.l0 k1 a0 a1 true a3 a4 y221 (wrap64 (x12_1 + 1)))) else (spinnakerref07_moved.l0 k1 a0 a1 true a3 a4 y221 (wrap64 (x12_1 + 1)))) = some r := by first | (rw [hy221]; with_reducible exact H) | (have H2_ := (Option.bind_some _ _).symm.trans H; rw [hy221]; with_reducible exact H2_) | (have H2_ := (Option.bind_some _ _).symm.trans H; with_reducible exact H2_) | with_reducible exact H | (rw [hy221]; exact H) | exact H
        have Ny221 := Aside0.mk hy221
        clear hy221
        by_cases c14 : (wrap64 (x12_1 - a1)) ≥ 0
        ·rw [if_pos c14] at H
         have c14b0 := decide_eq_true c14
         clear c14
         by_cases c15 : (wrap64 (x12_1 - a1)) < a4
         ·rw [if_pos c15] at H
          have c15b0 := decide_eq_true c15
          clear c15
          replace H := be H
          obtain ⟨t222, A16, H⟩ := H
          obtain ⟨y223, hy223⟩ : ∃ y_ : List Int, y_ = (y221.set (x12_1 : Int).toNat t222) := ⟨_, rfl⟩
          replace H : (spinnakerref07_moved.l0 k1 a0 a1 true a3 a4 y223 (wrap64 (x12_1 + 1))) = some r := by first | (rw [hy223]; with_reducible exact H) | (have H2_ := (Option.bind_some _ _).symm.trans H; rw [hy223]; with_reducible exact H2_) | (have H2_ := (Option.bind_some _ _).symm.trans H; with_reducible exact H2_) | with_reducible exact H | (rw [hy223]; exact H) | exact H
          have Ny223 := Aside0.mk hy223
          clear hy223
          have H' := Aside0.mk H
          clear H
          have p13 : 0 ≤ (x12_1 : Int) := of_decide_eq_true (by first | (with_reducible assumption) | assumption)
          have q13 : (x12_1 : Int) < ((x11_1.length : Int) : Int) := of_decide_eq_true (by first | (with_reducible assumption) | assumption)
          obtain ⟨go13, co13, eo13, gb13, gl13, cl13, HG13⟩ := Kd.R_form HO_11.out (by omega)
          (first | cases eo13 | (injection eo13 with ea_ en_ ec_; (first | subst ea_ | (injection ea_ with ea_; subst ea_)); subst ec_; clear en_))
          have GB13 := Aside0.mk gb13
          have GG13 := Aside0.mk HG13
          clear gb13 gl13 HG13
          obtain ⟨hx13_0, hf13_0⟩ := Kd.R_celln 0 HO_11.out (x12_1 : Int) p13 q13
          replace p13 := eq_true p13
          replace q13 := eq_true q13
          have HP18 := Kd.R_putg HO_11.out (x12_1 : Int) a3
          go_wp2_with (first | ((with_reducible refine gate_store (t := 3) (p := 30) rfl ?_); refine store_event (t := 3) (p := 30) (v := ?vo_w19) (w1 := (wr.setCell ⟨go13, (x12_1 : Int).toNat, none⟩ (.int .i64 a3))) ?hg ?ho ?hn ?hr ?_; (case ho => rfl); (case hg => rfl); (case hn => rfl); (case hr => first | (go_simp; done) | (go_simp; rfl)); intro w19 hw; have hg : wr.grownBy w19 (some go13) := (by rw [hw]; exact HP18.2); have hp_ : Kd.R (Kd.int .i64) 3 w19 w.heap.size (fun _ => True) (.slice (some ⟨go13, 0, none⟩) x11_1.length co13) y221 := (by rw [hw, Ny221.out]; exact HP18.1); clear HP18; have n0_ := Aside0.mk (hp_); have n1_ := Aside0.mk ((by rw [hw]; exact below_set (HB.out) GB13.out : Below w.heap.size w w19)); clear HO_11; clear HB; have HO_11 := n0_; have HB := n1_; clear n0_ n1_; clear hg hw hp_) | ((with_reducible refine gate_callee (f := 28) rfl ?_); refine goesL_ (some 43) rfl rfl Tryd.func28 (by kernel_rfl) rfl #[.int .u64 (IntKind.u64.wrap (a0)), .int .i64 (wrap64 (x12_1 - a1))] rfl ga ?_; (with_reducible refine (spinnakerref01_Bit.calls k1 (IntKind.u64.wrap (a0)) (wrap64 (x12_1 - a1)) t222 _ A16.out).mono ?_); rintro e w' ⟨rfl, ⟨nd, rfl⟩⟩; refine ⟨_, rfl, ?_⟩; (try (rw [drewN_self w19]; generalize hq_ : World.drewN w19 _ = w19; have n0_ : Aside0 (Kd.R (Kd.int .i64) 3 w19 w.heap.size (fun _ => True) (.slice (some ⟨go13, 0, none⟩) x11_1.length co13) y221) := ⟨by rw [← hq_]; exact (by (with_reducible repeat (first | apply Kd.R_alloc | apply Kd.R_drewN | apply Kd.R_drew)); exact HO_11.out)⟩; have n1_ : Aside0 (Below w.heap.size w w19) := ⟨by rw [← hq_]; exact bl⟩; clear HO_11 HB hq_; have HO_11 := n0_; have HB := n1_; clear n0_ n1_)); have p17 : 0 ≤ (x12_1 : Int) := of_decide_eq_true (by first | (with_reducible assumption) | assumption); have q17 : (x12_1 : Int) < ((x11_1.length : Int) : Int) := of_decide_eq_true (by first | (with_reducible assumption) | assumption); obtain ⟨hx17_0, hf17_0⟩ := Kd.R_celln 0 HO_11.out (x12_1 : Int) p17 q17; replace p17 := eq_true p17; replace q17 := eq_true q17; obtain ⟨hy20_, hz20_⟩ := Kd.R_celln 0 HO_11.out (x12_1 : Int) (of_decide_eq_true (by first | (with_reducible assumption) | assumption)) (of_decide_eq_true (by first | (with_reducible assumption) | assumption)); have HP20 := Kd.R_putg HO_11.out (x12_1 : Int) t222) | ((with_reducible refine gate_store (t := 3) (p := 44) rfl ?_); refine store_event (t := 3) (p := 44) (v := ?vo_w21) (w1 := (w19.setCell ⟨go13, (x12_1 : Int).toNat, none⟩ (.int .i64 t222))) ?hg ?ho ?hn ?hr ?_; (case ho => rfl); (case hg => rfl); (case hn => rfl); (case hr => first | (go_simp; done) | (go_simp; rfl)); intro w21 hw; have hg : w19.grownBy w21 (some go13) := (by rw [hw]; exact HP20.2); have hp_ : Kd.R (Kd.int .i64) 3 w21 w.heap.size (fun _ => True) (.slice (some ⟨go13, 0, none⟩) x11_1.length co13) y223 := (by rw [hw, Ny223.out]; exact HP20.1); clear HP20; have n0_ := Aside0.mk (hp_); have n1_ := Aside0.mk ((by rw [hw]; exact below_set (HB.out) GB13.out : Below w.heap.size w w21)); clear HO_11; clear HB; have HO_11 := n0_; have HB := n1_; clear n0_ n1_; clear hg hw hp_))
          go_roundg k1
          case measure => have := HK1.out; omega
          case rel => exact ⟨(y223), (wrap64 (x12_1 + 1)), fj, H', ⟨by have := HK1.out; omega⟩, ⟨by (with_reducible repeat (first | apply Kd.R_alloc | apply Kd.R_drewN | apply Kd.R_drew)); exact HO_11.out⟩, ⟨bl⟩⟩
         ·rw [if_neg c15] at H
          have c15b0 := decide_eq_false c15
          clear c15
          have H' := Aside0.mk H
          clear H
          have p13 : 0 ≤ (x12_1 : Int) := of_decide_eq_true (by first | (with_reducible assumption) | assumption)
          have q13 : (x12_1 : Int) < ((x11_1.length : Int) : Int) := of_decide_eq_true (by first | (with_reducible assumption) | assumption)
          obtain ⟨go13, co13, eo13, gb13, gl13, cl13, HG13⟩ := Kd.R_form HO_11.out (by omega)
          (first | cases eo13 | (injection eo13 with ea_ en_ ec_; (first | subst ea_ | (injection ea_ with ea_; subst ea_)); subst ec_; clear en_))
          have GB13 := Aside0.mk gb13
          have GG13 := Aside0.mk HG13
          clear gb13 gl13 HG13
          obtain ⟨hx13_0, hf13_0⟩ := Kd.R_celln 0 HO_11.out (x12_1 : Int) p13 q13
          replace p13 := eq_true p13
          replace q13 := eq_true q13
          have HP22 := Kd.R_putg HO_11.out (x12_1 : Int) a3
          go_wp2_with (first | ((with_reducible refine gate_store (t := 3) (p := 30) rfl ?_); refine store_event (t := 3) (p := 30) (v := ?vo_w23) (w1 := (wr.setCell ⟨go13, (x12_1 : Int).toNat, none⟩ (.int .i64 a3))) ?hg ?ho ?hn ?hr ?_; (case ho => rfl); (case hg => rfl); (case hn => rfl); (case hr => first | (go_simp; done) | (go_simp; rfl)); intro w23 hw; have hg : wr.grownBy w23 (some go13) := (by rw [hw]; exact HP22.2); have hp_ : Kd.R (Kd.int .i64) 3 w23 w.heap.size (fun _ => True) (.slice (some ⟨go13, 0, none⟩) x11_1.length co13) y221 := (by rw [hw, Ny221.out]; exact HP22.1); clear HP22; have n0_ := Aside0.mk (hp_); have n1_ := Aside0.mk ((by rw [hw]; exact below_set (HB.out) GB13.out : Below w.heap.size w w23)); clear HO_11; clear HB; have HO_11 := n0_; have HB := n1_; clear n0_ n1_; clear hg hw hp_))
          go_roundg k1
          case measure => have := HK1.out; omega
          case rel => exact ⟨(y221), (wrap64 (x12_1 + 1)), fj, H', ⟨by have := HK1.out; omega⟩, ⟨by (with_reducible repeat (first | apply Kd.R_alloc | apply Kd.R_drewN | apply Kd.R_drew)); exact HO_11.out⟩, ⟨bl⟩⟩
        ·rw [if_neg c14] at H
         have c14b0 := decide_eq_false c14
         clear c14
         have H' := Aside0.mk H
         clear H
         have p13 : 0 ≤ (x12_1 : Int) := of_decide_eq_true (by first | (with_reducible assumption) | assumption)
         have q13 : (x12_1 : Int) < ((x11_1.length : Int) : Int) := of_decide_eq_true (by first | (with_reducible assumption) | assumption)
         obtain ⟨go13, co13, eo13, gb13, gl13, cl13, HG13⟩ := Kd.R_form HO_11.out (by omega)
         (first | cases eo13 | (injection eo13 with ea_ en_ ec_; (first | subst ea_ | (injection ea_ with ea_; subst ea_)); subst ec_; clear en_))
         have GB13 := Aside0.mk gb13
         have GG13 := Aside0.mk HG13
         clear gb13 gl13 HG13
         obtain ⟨hx13_0, hf13_0⟩ := Kd.R_celln 0 HO_11.out (x12_1 : Int) p13 q13
         replace p13 := eq_true p13
         replace q13 := eq_true q13
         have HP24 := Kd.R_putg HO_11.out (x12_1 : Int) a3
         go_wp2_with (first | ((with_reducible refine gate_store (t := 3) (p := 30) rfl ?_); refine store_event (t := 3) (p := 30) (v := ?vo_w25) (w1 := (wr.setCell ⟨go13, (x12_1 : Int).toNat, none⟩ (.int .i64 a3))) ?hg ?ho ?hn ?hr ?_; (case ho => rfl); (case hg => rfl); (case hn => rfl); (case hr => first | (go_simp; done) | (go_simp; rfl)); intro w25 hw; have hg : wr.grownBy w25 (some go13) := (by rw [hw]; exact HP24.2); have hp_ : Kd.R (Kd.int .i64) 3 w25 w.heap.size (fun _ => True) (.slice (some ⟨go13, 0, none⟩) x11_1.length co13) y221 := (by rw [hw, Ny221.out]; exact HP24.1); clear HP24; have n0_ := Aside0.mk (hp_); have n1_ := Aside0.mk ((by rw [hw]; exact below_set (HB.out) GB13.out : Below w.heap.size w w25)); clear HO_11; clear HB; have HO_11 := n0_; have HB := n1_; clear n0_ n1_; clear hg hw hp_))
         go_roundg k1
         case measure => have := HK1.out; omega
         case rel => exact ⟨(y221), (wrap64 (x12_1 + 1)), fj, H', ⟨by have := HK1.out; omega⟩, ⟨by (with_reducible repeat (first | apply Kd.R_alloc | apply Kd.R_drewN | apply Kd.R_drew)); exact HO_11.out⟩, ⟨bl⟩⟩
       ·rw [if_neg c12] at H
        exact absurd H (by simp)
      ·rw [if_neg c11] at H
       exact absurd H (by simp)
     ·replace c10 := Bool.eq_false_iff.mpr c10
      subst c10
      have H1 : (if 0 ≤ x12_1 then (if x12_1 < (x11_1.length : Int) then ((some (x11_1.set (x12_1 : Int).toNat a3 : List Int)).bind fun y224 => (if (wrap64 (x12_1 + a1)) ≥ 0 then (if (wrap64 (x12_1 + a1)) < a4 then ((spinnakerref01_Bit.f k1 (IntKind.u64.wrap (a0)) (wrap64 (x12_1 + a1))).bind fun t225 => (spinnakerref07_moved.l0 k1 a0 a1 false a3 a4 (y224.set (x12_1 : Int).toNat t225) (wrap64 (x12_1 + 1)))) else (spinnakerref07_moved.l0 k1 a0 a1 false a3 a4 y224 (wrap64 (x12_1 + 1)))) else (spinnakerref07_moved.l0 k1 a0 a1 false a3 a4 y224 (wrap64 (x12_1 + 1))))) else (none)) else (none)) = some r := by rw [if_neg (show ¬ (false = true) by decide)] at H; exact H
      clear H
      have H := H1
      clear H1
      by_cases c26 : 0 ≤ x12_1
      ·rw [if_pos c26] at H
       have c26b0 := decide_eq_true c26
       clear c26
       by_cases c27 : x12_1 < (x11_1.length : Int)
       ·rw [if_pos c27] at H
        have c27b0 := decide_eq_true c27
        clear c27
        obtain ⟨y224, hy224⟩ : ∃ y_ : List Int, y_ = (x11_1.set (x12_1 : Int).toNat a3) := ⟨_, rfl⟩
        replace H : (if (wrap64 (x12_1 + a1)) ≥ 0 then (if (wrap64 (x12_1 + a1)) < a4 then ((spinnakerref01_Bit.f k1 (IntKind.u64.wrap (a0)) (wrap64 (x12_1 + a1))).bind fun t225 => (spinnakerref07_moved.l0 k1 a0 a1 false a3 a4 (y224.set (x12_1 : Int).toNat t225) (wrap64 (x12_1 + 1)))) else (spinnakerref07_moved.l0 k1 a0 a1 false a3 a4 y224 (wrap64 (x12_1 + 1)))) else (spinnakerref07_moved.l0 k1 a0 a1 false a3 a4 y224 (wrap64 (x12_1 + 1)))) = some r := by first | (rw [hy224]; with_reducible exact H) | (have H2_ := (Option.bind_some _ _).symm.trans H; rw [hy224]; with_reducible exact H2_) | (have H2_ := (Option.bind_some _ _).symm.trans H; with_reducible exact H2_) | with_reducible exact H | (rw [hy224]; exact H) | exact H
        have Ny224 := Aside0.mk hy224
        clear hy224
        by_cases c29 : (wrap64 (x12_1 + a1)) ≥ 0
        ·rw [if_pos c29] at H
         have c29b0 := decide_eq_true c29
         clear c29
         by_cases c30 : (wrap64 (x12_1 + a1)) < a4
         ·rw [if_pos c30] at H
          have c30b0 := decide_eq_true c30
          clear c30
          replace H := be H
          obtain ⟨t225, A31, H⟩ := H
          obtain ⟨y226, hy226⟩ : ∃ y_ : List Int, y_ = (y224.set (x12_1 : Int).toNat t225) := ⟨_, rfl⟩
          replace H : (spinnakerref07_moved.l0 k1 a0 a1 false a3 a4 y226 (wrap64 (x12_1 + 1))) = some r := by first | (rw [hy226]; with_reducible exact H) | (have H2_ := (Option.bind_some _ _).symm.trans H; rw [hy226]; with_reducible exact H2_) | (have H2_ := (Option.bind_some _ _).symm.trans H; with_reducible exact H2_) | with_reducible exact H | (rw [hy226]; exact H) | exact H
          have Ny226 := Aside0.mk hy226
          clear hy226
          have H' := Aside0.mk H
          clear H
          have p28 : 0 ≤ (x12_1 : Int) := of_decide_eq_true (by first | (with_reducible assumption) | assumption)
          have q28 : (x12_1 : Int) < ((x11_1.length : Int) : Int) := of_decide_eq_true (by first | (with_reducible assumption) | assumption)
          obtain ⟨go28, co28, eo28, gb28, gl28, cl28, HG28⟩ := Kd.R_form HO_11.out (by omega)
          (first | cases eo28 | (injection eo28 with ea_ en_ ec_; (first | subst ea_ | (injection ea_ with ea_; subst ea_)); subst ec_; clear en_))
          have GB28 := Aside0.mk gb28
          have GG28 := Aside0.mk HG28
          clear gb28 gl28 HG28
          obtain ⟨hx28_0, hf28_0⟩ := Kd.R_celln 0 HO_11.out (x12_1 : Int) p28 q28
          replace p28 := eq_true p28
          replace q28 := eq_true q28
          have HP33 := Kd.R_putg HO_11.out (x12_1 : Int) a3
          go_wp2_with (first | ((with_reducible refine gate_store (t := 3) (p := 30) rfl ?_); refine store_event (t := 3) (p := 30) (v := ?vo_w34) (w1 := (wr.setCell ⟨go28, (x12_1 : Int).toNat, none⟩ (.int .i64 a3))) ?hg ?ho ?hn ?hr ?_; (case ho => rfl); (case hg => rfl); (case hn => rfl); (case hr => first | (go_simp; done) | (go_simp; rfl)); intro w34 hw; have hg : wr.grownBy w34 (some go28) := (by rw [hw]; exact HP33.2); have hp_ : Kd.R (Kd.int .i64) 3 w34 w.heap.size (fun _ => True) (.slice (some ⟨go28, 0, none⟩) x11_1.length co28) y224 := (by rw [hw, Ny224.out]; exact HP33.1); clear HP33; have n0_ := Aside0.mk (hp_); have n1_ := Aside0.mk ((by rw [hw]; exact below_set (HB.out) GB28.out : Below w.heap.size w w34)); clear HO_11; clear HB; have HO_11 := n0_; have HB := n1_; clear n0_ n1_; clear hg hw hp_) | ((with_reducible refine gate_callee (f := 28) rfl ?_); refine goesL_ (some 43) rfl rfl Tryd.func28 (by kernel_rfl) rfl #[.int .u64 (IntKind.u64.wrap (a0)), .int .i64 (wrap64 (x12_1 + a1))] rfl ga ?_; (with_reducible refine (spinnakerref01_Bit.calls k1 (IntKind.u64.wrap (a0)) (wrap64 (x12_1 + a1)) t225 _ A31.out).mono ?_); rintro e w' ⟨rfl, ⟨nd, rfl⟩⟩; refine ⟨_, rfl, ?_⟩; (try (rw [drewN_self w34]; generalize hq_ : World.drewN w34 _ = w34; have n0_ : Aside0 (Kd.R (Kd.int .i64) 3 w34 w.heap.size (fun _ => True) (.slice (some ⟨go28, 0, none⟩) x11_1.length co28) y224) := ⟨by rw [← hq_]; exact (by (with_reducible repeat (first | apply Kd.R_alloc | apply Kd.R_drewN | apply Kd.R_drew)); exact HO_11.out)⟩; have n1_ : Aside0 (Below w.heap.size w w34) := ⟨by rw [← hq_]; exact bl⟩; clear HO_11 HB hq_; have HO_11 := n0_; have HB := n1_; clear n0_ n1_)); have p32 : 0 ≤ (x12_1 : Int) := of_decide_eq_true (by first | (with_reducible assumption) | assumption); have q32 : (x12_1 : Int) < ((x11_1.length : Int) : Int) := of_decide_eq_true (by first | (with_reducible assumption) | assumption); obtain ⟨hx32_0, hf32_0⟩ := Kd.R_celln 0 HO_11.out (x12_1 : Int) p32 q32; replace p32 := eq_true p32; replace q32 := eq_true q32; obtain ⟨hy35_, hz35_⟩ := Kd.R_celln 0 HO_11.out (x12_1 : Int) (of_decide_eq_true (by first | (with_reducible assumption) | assumption)) (of_decide_eq_true (by first | (with_reducible assumption) | assumption)); have HP35 := Kd.R_putg HO_11.out (x12_1 : Int) t225) | ((with_reducible refine gate_store (t := 3) (p := 44) rfl ?_); refine store_event (t := 3) (p := 44) (v := ?vo_w36) (w1 := (w34.setCell ⟨go28, (x12_1 : Int).toNat, none⟩ (.int .i64 t225))) ?hg ?ho ?hn ?hr ?_; (case ho => rfl); (case hg => rfl); (case hn => rfl); (case hr => first | (go_simp; done) | (go_simp; rfl)); intro w36 hw; have hg : w34.grownBy w36 (some go28) := (by rw [hw]; exact HP35.2); have hp_ : Kd.R (Kd.int .i64) 3 w36 w.heap.size (fun _ => True) (.slice (some ⟨go28, 0, none⟩) x11_1.length co28) y226 := (by rw [hw, Ny226.out]; exact HP35.1); clear HP35; have n0_ := Aside0.mk (hp_); have n1_ := Aside0.mk ((by rw [hw]; exact below_set (HB.out) GB28.out : Below w.heap.size w w36)); clear HO_11; clear HB; have HO_11 := n0_; have HB := n1_; clear n0_ n1_; clear hg hw hp_))
          go_roundg k1
          case measure => have := HK1.out; omega
          case rel => exact ⟨(y226), (wrap64 (x12_1 + 1)), fj, H', ⟨by have := HK1.out; omega⟩, ⟨by (with_reducible repeat (first | apply Kd.R_alloc | apply Kd.R_drewN | apply Kd.R_drew)); exact HO_11.out⟩, ⟨bl⟩⟩
         ·rw [if_neg c30] at H
          have c30b0 := decide_eq_false c30
          clear c30
          have H' := Aside0.mk H
          clear H
          have p28 : 0 ≤ (x12_1 : Int) := of_decide_eq_true (by first | (with_reducible assumption) | assumption)
          have q28 : (x12_1 : Int) < ((x11_1.length : Int) : Int) := of_decide_eq_true (by first | (with_reducible assumption) | assumption)
          obtain ⟨go28, co28, eo28, gb28, gl28, cl28, HG28⟩ := Kd.R_form HO_11.out (by omega)
          (first | cases eo28 | (injection eo28 with ea_ en_ ec_; (first | subst ea_ | (injection ea_ with ea_; subst ea_)); subst ec_; clear en_))
          have GB28 := Aside0.mk gb28
          have GG28 := Aside0.mk HG28
          clear gb28 gl28 HG28
          obtain ⟨hx28_0, hf28_0⟩ := Kd.R_celln 0 HO_11.out (x12_1 : Int) p28 q28
          replace p28 := eq_true p28
          replace q28 := eq_true q28
          have HP37 := Kd.R_putg HO_11.out (x12_1 : Int) a3
          go_wp2_with (first | ((with_reducible refine gate_store (t := 3) (p := 30) rfl ?_); refine store_event (t := 3) (p := 30) (v := ?vo_w38) (w1 := (wr.setCell ⟨go28, (x12_1 : Int).toNat, none⟩ (.int .i64 a3))) ?hg ?ho ?hn ?hr ?_; (case ho => rfl); (case hg => rfl); (case hn => rfl); (case hr => first | (go_simp; done) | (go_simp; rfl)); intro w38 hw; have hg : wr.grownBy w38 (some go28) := (by rw [hw]; exact HP37.2); have hp_ : Kd.R (Kd.int .i64) 3 w38 w.heap.size (fun _ => True) (.slice (some ⟨go28, 0, none⟩) x11_1.length co28) y224 := (by rw [hw, Ny224.out]; exact HP37.1); clear HP37; have n0_ := Aside0.mk (hp_); have n1_ := Aside0.mk ((by rw [hw]; exact below_set (HB.out) GB28.out : Below w.heap.size w w38)); clear HO_11; clear HB; have HO_11 := n0_; have HB := n1_; clear n0_ n1_; clear hg hw hp_))
          go_roundg k1
          case measure => have := HK1.out; omega
          case rel => exact ⟨(y224), (wrap64 (x12_1 + 1)), fj, H', ⟨by have := HK1.out; omega⟩, ⟨by (with_reducible repeat (first | apply Kd.R_alloc | apply Kd.R_drewN | apply Kd.R_drew)); exact HO_11.out⟩, ⟨bl⟩⟩
        ·rw [if_neg c29] at H
         have c29b0 := decide_eq_false c29
         clear c29
         have H' := Aside0.mk H
         clear H
         have p28 : 0 ≤ (x12_1 : Int) := of_decide_eq_true (by first | (with_reducible assumption) | assumption)
         have q28 : (x12_1 : Int) < ((x11_1.length : Int) : Int) := of_decide_eq_true (by first | (with_reducible assumption) | assumption)
         obtain ⟨go28, co28, eo28, gb28, gl28, cl28, HG28⟩ := Kd.R_form HO_11.out (by omega)
         (first | cases eo28 | (injection eo28 with ea_ en_ ec_; (first | subst ea_ | (injection ea_ with ea_; subst ea_)); subst ec_; clear en_))
         have GB28 := Aside0.mk gb28
         have GG28 := Aside0.mk HG28
         clear gb28 gl28 HG28
         obtain ⟨hx28_0, hf28_0⟩ := Kd.R_celln 0 HO_11.out (x12_1 : Int) p28 q28
         replace p28 := eq_true p28
         replace q28 := eq_true q28
         have HP39 := Kd.R_putg HO_11.out (x12_1 : Int) a3
         go_wp2_with (first | ((with_reducible refine gate_store (t := 3) (p := 30) rfl ?_); refine store_event (t := 3) (p := 30) (v := ?vo_w40) (w1 := (wr.setCell ⟨go28, (x12_1 : Int).toNat, none⟩ (.int .i64 a3))) ?hg ?ho ?hn ?hr ?_; (case ho => rfl); (case hg => rfl); (case hn => rfl); (case hr => first | (go_simp; done) | (go_simp; rfl)); intro w40 hw; have hg : wr.grownBy w40 (some go28) := (by rw [hw]; exact HP39.2); have hp_ : Kd.R (Kd.int .i64) 3 w40 w.heap.size (fun _ => True) (.slice (some ⟨go28, 0, none⟩) x11_1.length co28) y224 := (by rw [hw, Ny224.out]; exact HP39.1); clear HP39; have n0_ := Aside0.mk (hp_); have n1_ := Aside0.mk ((by rw [hw]; exact below_set (HB.out) GB28.out : Below w.heap.size w w40)); clear HO_11; clear HB; have HO_11 := n0_; have HB := n1_; clear n0_ n1_; clear hg hw hp_))
         go_roundg k1
         case measure => have := HK1.out; omega
         case rel => exact ⟨(y224), (wrap64 (x12_1 + 1)), fj, H', ⟨by have := HK1.out; omega⟩, ⟨by (with_reducible repeat (first | apply Kd.R_alloc | apply Kd.R_drewN | apply Kd.R_drew)); exact HO_11.out⟩, ⟨bl⟩⟩
       ·rw [if_neg c27] at H
        exact absurd H (by simp)
      ·rw [if_neg c26] at H
       exact absurd H (by simp)
    ·rw [if_neg c9] at H
     have c9b0 := decide_eq_false c9
     clear c9
     replace H := be H
     obtain ⟨t220, A41, H⟩ := H
     obtain rfl := Option.some.inj H
     obtain ⟨Ao42, co42, eo42⟩ := Kd.R_slice HO_11.out
     subst eo42
     go_wp2_with (first | ((with_reducible refine gate_callee (f := 38) rfl ?_); refine goesL_ (some 46) rfl rfl Tryd.func38 (by kernel_rfl) rfl #[.slice Ao42 x11_1.length co42] rfl ga ?_; (with_reducible refine (spinnakerref07_num.calls k1 _ _ x11_1 t220 _ ?side1 ?side2 A41.out).mono ?_); (case side1 => repeat (first | exact (Kd.R_reads' HO_11.out).2.2 | (with_reducible refine Kd.C_alloc ?_ _) | (with_reducible refine Kd.C_drewN ?_ _) | (with_reducible refine Kd.C_drew ?_))); (case side2 => exact (Kd.R_reads' HO_11.out).2.1); rintro e w' ⟨rfl, ⟨nd, rfl⟩⟩; refine ⟨_, rfl, ?_⟩))
     go_ret
     exact ⟨fi, bl⟩
 ·rw [if_neg c6] at H
  exact absurd H (by simp)

/-! ### spinnakerref07_one: function 32 -/
def spinnakerref07_one.f (a0 : Bool) : Option (Int) := if a0 = true then (some 1) else (some 0)
set_option maxHeartbeats 8000000 in
set_option maxRecDepth 100000 in
theorem spinnakerref07_one.calls (a0 : Bool) (r : Int) (w : World) (h : spinnakerref07_one.f a0 = some r) :
  Calls Tryd.prog 32 #[.bool a0] w fun e w' => e = .returned (.int .i64 r) ∧ Drawn0 w w' := by
 have H : (if a0 = true then (some 1) else (some 0)) = some r := h
 clear h
 by_cases c2 : a0 = true
 ·subst c2
  have H1 : (some 1) = some r := by rw [if_pos rfl] at H; exact H
  clear H
  have H := H1
  clear H1
  obtain rfl := Option.some.inj H
  go_enter Tryd.func32, Tryd.ntmps32
  go_wp2
  go_ret
  exact ⟨fj, fd⟩
 ·replace c2 := Bool.eq_false_iff.mpr c2
  subst c2
  have H1 : (some 0) = some r := by rw [if_neg (show ¬ (false = true) by decide)] at H; exact H
  clear H
  have H := H1
  clear H1
  obtain rfl := Option.some.inj H
  go_enter Tryd.func32, Tryd.ntmps32
  go_wp2
  go_ret
  exact ⟨fj, fd⟩

end Go.Proofs.YtmkcnbaknnohgaaDoor.GUnitLoads
