-- Written by wip/stub.py of this repo.
import Derived.Test.YtffehgfjjagibaaDoorGImagePlacesx0
import Derived.Test.YtffehgfjjagibaaDoorGImagePlacesx3
namespace Go.Proofs.YtffehgfjjagibaaDoor.GImagePlaces
open Go.RowKit Go.Proofs.YtffehgfjjagibaaDoorW.PrintWords Go.Proofs.YtffehgfjjagibaaDoorW.PrintLast Go.Proofs.YtffehgfjjagibaaDoorW.PrintMore
attribute [local go_sem] max2_int min2_int max_two min_two max_three min_three max_four min_four   -- for this text's walks alone
set_option linter.unusedVariables false
set_option linter.unusedSimpArgs false

/-! ### isa_other: function 75 -/
mutual
def isa_other.j0 : Nat → Int → Int → Bool → Option (Int)
  | 0, _, _, _ => none
  | k + 1, x0, x3, x4 => if x4 = true then (some 7) else (if x3 = 32 then (isa_other.j1 k x0 x3 (x3 == 32)) else (if x3 = 33 then (isa_other.j1 k x0 x3 (x3 == 33)) else (isa_other.j1 k x0 x3 (x3 == 34))))
def isa_other.j1 : Nat → Int → Int → Bool → Option (Int)
  | 0, _, _, _ => none
  | k + 1, x0, x3, x8 => if x8 = true then (some 8) else (if x3 = 63 then (some 9) else (if x3 = 64 then (some 0) else (if x3 = 65 then (some 0) else (if x3 = 66 then (isa_other.j2 k x0 (x3 == 66)) else (isa_other.j2 k x0 (x3 == 77))))))
def isa_other.j2 : Nat → Int → Bool → Option (Int)
  | 0, _, _ => none
  | k + 1, x0, x18 => if x18 = true then (some 10) else (if x0 > 66 then (some 11) else (some 3))
end
def isa_other.f (k : Nat) (a0 : Int) : Option (Int) := if a0 = 28 then (isa_other.j0 k a0 a0 (a0 == 28)) else (if a0 = 29 then (isa_other.j0 k a0 a0 (a0 == 29)) else (isa_other.j0 k a0 a0 (a0 == 30)))
theorem isa_other.mono_l : ∀ k, (∀ y0 y1 y2, LeO (isa_other.j0 k y0 y1 y2) (isa_other.j0 (k + 1) y0 y1 y2)) ∧ (∀ y0 y1 y2, LeO (isa_other.j1 k y0 y1 y2) (isa_other.j1 (k + 1) y0 y1 y2)) ∧ (∀ y0 y1, LeO (isa_other.j2 k y0 y1) (isa_other.j2 (k + 1) y0 y1))
 | 0 => ⟨fun _ _ _ r h => by simp [isa_other.j0] at h, fun _ _ _ r h => by simp [isa_other.j1] at h, fun _ _ r h => by simp [isa_other.j2] at h⟩
 | k + 1 => by
  obtain ⟨ih0, ih1, ih2⟩ := isa_other.mono_l k
  refine ⟨?_, ?_, ?_⟩
  all_goals (intros; (first | unfold isa_other.j0 | unfold isa_other.j1 | unfold isa_other.j2); repeat' first | (with_reducible first | exact ih0 _ _ _ | exact ih1 _ _ _ | exact ih2 _ _ | exact LeO.refl _ | exact LeO.none _ | refine LeO.ite ?_ ?_ | refine LeO.bind ?_ (fun _ => ?_)) | exact ih0 _ _ _ | exact ih1 _ _ _ | exact ih2 _ _ | exact LeO.none _ | refine LeO.ite ?_ ?_ | refine LeO.bind ?_ (fun _ => ?_))
theorem isa_other.mono : ∀ a0 k, LeO (isa_other.f k a0) (isa_other.f (k + 1) a0) := by
 intro a0 k
 obtain ⟨ih0, ih1, ih2⟩ := isa_other.mono_l k
 unfold isa_other.f
 repeat' first | (with_reducible first | exact ih0 _ _ _ | exact ih1 _ _ _ | exact ih2 _ _ | exact LeO.refl _ | exact LeO.none _ | refine LeO.ite ?_ ?_ | refine LeO.bind ?_ (fun _ => ?_)) | exact ih0 _ _ _ | exact ih1 _ _ _ | exact ih2 _ _ | exact LeO.none _ | refine LeO.ite ?_ ?_ | refine LeO.bind ?_ (fun _ => ?_)
set_option maxHeartbeats 8000000 in
set_option maxRecDepth 100000 in
theorem isa_other.calls (k : Nat) (a0 : Int) (r : Int) (w : World) (h : isa_other.f k a0 = some r) :
  Calls Tryd.prog 75 #[.int .i64 a0] w fun e w' => e = .returned (.int .i64 r) ∧ Drawn0 w w' := by
 have H : (if a0 = 28 then (isa_other.j0 k a0 a0 (a0 == 28)) else (if a0 = 29 then (isa_other.j0 k a0 a0 (a0 == 29)) else (isa_other.j0 k a0 a0 (a0 == 30)))) = some r := h
 clear h
 have HC2 := Aside0.mk H
 clear H
 go_enter Tryd.func75, Tryd.ntmps75
 go_upto_if 4 with (fail)
 go_cut [4] (fun v4 wc => ∃ (kq : Nat) (x4_1 : Bool), v4 = .bool x4_1 ∧ Aside0 (isa_other.j0 kq a0 a0 x4_1 = some r) ∧ Aside0 (kq ≤ k) ∧ Drawn0 w wc)
 case first =>
  have H := HC2.out
  clear HC2
  by_cases c3 : a0 = 28
  ·rw [if_pos c3] at H
   obtain ⟨c3b0, c3b1⟩ := eqs c3
   clear c3
   (first | rw [c3b0] | (simp only [i64_w, i32_w]; rw [c3b0]) | skip)
   have H' := Aside0.mk H
   clear H
   go_wp2
   go_meet
   case rel => exact ⟨_, ((a0 == 28)), fj, H', ⟨by first | omega | exact Nat.le_refl _⟩, fd⟩
  ·rw [if_neg c3] at H
   have c3b0 : (a0 == 28) = false := beq_eq_false_iff_ne.mpr c3
   have c3b1 : (a0 != 28) = true := bne_iff_ne.mpr c3
   (first | rw [c3b0] | (simp only [i64_w, i32_w]; rw [c3b0]) | skip)
   by_cases c4 : a0 = 29
   ·rw [if_pos c4] at H
    obtain ⟨c4b0, c4b1⟩ := eqs c4
    clear c4
    have H' := Aside0.mk H
    clear H
    go_wp2
    go_meet
    case rel => exact ⟨_, ((a0 == 29)), fj, H', ⟨by first | omega | exact Nat.le_refl _⟩, fd⟩
   ·rw [if_neg c4] at H
    have c4b0 : (a0 == 29) = false := beq_eq_false_iff_ne.mpr c4
    have c4b1 : (a0 != 29) = true := bne_iff_ne.mpr c4
    have H' := Aside0.mk H
    clear H
    go_wp2
    go_meet
    case rel => exact ⟨_, ((a0 == 30)), fj, H', ⟨by first | omega | exact Nat.le_refl _⟩, fd⟩
 case rest =>
  clear HC2
  try clear p2
  try clear c3
  try clear c3b0
  try clear c3b1
  try clear c4
  try clear c4b0
  try clear c4b1
  obtain ⟨kq, x4_1, rfl, HA, HJ1, ⟨mc1, rfl⟩⟩ := hcut
  cases kq with
  | zero => exact absurd HA.out (by simp [isa_other.j0])
  | succ kj1 =>
   have H := HA.out
   clear HA
   simp only [isa_other.j0] at H
   by_cases c5 : x4_1 = true
   ·subst c5
    have H1 : (some 7) = some r := by rw [if_pos rfl] at H; exact H
    clear H
    have H := H1
    clear H1
    obtain rfl := Option.some.inj H
    go_wp2
    go_ret
    exact ⟨fj, fd⟩
   ·replace c5 := Bool.eq_false_iff.mpr c5
    subst c5
    have H1 : (if a0 = 32 then (isa_other.j1 kj1 a0 a0 (a0 == 32)) else (if a0 = 33 then (isa_other.j1 kj1 a0 a0 (a0 == 33)) else (isa_other.j1 kj1 a0 a0 (a0 == 34)))) = some r := by rw [if_neg (show ¬ (false = true) by decide)] at H; exact H
    clear H
    have H := H1
    clear H1
    have HC6 := Aside0.mk H
    clear H
    go_upto_if 8 with (fail)
    go_cut [8] (fun v8 wc => ∃ (kq : Nat) (x8_5 : Bool), v8 = .bool x8_5 ∧ Aside0 (isa_other.j1 kq a0 a0 x8_5 = some r) ∧ Aside0 (kq ≤ kj1) ∧ Drawn0 w wc)
    case first =>
     have H := HC6.out
     clear HC6
     by_cases c7 : a0 = 32
     ·rw [if_pos c7] at H
      obtain ⟨c7b0, c7b1⟩ := eqs c7
      clear c7
      (first | rw [c7b0] | (simp only [i64_w, i32_w]; rw [c7b0]) | skip)
      have H' := Aside0.mk H
      clear H
      go_wp2
      go_meet
      case rel => exact ⟨_, ((a0 == 32)), fj, H', ⟨by have := HJ1.out; first | omega | exact Nat.le_refl _⟩, fd⟩
     ·rw [if_neg c7] at H
      have c7b0 : (a0 == 32) = false := beq_eq_false_iff_ne.mpr c7
      have c7b1 : (a0 != 32) = true := bne_iff_ne.mpr c7
      (first | rw [c7b0] | (simp only [i64_w, i32_w]; rw [c7b0]) | skip)
      by_cases c8 : a0 = 33
      ·rw [if_pos c8] at H
       obtain ⟨c8b0, c8b1⟩ := eqs c8
       clear c8
       have H' := Aside0.mk H
       clear H
       go_wp2
       go_meet
       case rel => exact ⟨_, ((a0 == 33)), fj, H', ⟨by have := HJ1.out; first | omega | exact Nat.le_refl _⟩, fd⟩
      ·rw [if_neg c8] at H
       have c8b0 : (a0 == 33) = false := beq_eq_false_iff_ne.mpr c8
       have c8b1 : (a0 != 33) = true := bne_iff_ne.mpr c8
       have H' := Aside0.mk H
       clear H
       go_wp2
       go_meet
       case rel => exact ⟨_, ((a0 == 34)), fj, H', ⟨by have := HJ1.out; first | omega | exact Nat.le_refl _⟩, fd⟩
    case rest =>
     clear HC6
     try clear c1
     try clear p2
     try clear c3
     try clear c3b0
     try clear c3b1
     try clear c4
     try clear c4b0
     try clear c4b1
     try clear c5
     try clear c7
     try clear c7b0
     try clear c7b1
     try clear c8
     try clear c8b0
     try clear c8b1
     try clear p2
     obtain ⟨kq, x8_5, rfl, HA, HJ5, ⟨mc5, rfl⟩⟩ := hcut
     cases kq with
     | zero => exact absurd HA.out (by simp [isa_other.j1])
     | succ kj5 =>
      have H := HA.out
      clear HA
      simp only [isa_other.j1] at H
      by_cases c9 : x8_5 = true
      ·subst c9
       have H1 : (some 8) = some r := by rw [if_pos rfl] at H; exact H
       clear H
       have H := H1
       clear H1
       obtain rfl := Option.some.inj H
       go_wp2
       go_ret
       exact ⟨fj, fd⟩
      ·replace c9 := Bool.eq_false_iff.mpr c9
       subst c9
       have H1 : (if a0 = 63 then (some 9) else (if a0 = 64 then (some 0) else (if a0 = 65 then (some 0) else (if a0 = 66 then (isa_other.j2 kj5 a0 (a0 == 66)) else (isa_other.j2 kj5 a0 (a0 == 77)))))) = some r := by rw [if_neg (show ¬ (false = true) by decide)] at H; exact H
       clear H
       have H := H1
       clear H1
       by_cases c10 : a0 = 63
       ·rw [if_pos c10] at H
        obtain ⟨c10b0, c10b1⟩ := eqs c10
        clear c10
        obtain rfl := Option.some.inj H
        go_wp2
        go_ret
        exact ⟨fj, fd⟩
       ·rw [if_neg c10] at H
        have c10b0 : (a0 == 63) = false := beq_eq_false_iff_ne.mpr c10
        have c10b1 : (a0 != 63) = true := bne_iff_ne.mpr c10
        by_cases c11 : a0 = 64
        ·rw [if_pos c11] at H
         obtain ⟨c11b0, c11b1⟩ := eqs c11
         clear c11
         obtain rfl := Option.some.inj H
         go_wp2
         go_ret
         exact ⟨fj, fd⟩
        ·rw [if_neg c11] at H
         have c11b0 : (a0 == 64) = false := beq_eq_false_iff_ne.mpr c11
         have c11b1 : (a0 != 64) = true := bne_iff_ne.mpr c11
         by_cases c12 : a0 = 65
         ·rw [if_pos c12] at H
          obtain ⟨c12b0, c12b1⟩ := eqs c12
          clear c12
          obtain rfl := Option.some.inj H
          go_wp2
          go_ret
          exact ⟨fj, fd⟩
         ·rw [if_neg c12] at H
          have c12b0 : (a0 == 65) = false := beq_eq_false_iff_ne.mpr c12
          have c12b1 : (a0 != 65) = true := bne_iff_ne.mpr c12
          have HC13 := Aside0.mk H
          clear H
          go_upto_if 18 with (fail)
          go_cut [18] (fun v18 wc => ∃ (kq : Nat) (x18_12 : Bool), v18 = .bool x18_12 ∧ Aside0 (isa_other.j2 kq a0 x18_12 = some r) ∧ Aside0 (kq ≤ kj5) ∧ Drawn0 w wc)
          case first =>
           have H := HC13.out
           clear HC13
           by_cases c14 : a0 = 66
           ·rw [if_pos c14] at H
            obtain ⟨c14b0, c14b1⟩ := eqs c14
            clear c14
            (first | rw [c14b0] | (simp only [i64_w, i32_w]; rw [c14b0]) | skip)
            have H' := Aside0.mk H
            clear H
            go_wp2
            go_meet
            case rel => exact ⟨_, ((a0 == 66)), fj, H', ⟨by have := HJ1.out; have := HJ5.out; first | omega | exact Nat.le_refl _⟩, fd⟩
           ·rw [if_neg c14] at H
            have c14b0 : (a0 == 66) = false := beq_eq_false_iff_ne.mpr c14
            have c14b1 : (a0 != 66) = true := bne_iff_ne.mpr c14
            (first | rw [c14b0] | (simp only [i64_w, i32_w]; rw [c14b0]) | skip)
            have H' := Aside0.mk H
            clear H
            go_wp2
            go_meet
            case rel => exact ⟨_, ((a0 == 77)), fj, H', ⟨by have := HJ1.out; have := HJ5.out; first | omega | exact Nat.le_refl _⟩, fd⟩
          case rest =>
           clear HC13
           try clear c1
           try clear p2
           try clear c3
           try clear c3b0
           try clear c3b1
           try clear c4
           try clear c4b0
           try clear c4b1
           try clear c5
           try clear c7
           try clear c7b0
           try clear c7b1
           try clear c8
           try clear c8b0
           try clear c8b1
           try clear c9
           try clear c10
           try clear c10b0
           try clear c10b1
           try clear c11
           try clear c11b0
           try clear c11b1
           try clear c12
           try clear c12b0
           try clear c12b1
           try clear c14
           try clear c14b0
           try clear c14b1
           try clear p2
           obtain ⟨kq, x18_12, rfl, HA, HJ12, ⟨mc12, rfl⟩⟩ := hcut
           cases kq with
           | zero => exact absurd HA.out (by simp [isa_other.j2])
           | succ kj12 =>
            have H := HA.out
            clear HA
            simp only [isa_other.j2] at H
            by_cases c15 : x18_12 = true
            ·subst c15
             have H1 : (some 10) = some r := by rw [if_pos rfl] at H; exact H
             clear H
             have H := H1
             clear H1
             obtain rfl := Option.some.inj H
             go_wp2
             go_ret
             exact ⟨fj, fd⟩
            ·replace c15 := Bool.eq_false_iff.mpr c15
             subst c15
             have H1 : (if a0 > 66 then (some 11) else (some 3)) = some r := by rw [if_neg (show ¬ (false = true) by decide)] at H; exact H
             clear H
             have H := H1
             clear H1
             by_cases c16 : a0 > 66
             ·rw [if_pos c16] at H
              have c16b0 := decide_eq_true c16
              clear c16
              obtain rfl := Option.some.inj H
              go_wp2
              go_ret
              exact ⟨fj, fd⟩
             ·rw [if_neg c16] at H
              have c16b0 := decide_eq_false c16
              clear c16
              obtain rfl := Option.some.inj H
              go_wp2
              go_ret
              exact ⟨fj, fd⟩

/-! ### isa_Form: function 40 -/
def isa_Form.f (k : Nat) (a0 : Int) : Option (Int) := (isa_Name.f a0).bind fun t161 => (if t161.toList = ([] : List UInt8) then (some (-1)) else (if a0 ≤ 2 then (some 1) else (if a0 = 3 then (some 2) else ((isa_in.f a0 5 10).bind fun t162 => (if t162 = true then (some 4) else ((isa_in.f a0 18 21).bind fun t163 => (if t163 = true then (some 5) else ((isa_in.f a0 35 62).bind fun t164 => (if t164 = true then (some 6) else ((isa_other.f k a0).bind fun t165 => (some t165)))))))))))
theorem isa_Form.mono : ∀ a0 k, LeO (isa_Form.f k a0) (isa_Form.f (k + 1) a0) := by
 intro a0 k
 unfold isa_Form.f
 repeat' first | (with_reducible first | exact isa_other.mono _ _ | exact LeO.refl _ | exact LeO.none _ | refine LeO.ite ?_ ?_ | refine LeO.bind ?_ (fun _ => ?_)) | exact isa_other.mono _ _ | exact LeO.none _ | refine LeO.ite ?_ ?_ | refine LeO.bind ?_ (fun _ => ?_)
set_option maxHeartbeats 8000000 in
set_option maxRecDepth 100000 in
theorem isa_Form.calls (k : Nat) (a0 : Int) (r : Int) (w : World) (hL : Laid w) (h : isa_Form.f k a0 = some r) :
  Calls Tryd.prog 40 #[.int .i64 a0] w fun e w' => e = .returned (.int .i64 r) ∧ Drawn0 w w' := by
 have HL := Aside0.mk hL
 clear hL
 have H : ((isa_Name.f a0).bind fun t161 => (if t161.toList = ([] : List UInt8) then (some (-1)) else (if a0 ≤ 2 then (some 1) else (if a0 = 3 then (some 2) else ((isa_in.f a0 5 10).bind fun t162 => (if t162 = true then (some 4) else ((isa_in.f a0 18 21).bind fun t163 => (if t163 = true then (some 5) else ((isa_in.f a0 35 62).bind fun t164 => (if t164 = true then (some 6) else ((isa_other.f k a0).bind fun t165 => (some t165)))))))))))) = some r := h
 clear h
 replace H := be H
 obtain ⟨t161, A2, H⟩ := H
 by_cases c3 : t161.toList = ([] : List UInt8)
 ·rw [if_pos c3] at H
  have c3b0 : (t161.toList == ([] : List UInt8)) = true := beq_iff_eq.mpr c3
  have c3b1 : (t161.toList != ([] : List UInt8)) = false := bne_eq_false_iff_eq.mpr c3
  clear c3
  obtain rfl := Option.some.inj H
  go_enter Tryd.func40, Tryd.ntmps40
  go_wp2_with (first | ((with_reducible refine gate_callee (f := 73) rfl ?_); refine goesL_ (some 5) rfl rfl Tryd.func73 (by kernel_rfl) rfl #[.int .i64 a0] rfl ga ?_; (with_reducible refine (isa_Name.calls a0 t161 _ (by first | exact HL.out | exact laid_drewN HL.out | exact laid_below HL.out bl | exact laid_below HL.out HB.out | exact laid_belowd HL.out HB.out) A2.out).mono ?_); rintro e w' ⟨rfl, ⟨nd, rfl⟩⟩; refine ⟨_, rfl, ?_⟩))
  go_ret
  exact ⟨fj, fd⟩
 ·rw [if_neg c3] at H
  have c3b0 : (t161.toList == ([] : List UInt8)) = false := beq_eq_false_iff_ne.mpr c3
  have c3b1 : (t161.toList != ([] : List UInt8)) = true := bne_iff_ne.mpr c3
  by_cases c4 : a0 ≤ 2
  ·rw [if_pos c4] at H
   have c4b0 := decide_eq_true c4
   clear c4
   obtain rfl := Option.some.inj H
   go_enter Tryd.func40, Tryd.ntmps40
   go_wp2_with (first | ((with_reducible refine gate_callee (f := 73) rfl ?_); refine goesL_ (some 5) rfl rfl Tryd.func73 (by kernel_rfl) rfl #[.int .i64 a0] rfl ga ?_; (with_reducible refine (isa_Name.calls a0 t161 _ (by first | exact HL.out | exact laid_drewN HL.out | exact laid_below HL.out bl | exact laid_below HL.out HB.out | exact laid_belowd HL.out HB.out) A2.out).mono ?_); rintro e w' ⟨rfl, ⟨nd, rfl⟩⟩; refine ⟨_, rfl, ?_⟩))
   go_ret
   exact ⟨fj, fd⟩
  ·rw [if_neg c4] at H
   have c4b0 := decide_eq_false c4
   clear c4
   by_cases c5 : a0 = 3
   ·rw [if_pos c5] at H
    obtain ⟨c5b0, c5b1⟩ := eqs c5
    clear c5
    obtain rfl := Option.some.inj H
    go_enter Tryd.func40, Tryd.ntmps40
    go_wp2_with (first | ((with_reducible refine gate_callee (f := 73) rfl ?_); refine goesL_ (some 5) rfl rfl Tryd.func73 (by kernel_rfl) rfl #[.int .i64 a0] rfl ga ?_; (with_reducible refine (isa_Name.calls a0 t161 _ (by first | exact HL.out | exact laid_drewN HL.out | exact laid_below HL.out bl | exact laid_below HL.out HB.out | exact laid_belowd HL.out HB.out) A2.out).mono ?_); rintro e w' ⟨rfl, ⟨nd, rfl⟩⟩; refine ⟨_, rfl, ?_⟩))
    go_ret
    exact ⟨fj, fd⟩
   ·rw [if_neg c5] at H
    have c5b0 : (a0 == 3) = false := beq_eq_false_iff_ne.mpr c5
    have c5b1 : (a0 != 3) = true := bne_iff_ne.mpr c5
    replace H := be H
    obtain ⟨t162, A6, H⟩ := H
    by_cases c7 : t162 = true
    ·subst c7
     have H1 : (some 4) = some r := by rw [if_pos rfl] at H; exact H
     clear H
     have H := H1
     clear H1
     obtain rfl := Option.some.inj H
     go_enter Tryd.func40, Tryd.ntmps40
     go_wp2_with (first | ((with_reducible refine gate_callee (f := 73) rfl ?_); refine goesL_ (some 5) rfl rfl Tryd.func73 (by kernel_rfl) rfl #[.int .i64 a0] rfl ga ?_; (with_reducible refine (isa_Name.calls a0 t161 _ (by first | exact HL.out | exact laid_drewN HL.out | exact laid_below HL.out bl | exact laid_below HL.out HB.out | exact laid_belowd HL.out HB.out) A2.out).mono ?_); rintro e w' ⟨rfl, ⟨nd, rfl⟩⟩; refine ⟨_, rfl, ?_⟩) | ((with_reducible refine gate_callee (f := 74) rfl ?_); refine goesL_ (some 15) rfl rfl Tryd.func74 (by kernel_rfl) rfl #[.int .i64 a0, .int .i64 5, .int .i64 10] rfl ga ?_; (with_reducible refine (isa_in.calls a0 5 10 true _ A6.out).mono ?_); rintro e w' ⟨rfl, ⟨nd, rfl⟩⟩; refine ⟨_, rfl, ?_⟩))
     go_ret
     exact ⟨fj, fd⟩
    ·replace c7 := Bool.eq_false_iff.mpr c7
     subst c7
     have H1 : ((isa_in.f a0 18 21).bind fun t163 => (if t163 = true then (some 5) else ((isa_in.f a0 35 62).bind fun t164 => (if t164 = true then (some 6) else ((isa_other.f k a0).bind fun t165 => (some t165)))))) = some r := by rw [if_neg (show ¬ (false = true) by decide)] at H; exact H
     clear H
     have H := H1
     clear H1
     replace H := be H
     obtain ⟨t163, A8, H⟩ := H
     by_cases c9 : t163 = true
     ·subst c9
      have H1 : (some 5) = some r := by rw [if_pos rfl] at H; exact H
      clear H
      have H := H1
      clear H1
      obtain rfl := Option.some.inj H
      go_enter Tryd.func40, Tryd.ntmps40
      go_wp2_with (first | ((with_reducible refine gate_callee (f := 73) rfl ?_); refine goesL_ (some 5) rfl rfl Tryd.func73 (by kernel_rfl) rfl #[.int .i64 a0] rfl ga ?_; (with_reducible refine (isa_Name.calls a0 t161 _ (by first | exact HL.out | exact laid_drewN HL.out | exact laid_below HL.out bl | exact laid_below HL.out HB.out | exact laid_belowd HL.out HB.out) A2.out).mono ?_); rintro e w' ⟨rfl, ⟨nd, rfl⟩⟩; refine ⟨_, rfl, ?_⟩) | ((with_reducible refine gate_callee (f := 74) rfl ?_); refine goesL_ (some 15) rfl rfl Tryd.func74 (by kernel_rfl) rfl #[.int .i64 a0, .int .i64 5, .int .i64 10] rfl ga ?_; (with_reducible refine (isa_in.calls a0 5 10 false _ A6.out).mono ?_); rintro e w' ⟨rfl, ⟨nd, rfl⟩⟩; refine ⟨_, rfl, ?_⟩) | ((with_reducible refine gate_callee (f := 74) rfl ?_); refine goesL_ (some 18) rfl rfl Tryd.func74 (by kernel_rfl) rfl #[.int .i64 a0, .int .i64 18, .int .i64 21] rfl ga ?_; (with_reducible refine (isa_in.calls a0 18 21 true _ A8.out).mono ?_); rintro e w' ⟨rfl, ⟨nd, rfl⟩⟩; refine ⟨_, rfl, ?_⟩))
      go_ret
      exact ⟨fj, fd⟩
     ·replace c9 := Bool.eq_false_iff.mpr c9
      subst c9
      have H1 : ((isa_in.f a0 35 62).bind fun t164 => (if t164 = true then (some 6) else ((isa_other.f k a0).bind fun t165 => (some t165)))) = some r := by rw [if_neg (show ¬ (false = true) by decide)] at H; exact H
      clear H
      have H := H1
      clear H1
      replace H := be H
      obtain ⟨t164, A10, H⟩ := H
      by_cases c11 : t164 = true
      ·subst c11
       have H1 : (some 6) = some r := by rw [if_pos rfl] at H; exact H
       clear H
       have H := H1
       clear H1
       obtain rfl := Option.some.inj H
       go_enter Tryd.func40, Tryd.ntmps40
       go_wp2_with (first | ((with_reducible refine gate_callee (f := 73) rfl ?_); refine goesL_ (some 5) rfl rfl Tryd.func73 (by kernel_rfl) rfl #[.int .i64 a0] rfl ga ?_; (with_reducible refine (isa_Name.calls a0 t161 _ (by first | exact HL.out | exact laid_drewN HL.out | exact laid_below HL.out bl | exact laid_below HL.out HB.out | exact laid_belowd HL.out HB.out) A2.out).mono ?_); rintro e w' ⟨rfl, ⟨nd, rfl⟩⟩; refine ⟨_, rfl, ?_⟩) | ((with_reducible refine gate_callee (f := 74) rfl ?_); refine goesL_ (some 15) rfl rfl Tryd.func74 (by kernel_rfl) rfl #[.int .i64 a0, .int .i64 5, .int .i64 10] rfl ga ?_; (with_reducible refine (isa_in.calls a0 5 10 false _ A6.out).mono ?_); rintro e w' ⟨rfl, ⟨nd, rfl⟩⟩; refine ⟨_, rfl, ?_⟩) | ((with_reducible refine gate_callee (f := 74) rfl ?_); refine goesL_ (some 18) rfl rfl Tryd.func74 (by kernel_rfl) rfl #[.int .i64 a0, .int .i64 18, .int .i64 21] rfl ga ?_; (with_reducible refine (isa_in.calls a0 18 21 false _ A8.out).mono ?_); rintro e w' ⟨rfl, ⟨nd, rfl⟩⟩; refine ⟨_, rfl, ?_⟩) | ((with_reducible refine gate_callee (f := 74) rfl ?_); refine goesL_ (some 21) rfl rfl Tryd.func74 (by kernel_rfl) rfl #[.int .i64 a0, .int .i64 35, .int .i64 62] rfl ga ?_; (with_reducible refine (isa_in.calls a0 35 62 true _ A10.out).mono ?_); rintro e w' ⟨rfl, ⟨nd, rfl⟩⟩; refine ⟨_, rfl, ?_⟩))
       go_ret
       exact ⟨fj, fd⟩
      ·replace c11 := Bool.eq_false_iff.mpr c11
       subst c11
       have H1 : ((isa_other.f k a0).bind fun t165 => (some t165)) = some r := by rw [if_neg (show ¬ (false = true) by decide)] at H; exact H
       clear H
       have H := H1
       clear H1
       replace H := be H
       obtain ⟨t165, A12, H⟩ := H
       obtain rfl := Option.some.inj H
       go_enter Tryd.func40, Tryd.ntmps40
       go_wp2_with (first | ((with_reducible refine gate_callee (f := 73) rfl ?_); refine goesL_ (some 5) rfl rfl Tryd.func73 (by kernel_rfl) rfl #[.int .i64 a0] rfl ga ?_; (with_reducible refine (isa_Name.calls a0 t161 _ (by first | exact HL.out | exact laid_drewN HL.out | exact laid_below HL.out bl | exact laid_below HL.out HB.out | exact laid_belowd HL.out HB.out) A2.out).mono ?_); rintro e w' ⟨rfl, ⟨nd, rfl⟩⟩; refine ⟨_, rfl, ?_⟩) | ((with_reducible refine gate_callee (f := 74) rfl ?_); refine goesL_ (some 15) rfl rfl Tryd.func74 (by kernel_rfl) rfl #[.int .i64 a0, .int .i64 5, .int .i64 10] rfl ga ?_; (with_reducible refine (isa_in.calls a0 5 10 false _ A6.out).mono ?_); rintro e w' ⟨rfl, ⟨nd, rfl⟩⟩; refine ⟨_, rfl, ?_⟩) | ((with_reducible refine gate_callee (f := 74) rfl ?_); refine goesL_ (some 18) rfl rfl Tryd.func74 (by kernel_rfl) rfl #[.int .i64 a0, .int .i64 18, .int .i64 21] rfl ga ?_; (with_reducible refine (isa_in.calls a0 18 21 false _ A8.out).mono ?_); rintro e w' ⟨rfl, ⟨nd, rfl⟩⟩; refine ⟨_, rfl, ?_⟩) | ((with_reducible refine gate_callee (f := 74) rfl ?_); refine goesL_ (some 21) rfl rfl Tryd.func74 (by kernel_rfl) rfl #[.int .i64 a0, .int .i64 35, .int .i64 62] rfl ga ?_; (with_reducible refine (isa_in.calls a0 35 62 false _ A10.out).mono ?_); rintro e w' ⟨rfl, ⟨nd, rfl⟩⟩; refine ⟨_, rfl, ?_⟩) | ((with_reducible refine gate_callee (f := 75) rfl ?_); refine goesL_ (some 23) rfl rfl Tryd.func75 (by kernel_rfl) rfl #[.int .i64 a0] rfl ga ?_; (with_reducible refine (isa_other.calls k a0 t165 _ A12.out).mono ?_); rintro e w' ⟨rfl, ⟨nd, rfl⟩⟩; refine ⟨_, rfl, ?_⟩))
       go_ret
       exact ⟨fj, fd⟩

/-! ### isa_fields: function 64 -/
mutual
def isa_fields.j0 : Nat → Int → Bool → Option (Bool × Bool × Bool)
  | 0, _, _ => none
  | k + 1, x5, x6 => if x6 = true then (some (true, false, false)) else (if x5 = 3 then (isa_fields.j1 k x5 (x5 == 3)) else (if x5 = 7 then (isa_fields.j1 k x5 (x5 == 7)) else (if x5 = 8 then (isa_fields.j1 k x5 (x5 == 8)) else (isa_fields.j1 k x5 (x5 == 10)))))
def isa_fields.j1 : Nat → Int → Bool → Option (Bool × Bool × Bool)
  | 0, _, _ => none
  | k + 1, x5, x9 => if x9 = true then (some (true, true, false)) else (if x5 = 4 then (isa_fields.j2 k x5 (x5 == 4)) else (isa_fields.j2 k x5 (x5 == 5)))
def isa_fields.j2 : Nat → Int → Bool → Option (Bool × Bool × Bool)
  | 0, _, _ => none
  | k + 1, x5, x14 => if x14 = true then (some (false, true, true)) else (if x5 = 6 then (some (true, true, true)) else (if x5 = 11 then (some (true, true, true)) else (some (false, false, false))))
end
def isa_fields.f (k : Nat) (a0 : Int) : Option (Bool × Bool × Bool) := if a0 = 1 then (isa_fields.j0 k a0 (a0 == 1)) else (isa_fields.j0 k a0 (a0 == 2))
theorem isa_fields.mono_l : ∀ k, (∀ y0 y1, LeO (isa_fields.j0 k y0 y1) (isa_fields.j0 (k + 1) y0 y1)) ∧ (∀ y0 y1, LeO (isa_fields.j1 k y0 y1) (isa_fields.j1 (k + 1) y0 y1)) ∧ (∀ y0 y1, LeO (isa_fields.j2 k y0 y1) (isa_fields.j2 (k + 1) y0 y1))
 | 0 => ⟨fun _ _ r h => by simp [isa_fields.j0] at h, fun _ _ r h => by simp [isa_fields.j1] at h, fun _ _ r h => by simp [isa_fields.j2] at h⟩
 | k + 1 => by
  obtain ⟨ih0, ih1, ih2⟩ := isa_fields.mono_l k
  refine ⟨?_, ?_, ?_⟩
  all_goals (intros; (first | unfold isa_fields.j0 | unfold isa_fields.j1 | unfold isa_fields.j2); repeat' first | (with_reducible first | exact ih0 _ _ | exact ih1 _ _ | exact ih2 _ _ | exact LeO.refl _ | exact LeO.none _ | refine LeO.ite ?_ ?_ | refine LeO.bind ?_ (fun _ => ?_)) | exact ih0 _ _ | exact ih1 _ _ | exact ih2 _ _ | exact LeO.none _ | refine LeO.ite ?_ ?_ | refine LeO.bind ?_ (fun _ => ?_))
theorem isa_fields.mono : ∀ a0 k, LeO (isa_fields.f k a0) (isa_fields.f (k + 1) a0) := by
 intro a0 k
 obtain ⟨ih0, ih1, ih2⟩ := isa_fields.mono_l k
 unfold isa_fields.f
 repeat' first | (with_reducible first | exact ih0 _ _ | exact ih1 _ _ | exact ih2 _ _ | exact LeO.refl _ | exact LeO.none _ | refine LeO.ite ?_ ?_ | refine LeO.bind ?_ (fun _ => ?_)) | exact ih0 _ _ | exact ih1 _ _ | exact ih2 _ _ | exact LeO.none _ | refine LeO.ite ?_ ?_ | refine LeO.bind ?_ (fun _ => ?_)
set_option maxHeartbeats 8000000 in
set_option maxRecDepth 100000 in
theorem isa_fields.calls (k : Nat) (a0 : Int) (r1 : Bool) (r2 : Bool) (r3 : Bool) (w : World) (h : isa_fields.f k a0 = some (r1, r2, r3)) :
  Calls Tryd.prog 64 #[.int .i64 a0] w fun e w' => e = .returned (.tuple #[.bool r1, .bool r2, .bool r3]) ∧ Drawn0 w w' := by
 have H : (if a0 = 1 then (isa_fields.j0 k a0 (a0 == 1)) else (isa_fields.j0 k a0 (a0 == 2))) = some (r1, r2, r3) := h
 clear h
 have HC2 := Aside0.mk H
 clear H
 go_enter Tryd.func64, Tryd.ntmps64
 go_upto_if 6 with (fail)
 go_cut [6] (fun v6 wc => ∃ (kq : Nat) (x6_1 : Bool), v6 = .bool x6_1 ∧ Aside0 (isa_fields.j0 kq a0 x6_1 = some (r1, r2, r3)) ∧ Aside0 (kq ≤ k) ∧ Drawn0 w wc)
 case first =>
  have H := HC2.out
  clear HC2
  by_cases c3 : a0 = 1
  ·rw [if_pos c3] at H
   obtain ⟨c3b0, c3b1⟩ := eqs c3
   clear c3
   (first | rw [c3b0] | (simp only [i64_w, i32_w]; rw [c3b0]) | skip)
   have H' := Aside0.mk H
   clear H
   go_wp2
   go_meet
   case rel => exact ⟨_, ((a0 == 1)), fj, H', ⟨by first | omega | exact Nat.le_refl _⟩, fd⟩
  ·rw [if_neg c3] at H
   have c3b0 : (a0 == 1) = false := beq_eq_false_iff_ne.mpr c3
   have c3b1 : (a0 != 1) = true := bne_iff_ne.mpr c3
   (first | rw [c3b0] | (simp only [i64_w, i32_w]; rw [c3b0]) | skip)
   have H' := Aside0.mk H
   clear H
   go_wp2
   go_meet
   case rel => exact ⟨_, ((a0 == 2)), fj, H', ⟨by first | omega | exact Nat.le_refl _⟩, fd⟩
 case rest =>
  clear HC2
  try clear p2
  try clear c3
  try clear c3b0
  try clear c3b1
  obtain ⟨kq, x6_1, rfl, HA, HJ1, ⟨mc1, rfl⟩⟩ := hcut
  cases kq with
  | zero => exact absurd HA.out (by simp [isa_fields.j0])
  | succ kj1 =>
   have H := HA.out
   clear HA
   simp only [isa_fields.j0] at H
   by_cases c4 : x6_1 = true
   ·subst c4
    have H1 : (some (true, false, false)) = some (r1, r2, r3) := by rw [if_pos rfl] at H; exact H
    clear H
    have H := H1
    clear H1
    simp only [Option.some.injEq, Prod.mk.injEq] at H
    obtain ⟨rfl, rfl, rfl⟩ := H
    go_wp2
    go_ret3
    exact ⟨fj, fd⟩
   ·replace c4 := Bool.eq_false_iff.mpr c4
    subst c4
    have H1 : (if a0 = 3 then (isa_fields.j1 kj1 a0 (a0 == 3)) else (if a0 = 7 then (isa_fields.j1 kj1 a0 (a0 == 7)) else (if a0 = 8 then (isa_fields.j1 kj1 a0 (a0 == 8)) else (isa_fields.j1 kj1 a0 (a0 == 10))))) = some (r1, r2, r3) := by rw [if_neg (show ¬ (false = true) by decide)] at H; exact H
    clear H
    have H := H1
    clear H1
    have HC5 := Aside0.mk H
    clear H
    go_upto_if 9 with (fail)
    go_cut [9] (fun v9 wc => ∃ (kq : Nat) (x9_4 : Bool), v9 = .bool x9_4 ∧ Aside0 (isa_fields.j1 kq a0 x9_4 = some (r1, r2, r3)) ∧ Aside0 (kq ≤ kj1) ∧ Drawn0 w wc)
    case first =>
     have H := HC5.out
     clear HC5
     by_cases c6 : a0 = 3
     ·rw [if_pos c6] at H
      obtain ⟨c6b0, c6b1⟩ := eqs c6
      clear c6
      (first | rw [c6b0] | (simp only [i64_w, i32_w]; rw [c6b0]) | skip)
      have H' := Aside0.mk H
      clear H
      go_wp2
      go_meet
      case rel => exact ⟨_, ((a0 == 3)), fj, H', ⟨by have := HJ1.out; first | omega | exact Nat.le_refl _⟩, fd⟩
     ·rw [if_neg c6] at H
      have c6b0 : (a0 == 3) = false := beq_eq_false_iff_ne.mpr c6
      have c6b1 : (a0 != 3) = true := bne_iff_ne.mpr c6
      (first | rw [c6b0] | (simp only [i64_w, i32_w]; rw [c6b0]) | skip)
      by_cases c7 : a0 = 7
      ·rw [if_pos c7] at H
       obtain ⟨c7b0, c7b1⟩ := eqs c7
       clear c7
       have H' := Aside0.mk H
       clear H
       go_wp2
       go_meet
       case rel => exact ⟨_, ((a0 == 7)), fj, H', ⟨by have := HJ1.out; first | omega | exact Nat.le_refl _⟩, fd⟩
      ·rw [if_neg c7] at H
       have c7b0 : (a0 == 7) = false := beq_eq_false_iff_ne.mpr c7
       have c7b1 : (a0 != 7) = true := bne_iff_ne.mpr c7
       by_cases c8 : a0 = 8
       ·rw [if_pos c8] at H
        obtain ⟨c8b0, c8b1⟩ := eqs c8
        clear c8
        have H' := Aside0.mk H
        clear H
        go_wp2
        go_meet
        case rel => exact ⟨_, ((a0 == 8)), fj, H', ⟨by have := HJ1.out; first | omega | exact Nat.le_refl _⟩, fd⟩
       ·rw [if_neg c8] at H
        have c8b0 : (a0 == 8) = false := beq_eq_false_iff_ne.mpr c8
        have c8b1 : (a0 != 8) = true := bne_iff_ne.mpr c8
        have H' := Aside0.mk H
        clear H
        go_wp2
        go_meet
        case rel => exact ⟨_, ((a0 == 10)), fj, H', ⟨by have := HJ1.out; first | omega | exact Nat.le_refl _⟩, fd⟩
    case rest =>
     clear HC5
     try clear c1
     try clear p2
     try clear c3
     try clear c3b0
     try clear c3b1
     try clear c4
     try clear c6
     try clear c6b0
     try clear c6b1
     try clear c7
     try clear c7b0
     try clear c7b1
     try clear c8
     try clear c8b0
     try clear c8b1
     try clear p2
     obtain ⟨kq, x9_4, rfl, HA, HJ4, ⟨mc4, rfl⟩⟩ := hcut
     cases kq with
     | zero => exact absurd HA.out (by simp [isa_fields.j1])
     | succ kj4 =>
      have H := HA.out
      clear HA
      simp only [isa_fields.j1] at H
      by_cases c9 : x9_4 = true
      ·subst c9
       have H1 : (some (true, true, false)) = some (r1, r2, r3) := by rw [if_pos rfl] at H; exact H
       clear H
       have H := H1
       clear H1
       simp only [Option.some.injEq, Prod.mk.injEq] at H
       obtain ⟨rfl, rfl, rfl⟩ := H
       go_wp2
       go_ret3
       exact ⟨fj, fd⟩
      ·replace c9 := Bool.eq_false_iff.mpr c9
       subst c9
       have H1 : (if a0 = 4 then (isa_fields.j2 kj4 a0 (a0 == 4)) else (isa_fields.j2 kj4 a0 (a0 == 5))) = some (r1, r2, r3) := by rw [if_neg (show ¬ (false = true) by decide)] at H; exact H
       clear H
       have H := H1
       clear H1
       have HC10 := Aside0.mk H
       clear H
       go_upto_if 14 with (fail)
       go_cut [14] (fun v14 wc => ∃ (kq : Nat) (x14_9 : Bool), v14 = .bool x14_9 ∧ Aside0 (isa_fields.j2 kq a0 x14_9 = some (r1, r2, r3)) ∧ Aside0 (kq ≤ kj4) ∧ Drawn0 w wc)
       case first =>
        have H := HC10.out
        clear HC10
        by_cases c11 : a0 = 4
        ·rw [if_pos c11] at H
         obtain ⟨c11b0, c11b1⟩ := eqs c11
         clear c11
         (first | rw [c11b0] | (simp only [i64_w, i32_w]; rw [c11b0]) | skip)
         have H' := Aside0.mk H
         clear H
         go_wp2
         go_meet
         case rel => exact ⟨_, ((a0 == 4)), fj, H', ⟨by have := HJ1.out; have := HJ4.out; first | omega | exact Nat.le_refl _⟩, fd⟩
        ·rw [if_neg c11] at H
         have c11b0 : (a0 == 4) = false := beq_eq_false_iff_ne.mpr c11
         have c11b1 : (a0 != 4) = true := bne_iff_ne.mpr c11
         (first | rw [c11b0] | (simp only [i64_w, i32_w]; rw [c11b0]) | skip)
         have H' := Aside0.mk H
         clear H
         go_wp2
         go_meet
         case rel => exact ⟨_, ((a0 == 5)), fj, H', ⟨by have := HJ1.out; have := HJ4.out; first | omega | exact Nat.le_refl _⟩, fd⟩
       case rest =>
        clear HC10
        try clear c1
        try clear p2
        try clear c3
        try clear c3b0
        try clear c3b1
        try clear c4
        try clear c6
        try clear c6b0
        try clear c6b1
        try clear c7
        try clear c7b0
        try clear c7b1
        try clear c8
        try clear c8b0
        try clear c8b1
        try clear c9
        try clear c11
        try clear c11b0
        try clear c11b1
        try clear p2
        obtain ⟨kq, x14_9, rfl, HA, HJ9, ⟨mc9, rfl⟩⟩ := hcut
        cases kq with
        | zero => exact absurd HA.out (by simp [isa_fields.j2])
        | succ kj9 =>
         have H := HA.out
         clear HA
         simp only [isa_fields.j2] at H
         by_cases c12 : x14_9 = true
         ·subst c12
          have H1 : (some (false, true, true)) = some (r1, r2, r3) := by rw [if_pos rfl] at H; exact H
          clear H
          have H := H1
          clear H1
          simp only [Option.some.injEq, Prod.mk.injEq] at H
          obtain ⟨rfl, rfl, rfl⟩ := H
          go_wp2
          go_ret3
          exact ⟨fj, fd⟩
         ·replace c12 := Bool.eq_false_iff.mpr c12
          subst c12
          have H1 : (if a0 = 6 then (some (true, true, true)) else (if a0 = 11 then (some (true, true, true)) else (some (false, false, false)))) = some (r1, r2, r3) := by rw [if_neg (show ¬ (false = true) by decide)] at H; exact H
          clear H
          have H := H1
          clear H1
          by_cases c13 : a0 = 6
          ·rw [if_pos c13] at H
           obtain ⟨c13b0, c13b1⟩ := eqs c13
           clear c13
           simp only [Option.some.injEq, Prod.mk.injEq] at H
           obtain ⟨rfl, rfl, rfl⟩ := H
           go_wp2
           go_ret3
           exact ⟨fj, fd⟩
          ·rw [if_neg c13] at H
           have c13b0 : (a0 == 6) = false := beq_eq_false_iff_ne.mpr c13
           have c13b1 : (a0 != 6) = true := bne_iff_ne.mpr c13
           by_cases c14 : a0 = 11
           ·rw [if_pos c14] at H
            obtain ⟨c14b0, c14b1⟩ := eqs c14
            clear c14
            simp only [Option.some.injEq, Prod.mk.injEq] at H
            obtain ⟨rfl, rfl, rfl⟩ := H
            go_wp2
            go_ret3
            exact ⟨fj, fd⟩
           ·rw [if_neg c14] at H
            have c14b0 : (a0 == 11) = false := beq_eq_false_iff_ne.mpr c14
            have c14b1 : (a0 != 11) = true := bne_iff_ne.mpr c14
            simp only [Option.some.injEq, Prod.mk.injEq] at H
            obtain ⟨rfl, rfl, rfl⟩ := H
            go_wp2
            go_ret3
            exact ⟨fj, fd⟩

end Go.Proofs.YtffehgfjjagibaaDoor.GImagePlaces
