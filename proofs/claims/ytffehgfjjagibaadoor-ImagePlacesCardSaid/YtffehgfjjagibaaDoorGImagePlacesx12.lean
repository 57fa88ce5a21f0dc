-- Written by wip/stub.py of this repo.
import Derived.Test.YtffehgfjjagibaaDoorGImagePlacesx0
import Derived.Test.YtffehgfjjagibaaDoorGImagePlacesx11
namespace Go.Proofs.YtffehgfjjagibaaDoor.GImagePlaces
open Go.RowKit Go.Proofs.YtffehgfjjagibaaDoorW.PrintWords Go.Proofs.YtffehgfjjagibaaDoorW.PrintLast Go.Proofs.YtffehgfjjagibaaDoorW.PrintMore
attribute [local go_sem] max2_int min2_int max_two min_two max_three min_three max_four min_four   -- for this text's walks alone
set_option linter.unusedVariables false
set_option linter.unusedSimpArgs false

/-! ### spinnakerref01_Fits: function 79 -/
def spinnakerref01_Fits.j0 : Nat → Int → Int → Bool → Option (Bool)
  | 0, _, _, _ => none
  | k + 1, x0, x1, x11 => if x11 = true then (some false) else (if x1 = 64 then (some true) else ((spinnakerref01_Power.f k (wrap64 (x1 - 1))).bind fun t390 => (if x0 ≥ (wrap64 (-(wrap64 (t390)))) then (some (decide (x0 ≤ (wrap64 ((wrap64 (t390)) - 1))))) else (some false))))
def spinnakerref01_Fits.f (k : Nat) (a0 : Int) (a1 : Int) : Option (Bool) := if a1 < 1 then (spinnakerref01_Fits.j0 k a0 a1 true) else (spinnakerref01_Fits.j0 k a0 a1 (decide (a1 > 64)))
theorem spinnakerref01_Fits.mono_l : ∀ k, (∀ y0 y1 y2, LeO (spinnakerref01_Fits.j0 k y0 y1 y2) (spinnakerref01_Fits.j0 (k + 1) y0 y1 y2))
 | 0 => fun _ _ _ r h => by simp [spinnakerref01_Fits.j0] at h
 | k + 1 => by
  have ih0 := spinnakerref01_Fits.mono_l k
  ·intro y0 y1 y2
   unfold spinnakerref01_Fits.j0
   repeat' first | (with_reducible first | exact ih0 _ _ _ | exact spinnakerref01_Power.mono _ _ | exact LeO.refl _ | exact LeO.none _ | refine LeO.ite ?_ ?_ | refine LeO.bind ?_ (fun _ => ?_)) | exact ih0 _ _ _ | exact spinnakerref01_Power.mono _ _ | exact LeO.none _ | refine LeO.ite ?_ ?_ | refine LeO.bind ?_ (fun _ => ?_)
theorem spinnakerref01_Fits.mono : ∀ a0 a1 k, LeO (spinnakerref01_Fits.f k a0 a1) (spinnakerref01_Fits.f (k + 1) a0 a1) := by
 intro a0 a1 k
 have ih0 := spinnakerref01_Fits.mono_l k
 unfold spinnakerref01_Fits.f
 repeat' first | (with_reducible first | exact ih0 _ _ _ | exact spinnakerref01_Power.mono _ _ | exact LeO.refl _ | exact LeO.none _ | refine LeO.ite ?_ ?_ | refine LeO.bind ?_ (fun _ => ?_)) | exact ih0 _ _ _ | exact spinnakerref01_Power.mono _ _ | exact LeO.none _ | refine LeO.ite ?_ ?_ | refine LeO.bind ?_ (fun _ => ?_)
set_option maxHeartbeats 8000000 in
set_option maxRecDepth 100000 in
theorem spinnakerref01_Fits.calls (k : Nat) (a0 : Int) (a1 : Int) (r : Bool) (w : World) (h : spinnakerref01_Fits.f k a0 a1 = some r) :
  Calls Tryd.prog 79 #[.int .i64 a0, .int .i64 a1] w fun e w' => e = .returned (.bool r) ∧ Drawn0 w w' := by
 have H : (if a1 < 1 then (spinnakerref01_Fits.j0 k a0 a1 true) else (spinnakerref01_Fits.j0 k a0 a1 (decide (a1 > 64)))) = some r := h
 clear h
 have HC3 := Aside0.mk H
 clear H
 go_enter Tryd.func79, Tryd.ntmps79
 go_upto_region 1 with (fail)
 go_cut [11] (fun v11 wc => ∃ (kq : Nat) (x11_2 : Bool), v11 = .bool x11_2 ∧ Aside0 (spinnakerref01_Fits.j0 kq a0 a1 x11_2 = some r) ∧ Aside0 (kq ≤ k) ∧ Drawn0 w wc)
 case first =>
  have H := HC3.out
  clear HC3
  by_cases c4 : a1 < 1
  ·rw [if_pos c4] at H
   have c4b0 := decide_eq_true c4
   clear c4
   (first | rw [c4b0] | (simp only [i64_w, i32_w]; rw [c4b0]) | skip)
   have H' := Aside0.mk H
   clear H
   go_wp2
   go_meet
   case rel => exact ⟨_, (true), fj, H', ⟨by first | omega | exact Nat.le_refl _⟩, fd⟩
  ·rw [if_neg c4] at H
   have c4b0 := decide_eq_false c4
   clear c4
   (first | rw [c4b0] | (simp only [i64_w, i32_w]; rw [c4b0]) | skip)
   have H' := Aside0.mk H
   clear H
   go_wp2
   go_meet
   case rel => exact ⟨_, (decide (a1 > 64)), fj, H', ⟨by first | omega | exact Nat.le_refl _⟩, fd⟩
 case rest =>
  clear HC3
  try clear p2
  try clear c4
  try clear c4b0
  obtain ⟨kq, x11_2, rfl, HA, HJ2, ⟨mc2, rfl⟩⟩ := hcut
  cases kq with
  | zero => exact absurd HA.out (by simp [spinnakerref01_Fits.j0])
  | succ kj2 =>
   have H := HA.out
   clear HA
   simp only [spinnakerref01_Fits.j0] at H
   by_cases c5 : x11_2 = true
   ·subst c5
    have H1 : (some false) = some r := by rw [if_pos rfl] at H; exact H
    clear H
    have H := H1
    clear H1
    obtain rfl := Option.some.inj H
    go_wp2
    go_ret
    exact ⟨fj, fd⟩
   ·replace c5 := Bool.eq_false_iff.mpr c5
    subst c5
    have H1 : (if a1 = 64 then (some true) else ((spinnakerref01_Power.f kj2 (wrap64 (a1 - 1))).bind fun t390 => (if a0 ≥ (wrap64 (-(wrap64 (t390)))) then (some (decide (a0 ≤ (wrap64 ((wrap64 (t390)) - 1))))) else (some false)))) = some r := by rw [if_neg (show ¬ (false = true) by decide)] at H; exact H
    clear H
    have H := H1
    clear H1
    by_cases c6 : a1 = 64
    ·rw [if_pos c6] at H
     obtain ⟨c6b0, c6b1⟩ := eqs c6
     clear c6
     obtain rfl := Option.some.inj H
     go_wp2
     go_ret
     exact ⟨fj, fd⟩
    ·rw [if_neg c6] at H
     have c6b0 : (a1 == 64) = false := beq_eq_false_iff_ne.mpr c6
     have c6b1 : (a1 != 64) = true := bne_iff_ne.mpr c6
     replace H := be H
     obtain ⟨t390, A7, H⟩ := H
     by_cases c8 : a0 ≥ (wrap64 (-(wrap64 (t390))))
     ·rw [if_pos c8] at H
      have c8b0 := decide_eq_true c8
      clear c8
      obtain rfl := Option.some.inj H
      go_wp2_with (first | ((with_reducible refine gate_callee (f := 62) rfl ?_); refine goesL_ (some 16) rfl rfl Tryd.func62 (by kernel_rfl) rfl #[.int .i64 (wrap64 (a1 - 1))] rfl ga ?_; (with_reducible refine (spinnakerref01_Power.calls kj2 (wrap64 (a1 - 1)) t390 _ A7.out).mono ?_); rintro e w' ⟨rfl, ⟨nd, rfl⟩⟩; refine ⟨_, rfl, ?_⟩))
      go_ret
      exact ⟨fj, fd⟩
     ·rw [if_neg c8] at H
      have c8b0 := decide_eq_false c8
      clear c8
      obtain rfl := Option.some.inj H
      go_wp2_with (first | ((with_reducible refine gate_callee (f := 62) rfl ?_); refine goesL_ (some 16) rfl rfl Tryd.func62 (by kernel_rfl) rfl #[.int .i64 (wrap64 (a1 - 1))] rfl ga ?_; (with_reducible refine (spinnakerref01_Power.calls kj2 (wrap64 (a1 - 1)) t390 _ A7.out).mono ?_); rintro e w' ⟨rfl, ⟨nd, rfl⟩⟩; refine ⟨_, rfl, ?_⟩))
      go_ret
      exact ⟨fj, fd⟩

/-! ### spinnakerref03_immediate: function 45 -/
def spinnakerref03_immediate.j0 : Nat → Int → Int → Bool → Option (Bool)
  | 0, _, _, _ => none
  | k + 1, x1, x6, x37 => if x37 = true then (if x1 ≥ (-2048) then (some (decide (x1 ≤ 2047))) else (some false)) else (if x6 = 72 then (if x1 ≥ 0 then (some (decide (x1 ≤ 63))) else (some false)) else (if x6 = 87 then (if x1 ≥ 0 then (some (decide (x1 ≤ 31))) else (some false)) else (if x6 = 70 then (if x1 ≥ 0 then (some (decide (x1 ≤ 255))) else (some false)) else (some (x1 == 0)))))
def spinnakerref03_immediate.f (k : Nat) (a0 : Int) (a1 : Int) : Option (Bool) := (spinnakerref03_letter.f a0).bind fun t391 => (if t391 = 85 then (if a1 ≥ (-524288) then (some (decide (a1 ≤ 524287))) else (some false)) else (if t391 = 74 then ((spinnakerref01_Fits.f k a1 21).bind fun t392 => (if t392 = true then (some ((Int.tmod a1 2) == 0)) else (some false))) else (if t391 = 66 then (if a1 ≥ (-4096) then (if a1 ≤ 4094 then (some ((Int.tmod a1 2) == 0)) else (some false)) else (some false)) else (if t391 = 73 then (spinnakerref03_immediate.j0 k a1 t391 (t391 == 73)) else (spinnakerref03_immediate.j0 k a1 t391 (t391 == 83))))))
theorem spinnakerref03_immediate.mono_l : ∀ k, (∀ y0 y1 y2, LeO (spinnakerref03_immediate.j0 k y0 y1 y2) (spinnakerref03_immediate.j0 (k + 1) y0 y1 y2))
 | 0 => fun _ _ _ r h => by simp [spinnakerref03_immediate.j0] at h
 | k + 1 => by
  have ih0 := spinnakerref03_immediate.mono_l k
  ·intro y0 y1 y2
   unfold spinnakerref03_immediate.j0
   repeat' first | (with_reducible first | exact ih0 _ _ _ | exact spinnakerref01_Fits.mono _ _ _ | exact LeO.refl _ | exact LeO.none _ | refine LeO.ite ?_ ?_ | refine LeO.bind ?_ (fun _ => ?_)) | exact ih0 _ _ _ | exact spinnakerref01_Fits.mono _ _ _ | exact LeO.none _ | refine LeO.ite ?_ ?_ | refine LeO.bind ?_ (fun _ => ?_)
theorem spinnakerref03_immediate.mono : ∀ a0 a1 k, LeO (spinnakerref03_immediate.f k a0 a1) (spinnakerref03_immediate.f (k + 1) a0 a1) := by
 intro a0 a1 k
 have ih0 := spinnakerref03_immediate.mono_l k
 unfold spinnakerref03_immediate.f
 repeat' first | (with_reducible first | exact ih0 _ _ _ | exact spinnakerref01_Fits.mono _ _ _ | exact LeO.refl _ | exact LeO.none _ | refine LeO.ite ?_ ?_ | refine LeO.bind ?_ (fun _ => ?_)) | exact ih0 _ _ _ | exact spinnakerref01_Fits.mono _ _ _ | exact LeO.none _ | refine LeO.ite ?_ ?_ | refine LeO.bind ?_ (fun _ => ?_)
set_option maxHeartbeats 8000000 in
set_option maxRecDepth 100000 in
theorem spinnakerref03_immediate.calls (k : Nat) (a0 : Int) (a1 : Int) (r : Bool) (w : World) (h : spinnakerref03_immediate.f k a0 a1 = some r) :
  Calls Tryd.prog 45 #[.int .i64 a0, .int .i64 a1] w fun e w' => e = .returned (.bool r) ∧ Drawn0 w w' := by
 have H : ((spinnakerref03_letter.f a0).bind fun t391 => (if t391 = 85 then (if a1 ≥ (-524288) then (some (decide (a1 ≤ 524287))) else (some false)) else (if t391 = 74 then ((spinnakerref01_Fits.f k a1 21).bind fun t392 => (if t392 = true then (some ((Int.tmod a1 2) == 0)) else (some false))) else (if t391 = 66 then (if a1 ≥ (-4096) then (if a1 ≤ 4094 then (some ((Int.tmod a1 2) == 0)) else (some false)) else (some false)) else (if t391 = 73 then (spinnakerref03_immediate.j0 k a1 t391 (t391 == 73)) else (spinnakerref03_immediate.j0 k a1 t391 (t391 == 83))))))) = some r := h
 clear h
 replace H := be H
 obtain ⟨t391, A3, H⟩ := H
 by_cases c4 : t391 = 85
 ·rw [if_pos c4] at H
  obtain ⟨c4b0, c4b1⟩ := eqs c4
  clear c4
  by_cases c5 : a1 ≥ (-524288)
  ·rw [if_pos c5] at H
   have c5b0 := decide_eq_true c5
   clear c5
   obtain rfl := Option.some.inj H
   go_enter Tryd.func45, Tryd.ntmps45
   go_wp2_with (first | ((with_reducible refine gate_callee (f := 43) rfl ?_); refine goesL_ (some 6) rfl rfl Tryd.func43 (by kernel_rfl) rfl #[.int .i64 a0] rfl ga ?_; (with_reducible refine (spinnakerref03_letter.calls a0 t391 _ A3.out).mono ?_); rintro e w' ⟨rfl, ⟨nd, rfl⟩⟩; refine ⟨_, rfl, ?_⟩))
   go_ret
   exact ⟨fj, fd⟩
  ·rw [if_neg c5] at H
   have c5b0 := decide_eq_false c5
   clear c5
   obtain rfl := Option.some.inj H
   go_enter Tryd.func45, Tryd.ntmps45
   go_wp2_with (first | ((with_reducible refine gate_callee (f := 43) rfl ?_); refine goesL_ (some 6) rfl rfl Tryd.func43 (by kernel_rfl) rfl #[.int .i64 a0] rfl ga ?_; (with_reducible refine (spinnakerref03_letter.calls a0 t391 _ A3.out).mono ?_); rintro e w' ⟨rfl, ⟨nd, rfl⟩⟩; refine ⟨_, rfl, ?_⟩))
   go_ret
   exact ⟨fj, fd⟩
 ·rw [if_neg c4] at H
  have c4b0 : (t391 == 85) = false := beq_eq_false_iff_ne.mpr c4
  have c4b1 : (t391 != 85) = true := bne_iff_ne.mpr c4
  by_cases c6 : t391 = 74
  ·rw [if_pos c6] at H
   obtain ⟨c6b0, c6b1⟩ := eqs c6
   clear c6
   replace H := be H
   obtain ⟨t392, A7, H⟩ := H
   by_cases c8 : t392 = true
   ·subst c8
    have H1 : (some ((Int.tmod a1 2) == 0)) = some r := by rw [if_pos rfl] at H; exact H
    clear H
    have H := H1
    clear H1
    obtain rfl := Option.some.inj H
    go_enter Tryd.func45, Tryd.ntmps45
    go_wp2_with (first | ((with_reducible refine gate_callee (f := 43) rfl ?_); refine goesL_ (some 6) rfl rfl Tryd.func43 (by kernel_rfl) rfl #[.int .i64 a0] rfl ga ?_; (with_reducible refine (spinnakerref03_letter.calls a0 t391 _ A3.out).mono ?_); rintro e w' ⟨rfl, ⟨nd, rfl⟩⟩; refine ⟨_, rfl, ?_⟩) | ((with_reducible refine gate_callee (f := 79) rfl ?_); refine goesL_ (some 18) rfl rfl Tryd.func79 (by kernel_rfl) rfl #[.int .i64 a1, .int .i64 21] rfl ga ?_; (with_reducible refine (spinnakerref01_Fits.calls k a1 21 true _ A7.out).mono ?_); rintro e w' ⟨rfl, ⟨nd, rfl⟩⟩; refine ⟨_, rfl, ?_⟩))
    go_ret
    exact ⟨fj, fd⟩
   ·replace c8 := Bool.eq_false_iff.mpr c8
    subst c8
    have H1 : (some false) = some r := by rw [if_neg (show ¬ (false = true) by decide)] at H; exact H
    clear H
    have H := H1
    clear H1
    obtain rfl := Option.some.inj H
    go_enter Tryd.func45, Tryd.ntmps45
    go_wp2_with (first | ((with_reducible refine gate_callee (f := 43) rfl ?_); refine goesL_ (some 6) rfl rfl Tryd.func43 (by kernel_rfl) rfl #[.int .i64 a0] rfl ga ?_; (with_reducible refine (spinnakerref03_letter.calls a0 t391 _ A3.out).mono ?_); rintro e w' ⟨rfl, ⟨nd, rfl⟩⟩; refine ⟨_, rfl, ?_⟩) | ((with_reducible refine gate_callee (f := 79) rfl ?_); refine goesL_ (some 18) rfl rfl Tryd.func79 (by kernel_rfl) rfl #[.int .i64 a1, .int .i64 21] rfl ga ?_; (with_reducible refine (spinnakerref01_Fits.calls k a1 21 false _ A7.out).mono ?_); rintro e w' ⟨rfl, ⟨nd, rfl⟩⟩; refine ⟨_, rfl, ?_⟩))
    go_ret
    exact ⟨fj, fd⟩
  ·rw [if_neg c6] at H
   have c6b0 : (t391 == 74) = false := beq_eq_false_iff_ne.mpr c6
   have c6b1 : (t391 != 74) = true := bne_iff_ne.mpr c6
   by_cases c9 : t391 = 66
   ·rw [if_pos c9] at H
    obtain ⟨c9b0, c9b1⟩ := eqs c9
    clear c9
    by_cases c10 : a1 ≥ (-4096)
    ·rw [if_pos c10] at H
     have c10b0 := decide_eq_true c10
     clear c10
     by_cases c11 : a1 ≤ 4094
     ·rw [if_pos c11] at H
      have c11b0 := decide_eq_true c11
      clear c11
      obtain rfl := Option.some.inj H
      go_enter Tryd.func45, Tryd.ntmps45
      go_wp2_with (first | ((with_reducible refine gate_callee (f := 43) rfl ?_); refine goesL_ (some 6) rfl rfl Tryd.func43 (by kernel_rfl) rfl #[.int .i64 a0] rfl ga ?_; (with_reducible refine (spinnakerref03_letter.calls a0 t391 _ A3.out).mono ?_); rintro e w' ⟨rfl, ⟨nd, rfl⟩⟩; refine ⟨_, rfl, ?_⟩))
      go_ret
      exact ⟨fj, fd⟩
     ·rw [if_neg c11] at H
      have c11b0 := decide_eq_false c11
      clear c11
      obtain rfl := Option.some.inj H
      go_enter Tryd.func45, Tryd.ntmps45
      go_wp2_with (first | ((with_reducible refine gate_callee (f := 43) rfl ?_); refine goesL_ (some 6) rfl rfl Tryd.func43 (by kernel_rfl) rfl #[.int .i64 a0] rfl ga ?_; (with_reducible refine (spinnakerref03_letter.calls a0 t391 _ A3.out).mono ?_); rintro e w' ⟨rfl, ⟨nd, rfl⟩⟩; refine ⟨_, rfl, ?_⟩))
      go_ret
      exact ⟨fj, fd⟩
    ·rw [if_neg c10] at H
     have c10b0 := decide_eq_false c10
     clear c10
     obtain rfl := Option.some.inj H
     go_enter Tryd.func45, Tryd.ntmps45
     go_wp2_with (first | ((with_reducible refine gate_callee (f := 43) rfl ?_); refine goesL_ (some 6) rfl rfl Tryd.func43 (by kernel_rfl) rfl #[.int .i64 a0] rfl ga ?_; (with_reducible refine (spinnakerref03_letter.calls a0 t391 _ A3.out).mono ?_); rintro e w' ⟨rfl, ⟨nd, rfl⟩⟩; refine ⟨_, rfl, ?_⟩))
     go_ret
     exact ⟨fj, fd⟩
   ·rw [if_neg c9] at H
    have c9b0 : (t391 == 66) = false := beq_eq_false_iff_ne.mpr c9
    have c9b1 : (t391 != 66) = true := bne_iff_ne.mpr c9
    have HC12 := Aside0.mk H
    clear H
    go_enter Tryd.func45, Tryd.ntmps45
    go_upto_if 37 with (first | ((with_reducible refine gate_callee (f := 43) rfl ?_); refine goesL_ (some 6) rfl rfl Tryd.func43 (by kernel_rfl) rfl #[.int .i64 a0] rfl ga ?_; (with_reducible refine (spinnakerref03_letter.calls a0 t391 _ A3.out).mono ?_); rintro e w' ⟨rfl, ⟨nd, rfl⟩⟩; refine ⟨_, rfl, ?_⟩))
    (try simp only [Act.put, List.setIfInBounds_toArray, List.set_cons_zero, List.set_cons_succ])
    go_cut [37] (fun v37 wc => ∃ (kq : Nat) (x37_11 : Bool), v37 = .bool x37_11 ∧ Aside0 (spinnakerref03_immediate.j0 kq a1 t391 x37_11 = some r) ∧ Aside0 (kq ≤ k) ∧ Drawn0 w wc)
    case first =>
     have H := HC12.out
     clear HC12
     by_cases c13 : t391 = 73
     ·rw [if_pos c13] at H
      obtain ⟨c13b0, c13b1⟩ := eqs c13
      clear c13
      (first | rw [c13b0] | (simp only [i64_w, i32_w]; rw [c13b0]) | skip)
      have H' := Aside0.mk H
      clear H
      go_wp2
      go_meet
      case rel => exact ⟨_, ((t391 == 73)), fj, H', ⟨by first | omega | exact Nat.le_refl _⟩, fd⟩
     ·rw [if_neg c13] at H
      have c13b0 : (t391 == 73) = false := beq_eq_false_iff_ne.mpr c13
      have c13b1 : (t391 != 73) = true := bne_iff_ne.mpr c13
      (first | rw [c13b0] | (simp only [i64_w, i32_w]; rw [c13b0]) | skip)
      have H' := Aside0.mk H
      clear H
      go_wp2
      go_meet
      case rel => exact ⟨_, ((t391 == 83)), fj, H', ⟨by first | omega | exact Nat.le_refl _⟩, fd⟩
    case rest =>
     clear HC12
     try clear c1
     try clear p2
     try clear c4
     try clear c4b0
     try clear c4b1
     try clear c5
     try clear c5b0
     try clear c6
     try clear c6b0
     try clear c6b1
     try clear c7
     try clear c8
     try clear c9
     try clear c9b0
     try clear c9b1
     try clear c10
     try clear c10b0
     try clear c11
     try clear c11b0
     try clear c13
     try clear c13b0
     try clear c13b1
     obtain ⟨kq, x37_11, rfl, HA, HJ11, ⟨mc11, rfl⟩⟩ := hcut
     cases kq with
     | zero => exact absurd HA.out (by simp [spinnakerref03_immediate.j0])
     | succ kj11 =>
      have H := HA.out
      clear HA
      simp only [spinnakerref03_immediate.j0] at H
      by_cases c14 : x37_11 = true
      ·subst c14
       have H1 : (if a1 ≥ (-2048) then (some (decide (a1 ≤ 2047))) else (some false)) = some r := by rw [if_pos rfl] at H; exact H
       clear H
       have H := H1
       clear H1
       by_cases c15 : a1 ≥ (-2048)
       ·rw [if_pos c15] at H
        have c15b0 := decide_eq_true c15
        clear c15
        obtain rfl := Option.some.inj H
        go_wp2
        go_ret
        exact ⟨fj, fd⟩
       ·rw [if_neg c15] at H
        have c15b0 := decide_eq_false c15
        clear c15
        obtain rfl := Option.some.inj H
        go_wp2
        go_ret
        exact ⟨fj, fd⟩
      ·replace c14 := Bool.eq_false_iff.mpr c14
       subst c14
       have H1 : (if t391 = 72 then (if a1 ≥ 0 then (some (decide (a1 ≤ 63))) else (some false)) else (if t391 = 87 then (if a1 ≥ 0 then (some (decide (a1 ≤ 31))) else (some false)) else (if t391 = 70 then (if a1 ≥ 0 then (some (decide (a1 ≤ 255))) else (some false)) else (some (a1 == 0))))) = some r := by rw [if_neg (show ¬ (false = true) by decide)] at H; exact H
       clear H
       have H := H1
       clear H1
       by_cases c16 : t391 = 72
       ·rw [if_pos c16] at H
        obtain ⟨c16b0, c16b1⟩ := eqs c16
        clear c16
        by_cases c17 : a1 ≥ 0
        ·rw [if_pos c17] at H
         have c17b0 := decide_eq_true c17
         clear c17
         obtain rfl := Option.some.inj H
         go_wp2
         go_ret
         exact ⟨fj, fd⟩
        ·rw [if_neg c17] at H
         have c17b0 := decide_eq_false c17
         clear c17
         obtain rfl := Option.some.inj H
         go_wp2
         go_ret
         exact ⟨fj, fd⟩
       ·rw [if_neg c16] at H
        have c16b0 : (t391 == 72) = false := beq_eq_false_iff_ne.mpr c16
        have c16b1 : (t391 != 72) = true := bne_iff_ne.mpr c16
        by_cases c18 : t391 = 87
        ·rw [if_pos c18] at H
         obtain ⟨c18b0, c18b1⟩ := eqs c18
         clear c18
         by_cases c19 : a1 ≥ 0
         ·rw [if_pos c19] at H
          have c19b0 := decide_eq_true c19
          clear c19
          obtain rfl := Option.some.inj H
          go_wp2
          go_ret
          exact ⟨fj, fd⟩
         ·rw [if_neg c19] at H
          have c19b0 := decide_eq_false c19
          clear c19
          obtain rfl := Option.some.inj H
          go_wp2
          go_ret
          exact ⟨fj, fd⟩
        ·rw [if_neg c18] at H
         have c18b0 : (t391 == 87) = false := beq_eq_false_iff_ne.mpr c18
         have c18b1 : (t391 != 87) = true := bne_iff_ne.mpr c18
         by_cases c20 : t391 = 70
         ·rw [if_pos c20] at H
          obtain ⟨c20b0, c20b1⟩ := eqs c20
          clear c20
          by_cases c21 : a1 ≥ 0
          ·rw [if_pos c21] at H
           have c21b0 := decide_eq_true c21
           clear c21
           obtain rfl := Option.some.inj H
           go_wp2
           go_ret
           exact ⟨fj, fd⟩
          ·rw [if_neg c21] at H
           have c21b0 := decide_eq_false c21
           clear c21
           obtain rfl := Option.some.inj H
           go_wp2
           go_ret
           exact ⟨fj, fd⟩
         ·rw [if_neg c20] at H
          have c20b0 : (t391 == 70) = false := beq_eq_false_iff_ne.mpr c20
          have c20b1 : (t391 != 70) = true := bne_iff_ne.mpr c20
          obtain rfl := Option.some.inj H
          go_wp2
          go_ret
          exact ⟨fj, fd⟩

end Go.Proofs.YtffehgfjjagibaaDoor.GImagePlaces
