-- Written by wip/stub.py of this repo.
import Derived.Test.YtmkcnbaknnohgaaDoorGUnitLoadsx0
namespace Go.Proofs.YtmkcnbaknnohgaaDoor.GUnitLoads
open Go.RowKit Go.Proofs.YtmkcnbaknnohgaaDoorW.PrintWords Go.Proofs.YtmkcnbaknnohgaaDoorW.PrintLast Go.Proofs.YtmkcnbaknnohgaaDoorW.PrintMore
attribute [local go_sem] max2_int min2_int max_two min_two max_three min_three max_four min_four   -- for this text's walks alone
set_option linter.unusedVariables false
set_option linter.unusedSimpArgs false

/-! ### spinnakerref01_Power: function 27 -/
def spinnakerref01_Power.l0 : Nat → Int → Int → Int → Option (Int)
  | 0, _, _, _ => none
  | k + 1, x0, x3, x4 => if x4 < x0 then (spinnakerref01_Power.l0 k x0 (IntKind.u64.wrap (2 * x3)) (wrap64 (x4 + 1))) else (some x3)
def spinnakerref01_Power.f (k : Nat) (a0 : Int) : Option (Int) := spinnakerref01_Power.l0 k a0 1 0
theorem spinnakerref01_Power.mono_l : ∀ k, (∀ y0 y1 y2, LeO (spinnakerref01_Power.l0 k y0 y1 y2) (spinnakerref01_Power.l0 (k + 1) y0 y1 y2))
 | 0 => fun _ _ _ r h => by simp [spinnakerref01_Power.l0] at h
 | k + 1 => by
  have ih0 := spinnakerref01_Power.mono_l k
  ·intro y0 y1 y2
   unfold spinnakerref01_Power.l0
   repeat' first | (with_reducible first | exact ih0 _ _ _ | exact LeO.refl _ | exact LeO.none _ | refine LeO.ite ?_ ?_ | refine LeO.bind ?_ (fun _ => ?_)) | exact ih0 _ _ _ | exact LeO.none _ | refine LeO.ite ?_ ?_ | refine LeO.bind ?_ (fun _ => ?_)
theorem spinnakerref01_Power.mono : ∀ a0 k, LeO (spinnakerref01_Power.f k a0) (spinnakerref01_Power.f (k + 1) a0) := by
 intro a0 k
 have ih0 := spinnakerref01_Power.mono_l k
 unfold spinnakerref01_Power.f
 repeat' first | (with_reducible first | exact ih0 _ _ _ | exact LeO.refl _ | exact LeO.none _ | refine LeO.ite ?_ ?_ | refine LeO.bind ?_ (fun _ => ?_)) | exact ih0 _ _ _ | exact LeO.none _ | refine LeO.ite ?_ ?_ | refine LeO.bind ?_ (fun _ => ?_)
set_option maxHeartbeats 8000000 in
set_option maxRecDepth 100000 in
theorem spinnakerref01_Power.calls (k : Nat) (a0 : Int) (r : Int) (w : World) (h : spinnakerref01_Power.f k a0 = some r) :
  Calls Tryd.prog 27 #[.int .i64 a0] w fun e w' => e = .returned (.int .u64 r) ∧ Drawn0 w w' := by
 have H : (spinnakerref01_Power.l0 k a0 1 0) = some r := h
 clear h
 have H' := Aside0.mk H
 clear H
 go_enter Tryd.func27, Tryd.ntmps27
 go_wp2
 go_loopg [3, 4] k (fun kq v3 v4 w' => ∃ (x3_1 : Int) (x4_1 : Int), v3 = .int .u64 x3_1 ∧ v4 = .int .i64 x4_1 ∧ Aside0 (spinnakerref01_Power.l0 kq a0 x3_1 x4_1 = some r) ∧ Aside0 (kq ≤ k) ∧ Drawn0 w w')
 case atStart => exact ⟨(1), (0), fj, fj, H', ⟨Nat.le_refl _⟩, fd⟩
 case round =>
  clear H'
  obtain ⟨x3_1, x4_1, rfl, rfl, HA, HK1, ⟨m1, rfl⟩⟩ := hrel
  cases gk with
  | zero => exact absurd HA.out (by simp [spinnakerref01_Power.l0])
  | succ k1 =>
   have H := HA.out
   clear HA
   simp only [spinnakerref01_Power.l0] at H
   by_cases c2 : x4_1 < a0
   ·rw [if_pos c2] at H
    have c2b0 := decide_eq_true c2
    clear c2
    have H' := Aside0.mk H
    clear H
    go_wp2
    go_roundg k1
    case measure => have := HK1.out; omega
    case rel => exact ⟨(IntKind.u64.wrap (2 * x3_1)), (wrap64 (x4_1 + 1)), fj, fj, H', ⟨by have := HK1.out; omega⟩, fd⟩
   ·rw [if_neg c2] at H
    have c2b0 := decide_eq_false c2
    clear c2
    obtain rfl := Option.some.inj H
    go_wp2
    go_ret
    exact ⟨fj, fd⟩

/-! ### spinnakerref01_Fits: function 11 -/
def spinnakerref01_Fits.j0 : Nat → Int → Int → Bool → Option (Bool)
  | 0, _, _, _ => none
  | k + 1, x0, x1, x11 => if x11 = true then (some false) else (if x1 = 64 then (some true) else ((spinnakerref01_Power.f k (wrap64 (x1 - 1))).bind fun t158 => (if x0 ≥ (wrap64 (-(wrap64 (t158)))) then (some (decide (x0 ≤ (wrap64 ((wrap64 (t158)) - 1))))) else (some false))))
def spinnakerref01_Fits.f (k : Nat) (a0 : Int) (a1 : Int) : Option (Bool) := if a1 < 1 then (spinnakerref01_Fits.j0 k a0 a1 true) else (spinnakerref01_Fits.j0 k a0 a1 (decide (a1 > 64)))
theorem spinnakerref01_Fits.mono_l : ∀ k, (∀ y0 y1 y2, LeO (spinnakerref01_Fits.j0 k y0 y1 y2) (spinnakerref01_Fits.j0 (k + 1) y0 y1 y2))
 | 0 => fun _ _ _ r h => by simp [spinnakerref01_Fits.j0] at h
 | k + 1 => by
  have ih0 := spinnakerref01_Fits.mono_l k
  ·intro y0 y1 y2
   unfold spinnakerref01_Fits.j0
   repeat' first | (with_reducible first | exact ih0 _ _ _ | exact spinnakerref01_Power.mono _ _ | exact LeO.refl _ | exact LeO.none _ | refine LeO.ite ?_ ?_ | refine LeO.bind ?_ (fun _ => ?_)) | exact ih0 _ _ _ | exact spinnakerref01_Power.mono _ _ | exact LeO.none _ | refine LeO.ite ?_ ?_ | refine LeO.bind ?_ (fun _ => ?_)
theorem spinnakerref01_Fits.mono : ∀ a0 a1 k, LeO (spinnakerref01_Fits.f k a0 a1) (spinnakerref01_Fits.f (k + 1) a0 a1) := by
 intro a0 a1 k
 have ih0 := spinnakerref01_Fits.mono_l k
 unfold spinnakerref01_Fits.f
 repeat' first | (with_reducible first | exact ih0 _ _ _ | exact spinnakerref01_Power.mono _ _ | exact LeO.refl _ | exact LeO.none _ | refine LeO.ite ?_ ?_ | refine LeO.bind ?_ (fun _ => ?_)) | exact ih0 _ _ _ | exact spinnakerref01_Power.mono _ _ | exact LeO.none _ | refine LeO.ite ?_ ?_ | refine LeO.bind ?_ (fun _ => ?_)
set_option maxHeartbeats 8000000 in
set_option maxRecDepth 100000 in
theorem spinnakerref01_Fits.calls (k : Nat) (a0 : Int) (a1 : Int) (r : Bool) (w : World) (h : spinnakerref01_Fits.f k a0 a1 = some r) :
  Calls Tryd.prog 11 #[.int .i64 a0, .int .i64 a1] w fun e w' => e = .returned (.bool r) ∧ Drawn0 w w' := by
 have H : (if a1 < 1 then (spinnakerref01_Fits.j0 k a0 a1 true) else (spinnakerref01_Fits.j0 k a0 a1 (decide (a1 > 64)))) = some r := h
 clear h
 have HC3 := Aside0.mk H
 clear H
 go_enter Tryd.func11, Tryd.ntmps11
 go_upto_region 1 with (fail)
 go_cut [11] (fun v11 wc => ∃ (kq : Nat) (x11_2 : Bool), v11 = .bool x11_2 ∧ Aside0 (spinnakerref01_Fits.j0 kq a0 a1 x11_2 = some r) ∧ Aside0 (kq ≤ k) ∧ Drawn0 w wc)
 case first =>
  have H := HC3.out
  clear HC3
  by_cases c4 : a1 < 1
  ·rw [if_pos c4] at H
   have c4b0 := decide_eq_true c4
   clear c4
   (first | rw [c4b0] | (simp only [i64_w, i32_w]; rw [c4b0]) | skip)
   have H' := Aside0.mk H
   clear H
   go_wp2
   go_meet
   case rel => exact ⟨_, (true), fj, H', ⟨by first | omega | exact Nat.le_refl _⟩, fd⟩
  ·rw [if_neg c4] at H
   have c4b0 := decide_eq_false c4
   clear c4
   (first | rw [c4b0] | (simp only [i64_w, i32_w]; rw [c4b0]) | skip)
   have H' := Aside0.mk H
   clear H
   go_wp2
   go_meet
   case rel => exact ⟨_, (decide (a1 > 64)), fj, H', ⟨by first | omega | exact Nat.le_refl _⟩, fd⟩
 case rest =>
  clear HC3
  try clear c1
  try clear p2
  try clear c4
  try clear c4b0
  obtain ⟨kq, x11_2, rfl, HA, HJ2, ⟨mc2, rfl⟩⟩ := hcut
  cases kq with
  | zero => exact absurd HA.out (by simp [spinnakerref01_Fits.j0])
  | succ kj2 =>
   have H := HA.out
   clear HA
   simp only [spinnakerref01_Fits.j0] at H
   by_cases c5 : x11_2 = true
   ·subst c5
    have H1 : (some false) = some r := by rw [if_pos rfl] at H; exact H
    clear H
    have H := H1
    clear H1
    obtain rfl := Option.some.inj H
    go_wp2
    go_ret
    exact ⟨fj, fd⟩
   ·replace c5 := Bool.eq_false_iff.mpr c5
    subst c5
    have H1 : (if a1 = 64 then (some true) else ((spinnakerref01_Power.f kj2 (wrap64 (a1 - 1))).bind fun t158 => (if a0 ≥ (wrap64 (-(wrap64 (t158)))) then (some (decide (a0 ≤ (wrap64 ((wrap64 (t158)) - 1))))) else (some false)))) = some r := by rw [if_neg (show ¬ (false = true) by decide)] at H; exact H
    clear H
    have H := H1
    clear H1
    by_cases c6 : a1 = 64
    ·rw [if_pos c6] at H
     obtain ⟨c6b0, c6b1⟩ := eqs c6
     clear c6
     obtain rfl := Option.some.inj H
     go_wp2
     go_ret
     exact ⟨fj, fd⟩
    ·rw [if_neg c6] at H
     have c6b0 : (a1 == 64) = false := beq_eq_false_iff_ne.mpr c6
     have c6b1 : (a1 != 64) = true := bne_iff_ne.mpr c6
     replace H := be H
     obtain ⟨t158, A7, H⟩ := H
     by_cases c8 : a0 ≥ (wrap64 (-(wrap64 (t158))))
     ·rw [if_pos c8] at H
      have c8b0 := decide_eq_true c8
      clear c8
      obtain rfl := Option.some.inj H
      go_wp2_with (first | ((with_reducible refine gate_callee (f := 27) rfl ?_); refine goesL_ (some 16) rfl rfl Tryd.func27 (by kernel_rfl) rfl #[.int .i64 (wrap64 (a1 - 1))] rfl ga ?_; (with_reducible refine (spinnakerref01_Power.calls kj2 (wrap64 (a1 - 1)) t158 _ A7.out).mono ?_); rintro e w' ⟨rfl, ⟨nd, rfl⟩⟩; refine ⟨_, rfl, ?_⟩))
      go_ret
      exact ⟨fj, fd⟩
     ·rw [if_neg c8] at H
      have c8b0 := decide_eq_false c8
      clear c8
      obtain rfl := Option.some.inj H
      go_wp2_with (first | ((with_reducible refine gate_callee (f := 27) rfl ?_); refine goesL_ (some 16) rfl rfl Tryd.func27 (by kernel_rfl) rfl #[.int .i64 (wrap64 (a1 - 1))] rfl ga ?_; (with_reducible refine (spinnakerref01_Power.calls kj2 (wrap64 (a1 - 1)) t158 _ A7.out).mono ?_); rintro e w' ⟨rfl, ⟨nd, rfl⟩⟩; refine ⟨_, rfl, ?_⟩))
      go_ret
      exact ⟨fj, fd⟩

/-! ### spinnakerref01_Bit: function 28 -/
def spinnakerref01_Bit.l0 : Nat → Int → Int → Int → Option (Int)
  | 0, _, _, _ => none
  | k + 1, x0, x1, x5 => if x5 < x1 then (spinnakerref01_Bit.l0 k (IntKind.u64.wrap (Int.tdiv x0 2)) x1 (wrap64 (x5 + 1))) else (some (wrap64 (Int.tmod x0 2)))
def spinnakerref01_Bit.f (k : Nat) (a0 : Int) (a1 : Int) : Option (Int) := spinnakerref01_Bit.l0 k a0 a1 0
theorem spinnakerref01_Bit.mono_l : ∀ k, (∀ y0 y1 y2, LeO (spinnakerref01_Bit.l0 k y0 y1 y2) (spinnakerref01_Bit.l0 (k + 1) y0 y1 y2))
 | 0 => fun _ _ _ r h => by simp [spinnakerref01_Bit.l0] at h
 | k + 1 => by
  have ih0 := spinnakerref01_Bit.mono_l k
  ·intro y0 y1 y2
   unfold spinnakerref01_Bit.l0
   repeat' first | (with_reducible first | exact ih0 _ _ _ | exact LeO.refl _ | exact LeO.none _ | refine LeO.ite ?_ ?_ | refine LeO.bind ?_ (fun _ => ?_)) | exact ih0 _ _ _ | exact LeO.none _ | refine LeO.ite ?_ ?_ | refine LeO.bind ?_ (fun _ => ?_)
theorem spinnakerref01_Bit.mono : ∀ a0 a1 k, LeO (spinnakerref01_Bit.f k a0 a1) (spinnakerref01_Bit.f (k + 1) a0 a1) := by
 intro a0 a1 k
 have ih0 := spinnakerref01_Bit.mono_l k
 unfold spinnakerref01_Bit.f
 repeat' first | (with_reducible first | exact ih0 _ _ _ | exact LeO.refl _ | exact LeO.none _ | refine LeO.ite ?_ ?_ | refine LeO.bind ?_ (fun _ => ?_)) | exact ih0 _ _ _ | exact LeO.none _ | refine LeO.ite ?_ ?_ | refine LeO.bind ?_ (fun _ => ?_)
set_option maxHeartbeats 8000000 in
set_option maxRecDepth 100000 in
theorem spinnakerref01_Bit.calls (k : Nat) (a0 : Int) (a1 : Int) (r : Int) (w : World) (h : spinnakerref01_Bit.f k a0 a1 = some r) :
  Calls Tryd.prog 28 #[.int .u64 a0, .int .i64 a1] w fun e w' => e = .returned (.int .i64 r) ∧ Drawn0 w w' := by
 have H : (spinnakerref01_Bit.l0 k a0 a1 0) = some r := h
 clear h
 have H' := Aside0.mk H
 clear H
 go_enter Tryd.func28, Tryd.ntmps28
 go_wp2
 go_loopg [0, 5] k (fun kq v0 v5 w' => ∃ (x0_1 : Int) (x5_1 : Int), v0 = .int .u64 x0_1 ∧ v5 = .int .i64 x5_1 ∧ Aside0 (spinnakerref01_Bit.l0 kq x0_1 a1 x5_1 = some r) ∧ Aside0 (kq ≤ k) ∧ Drawn0 w w')
 case atStart => exact ⟨(a0), (0), fj, fj, H', ⟨Nat.le_refl _⟩, fd⟩
 case round =>
  clear H'
  try clear c2
  try clear p2
  obtain ⟨x0_1, x5_1, rfl, rfl, HA, HK1, ⟨m1, rfl⟩⟩ := hrel
  cases gk with
  | zero => exact absurd HA.out (by simp [spinnakerref01_Bit.l0])
  | succ k1 =>
   have H := HA.out
   clear HA
   simp only [spinnakerref01_Bit.l0] at H
   by_cases c3 : x5_1 < a1
   ·rw [if_pos c3] at H
    have c3b0 := decide_eq_true c3
    clear c3
    have H' := Aside0.mk H
    clear H
    go_wp2
    go_roundg k1
    case measure => have := HK1.out; omega
    case rel => exact ⟨(IntKind.u64.wrap (Int.tdiv x0_1 2)), (wrap64 (x5_1 + 1)), fj, fj, H', ⟨by have := HK1.out; omega⟩, fd⟩
   ·rw [if_neg c3] at H
    have c3b0 := decide_eq_false c3
    clear c3
    obtain rfl := Option.some.inj H
    go_wp2
    go_ret
    exact ⟨fj, fd⟩

/-! ### spinnakerref01_Sign: function 12 -/
def spinnakerref01_Sign.l0 : Nat → Int → Int → Int → Int → Int → Option (Int)
  | 0, _, _, _, _, _ => none
  | k + 1, x0, x1, x5, x6, x7 => if x7 < (wrap64 (x1 - 1)) then ((spinnakerref01_Bit.f k x0 x7).bind fun t159 => (spinnakerref01_Sign.l0 k x0 x1 (wrap64 (x5 + (wrap64 (x6 * t159)))) (wrap64 (2 * x6)) (wrap64 (x7 + 1)))) else ((spinnakerref01_Bit.f k x0 (wrap64 (x1 - 1))).bind fun t160 => (some (wrap64 (x5 - (wrap64 (x6 * t160))))))
def spinnakerref01_Sign.f (k : Nat) (a0 : Int) (a1 : Int) : Option (Int) := spinnakerref01_Sign.l0 k a0 a1 0 1 0
theorem spinnakerref01_Sign.mono_l : ∀ k, (∀ y0 y1 y2 y3 y4, LeO (spinnakerref01_Sign.l0 k y0 y1 y2 y3 y4) (spinnakerref01_Sign.l0 (k + 1) y0 y1 y2 y3 y4))
 | 0 => fun _ _ _ _ _ r h => by simp [spinnakerref01_Sign.l0] at h
 | k + 1 => by
  have ih0 := spinnakerref01_Sign.mono_l k
  ·intro y0 y1 y2 y3 y4
   unfold spinnakerref01_Sign.l0
   repeat' first | (with_reducible first | exact ih0 _ _ _ _ _ | exact spinnakerref01_Bit.mono _ _ _ | exact LeO.refl _ | exact LeO.none _ | refine LeO.ite ?_ ?_ | refine LeO.bind ?_ (fun _ => ?_)) | exact ih0 _ _ _ _ _ | exact spinnakerref01_Bit.mono _ _ _ | exact LeO.none _ | refine LeO.ite ?_ ?_ | refine LeO.bind ?_ (fun _ => ?_)
theorem spinnakerref01_Sign.mono : ∀ a0 a1 k, LeO (spinnakerref01_Sign.f k a0 a1) (spinnakerref01_Sign.f (k + 1) a0 a1) := by
 intro a0 a1 k
 have ih0 := spinnakerref01_Sign.mono_l k
 unfold spinnakerref01_Sign.f
 repeat' first | (with_reducible first | exact ih0 _ _ _ _ _ | exact spinnakerref01_Bit.mono _ _ _ | exact LeO.refl _ | exact LeO.none _ | refine LeO.ite ?_ ?_ | refine LeO.bind ?_ (fun _ => ?_)) | exact ih0 _ _ _ _ _ | exact spinnakerref01_Bit.mono _ _ _ | exact LeO.none _ | refine LeO.ite ?_ ?_ | refine LeO.bind ?_ (fun _ => ?_)
set_option maxHeartbeats 8000000 in
set_option maxRecDepth 100000 in
theorem spinnakerref01_Sign.calls (k : Nat) (a0 : Int) (a1 : Int) (r : Int) (w : World) (h : spinnakerref01_Sign.f k a0 a1 = some r) :
  Calls Tryd.prog 12 #[.int .u64 a0, .int .i64 a1] w fun e w' => e = .returned (.int .i64 r) ∧ Drawn0 w w' := by
 have H : (spinnakerref01_Sign.l0 k a0 a1 0 1 0) = some r := h
 clear h
 have H' := Aside0.mk H
 clear H
 go_enter Tryd.func12, Tryd.ntmps12
 go_wp2
 go_loopg [5, 6, 7] k (fun kq v5 v6 v7 w' => ∃ (x5_1 : Int) (x6_1 : Int) (x7_1 : Int), v5 = .int .i64 x5_1 ∧ v6 = .int .i64 x6_1 ∧ v7 = .int .i64 x7_1 ∧ Aside0 (spinnakerref01_Sign.l0 kq a0 a1 x5_1 x6_1 x7_1 = some r) ∧ Aside0 (kq ≤ k) ∧ Drawn0 w w')
 case atStart => exact ⟨(0), (1), (0), fj, fj, fj, H', ⟨Nat.le_refl _⟩, fd⟩
 case round =>
  clear H'
  try clear c1
  try clear p2
  obtain ⟨x5_1, x6_1, x7_1, rfl, rfl, rfl, HA, HK1, ⟨m1, rfl⟩⟩ := hrel
  cases gk with
  | zero => exact absurd HA.out (by simp [spinnakerref01_Sign.l0])
  | succ k1 =>
   have H := HA.out
   clear HA
   simp only [spinnakerref01_Sign.l0] at H
   by_cases c3 : x7_1 < (wrap64 (a1 - 1))
   ·rw [if_pos c3] at H
    have c3b0 := decide_eq_true c3
    clear c3
    replace H := be H
    obtain ⟨t159, A4, H⟩ := H
    have H' := Aside0.mk H
    clear H
    go_wp2_with (first | ((with_reducible refine gate_callee (f := 28) rfl ?_); refine goesL_ (some 18) rfl rfl Tryd.func28 (by kernel_rfl) rfl #[.int .u64 a0, .int .i64 x7_1] rfl ga ?_; (with_reducible refine (spinnakerref01_Bit.calls k1 a0 x7_1 t159 _ A4.out).mono ?_); rintro e w' ⟨rfl, ⟨nd, rfl⟩⟩; refine ⟨_, rfl, ?_⟩))
    go_roundg k1
    case measure => have := HK1.out; omega
    case rel => exact ⟨(wrap64 (x5_1 + (wrap64 (x6_1 * t159)))), (wrap64 (2 * x6_1)), (wrap64 (x7_1 + 1)), fj, fj, fj, H', ⟨by have := HK1.out; omega⟩, fd⟩
   ·rw [if_neg c3] at H
    have c3b0 := decide_eq_false c3
    clear c3
    replace H := be H
    obtain ⟨t160, A5, H⟩ := H
    obtain rfl := Option.some.inj H
    go_wp2_with (first | ((with_reducible refine gate_callee (f := 28) rfl ?_); refine goesL_ (some 28) rfl rfl Tryd.func28 (by kernel_rfl) rfl #[.int .u64 a0, .int .i64 (wrap64 (a1 - 1))] rfl ga ?_; (with_reducible refine (spinnakerref01_Bit.calls k1 a0 (wrap64 (a1 - 1)) t160 _ A5.out).mono ?_); rintro e w' ⟨rfl, ⟨nd, rfl⟩⟩; refine ⟨_, rfl, ?_⟩))
    go_ret
    exact ⟨fj, fd⟩

/-! ### spinnakerref09_Load: function 6 -/
mutual
def spinnakerref09_Load.l0 : Nat → Int → Int → Int → Int → Int → Option ((List (S27)))
  | 0, _, _, _, _, _ => none
  | k + 1, x0, x1, x5, x6, x7 => if x7 < 12 then (spinnakerref09_Load.l0 k x0 x1 x5 (wrap64 (Int.tdiv x6 2)) (wrap64 (x7 + 1))) else ((spinnakerref01_Fits.f k x1 32).bind fun t166 => (if t166 = true then ((spinnakerref01_Sign.f k (IntKind.u64.wrap (x6)) 20).bind fun t167 => (if ([] : List (S27)).length < 2932031007402 then ((some (([] : List (S27)) ++ [(⟨1, x0, 0, 0, t167, false, false⟩ : S27)] : List (S27))).bind fun y168 => (if x5 = 0 then (some y168) else (if y168.length < 2932031007402 then (some (y168 ++ [(⟨31, x0, x0, 0, x5, false, false⟩ : S27)])) else (none)))) else (none))) else (spinnakerref09_Load.l1 k x0 x5 x6 12)))
def spinnakerref09_Load.l1 : Nat → Int → Int → Int → Int → Option ((List (S27)))
  | 0, _, _, _, _ => none
  | k + 1, x0, x5, x6, x9 => if (Int.tmod x6 2) = 0 then (if x9 < 63 then (spinnakerref09_Load.l1 k x0 x5 (wrap64 (Int.tdiv x6 2)) (wrap64 (x9 + 1))) else ((spinnakerref09_Load.f k x0 x6).bind fun t174 => (if t174.length < 2932031007402 then ((some (t174 ++ [(⟨28, x0, x0, 0, x9, false, false⟩ : S27)] : List (S27))).bind fun y177 => (if x5 = 0 then (some y177) else (if y177.length < 2932031007402 then (some (y177 ++ [(⟨22, x0, x0, 0, x5, false, false⟩ : S27)])) else (none)))) else (none)))) else ((spinnakerref09_Load.f k x0 x6).bind fun t183 => (if t183.length < 2932031007402 then ((some (t183 ++ [(⟨28, x0, x0, 0, x9, false, false⟩ : S27)] : List (S27))).bind fun y186 => (if x5 = 0 then (some y186) else (if y186.length < 2932031007402 then (some (y186 ++ [(⟨22, x0, x0, 0, x5, false, false⟩ : S27)])) else (none)))) else (none)))
def spinnakerref09_Load.f : Nat → Int → Int → Option ((List (S27)))
  | 0, _, _ => none
  | k + 1, a0, a1 => (spinnakerref01_Fits.f k a1 12).bind fun t161 => (if t161 = true then (some (([(⟨22, a0, 0, 0, a1, false, false⟩ : S27)] : List (S27)))) else ((spinnakerref01_Sign.f k (IntKind.u64.wrap (a1)) 12).bind fun t165 => (spinnakerref09_Load.l0 k a0 a1 t165 (wrap64 (a1 - t165)) 0)))
end
theorem spinnakerref09_Load.mono_l : ∀ k, (∀ y0 y1, LeO (spinnakerref09_Load.f k y0 y1) (spinnakerref09_Load.f (k + 1) y0 y1)) ∧ (∀ y0 y1 y2 y3 y4, LeO (spinnakerref09_Load.l0 k y0 y1 y2 y3 y4) (spinnakerref09_Load.l0 (k + 1) y0 y1 y2 y3 y4)) ∧ (∀ y0 y1 y2 y3, LeO (spinnakerref09_Load.l1 k y0 y1 y2 y3) (spinnakerref09_Load.l1 (k + 1) y0 y1 y2 y3))
 | 0 => ⟨fun _ _ r h => by simp [spinnakerref09_Load.f] at h, fun _ _ _ _ _ r h => by simp [spinnakerref09_Load.l0] at h, fun _ _ _ _ r h => by simp [spinnakerref09_Load.l1] at h⟩
 | k + 1 => by
  obtain ⟨ih0, ih1, ih2⟩ := spinnakerref09_Load.mono_l k
  refine ⟨?_, ?_, ?_⟩
  all_goals (intros; (first | unfold spinnakerref09_Load.f | unfold spinnakerref09_Load.l0 | unfold spinnakerref09_Load.l1); repeat' first | (with_reducible first | exact ih0 _ _ | exact ih1 _ _ _ _ _ | exact ih2 _ _ _ _ | exact spinnakerref01_Fits.mono _ _ _ | exact spinnakerref01_Sign.mono _ _ _ | exact LeO.refl _ | exact LeO.none _ | refine LeO.ite ?_ ?_ | refine LeO.bind ?_ (fun _ => ?_)) | exact ih0 _ _ | exact ih1 _ _ _ _ _ | exact ih2 _ _ _ _ | exact spinnakerref01_Fits.mono _ _ _ | exact spinnakerref01_Sign.mono _ _ _ | exact LeO.none _ | refine LeO.ite ?_ ?_ | refine LeO.bind ?_ (fun _ => ?_))
theorem spinnakerref09_Load.mono : ∀ a0 a1 k, LeO (spinnakerref09_Load.f k a0 a1) (spinnakerref09_Load.f (k + 1) a0 a1) := by
 intro a0 a1 k
 obtain ⟨ih0, ih1, ih2⟩ := spinnakerref09_Load.mono_l k
 exact ih0 a0 a1
set_option maxHeartbeats 8000000 in
set_option maxRecDepth 100000 in
theorem spinnakerref09_Load.calls (k : Nat) : ∀ (a0 : Int) (a1 : Int) (r : List (S27)) (w : World) (h : spinnakerref09_Load.f k a0 a1 = some r),
  Calls Tryd.prog 6 #[.int .i64 a0, .int .i64 a1] w fun e w' => ∃ v0_ : Value, e = .returned (v0_) ∧ Kd.R k27 27 w' w.heap.size (fun _ => True) v0_ r ∧ Below w.heap.size w w' := by
 induction k using Nat.strongRecOn with
 | _ k ih =>
 intro a0 a1 r w h
 cases k with
 | zero => exact absurd h (by simp [spinnakerref09_Load.f])
 | succ k =>
 simp only [spinnakerref09_Load.f] at h
 have hu27 := Tryd.underlying27
 have HB := Aside0.mk (Below.refl w.heap.size w)
 have H : ((spinnakerref01_Fits.f k a1 12).bind fun t161 => (if t161 = true then (some (([(⟨22, a0, 0, 0, a1, false, false⟩ : S27)] : List (S27)))) else ((spinnakerref01_Sign.f k (IntKind.u64.wrap (a1)) 12).bind fun t165 => (spinnakerref09_Load.l0 k a0 a1 t165 (wrap64 (a1 - t165)) 0)))) = some r := h
 clear h
 replace H := be H
 obtain ⟨t161, A3, H⟩ := H
 by_cases c4 : t161 = true
 ·subst c4
  have H1 : (some (([(⟨22, a0, 0, 0, a1, false, false⟩ : S27)] : List (S27)))) = some r := by rw [if_pos rfl] at H; exact H
  clear H
  have H := H1
  clear H1
  obtain ⟨y162, hy162⟩ : ∃ y_ : List (S27), y_ = (([(⟨22, a0, 0, 0, a1, false, false⟩ : S27)] : List (S27))) := ⟨_, rfl⟩
  replace H : (some y162) = some r := by first | (rw [hy162]; with_reducible exact H) | (have H2_ := (Option.bind_some _ _).symm.trans H; rw [hy162]; with_reducible exact H2_) | (have H2_ := (Option.bind_some _ _).symm.trans H; with_reducible exact H2_) | with_reducible exact H | (rw [hy162]; exact H) | exact H
  have Ny162 := Aside0.mk hy162
  clear hy162
  obtain rfl := Option.some.inj H
  go_enter Tryd.func6, Tryd.ntmps6
  go_wp2_with (first | ((with_reducible refine gate_callee (f := 11) rfl ?_); refine goesL_ (some 11) rfl rfl Tryd.func11 (by kernel_rfl) rfl #[.int .i64 a1, .int .i64 12] rfl ga ?_; (with_reducible refine (spinnakerref01_Fits.calls k a1 12 true _ A3.out).mono ?_); rintro e w' ⟨rfl, ⟨nd, rfl⟩⟩; refine ⟨_, rfl, ?_⟩) | ((with_reducible refine gate_dst (N := 15) rfl ?_); refine Kd.R_lit k27 _ 27 ?hg (N := 15) ?hd (xs := ([(⟨22, a0, 0, 0, a1, false, false⟩ : S27)] : List (S27))) (inner := [.int .i64 22, .int .i64 a0, .int .i64 0, .int .i64 0, .int .i64 a1, .bool false, .bool false]) (ok := fun _ => True) (okp := fun _ => True) ?hr ?hp (fun _ hk => hk) trivial (Below.refl _ _) (Nat.le_refl _) (by simp) ?_; (case hd => rfl); (case hg => rfl); (case hr => first | (go_simp; done) | (go_simp; rfl)); (case hp => exact (Reps.c7 (show Kd.M k27 _ _ _ (⟨22, a0, 0, 0, a1, false, false⟩ : S27) [.int .i64 22, .int .i64 a0, .int .i64 0, .int .i64 0, .int .i64 a1, .bool false, .bool false] from (k27_mkM _ _ _ (⟨22, a0, 0, 0, a1, false, false⟩ : S27) )) (Reps.none _ _))); intro v163 w5 ho6 hb hg_ hnew_; clear hg_ hnew_; (first | rw [← Ny162.out] at ho6 | (simp only [Int.reduceToNat] at ho6; rw [← Ny162.out] at ho6)); have n0_ := Aside0.mk (Kd.R_lower ho6 (below_size bl)); have n1_ := Aside0.mk (below_step bl hb); clear HB; have HO164 := n0_; have HB := n1_; clear n0_ n1_; clear hb ho6))
  go_ret
  exact ⟨_, fi, by (with_reducible repeat (first | apply Kd.R_alloc | apply Kd.R_drewN | apply Kd.R_drew)); exact HO164.out, bl⟩
 ·replace c4 := Bool.eq_false_iff.mpr c4
  subst c4
  have H1 : ((spinnakerref01_Sign.f k (IntKind.u64.wrap (a1)) 12).bind fun t165 => (spinnakerref09_Load.l0 k a0 a1 t165 (wrap64 (a1 - t165)) 0)) = some r := by rw [if_neg (show ¬ (false = true) by decide)] at H; exact H
  clear H
  have H := H1
  clear H1
  replace H := be H
  obtain ⟨t165, A7, H⟩ := H
  have H' := Aside0.mk H
  clear H
  go_enter Tryd.func6, Tryd.ntmps6
  go_wp2_with (first | ((with_reducible refine gate_callee (f := 11) rfl ?_); refine goesL_ (some 11) rfl rfl Tryd.func11 (by kernel_rfl) rfl #[.int .i64 a1, .int .i64 12] rfl ga ?_; (with_reducible refine (spinnakerref01_Fits.calls k a1 12 false _ A3.out).mono ?_); rintro e w' ⟨rfl, ⟨nd, rfl⟩⟩; refine ⟨_, rfl, ?_⟩) | ((with_reducible refine gate_callee (f := 12) rfl ?_); refine goesL_ (some 18) rfl rfl Tryd.func12 (by kernel_rfl) rfl #[.int .u64 (IntKind.u64.wrap (a1)), .int .i64 12] rfl ga ?_; (with_reducible refine (spinnakerref01_Sign.calls k (IntKind.u64.wrap (a1)) 12 t165 _ A7.out).mono ?_); rintro e w' ⟨rfl, ⟨nd, rfl⟩⟩; refine ⟨_, rfl, ?_⟩))
  go_loopg [6, 7] k (fun kq v6 v7 w' => ∃ (x6_1 : Int) (x7_1 : Int), v6 = .int .i64 x6_1 ∧ v7 = .int .i64 x7_1 ∧ Aside0 (spinnakerref09_Load.l0 kq a0 a1 t165 x6_1 x7_1 = some r) ∧ Aside0 (kq ≤ k) ∧ Aside0 (Below w.heap.size w w'))
  case atStart => exact ⟨(wrap64 (a1 - t165)), (0), fj, fj, H', ⟨Nat.le_refl _⟩, ⟨bl⟩⟩
  case round =>
   clear H'
   try clear c1
   try clear p2
   try clear c4
   try clear c6
   try clear p6
   try clear c7
   obtain ⟨x6_1, x7_1, rfl, rfl, HA, HK1, HB⟩ := hrel
   cases gk with
   | zero => exact absurd HA.out (by simp [spinnakerref09_Load.l0])
   | succ k1 =>
    have H := HA.out
    clear HA
    simp only [spinnakerref09_Load.l0] at H
    by_cases c8 : x7_1 < 12
    ·rw [if_pos c8] at H
     have c8b0 := decide_eq_true c8
     clear c8
     have H' := Aside0.mk H
     clear H
     go_wp2
     go_roundg k1
     case measure => have := HK1.out; omega
     case rel => exact ⟨(wrap64 (Int.tdiv x6_1 2)), (wrap64 (x7_1 + 1)), fj, fj, H', ⟨by have := HK1.out; omega⟩, ⟨bl⟩⟩
    ·rw [if_neg c8] at H
     have c8b0 := decide_eq_false c8
     clear c8
     replace H := be H
     obtain ⟨t166, A9, H⟩ := H
     by_cases c10 : t166 = true
     ·subst c10
      have H1 : ((spinnakerref01_Sign.f k1 (IntKind.u64.wrap (x6_1)) 20).bind fun t167 => (if ([] : List (S27)).length < 2932031007402 then ((some (([] : List (S27)) ++ [(⟨1, a0, 0, 0, t167, false, false⟩ : S27)] : List (S27))).bind fun y168 => (if t165 = 0 then (some y168) else (if y168.length < 2932031007402 then (some (y168 ++ [(⟨31, a0, a0, 0, t165, false, false⟩ : S27)])) else (none)))) else (none))) = some r := by rw [if_pos rfl] at H; exact H
      clear H
      have H := H1
      clear H1
      replace H := be H
      obtain ⟨t167, A11, H⟩ := H
      by_cases c12 : ([] : List (S27)).length < 2932031007402
      ·rw [if_pos c12] at H
       have LMc12 := Aside0.mk c12
       clear c12
       obtain ⟨y168, hy168⟩ : ∃ y_ : List (S27), y_ = (([] : List (S27)) ++ [(⟨1, a0, 0, 0, t167, false, false⟩ : S27)]) := ⟨_, rfl⟩
       replace H : (if t165 = 0 then (some y168) else (if y168.length < 2932031007402 then (some (y168 ++ [(⟨31, a0, a0, 0, t165, false, false⟩ : S27)])) else (none))) = some r := by first | (rw [hy168]; with_reducible exact H) | (have H2_ := (Option.bind_some _ _).symm.trans H; rw [hy168]; with_reducible exact H2_) | (have H2_ := (Option.bind_some _ _).symm.trans H; with_reducible exact H2_) | with_reducible exact H | (rw [hy168]; exact H) | exact H
       have Ny168 := Aside0.mk hy168
       clear hy168
       by_cases c13 : t165 = 0
       ·rw [if_pos c13] at H
        obtain ⟨c13b0, c13b1⟩ := eqs c13
        clear c13
        obtain rfl := Option.some.inj H
        go_wp2_with (first | ((with_reducible refine gate_callee (f := 11) rfl ?_); refine goesL_ (some 29) rfl rfl Tryd.func11 (by kernel_rfl) rfl #[.int .i64 a1, .int .i64 32] rfl ga ?_; (with_reducible refine (spinnakerref01_Fits.calls k1 a1 32 true _ A9.out).mono ?_); rintro e w' ⟨rfl, ⟨nd, rfl⟩⟩; refine ⟨_, rfl, ?_⟩) | ((with_reducible refine gate_callee (f := 12) rfl ?_); refine goesL_ (some 34) rfl rfl Tryd.func12 (by kernel_rfl) rfl #[.int .u64 (IntKind.u64.wrap (x6_1)), .int .i64 20] rfl ga ?_; (with_reducible refine (spinnakerref01_Sign.calls k1 (IntKind.u64.wrap (x6_1)) 20 t167 _ A11.out).mono ?_); rintro e w' ⟨rfl, ⟨nd, rfl⟩⟩; refine ⟨_, rfl, ?_⟩) | ((with_reducible refine gate_builtin (b := .append) (xs := #[.tmp 30, .tmp 36]) rfl ?_); at_builtin; refine Kd.R_append k27 (w0 := w) w.heap.size rfl (.tmp 30) (.tmp 36) 23 27 (.agg #[(.int .i64 0), (.int .i64 0), (.int .i64 0), (.int .i64 0), (.int .i64 0), (.bool false), (.bool false)]) 48 rfl Tryd.underlying23 info27 rfl (by decide) (by omega) (.slice none 0 0) ([] : List (S27)) (⟨1, a0, 0, 0, t167, false, false⟩ : S27) [.int .i64 1, .int .i64 a0, .int .i64 0, .int .i64 0, .int .i64 t167, .bool false, .bool false] (fun _ => True) (fun _ => False) rfl rfl ?aP (fun _ hk => hk.elim) ?aF ?aO ?aB ?aS ?aL ?_; (case aP => exact k27_mkM _ _ _ (⟨1, a0, 0, 0, t167, false, false⟩ : S27)); (case aB => exact bl); (case aF => exact (fun _ _ => trivial)); (case aO => exact ((Kd.R_nil _ _ _ _ (fun _ => True)))); (case aS => exact (below_size bl)); (case aL => have := LMc12.out; omega); intro v169 w14 ho hb hg hat; rw [← Ny168.out] at ho; have n0_ := Aside0.mk (hb); have n1_ := Aside0.mk (ho); clear HB; have HB := n0_; have HO170 := n1_; clear n0_ n1_; clear ho hb hg hat))
        go_ret
        exact ⟨_, fi, by (with_reducible repeat (first | apply Kd.R_alloc | apply Kd.R_drewN | apply Kd.R_drew)); exact HO170.out, bl⟩
       ·rw [if_neg c13] at H
        have c13b0 : (t165 == 0) = false := beq_eq_false_iff_ne.mpr c13
        have c13b1 : (t165 != 0) = true := bne_iff_ne.mpr c13
        by_cases c15 : y168.length < 2932031007402
        ·rw [if_pos c15] at H
         have LMc15 := Aside0.mk c15
         clear c15
         obtain ⟨y171, hy171⟩ : ∃ y_ : List (S27), y_ = (y168 ++ [(⟨31, a0, a0, 0, t165, false, false⟩ : S27)]) := ⟨_, rfl⟩
         replace H : (some y171) = some r := by first | (rw [hy171]; with_reducible exact H) | (have H2_ := (Option.bind_some _ _).symm.trans H; rw [hy171]; with_reducible exact H2_) | (have H2_ := (Option.bind_some _ _).symm.trans H; with_reducible exact H2_) | with_reducible exact H | (rw [hy171]; exact H) | exact H
         have Ny171 := Aside0.mk hy171
         clear hy171
         obtain rfl := Option.some.inj H
         go_wp2_with (first | ((with_reducible refine gate_callee (f := 11) rfl ?_); refine goesL_ (some 29) rfl rfl Tryd.func11 (by kernel_rfl) rfl #[.int .i64 a1, .int .i64 32] rfl ga ?_; (with_reducible refine (spinnakerref01_Fits.calls k1 a1 32 true _ A9.out).mono ?_); rintro e w' ⟨rfl, ⟨nd, rfl⟩⟩; refine ⟨_, rfl, ?_⟩) | ((with_reducible refine gate_callee (f := 12) rfl ?_); refine goesL_ (some 34) rfl rfl Tryd.func12 (by kernel_rfl) rfl #[.int .u64 (IntKind.u64.wrap (x6_1)), .int .i64 20] rfl ga ?_; (with_reducible refine (spinnakerref01_Sign.calls k1 (IntKind.u64.wrap (x6_1)) 20 t167 _ A11.out).mono ?_); rintro e w' ⟨rfl, ⟨nd, rfl⟩⟩; refine ⟨_, rfl, ?_⟩) | ((with_reducible refine gate_builtin (b := .append) (xs := #[.tmp 30, .tmp 36]) rfl ?_); at_builtin; refine Kd.R_append k27 (w0 := w) w.heap.size rfl (.tmp 30) (.tmp 36) 23 27 (.agg #[(.int .i64 0), (.int .i64 0), (.int .i64 0), (.int .i64 0), (.int .i64 0), (.bool false), (.bool false)]) 48 rfl Tryd.underlying23 info27 rfl (by decide) (by omega) (.slice none 0 0) ([] : List (S27)) (⟨1, a0, 0, 0, t167, false, false⟩ : S27) [.int .i64 1, .int .i64 a0, .int .i64 0, .int .i64 0, .int .i64 t167, .bool false, .bool false] (fun _ => True) (fun _ => False) rfl rfl ?aP (fun _ hk => hk.elim) ?aF ?aO ?aB ?aS ?aL ?_; (case aP => exact k27_mkM _ _ _ (⟨1, a0, 0, 0, t167, false, false⟩ : S27)); (case aB => exact bl); (case aF => exact (fun _ _ => trivial)); (case aO => exact ((Kd.R_nil _ _ _ _ (fun _ => True)))); (case aS => exact (below_size bl)); (case aL => have := LMc12.out; omega); intro v169 w16 ho hb hg hat; rw [← Ny168.out] at ho; have n0_ := Aside0.mk (hb); have n1_ := Aside0.mk (ho); clear HB; have HB := n0_; have HO170 := n1_; clear n0_ n1_; clear ho hb hg hat) | ((with_reducible refine gate_builtin (b := .append) (xs := #[.tmp 40, .tmp 45]) rfl ?_); at_builtin; refine Kd.R_append k27 (w0 := w) w.heap.size rfl (.tmp 40) (.tmp 45) 23 27 (.agg #[(.int .i64 0), (.int .i64 0), (.int .i64 0), (.int .i64 0), (.int .i64 0), (.bool false), (.bool false)]) 48 rfl Tryd.underlying23 info27 rfl (by decide) (by omega) v169 y168 (⟨31, a0, a0, 0, t165, false, false⟩ : S27) [.int .i64 31, .int .i64 a0, .int .i64 a0, .int .i64 0, .int .i64 t165, .bool false, .bool false] (fun _ => True) (fun _ => False) rfl rfl ?aP (fun _ hk => hk.elim) ?aF ?aO ?aB ?aS ?aL ?_; (case aP => exact k27_mkM _ _ _ (⟨31, a0, a0, 0, t165, false, false⟩ : S27)); (case aB => exact bl); (case aF => exact (fun _ _ => trivial)); (case aO => exact (by (with_reducible repeat (first | apply Kd.R_alloc | apply Kd.R_drewN | apply Kd.R_drew)); exact HO170.out)); (case aS => exact (below_size bl)); (case aL => have := LMc15.out; omega); intro v172 w17 ho hb hg hat; rw [← Ny171.out] at ho; have n0_ := Aside0.mk (hb); have n1_ := Aside0.mk (ho); clear HB; clear HO170; have HB := n0_; have HO173 := n1_; clear n0_ n1_; clear ho hb hg hat))
         go_ret
         exact ⟨_, fi, by (with_reducible repeat (first | apply Kd.R_alloc | apply Kd.R_drewN | apply Kd.R_drew)); exact HO173.out, bl⟩
        ·rw [if_neg c15] at H
         exact absurd H (by simp)
      ·rw [if_neg c12] at H
       exact absurd H (by simp)
     ·replace c10 := Bool.eq_false_iff.mpr c10
      subst c10
      have H1 : (spinnakerref09_Load.l1 k1 a0 t165 x6_1 12) = some r := by rw [if_neg (show ¬ (false = true) by decide)] at H; exact H
      clear H
      have H := H1
      clear H1
      have H' := Aside0.mk H
      clear H
      go_wp2_with (first | ((with_reducible refine gate_callee (f := 11) rfl ?_); refine goesL_ (some 29) rfl rfl Tryd.func11 (by kernel_rfl) rfl #[.int .i64 a1, .int .i64 32] rfl ga ?_; (with_reducible refine (spinnakerref01_Fits.calls k1 a1 32 false _ A9.out).mono ?_); rintro e w' ⟨rfl, ⟨nd, rfl⟩⟩; refine ⟨_, rfl, ?_⟩))
      go_loopg [6, 9] k1 (fun kq v6 v9 w' => ∃ (x6_2 : Int) (x9_2 : Int), v6 = .int .i64 x6_2 ∧ v9 = .int .i64 x9_2 ∧ Aside0 (spinnakerref09_Load.l1 kq a0 t165 x6_2 x9_2 = some r) ∧ Aside0 (kq ≤ k1) ∧ Aside0 (Below w.heap.size w w'))
      case atStart => exact ⟨(x6_1), (12), fj, fj, H', ⟨Nat.le_refl _⟩, ⟨bl⟩⟩
      case round =>
       clear H'
       try clear c1
       try clear p2
       try clear c4
       try clear c6
       try clear p6
       try clear c7
       try clear c8
       try clear c8b0
       try clear c10
       try clear c11
       try clear c12
       try clear c13
       try clear c13b0
       try clear c13b1
       try clear c15
       try clear p2
       try clear p6
       obtain ⟨x6_2, x9_2, rfl, rfl, HA, HK2, HB⟩ := hrel
       cases gk with
       | zero => exact absurd HA.out (by simp [spinnakerref09_Load.l1])
       | succ k2 =>
        have H := HA.out
        clear HA
        simp only [spinnakerref09_Load.l1] at H
        by_cases c18 : (Int.tmod x6_2 2) = 0
        ·rw [if_pos c18] at H
         obtain ⟨c18b0, c18b1⟩ := eqs c18
         clear c18
         by_cases c19 : x9_2 < 63
         ·rw [if_pos c19] at H
          have c19b0 := decide_eq_true c19
          clear c19
          have H' := Aside0.mk H
          clear H
          go_wp2
          go_roundg k2
          case measure => have := HK1.out; have := HK2.out; omega
          case rel => exact ⟨(wrap64 (Int.tdiv x6_2 2)), (wrap64 (x9_2 + 1)), fj, fj, H', ⟨by have := HK1.out; have := HK2.out; omega⟩, ⟨bl⟩⟩
         ·rw [if_neg c19] at H
          have c19b0 := decide_eq_false c19
          clear c19
          replace H := be H
          obtain ⟨t174, A20, H⟩ := H
          by_cases c21 : t174.length < 2932031007402
          ·rw [if_pos c21] at H
           have LMc21 := Aside0.mk c21
           clear c21
           obtain ⟨y177, hy177⟩ : ∃ y_ : List (S27), y_ = (t174 ++ [(⟨28, a0, a0, 0, x9_2, false, false⟩ : S27)]) := ⟨_, rfl⟩
           replace H : (if t165 = 0 then (some y177) else (if y177.length < 2932031007402 then (some (y177 ++ [(⟨22, a0, a0, 0, t165, false, false⟩ : S27)])) else (none))) = some r := by first | (rw [hy177]; with_reducible exact H) | (have H2_ := (Option.bind_some _ _).symm.trans H; rw [hy177]; with_reducible exact H2_) | (have H2_ := (Option.bind_some _ _).symm.trans H; with_reducible exact H2_) | with_reducible exact H | (rw [hy177]; exact H) | exact H
           have Ny177 := Aside0.mk hy177
           clear hy177
           by_cases c22 : t165 = 0
           ·rw [if_pos c22] at H
            obtain ⟨c22b0, c22b1⟩ := eqs c22
            clear c22
            obtain rfl := Option.some.inj H
            go_wp2_with (first | ((with_reducible refine gate_callee (f := 6) rfl ?_); refine goesL_ (some 61) rfl rfl Tryd.func6 (by kernel_rfl) rfl #[.int .i64 a0, .int .i64 x6_2] rfl ga ?_; (with_reducible refine (ih k2 (by have := HK1.out; have := HK2.out; omega) a0 x6_2 t174 _ A20.out).mono ?_); rintro e w23 ⟨v175, rfl, ho0, hb⟩; refine ⟨_, rfl, ?_⟩; have n0_ := Aside0.mk (Kd.R_lower ho0 (below_size bl)); have n1_ := Aside0.mk (below_step bl hb); clear HB; have HO176 := n0_; have HB := n1_; clear n0_ n1_; (try clear hb); (try clear ho0)) | ((with_reducible refine gate_builtin (b := .append) (xs := #[.tmp 61, .tmp 66]) rfl ?_); at_builtin; refine Kd.R_append k27 (w0 := w) w.heap.size rfl (.tmp 61) (.tmp 66) 23 27 (.agg #[(.int .i64 0), (.int .i64 0), (.int .i64 0), (.int .i64 0), (.int .i64 0), (.bool false), (.bool false)]) 48 rfl Tryd.underlying23 info27 rfl (by decide) (by omega) v175 t174 (⟨28, a0, a0, 0, x9_2, false, false⟩ : S27) [.int .i64 28, .int .i64 a0, .int .i64 a0, .int .i64 0, .int .i64 x9_2, .bool false, .bool false] (fun _ => True) (fun _ => False) rfl rfl ?aP (fun _ hk => hk.elim) ?aF ?aO ?aB ?aS ?aL ?_; (case aP => exact k27_mkM _ _ _ (⟨28, a0, a0, 0, x9_2, false, false⟩ : S27)); (case aB => exact bl); (case aF => exact (fun _ _ => trivial)); (case aO => exact (by (with_reducible repeat (first | apply Kd.R_alloc | apply Kd.R_drewN | apply Kd.R_drew)); exact HO176.out)); (case aS => exact (below_size bl)); (case aL => have := LMc21.out; omega); intro v178 w24 ho hb hg hat; rw [← Ny177.out] at ho; have n0_ := Aside0.mk (hb); have n1_ := Aside0.mk (ho); clear HB; clear HO176; have HB := n0_; have HO179 := n1_; clear n0_ n1_; clear ho hb hg hat))
            go_ret
            exact ⟨_, fi, by (with_reducible repeat (first | apply Kd.R_alloc | apply Kd.R_drewN | apply Kd.R_drew)); exact HO179.out, bl⟩
           ·rw [if_neg c22] at H
            have c22b0 : (t165 == 0) = false := beq_eq_false_iff_ne.mpr c22
            have c22b1 : (t165 != 0) = true := bne_iff_ne.mpr c22
            by_cases c25 : y177.length < 2932031007402
            ·rw [if_pos c25] at H
             have LMc25 := Aside0.mk c25
             clear c25
             obtain ⟨y180, hy180⟩ : ∃ y_ : List (S27), y_ = (y177 ++ [(⟨22, a0, a0, 0, t165, false, false⟩ : S27)]) := ⟨_, rfl⟩
             replace H : (some y180) = some r := by first | (rw [hy180]; with_reducible exact H) | (have H2_ := (Option.bind_some _ _).symm.trans H; rw [hy180]; with_reducible exact H2_) | (have H2_ := (Option.bind_some _ _).symm.trans H; with_reducible exact H2_) | with_reducible exact H | (rw [hy180]; exact H) | exact H
             have Ny180 := Aside0.mk hy180
             clear hy180
             obtain rfl := Option.some.inj H
             go_wp2_with (first | ((with_reducible refine gate_callee (f := 6) rfl ?_); refine goesL_ (some 61) rfl rfl Tryd.func6 (by kernel_rfl) rfl #[.int .i64 a0, .int .i64 x6_2] rfl ga ?_; (with_reducible refine (ih k2 (by have := HK1.out; have := HK2.out; omega) a0 x6_2 t174 _ A20.out).mono ?_); rintro e w26 ⟨v175, rfl, ho0, hb⟩; refine ⟨_, rfl, ?_⟩; have n0_ := Aside0.mk (Kd.R_lower ho0 (below_size bl)); have n1_ := Aside0.mk (below_step bl hb); clear HB; have HO176 := n0_; have HB := n1_; clear n0_ n1_; (try clear hb); (try clear ho0)) | ((with_reducible refine gate_builtin (b := .append) (xs := #[.tmp 61, .tmp 66]) rfl ?_); at_builtin; refine Kd.R_append k27 (w0 := w) w.heap.size rfl (.tmp 61) (.tmp 66) 23 27 (.agg #[(.int .i64 0), (.int .i64 0), (.int .i64 0), (.int .i64 0), (.int .i64 0), (.bool false), (.bool false)]) 48 rfl Tryd.underlying23 info27 rfl (by decide) (by omega) v175 t174 (⟨28, a0, a0, 0, x9_2, false, false⟩ : S27) [.int .i64 28, .int .i64 a0, .int .i64 a0, .int .i64 0, .int .i64 x9_2, .bool false, .bool false] (fun _ => True) (fun _ => False) rfl rfl ?aP (fun _ hk => hk.elim) ?aF ?aO ?aB ?aS ?aL ?_; (case aP => exact k27_mkM _ _ _ (⟨28, a0, a0, 0, x9_2, false, false⟩ : S27)); (case aB => exact bl); (case aF => exact (fun _ _ => trivial)); (case aO => exact (by (with_reducible repeat (first | apply Kd.R_alloc | apply Kd.R_drewN | apply Kd.R_drew)); exact HO176.out)); (case aS => exact (below_size bl)); (case aL => have := LMc21.out; omega); intro v178 w27 ho hb hg hat; rw [← Ny177.out] at ho; have n0_ := Aside0.mk (hb); have n1_ := Aside0.mk (ho); clear HB; clear HO176; have HB := n0_; have HO179 := n1_; clear n0_ n1_; clear ho hb hg hat) | ((with_reducible refine gate_builtin (b := .append) (xs := #[.tmp 70, .tmp 75]) rfl ?_); at_builtin; refine Kd.R_append k27 (w0 := w) w.heap.size rfl (.tmp 70) (.tmp 75) 23 27 (.agg #[(.int .i64 0), (.int .i64 0), (.int .i64 0), (.int .i64 0), (.int .i64 0), (.bool false), (.bool false)]) 48 rfl Tryd.underlying23 info27 rfl (by decide) (by omega) v178 y177 (⟨22, a0, a0, 0, t165, false, false⟩ : S27) [.int .i64 22, .int .i64 a0, .int .i64 a0, .int .i64 0, .int .i64 t165, .bool false, .bool false] (fun _ => True) (fun _ => False) rfl rfl ?aP (fun _ hk => hk.elim) ?aF ?aO ?aB ?aS ?aL ?_; (case aP => exact k27_mkM _ _ _ (⟨22, a0, a0, 0, t165, false, false⟩ : S27)); (case aB => exact bl); (case aF => exact (fun _ _ => trivial)); (case aO => exact (by (with_reducible repeat (first | apply Kd.R_alloc | apply Kd.R_drewN | apply Kd.R_drew)); exact HO179.out)); (case aS => exact (below_size bl)); (case aL => have := LMc25.out; omega); intro v181 w28 ho hb hg hat; rw [← Ny180.out] at ho; have n0_ := Aside0.mk (hb); have n1_ := Aside0.mk (ho); clear HB; clear HO179; have HB := n0_; have HO182 := n1_; clear n0_ n1_; clear ho hb hg hat))
             go_ret
             exact ⟨_, fi, by (with_reducible repeat (first | apply Kd.R_alloc | apply Kd.R_drewN | apply Kd.R_drew)); exact HO182.out, bl⟩
            ·rw [if_neg c25] at H
             exact absurd H (by simp)
          ·rw [if_neg c21] at H
           exact absurd H (by simp)
        ·rw [if_neg c18] at H
         have c18b0 : ((Int.tmod x6_2 2) == 0) = false := beq_eq_false_iff_ne.mpr c18
         have c18b1 : ((Int.tmod x6_2 2) != 0) = true := bne_iff_ne.mpr c18
         replace H := be H
         obtain ⟨t183, A29, H⟩ := H
         by_cases c30 : t183.length < 2932031007402
         ·rw [if_pos c30] at H
          have LMc30 := Aside0.mk c30
          clear c30
          obtain ⟨y186, hy186⟩ : ∃ y_ : List (S27), y_ = (t183 ++ [(⟨28, a0, a0, 0, x9_2, false, false⟩ : S27)]) := ⟨_, rfl⟩
          replace H : (if t165 = 0 then (some y186) else (if y186.length < 2932031007402 then (some (y186 ++ [(⟨22, a0, a0, 0, t165, false, false⟩ : S27)])) else (none))) = some r := by first | (rw [hy186]; with_reducible exact H) | (have H2_ := (Option.bind_some _ _).symm.trans H; rw [hy186]; with_reducible exact H2_) | (have H2_ := (Option.bind_some _ _).symm.trans H; with_reducible exact H2_) | with_reducible exact H | (rw [hy186]; exact H) | exact H
          have Ny186 := Aside0.mk hy186
          clear hy186
          by_cases c31 : t165 = 0
          ·rw [if_pos c31] at H
           obtain ⟨c31b0, c31b1⟩ := eqs c31
           clear c31
           obtain rfl := Option.some.inj H
           go_wp2_with (first | ((with_reducible refine gate_callee (f := 6) rfl ?_); refine goesL_ (some 61) rfl rfl Tryd.func6 (by kernel_rfl) rfl #[.int .i64 a0, .int .i64 x6_2] rfl ga ?_; (with_reducible refine (ih k2 (by have := HK1.out; have := HK2.out; omega) a0 x6_2 t183 _ A29.out).mono ?_); rintro e w32 ⟨v184, rfl, ho0, hb⟩; refine ⟨_, rfl, ?_⟩; have n0_ := Aside0.mk (Kd.R_lower ho0 (below_size bl)); have n1_ := Aside0.mk (below_step bl hb); clear HB; have HO185 := n0_; have HB := n1_; clear n0_ n1_; (try clear hb); (try clear ho0)) | ((with_reducible refine gate_builtin (b := .append) (xs := #[.tmp 61, .tmp 66]) rfl ?_); at_builtin; refine Kd.R_append k27 (w0 := w) w.heap.size rfl (.tmp 61) (.tmp 66) 23 27 (.agg #[(.int .i64 0), (.int .i64 0), (.int .i64 0), (.int .i64 0), (.int .i64 0), (.bool false), (.bool false)]) 48 rfl Tryd.underlying23 info27 rfl (by decide) (by omega) v184 t183 (⟨28, a0, a0, 0, x9_2, false, false⟩ : S27) [.int .i64 28, .int .i64 a0, .int .i64 a0, .int .i64 0, .int .i64 x9_2, .bool false, .bool false] (fun _ => True) (fun _ => False) rfl rfl ?aP (fun _ hk => hk.elim) ?aF ?aO ?aB ?aS ?aL ?_; (case aP => exact k27_mkM _ _ _ (⟨28, a0, a0, 0, x9_2, false, false⟩ : S27)); (case aB => exact bl); (case aF => exact (fun _ _ => trivial)); (case aO => exact (by (with_reducible repeat (first | apply Kd.R_alloc | apply Kd.R_drewN | apply Kd.R_drew)); exact HO185.out)); (case aS => exact (below_size bl)); (case aL => have := LMc30.out; omega); intro v187 w33 ho hb hg hat; rw [← Ny186.out] at ho; have n0_ := Aside0.mk (hb); have n1_ := Aside0.mk (ho); clear HB; clear HO185; have HB := n0_; have HO188 := n1_; clear n0_ n1_; clear ho hb hg hat))
           go_ret
           exact ⟨_, fi, by (with_reducible repeat (first | apply Kd.R_alloc | apply Kd.R_drewN | apply Kd.R_drew)); exact HO188.out, bl⟩
          ·rw [if_neg c31] at H
           have c31b0 : (t165 == 0) = false := beq_eq_false_iff_ne.mpr c31
           have c31b1 : (t165 != 0) = true := bne_iff_ne.mpr c31
           by_cases c34 : y186.length < 2932031007402
           ·rw [if_pos c34] at H
            have LMc34 := Aside0.mk c34
            clear c34
            obtain ⟨y189, hy189⟩ : ∃ y_ : List (S27), y_ = (y186 ++ [(⟨22, a0, a0, 0, t165, false, false⟩ : S27)]) := ⟨_, rfl⟩
            replace H : (some y189) = some r := by first | (rw [hy189]; with_reducible exact H) | (have H2_ := (Option.bind_some _ _).symm.trans H; rw [hy189]; with_reducible exact H2_) | (have H2_ := (Option.bind_some _ _).symm.trans H; with_reducible exact H2_) | with_reducible exact H | (rw [hy189]; exact H) | exact H
            have Ny189 := Aside0.mk hy189
            clear hy189
            obtain rfl := Option.some.inj H
            go_wp2_with (first | ((with_reducible refine gate_callee (f := 6) rfl ?_); refine goesL_ (some 61) rfl rfl Tryd.func6 (by kernel_rfl) rfl #[.int .i64 a0, .int .i64 x6_2] rfl ga ?_; (with_reducible refine (ih k2 (by have := HK1.out; have := HK2.out; omega) a0 x6_2 t183 _ A29.out).mono ?_); rintro e w35 ⟨v184, rfl, ho0, hb⟩; refine ⟨_, rfl, ?_⟩; have n0_ := Aside0.mk (Kd.R_lower ho0 (below_size bl)); have n1_ := Aside0.mk (below_step bl hb); clear HB; have HO185 := n0_; have HB := n1_; clear n0_ n1_; (try clear hb); (try clear ho0)) | ((with_reducible refine gate_builtin (b := .append) (xs := #[.tmp 61, .tmp 66]) rfl ?_); at_builtin; refine Kd.R_append k27 (w0 := w) w.heap.size rfl (.tmp 61) (.tmp 66) 23 27 (.agg #[(.int .i64 0), (.int .i64 0), (.int .i64 0), (.int .i64 0), (.int .i64 0), (.bool false), (.bool false)]) 48 rfl Tryd.underlying23 info27 rfl (by decide) (by omega) v184 t183 (⟨28, a0, a0, 0, x9_2, false, false⟩ : S27) [.int .i64 28, .int .i64 a0, .int .i64 a0, .int .i64 0, .int .i64 x9_2, .bool false, .bool false] (fun _ => True) (fun _ => False) rfl rfl ?aP (fun _ hk => hk.elim) ?aF ?aO ?aB ?aS ?aL ?_; (case aP => exact k27_mkM _ _ _ (⟨28, a0, a0, 0, x9_2, false, false⟩ : S27)); (case aB => exact bl); (case aF => exact (fun _ _ => trivial)); (case aO => exact (by (with_reducible repeat (first | apply Kd.R_alloc | apply Kd.R_drewN | apply Kd.R_drew)); exact HO185.out)); (case aS => exact (below_size bl)); (case aL => have := LMc30.out; omega); intro v187 w36 ho hb hg hat; rw [← Ny186.out] at ho; have n0_ := Aside0.mk (hb); have n1_ := Aside0.mk (ho); clear HB; clear HO185; have HB := n0_; have HO188 := n1_; clear n0_ n1_; clear ho hb hg hat) | ((with_reducible refine gate_builtin (b := .append) (xs := #[.tmp 70, .tmp 75]) rfl ?_); at_builtin; refine Kd.R_append k27 (w0 := w) w.heap.size rfl (.tmp 70) (.tmp 75) 23 27 (.agg #[(.int .i64 0), (.int .i64 0), (.int .i64 0), (.int .i64 0), (.int .i64 0), (.bool false), (.bool false)]) 48 rfl Tryd.underlying23 info27 rfl (by decide) (by omega) v187 y186 (⟨22, a0, a0, 0, t165, false, false⟩ : S27) [.int .i64 22, .int .i64 a0, .int .i64 a0, .int .i64 0, .int .i64 t165, .bool false, .bool false] (fun _ => True) (fun _ => False) rfl rfl ?aP (fun _ hk => hk.elim) ?aF ?aO ?aB ?aS ?aL ?_; (case aP => exact k27_mkM _ _ _ (⟨22, a0, a0, 0, t165, false, false⟩ : S27)); (case aB => exact bl); (case aF => exact (fun _ _ => trivial)); (case aO => exact (by (with_reducible repeat (first | apply Kd.R_alloc | apply Kd.R_drewN | apply Kd.R_drew)); exact HO188.out)); (case aS => exact (below_size bl)); (case aL => have := LMc34.out; omega); intro v190 w37 ho hb hg hat; rw [← Ny189.out] at ho; have n0_ := Aside0.mk (hb); have n1_ := Aside0.mk (ho); clear HB; clear HO188; have HB := n0_; have HO191 := n1_; clear n0_ n1_; clear ho hb hg hat))
            go_ret
            exact ⟨_, fi, by (with_reducible repeat (first | apply Kd.R_alloc | apply Kd.R_drewN | apply Kd.R_drew)); exact HO191.out, bl⟩
           ·rw [if_neg c34] at H
            exact absurd H (by simp)
         ·rw [if_neg c30] at H
          exact absurd H (by simp)

/-! ### spinnakerref03_letter: function 13 -/
def spinnakerref03_letter.f (a0 : Int) : Option (Int) := if a0 < 1 then (some 0) else (if a0 > 87 then (some 0) else (if 0 ≤ (wrap64 (a0 - 1)) then (if (wrap64 (a0 - 1)) < 87 then (some (bt (⟨#[85, 85, 74, 73, 66, 66, 66, 66, 66, 66, 73, 73, 73, 73, 73, 73, 73, 83, 83, 83, 83, 73, 73, 73, 73, 73, 73, 72, 72, 72, 73, 87, 87, 87, 82, 82, 82, 82, 82, 82, 82, 82, 82, 82, 82, 82, 82, 82, 82, 82, 82, 82, 82, 82, 82, 82, 82, 82, 82, 82, 82, 82, 70, 78, 78, 76, 65, 65, 65, 65, 65, 65, 65, 65, 65, 65, 76, 65, 65, 65, 65, 65, 65, 65, 65, 65, 65]⟩ : ByteArray) (wrap64 (a0 - 1)))) else (none)) else (none)))
set_option maxHeartbeats 8000000 in
set_option maxRecDepth 100000 in
theorem spinnakerref03_letter.calls (a0 : Int) (r : Int) (w : World) (h : spinnakerref03_letter.f a0 = some r) :
  Calls Tryd.prog 13 #[.int .i64 a0] w fun e w' => e = .returned (.int .u8 r) ∧ Drawn0 w w' := by
 have H : (if a0 < 1 then (some 0) else (if a0 > 87 then (some 0) else (if 0 ≤ (wrap64 (a0 - 1)) then (if (wrap64 (a0 - 1)) < 87 then (some (bt (⟨#[85, 85, 74, 73, 66, 66, 66, 66, 66, 66, 73, 73, 73, 73, 73, 73, 73, 83, 83, 83, 83, 73, 73, 73, 73, 73, 73, 72, 72, 72, 73, 87, 87, 87, 82, 82, 82, 82, 82, 82, 82, 82, 82, 82, 82, 82, 82, 82, 82, 82, 82, 82, 82, 82, 82, 82, 82, 82, 82, 82, 82, 82, 70, 78, 78, 76, 65, 65, 65, 65, 65, 65, 65, 65, 65, 65, 76, 65, 65, 65, 65, 65, 65, 65, 65, 65, 65]⟩ : ByteArray) (wrap64 (a0 - 1)))) else (none)) else (none)))) = some r := h
 clear h
 by_cases c2 : a0 < 1
 ·rw [if_pos c2] at H
  have c2b0 := decide_eq_true c2
  clear c2
  obtain rfl := Option.some.inj H
  go_enter Tryd.func13, Tryd.ntmps13
  go_wp2
  go_ret
  exact ⟨fj, fd⟩
 ·rw [if_neg c2] at H
  have c2b0 := decide_eq_false c2
  clear c2
  by_cases c3 : a0 > 87
  ·rw [if_pos c3] at H
   have c3b0 := decide_eq_true c3
   clear c3
   obtain rfl := Option.some.inj H
   go_enter Tryd.func13, Tryd.ntmps13
   go_wp2
   go_ret
   exact ⟨fj, fd⟩
  ·rw [if_neg c3] at H
   have c3b0 := decide_eq_false c3
   clear c3
   obtain ⟨ji4, hji4⟩ : ∃ j_ : Int, (wrap64 (a0 - 1)) = j_ := ⟨_, rfl⟩
   replace H : (if 0 ≤ (ji4) then (if (ji4) < 87 then (some (bt (⟨#[85, 85, 74, 73, 66, 66, 66, 66, 66, 66, 73, 73, 73, 73, 73, 73, 73, 83, 83, 83, 83, 73, 73, 73, 73, 73, 73, 72, 72, 72, 73, 87, 87, 87, 82, 82, 82, 82, 82, 82, 82, 82, 82, 82, 82, 82, 82, 82, 82, 82, 82, 82, 82, 82, 82, 82, 82, 82, 82, 82, 82, 82, 70, 78, 78, 76, 65, 65, 65, 65, 65, 65, 65, 65, 65, 65, 76, 65, 65, 65, 65, 65, 65, 65, 65, 65, 65]⟩ : ByteArray) (ji4))) else (none)) else (none)) = some r := by first | (rw [hji4] at H; exact H) | (simp only [hji4] at H ⊢; exact H)
   have hji4w : (IntKind.i64.wrap (a0 - 1)) = ji4 := (i64_w _).trans hji4
   by_cases c5 : 0 ≤ (ji4)
   ·rw [if_pos c5] at H
    have c5b0 := decide_eq_true c5
    clear c5
    by_cases c6 : (ji4) < 87
    ·rw [if_pos c6] at H
     have c6b0 := decide_eq_true c6
     clear c6
     obtain rfl := Option.some.inj H
     have p7 : 0 ≤ ((ji4) : Int) := of_decide_eq_true (by first | (with_reducible assumption) | assumption)
     have q7 : (ji4) < (87 : Int) := of_decide_eq_true (by first | (with_reducible assumption) | assumption)
     have hx7 := bt_at (⟨#[85, 85, 74, 73, 66, 66, 66, 66, 66, 66, 73, 73, 73, 73, 73, 73, 73, 83, 83, 83, 83, 73, 73, 73, 73, 73, 73, 72, 72, 72, 73, 87, 87, 87, 82, 82, 82, 82, 82, 82, 82, 82, 82, 82, 82, 82, 82, 82, 82, 82, 82, 82, 82, 82, 82, 82, 82, 82, 82, 82, 82, 82, 70, 78, 78, 76, 65, 65, 65, 65, 65, 65, 65, 65, 65, 65, 76, 65, 65, 65, 65, 65, 65, 65, 65, 65, 65]⟩ : ByteArray) (ji4)
     replace p7 := eq_true p7
     replace q7 := eq_true q7
     go_enter Tryd.func13, Tryd.ntmps13
     go_wp2
     go_ret
     exact ⟨by first | rfl | (simp; done) | (simp only [← hji4] <;> (first | rfl | simp)) | (simp [*]; done), fd⟩
    ·rw [if_neg c6] at H
     exact absurd H (by simp)
   ·rw [if_neg c5] at H
    exact absurd H (by simp)

/-! ### spinnakerref03_register: function 14 -/
def spinnakerref03_register.f (a0 : Int) (a1 : Bool) : Option (Bool) := if a1 = true then (if a0 ≥ 0 then (some (decide (a0 ≤ 31))) else (some false)) else (some (a0 == 0))
set_option maxHeartbeats 8000000 in
set_option maxRecDepth 100000 in
theorem spinnakerref03_register.calls (a0 : Int) (a1 : Bool) (r : Bool) (w : World) (h : spinnakerref03_register.f a0 a1 = some r) :
  Calls Tryd.prog 14 #[.int .i64 a0, .bool a1] w fun e w' => e = .returned (.bool r) ∧ Drawn0 w w' := by
 have H : (if a1 = true then (if a0 ≥ 0 then (some (decide (a0 ≤ 31))) else (some false)) else (some (a0 == 0))) = some r := h
 clear h
 by_cases c3 : a1 = true
 ·subst c3
  have H1 : (if a0 ≥ 0 then (some (decide (a0 ≤ 31))) else (some false)) = some r := by rw [if_pos rfl] at H; exact H
  clear H
  have H := H1
  clear H1
  by_cases c4 : a0 ≥ 0
  ·rw [if_pos c4] at H
   have c4b0 := decide_eq_true c4
   clear c4
   obtain rfl := Option.some.inj H
   go_enter Tryd.func14, Tryd.ntmps14
   go_wp2
   go_ret
   exact ⟨fj, fd⟩
  ·rw [if_neg c4] at H
   have c4b0 := decide_eq_false c4
   clear c4
   obtain rfl := Option.some.inj H
   go_enter Tryd.func14, Tryd.ntmps14
   go_wp2
   go_ret
   exact ⟨fj, fd⟩
 ·replace c3 := Bool.eq_false_iff.mpr c3
  subst c3
  have H1 : (some (a0 == 0)) = some r := by rw [if_neg (show ¬ (false = true) by decide)] at H; exact H
  clear H
  have H := H1
  clear H1
  obtain rfl := Option.some.inj H
  go_enter Tryd.func14, Tryd.ntmps14
  go_wp2
  go_ret
  exact ⟨fj, fd⟩

end Go.Proofs.YtmkcnbaknnohgaaDoor.GUnitLoads
