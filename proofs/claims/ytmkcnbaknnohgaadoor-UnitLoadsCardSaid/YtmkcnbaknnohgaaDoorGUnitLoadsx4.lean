-- Written by wip/stub.py of this repo.
import Derived.Test.YtmkcnbaknnohgaaDoorGUnitLoadsx0
import Derived.Test.YtmkcnbaknnohgaaDoorGUnitLoadsx3
namespace Go.Proofs.YtmkcnbaknnohgaaDoor.GUnitLoads
open Go.RowKit Go.Proofs.YtmkcnbaknnohgaaDoorW.PrintWords Go.Proofs.YtmkcnbaknnohgaaDoorW.PrintLast Go.Proofs.YtmkcnbaknnohgaaDoorW.PrintMore
attribute [local go_sem] max2_int min2_int max_two min_two max_three min_three max_four min_four   -- for this text's walks alone
set_option linter.unusedVariables false
set_option linter.unusedSimpArgs false

/-! ### spinnakerref03_has: function 19 -/
def spinnakerref03_has.l0 : Nat → Int → ByteArray → Int → Option (Bool)
  | 0, _, _, _ => none
  | k + 1, x0, x1, x5 => if x5 < (x1.size : Int) then ((spinnakerref03_letter.f x0).bind fun t192 => (if 0 ≤ x5 then (if t192 = (bt x1 x5) then (some true) else (spinnakerref03_has.l0 k x0 x1 (wrap64 (x5 + 1)))) else (none))) else (some false)
def spinnakerref03_has.f (k : Nat) (a0 : Int) (a1 : ByteArray) : Option (Bool) := spinnakerref03_has.l0 k a0 a1 0
theorem spinnakerref03_has.mono_l : ∀ k, (∀ y0 y1 y2, LeO (spinnakerref03_has.l0 k y0 y1 y2) (spinnakerref03_has.l0 (k + 1) y0 y1 y2))
 | 0 => fun _ _ _ r h => by simp [spinnakerref03_has.l0] at h
 | k + 1 => by
  have ih0 := spinnakerref03_has.mono_l k
  ·intro y0 y1 y2
   unfold spinnakerref03_has.l0
   repeat' first | (with_reducible first | exact ih0 _ _ _ | exact LeO.refl _ | exact LeO.none _ | refine LeO.ite ?_ ?_ | refine LeO.bind ?_ (fun _ => ?_)) | exact ih0 _ _ _ | exact LeO.none _ | refine LeO.ite ?_ ?_ | refine LeO.bind ?_ (fun _ => ?_)
theorem spinnakerref03_has.mono : ∀ a0 a1 k, LeO (spinnakerref03_has.f k a0 a1) (spinnakerref03_has.f (k + 1) a0 a1) := by
 intro a0 a1 k
 have ih0 := spinnakerref03_has.mono_l k
 unfold spinnakerref03_has.f
 repeat' first | (with_reducible first | exact ih0 _ _ _ | exact LeO.refl _ | exact LeO.none _ | refine LeO.ite ?_ ?_ | refine LeO.bind ?_ (fun _ => ?_)) | exact ih0 _ _ _ | exact LeO.none _ | refine LeO.ite ?_ ?_ | refine LeO.bind ?_ (fun _ => ?_)
set_option maxHeartbeats 8000000 in
set_option maxRecDepth 100000 in
theorem spinnakerref03_has.calls (k : Nat) (a0 : Int) (a1 : ByteArray) (r : Bool) (w : World) (h : spinnakerref03_has.f k a0 a1 = some r) :
  Calls Tryd.prog 19 #[.int .i64 a0, .string a1] w fun e w' => e = .returned (.bool r) ∧ Drawn0 w w' := by
 have H : (spinnakerref03_has.l0 k a0 a1 0) = some r := h
 clear h
 have H' := Aside0.mk H
 clear H
 go_enter Tryd.func19, Tryd.ntmps19
 go_wp2
 repeat (go_quiet (fail); try go_wp2)
 go_loopg [5] k (fun kq v5 w' => ∃ (x5_1 : Int), v5 = .int .i64 x5_1 ∧ Aside0 (spinnakerref03_has.l0 kq a0 a1 x5_1 = some r) ∧ Aside0 (kq ≤ k) ∧ Drawn0 w w')
 case atStart => exact ⟨(0), fj, H', ⟨Nat.le_refl _⟩, fd⟩
 case round =>
  clear H'
  try clear c1
  try clear p2
  obtain ⟨x5_1, rfl, HA, HK1, ⟨m1, rfl⟩⟩ := hrel
  cases gk with
  | zero => exact absurd HA.out (by simp [spinnakerref03_has.l0])
  | succ k1 =>
   have H := HA.out
   clear HA
   simp only [spinnakerref03_has.l0] at H
   by_cases c3 : x5_1 < (a1.size : Int)
   ·rw [if_pos c3] at H
    have c3b0 := decide_eq_true c3
    clear c3
    replace H := be H
    obtain ⟨t192, A4, H⟩ := H
    by_cases c5 : 0 ≤ x5_1
    ·rw [if_pos c5] at H
     have c5b0 := decide_eq_true c5
     clear c5
     by_cases c7 : t192 = (bt a1 x5_1)
     ·rw [if_pos c7] at H
      have c7b0 : (t192 == (bt a1 x5_1)) = true := beq_iff_eq.mpr c7
      have c7b1 : (t192 != (bt a1 x5_1)) = false := bne_eq_false_iff_eq.mpr c7
      clear c7
      obtain rfl := Option.some.inj H
      go_wp2_with (first | (go_at_call 13; (with_reducible refine (spinnakerref03_letter.calls a0 t192 _ A4.out).mono ?_); rintro e w' ⟨rfl, ⟨nd, rfl⟩⟩; (try first | exact ⟨rfl, _, World.drewN_drewN _ _ _⟩ | exact ⟨rfl, _, Eq.trans (World.drewN_drewN _ _ _) (congrArg (World.drewN _) (Nat.add_assoc _ _ _))⟩); have p6 : 0 ≤ (x5_1 : Int) := of_decide_eq_true (by first | (with_reducible assumption) | assumption); have q6 : x5_1 < (a1.size : Int) := of_decide_eq_true (by first | (with_reducible assumption) | assumption); have hx6 := bt_at a1 x5_1; replace p6 := eq_true p6; replace q6 := eq_true q6))
      repeat (go_quiet (first | (go_at_call 13; (with_reducible refine (spinnakerref03_letter.calls a0 t192 _ A4.out).mono ?_); rintro e w' ⟨rfl, ⟨nd, rfl⟩⟩; (try first | exact ⟨rfl, _, World.drewN_drewN _ _ _⟩ | exact ⟨rfl, _, Eq.trans (World.drewN_drewN _ _ _) (congrArg (World.drewN _) (Nat.add_assoc _ _ _))⟩); have p6 : 0 ≤ (x5_1 : Int) := of_decide_eq_true (by first | (with_reducible assumption) | assumption); have q6 : x5_1 < (a1.size : Int) := of_decide_eq_true (by first | (with_reducible assumption) | assumption); have hx6 := bt_at a1 x5_1; replace p6 := eq_true p6; replace q6 := eq_true q6)); try go_wp2_with (first | (go_at_call 13; (with_reducible refine (spinnakerref03_letter.calls a0 t192 _ A4.out).mono ?_); rintro e w' ⟨rfl, ⟨nd, rfl⟩⟩; (try first | exact ⟨rfl, _, World.drewN_drewN _ _ _⟩ | exact ⟨rfl, _, Eq.trans (World.drewN_drewN _ _ _) (congrArg (World.drewN _) (Nat.add_assoc _ _ _))⟩); have p6 : 0 ≤ (x5_1 : Int) := of_decide_eq_true (by first | (with_reducible assumption) | assumption); have q6 : x5_1 < (a1.size : Int) := of_decide_eq_true (by first | (with_reducible assumption) | assumption); have hx6 := bt_at a1 x5_1; replace p6 := eq_true p6; replace q6 := eq_true q6)))
      go_ret
      exact ⟨fj, fd⟩
     ·rw [if_neg c7] at H
      have c7b0 : (t192 == (bt a1 x5_1)) = false := beq_eq_false_iff_ne.mpr c7
      have c7b1 : (t192 != (bt a1 x5_1)) = true := bne_iff_ne.mpr c7
      have H' := Aside0.mk H
      clear H
      go_wp2_with (first | (go_at_call 13; (with_reducible refine (spinnakerref03_letter.calls a0 t192 _ A4.out).mono ?_); rintro e w' ⟨rfl, ⟨nd, rfl⟩⟩; (try first | exact ⟨rfl, _, World.drewN_drewN _ _ _⟩ | exact ⟨rfl, _, Eq.trans (World.drewN_drewN _ _ _) (congrArg (World.drewN _) (Nat.add_assoc _ _ _))⟩); have p6 : 0 ≤ (x5_1 : Int) := of_decide_eq_true (by first | (with_reducible assumption) | assumption); have q6 : x5_1 < (a1.size : Int) := of_decide_eq_true (by first | (with_reducible assumption) | assumption); have hx6 := bt_at a1 x5_1; replace p6 := eq_true p6; replace q6 := eq_true q6))
      repeat (go_quiet (first | (go_at_call 13; (with_reducible refine (spinnakerref03_letter.calls a0 t192 _ A4.out).mono ?_); rintro e w' ⟨rfl, ⟨nd, rfl⟩⟩; (try first | exact ⟨rfl, _, World.drewN_drewN _ _ _⟩ | exact ⟨rfl, _, Eq.trans (World.drewN_drewN _ _ _) (congrArg (World.drewN _) (Nat.add_assoc _ _ _))⟩); have p6 : 0 ≤ (x5_1 : Int) := of_decide_eq_true (by first | (with_reducible assumption) | assumption); have q6 : x5_1 < (a1.size : Int) := of_decide_eq_true (by first | (with_reducible assumption) | assumption); have hx6 := bt_at a1 x5_1; replace p6 := eq_true p6; replace q6 := eq_true q6)); try go_wp2_with (first | (go_at_call 13; (with_reducible refine (spinnakerref03_letter.calls a0 t192 _ A4.out).mono ?_); rintro e w' ⟨rfl, ⟨nd, rfl⟩⟩; (try first | exact ⟨rfl, _, World.drewN_drewN _ _ _⟩ | exact ⟨rfl, _, Eq.trans (World.drewN_drewN _ _ _) (congrArg (World.drewN _) (Nat.add_assoc _ _ _))⟩); have p6 : 0 ≤ (x5_1 : Int) := of_decide_eq_true (by first | (with_reducible assumption) | assumption); have q6 : x5_1 < (a1.size : Int) := of_decide_eq_true (by first | (with_reducible assumption) | assumption); have hx6 := bt_at a1 x5_1; replace p6 := eq_true p6; replace q6 := eq_true q6)))
      go_roundg k1
      case measure => have := HK1.out; omega
      case rel => exact ⟨(wrap64 (x5_1 + 1)), fj, H', ⟨by have := HK1.out; omega⟩, fd⟩
    ·rw [if_neg c5] at H
     exact absurd H (by simp)
   ·rw [if_neg c3] at H
    have c3b0 := decide_eq_false c3
    clear c3
    obtain rfl := Option.some.inj H
    go_wp2
    repeat (go_quiet (fail); try go_wp2)
    go_ret
    exact ⟨fj, fd⟩

/-! ### spinnakerref03_HasRd: function 15 -/
def spinnakerref03_HasRd.f (k : Nat) (a0 : Int) : Option (Bool) := (spinnakerref03_has.f k a0 (⟨#[85, 74, 73, 82, 72, 87, 76, 65]⟩ : ByteArray)).bind fun t193 => (some t193)
theorem spinnakerref03_HasRd.mono : ∀ a0 k, LeO (spinnakerref03_HasRd.f k a0) (spinnakerref03_HasRd.f (k + 1) a0) := by
 intro a0 k
 unfold spinnakerref03_HasRd.f
 repeat' first | (with_reducible first | exact spinnakerref03_has.mono _ _ _ | exact LeO.refl _ | exact LeO.none _ | refine LeO.ite ?_ ?_ | refine LeO.bind ?_ (fun _ => ?_)) | exact spinnakerref03_has.mono _ _ _ | exact LeO.none _ | refine LeO.ite ?_ ?_ | refine LeO.bind ?_ (fun _ => ?_)
set_option maxHeartbeats 8000000 in
set_option maxRecDepth 100000 in
theorem spinnakerref03_HasRd.calls (k : Nat) (a0 : Int) (r : Bool) (w : World) (h : spinnakerref03_HasRd.f k a0 = some r) :
  Calls Tryd.prog 15 #[.int .i64 a0] w fun e w' => e = .returned (.bool r) ∧ Drawn0 w w' := by
 have H : ((spinnakerref03_has.f k a0 (⟨#[85, 74, 73, 82, 72, 87, 76, 65]⟩ : ByteArray)).bind fun t193 => (some t193)) = some r := h
 clear h
 replace H := be H
 obtain ⟨t193, A2, H⟩ := H
 obtain rfl := Option.some.inj H
 go_enter Tryd.func15, Tryd.ntmps15
 go_wp2_with (first | ((with_reducible refine gate_callee (f := 19) rfl ?_); refine goesL_ (some 4) rfl rfl Tryd.func19 (by kernel_rfl) rfl #[.int .i64 a0, .string (⟨#[85, 74, 73, 82, 72, 87, 76, 65]⟩ : ByteArray)] rfl ga ?_; (with_reducible refine (spinnakerref03_has.calls k a0 (⟨#[85, 74, 73, 82, 72, 87, 76, 65]⟩ : ByteArray) t193 _ A2.out).mono ?_); rintro e w' ⟨rfl, ⟨nd, rfl⟩⟩; refine ⟨_, rfl, ?_⟩))
 go_ret
 exact ⟨fj, fd⟩

/-! ### spinnakerref03_HasA: function 16 -/
def spinnakerref03_HasA.f (k : Nat) (a0 : Int) : Option (Bool) := (spinnakerref03_has.f k a0 (⟨#[73, 66, 83, 82, 72, 87, 76, 65]⟩ : ByteArray)).bind fun t194 => (some t194)
theorem spinnakerref03_HasA.mono : ∀ a0 k, LeO (spinnakerref03_HasA.f k a0) (spinnakerref03_HasA.f (k + 1) a0) := by
 intro a0 k
 unfold spinnakerref03_HasA.f
 repeat' first | (with_reducible first | exact spinnakerref03_has.mono _ _ _ | exact LeO.refl _ | exact LeO.none _ | refine LeO.ite ?_ ?_ | refine LeO.bind ?_ (fun _ => ?_)) | exact spinnakerref03_has.mono _ _ _ | exact LeO.none _ | refine LeO.ite ?_ ?_ | refine LeO.bind ?_ (fun _ => ?_)
set_option maxHeartbeats 8000000 in
set_option maxRecDepth 100000 in
theorem spinnakerref03_HasA.calls (k : Nat) (a0 : Int) (r : Bool) (w : World) (h : spinnakerref03_HasA.f k a0 = some r) :
  Calls Tryd.prog 16 #[.int .i64 a0] w fun e w' => e = .returned (.bool r) ∧ Drawn0 w w' := by
 have H : ((spinnakerref03_has.f k a0 (⟨#[73, 66, 83, 82, 72, 87, 76, 65]⟩ : ByteArray)).bind fun t194 => (some t194)) = some r := h
 clear h
 replace H := be H
 obtain ⟨t194, A2, H⟩ := H
 obtain rfl := Option.some.inj H
 go_enter Tryd.func16, Tryd.ntmps16
 go_wp2_with (first | ((with_reducible refine gate_callee (f := 19) rfl ?_); refine goesL_ (some 4) rfl rfl Tryd.func19 (by kernel_rfl) rfl #[.int .i64 a0, .string (⟨#[73, 66, 83, 82, 72, 87, 76, 65]⟩ : ByteArray)] rfl ga ?_; (with_reducible refine (spinnakerref03_has.calls k a0 (⟨#[73, 66, 83, 82, 72, 87, 76, 65]⟩ : ByteArray) t194 _ A2.out).mono ?_); rintro e w' ⟨rfl, ⟨nd, rfl⟩⟩; refine ⟨_, rfl, ?_⟩))
 go_ret
 exact ⟨fj, fd⟩

/-! ### spinnakerref03_HasB: function 17 -/
def spinnakerref03_HasB.f (k : Nat) (a0 : Int) : Option (Bool) := (spinnakerref03_has.f k a0 (⟨#[66, 83, 82, 65]⟩ : ByteArray)).bind fun t195 => (some t195)
theorem spinnakerref03_HasB.mono : ∀ a0 k, LeO (spinnakerref03_HasB.f k a0) (spinnakerref03_HasB.f (k + 1) a0) := by
 intro a0 k
 unfold spinnakerref03_HasB.f
 repeat' first | (with_reducible first | exact spinnakerref03_has.mono _ _ _ | exact LeO.refl _ | exact LeO.none _ | refine LeO.ite ?_ ?_ | refine LeO.bind ?_ (fun _ => ?_)) | exact spinnakerref03_has.mono _ _ _ | exact LeO.none _ | refine LeO.ite ?_ ?_ | refine LeO.bind ?_ (fun _ => ?_)
set_option maxHeartbeats 8000000 in
set_option maxRecDepth 100000 in
theorem spinnakerref03_HasB.calls (k : Nat) (a0 : Int) (r : Bool) (w : World) (h : spinnakerref03_HasB.f k a0 = some r) :
  Calls Tryd.prog 17 #[.int .i64 a0] w fun e w' => e = .returned (.bool r) ∧ Drawn0 w w' := by
 have H : ((spinnakerref03_has.f k a0 (⟨#[66, 83, 82, 65]⟩ : ByteArray)).bind fun t195 => (some t195)) = some r := h
 clear h
 replace H := be H
 obtain ⟨t195, A2, H⟩ := H
 obtain rfl := Option.some.inj H
 go_enter Tryd.func17, Tryd.ntmps17
 go_wp2_with (first | ((with_reducible refine gate_callee (f := 19) rfl ?_); refine goesL_ (some 4) rfl rfl Tryd.func19 (by kernel_rfl) rfl #[.int .i64 a0, .string (⟨#[66, 83, 82, 65]⟩ : ByteArray)] rfl ga ?_; (with_reducible refine (spinnakerref03_has.calls k a0 (⟨#[66, 83, 82, 65]⟩ : ByteArray) t195 _ A2.out).mono ?_); rintro e w' ⟨rfl, ⟨nd, rfl⟩⟩; refine ⟨_, rfl, ?_⟩))
 go_ret
 exact ⟨fj, fd⟩

/-! ### spinnakerref03_immediate: function 18 -/
def spinnakerref03_immediate.j0 : Nat → Int → Int → Bool → Option (Bool)
  | 0, _, _, _ => none
  | k + 1, x1, x6, x37 => if x37 = true then (if x1 ≥ (-2048) then (some (decide (x1 ≤ 2047))) else (some false)) else (if x6 = 72 then (if x1 ≥ 0 then (some (decide (x1 ≤ 63))) else (some false)) else (if x6 = 87 then (if x1 ≥ 0 then (some (decide (x1 ≤ 31))) else (some false)) else (if x6 = 70 then (if x1 ≥ 0 then (some (decide (x1 ≤ 255))) else (some false)) else (some (x1 == 0)))))
def spinnakerref03_immediate.f (k : Nat) (a0 : Int) (a1 : Int) : Option (Bool) := (spinnakerref03_letter.f a0).bind fun t196 => (if t196 = 85 then (if a1 ≥ (-524288) then (some (decide (a1 ≤ 524287))) else (some false)) else (if t196 = 74 then ((spinnakerref01_Fits.f k a1 21).bind fun t197 => (if t197 = true then (some ((Int.tmod a1 2) == 0)) else (some false))) else (if t196 = 66 then (if a1 ≥ (-4096) then (if a1 ≤ 4094 then (some ((Int.tmod a1 2) == 0)) else (some false)) else (some false)) else (if t196 = 73 then (spinnakerref03_immediate.j0 k a1 t196 (t196 == 73)) else (spinnakerref03_immediate.j0 k a1 t196 (t196 == 83))))))
theorem spinnakerref03_immediate.mono_l : ∀ k, (∀ y0 y1 y2, LeO (spinnakerref03_immediate.j0 k y0 y1 y2) (spinnakerref03_immediate.j0 (k + 1) y0 y1 y2))
 | 0 => fun _ _ _ r h => by simp [spinnakerref03_immediate.j0] at h
 | k + 1 => by
  have ih0 := spinnakerref03_immediate.mono_l k
  ·intro y0 y1 y2
   unfold spinnakerref03_immediate.j0
   repeat' first | (with_reducible first | exact ih0 _ _ _ | exact spinnakerref01_Fits.mono _ _ _ | exact LeO.refl _ | exact LeO.none _ | refine LeO.ite ?_ ?_ | refine LeO.bind ?_ (fun _ => ?_)) | exact ih0 _ _ _ | exact spinnakerref01_Fits.mono _ _ _ | exact LeO.none _ | refine LeO.ite ?_ ?_ | refine LeO.bind ?_ (fun _ => ?_)
theorem spinnakerref03_immediate.mono : ∀ a0 a1 k, LeO (spinnakerref03_immediate.f k a0 a1) (spinnakerref03_immediate.f (k + 1) a0 a1) := by
 intro a0 a1 k
 have ih0 := spinnakerref03_immediate.mono_l k
 unfold spinnakerref03_immediate.f
 repeat' first | (with_reducible first | exact ih0 _ _ _ | exact spinnakerref01_Fits.mono _ _ _ | exact LeO.refl _ | exact LeO.none _ | refine LeO.ite ?_ ?_ | refine LeO.bind ?_ (fun _ => ?_)) | exact ih0 _ _ _ | exact spinnakerref01_Fits.mono _ _ _ | exact LeO.none _ | refine LeO.ite ?_ ?_ | refine LeO.bind ?_ (fun _ => ?_)
set_option maxHeartbeats 8000000 in
set_option maxRecDepth 100000 in
theorem spinnakerref03_immediate.calls (k : Nat) (a0 : Int) (a1 : Int) (r : Bool) (w : World) (h : spinnakerref03_immediate.f k a0 a1 = some r) :
  Calls Tryd.prog 18 #[.int .i64 a0, .int .i64 a1] w fun e w' => e = .returned (.bool r) ∧ Drawn0 w w' := by
 have H : ((spinnakerref03_letter.f a0).bind fun t196 => (if t196 = 85 then (if a1 ≥ (-524288) then (some (decide (a1 ≤ 524287))) else (some false)) else (if t196 = 74 then ((spinnakerref01_Fits.f k a1 21).bind fun t197 => (if t197 = true then (some ((Int.tmod a1 2) == 0)) else (some false))) else (if t196 = 66 then (if a1 ≥ (-4096) then (if a1 ≤ 4094 then (some ((Int.tmod a1 2) == 0)) else (some false)) else (some false)) else (if t196 = 73 then (spinnakerref03_immediate.j0 k a1 t196 (t196 == 73)) else (spinnakerref03_immediate.j0 k a1 t196 (t196 == 83))))))) = some r := h
 clear h
 replace H := be H
 obtain ⟨t196, A3, H⟩ := H
 by_cases c4 : t196 = 85
 ·rw [if_pos c4] at H
  obtain ⟨c4b0, c4b1⟩ := eqs c4
  clear c4
  by_cases c5 : a1 ≥ (-524288)
  ·rw [if_pos c5] at H
   have c5b0 := decide_eq_true c5
   clear c5
   obtain rfl := Option.some.inj H
   go_enter Tryd.func18, Tryd.ntmps18
   go_wp2_with (first | ((with_reducible refine gate_callee (f := 13) rfl ?_); refine goesL_ (some 6) rfl rfl Tryd.func13 (by kernel_rfl) rfl #[.int .i64 a0] rfl ga ?_; (with_reducible refine (spinnakerref03_letter.calls a0 t196 _ A3.out).mono ?_); rintro e w' ⟨rfl, ⟨nd, rfl⟩⟩; refine ⟨_, rfl, ?_⟩))
   go_ret
   exact ⟨fj, fd⟩
  ·rw [if_neg c5] at H
   have c5b0 := decide_eq_false c5
   clear c5
   obtain rfl := Option.some.inj H
   go_enter Tryd.func18, Tryd.ntmps18
   go_wp2_with (first | ((with_reducible refine gate_callee (f := 13) rfl ?_); refine goesL_ (some 6) rfl rfl Tryd.func13 (by kernel_rfl) rfl #[.int .i64 a0] rfl ga ?_; (with_reducible refine (spinnakerref03_letter.calls a0 t196 _ A3.out).mono ?_); rintro e w' ⟨rfl, ⟨nd, rfl⟩⟩; refine ⟨_, rfl, ?_⟩))
   go_ret
   exact ⟨fj, fd⟩
 ·rw [if_neg c4] at H
  have c4b0 : (t196 == 85) = false := beq_eq_false_iff_ne.mpr c4
  have c4b1 : (t196 != 85) = true := bne_iff_ne.mpr c4
  by_cases c6 : t196 = 74
  ·rw [if_pos c6] at H
   obtain ⟨c6b0, c6b1⟩ := eqs c6
   clear c6
   replace H := be H
   obtain ⟨t197, A7, H⟩ := H
   by_cases c8 : t197 = true
   ·subst c8
    have H1 : (some ((Int.tmod a1 2) == 0)) = some r := by rw [if_pos rfl] at H; exact H
    clear H
    have H := H1
    clear H1
    obtain rfl := Option.some.inj H
    go_enter Tryd.func18, Tryd.ntmps18
    go_wp2_with (first | ((with_reducible refine gate_callee (f := 13) rfl ?_); refine goesL_ (some 6) rfl rfl Tryd.func13 (by kernel_rfl) rfl #[.int .i64 a0] rfl ga ?_; (with_reducible refine (spinnakerref03_letter.calls a0 t196 _ A3.out).mono ?_); rintro e w' ⟨rfl, ⟨nd, rfl⟩⟩; refine ⟨_, rfl, ?_⟩) | ((with_reducible refine gate_callee (f := 11) rfl ?_); refine goesL_ (some 18) rfl rfl Tryd.func11 (by kernel_rfl) rfl #[.int .i64 a1, .int .i64 21] rfl ga ?_; (with_reducible refine (spinnakerref01_Fits.calls k a1 21 true _ A7.out).mono ?_); rintro e w' ⟨rfl, ⟨nd, rfl⟩⟩; refine ⟨_, rfl, ?_⟩))
    go_ret
    exact ⟨fj, fd⟩
   ·replace c8 := Bool.eq_false_iff.mpr c8
    subst c8
    have H1 : (some false) = some r := by rw [if_neg (show ¬ (false = true) by decide)] at H; exact H
    clear H
    have H := H1
    clear H1
    obtain rfl := Option.some.inj H
    go_enter Tryd.func18, Tryd.ntmps18
    go_wp2_with (first | ((with_reducible refine gate_callee (f := 13) rfl ?_); refine goesL_ (some 6) rfl rfl Tryd.func13 (by kernel_rfl) rfl #[.int .i64 a0] rfl ga ?_; (with_reducible refine (spinnakerref03_letter.calls a0 t196 _ A3.out).mono ?_); rintro e w' ⟨rfl, ⟨nd, rfl⟩⟩; refine ⟨_, rfl, ?_⟩) | ((with_reducible refine gate_callee (f := 11) rfl ?_); refine goesL_ (some 18) rfl rfl Tryd.func11 (by kernel_rfl) rfl #[.int .i64 a1, .int .i64 21] rfl ga ?_; (with_reducible refine (spinnakerref01_Fits.calls k a1 21 false _ A7.out).mono ?_); rintro e w' ⟨rfl, ⟨nd, rfl⟩⟩; refine ⟨_, rfl, ?_⟩))
    go_ret
    exact ⟨fj, fd⟩
  ·rw [if_neg c6] at H
   have c6b0 : (t196 == 74) = false := beq_eq_false_iff_ne.mpr c6
   have c6b1 : (t196 != 74) = true := bne_iff_ne.mpr c6
   by_cases c9 : t196 = 66
   ·rw [if_pos c9] at H
    obtain ⟨c9b0, c9b1⟩ := eqs c9
    clear c9
    by_cases c10 : a1 ≥ (-4096)
    ·rw [if_pos c10] at H
     have c10b0 := decide_eq_true c10
     clear c10
     by_cases c11 : a1 ≤ 4094
     ·rw [if_pos c11] at H
      have c11b0 := decide_eq_true c11
      clear c11
      obtain rfl := Option.some.inj H
      go_enter Tryd.func18, Tryd.ntmps18
      go_wp2_with (first | ((with_reducible refine gate_callee (f := 13) rfl ?_); refine goesL_ (some 6) rfl rfl Tryd.func13 (by kernel_rfl) rfl #[.int .i64 a0] rfl ga ?_; (with_reducible refine (spinnakerref03_letter.calls a0 t196 _ A3.out).mono ?_); rintro e w' ⟨rfl, ⟨nd, rfl⟩⟩; refine ⟨_, rfl, ?_⟩))
      go_ret
      exact ⟨fj, fd⟩
     ·rw [if_neg c11] at H
      have c11b0 := decide_eq_false c11
      clear c11
      obtain rfl := Option.some.inj H
      go_enter Tryd.func18, Tryd.ntmps18
      go_wp2_with (first | ((with_reducible refine gate_callee (f := 13) rfl ?_); refine goesL_ (some 6) rfl rfl Tryd.func13 (by kernel_rfl) rfl #[.int .i64 a0] rfl ga ?_; (with_reducible refine (spinnakerref03_letter.calls a0 t196 _ A3.out).mono ?_); rintro e w' ⟨rfl, ⟨nd, rfl⟩⟩; refine ⟨_, rfl, ?_⟩))
      go_ret
      exact ⟨fj, fd⟩
    ·rw [if_neg c10] at H
     have c10b0 := decide_eq_false c10
     clear c10
     obtain rfl := Option.some.inj H
     go_enter Tryd.func18, Tryd.ntmps18
     go_wp2_with (first | ((with_reducible refine gate_callee (f := 13) rfl ?_); refine goesL_ (some 6) rfl rfl Tryd.func13 (by kernel_rfl) rfl #[.int .i64 a0] rfl ga ?_; (with_reducible refine (spinnakerref03_letter.calls a0 t196 _ A3.out).mono ?_); rintro e w' ⟨rfl, ⟨nd, rfl⟩⟩; refine ⟨_, rfl, ?_⟩))
     go_ret
     exact ⟨fj, fd⟩
   ·rw [if_neg c9] at H
    have c9b0 : (t196 == 66) = false := beq_eq_false_iff_ne.mpr c9
    have c9b1 : (t196 != 66) = true := bne_iff_ne.mpr c9
    have HC12 := Aside0.mk H
    clear H
    go_enter Tryd.func18, Tryd.ntmps18
    go_upto_if 37 with (first | ((with_reducible refine gate_callee (f := 13) rfl ?_); refine goesL_ (some 6) rfl rfl Tryd.func13 (by kernel_rfl) rfl #[.int .i64 a0] rfl ga ?_; (with_reducible refine (spinnakerref03_letter.calls a0 t196 _ A3.out).mono ?_); rintro e w' ⟨rfl, ⟨nd, rfl⟩⟩; refine ⟨_, rfl, ?_⟩))
    (try simp only [Act.put, List.setIfInBounds_toArray, List.set_cons_zero, List.set_cons_succ])
    go_cut [37] (fun v37 wc => ∃ (kq : Nat) (x37_11 : Bool), v37 = .bool x37_11 ∧ Aside0 (spinnakerref03_immediate.j0 kq a1 t196 x37_11 = some r) ∧ Aside0 (kq ≤ k) ∧ Drawn0 w wc)
    case first =>
     have H := HC12.out
     clear HC12
     by_cases c13 : t196 = 73
     ·rw [if_pos c13] at H
      obtain ⟨c13b0, c13b1⟩ := eqs c13
      clear c13
      (first | rw [c13b0] | (simp only [i64_w, i32_w]; rw [c13b0]) | skip)
      have H' := Aside0.mk H
      clear H
      go_wp2
      go_meet
      case rel => exact ⟨_, ((t196 == 73)), fj, H', ⟨by first | omega | exact Nat.le_refl _⟩, fd⟩
     ·rw [if_neg c13] at H
      have c13b0 : (t196 == 73) = false := beq_eq_false_iff_ne.mpr c13
      have c13b1 : (t196 != 73) = true := bne_iff_ne.mpr c13
      (first | rw [c13b0] | (simp only [i64_w, i32_w]; rw [c13b0]) | skip)
      have H' := Aside0.mk H
      clear H
      go_wp2
      go_meet
      case rel => exact ⟨_, ((t196 == 83)), fj, H', ⟨by first | omega | exact Nat.le_refl _⟩, fd⟩
    case rest =>
     clear HC12
     try clear c1
     try clear p2
     try clear c4
     try clear c4b0
     try clear c4b1
     try clear c5
     try clear c5b0
     try clear c6
     try clear c6b0
     try clear c6b1
     try clear c8
     try clear c9
     try clear c9b0
     try clear c9b1
     try clear c10
     try clear c10b0
     try clear c11
     try clear c11b0
     try clear c13
     try clear c13b0
     try clear c13b1
     obtain ⟨kq, x37_11, rfl, HA, HJ11, ⟨mc11, rfl⟩⟩ := hcut
     cases kq with
     | zero => exact absurd HA.out (by simp [spinnakerref03_immediate.j0])
     | succ kj11 =>
      have H := HA.out
      clear HA
      simp only [spinnakerref03_immediate.j0] at H
      by_cases c14 : x37_11 = true
      ·subst c14
       have H1 : (if a1 ≥ (-2048) then (some (decide (a1 ≤ 2047))) else (some false)) = some r := by rw [if_pos rfl] at H; exact H
       clear H
       have H := H1
       clear H1
       by_cases c15 : a1 ≥ (-2048)
       ·rw [if_pos c15] at H
        have c15b0 := decide_eq_true c15
        clear c15
        obtain rfl := Option.some.inj H
        go_wp2
        go_ret
        exact ⟨fj, fd⟩
       ·rw [if_neg c15] at H
        have c15b0 := decide_eq_false c15
        clear c15
        obtain rfl := Option.some.inj H
        go_wp2
        go_ret
        exact ⟨fj, fd⟩
      ·replace c14 := Bool.eq_false_iff.mpr c14
       subst c14
       have H1 : (if t196 = 72 then (if a1 ≥ 0 then (some (decide (a1 ≤ 63))) else (some false)) else (if t196 = 87 then (if a1 ≥ 0 then (some (decide (a1 ≤ 31))) else (some false)) else (if t196 = 70 then (if a1 ≥ 0 then (some (decide (a1 ≤ 255))) else (some false)) else (some (a1 == 0))))) = some r := by rw [if_neg (show ¬ (false = true) by decide)] at H; exact H
       clear H
       have H := H1
       clear H1
       by_cases c16 : t196 = 72
       ·rw [if_pos c16] at H
        obtain ⟨c16b0, c16b1⟩ := eqs c16
        clear c16
        by_cases c17 : a1 ≥ 0
        ·rw [if_pos c17] at H
         have c17b0 := decide_eq_true c17
         clear c17
         obtain rfl := Option.some.inj H
         go_wp2
         go_ret
         exact ⟨fj, fd⟩
        ·rw [if_neg c17] at H
         have c17b0 := decide_eq_false c17
         clear c17
         obtain rfl := Option.some.inj H
         go_wp2
         go_ret
         exact ⟨fj, fd⟩
       ·rw [if_neg c16] at H
        have c16b0 : (t196 == 72) = false := beq_eq_false_iff_ne.mpr c16
        have c16b1 : (t196 != 72) = true := bne_iff_ne.mpr c16
        by_cases c18 : t196 = 87
        ·rw [if_pos c18] at H
         obtain ⟨c18b0, c18b1⟩ := eqs c18
         clear c18
         by_cases c19 : a1 ≥ 0
         ·rw [if_pos c19] at H
          have c19b0 := decide_eq_true c19
          clear c19
          obtain rfl := Option.some.inj H
          go_wp2
          go_ret
          exact ⟨fj, fd⟩
         ·rw [if_neg c19] at H
          have c19b0 := decide_eq_false c19
          clear c19
          obtain rfl := Option.some.inj H
          go_wp2
          go_ret
          exact ⟨fj, fd⟩
        ·rw [if_neg c18] at H
         have c18b0 : (t196 == 87) = false := beq_eq_false_iff_ne.mpr c18
         have c18b1 : (t196 != 87) = true := bne_iff_ne.mpr c18
         by_cases c20 : t196 = 70
         ·rw [if_pos c20] at H
          obtain ⟨c20b0, c20b1⟩ := eqs c20
          clear c20
          by_cases c21 : a1 ≥ 0
          ·rw [if_pos c21] at H
           have c21b0 := decide_eq_true c21
           clear c21
           obtain rfl := Option.some.inj H
           go_wp2
           go_ret
           exact ⟨fj, fd⟩
          ·rw [if_neg c21] at H
           have c21b0 := decide_eq_false c21
           clear c21
           obtain rfl := Option.some.inj H
           go_wp2
           go_ret
           exact ⟨fj, fd⟩
         ·rw [if_neg c20] at H
          have c20b0 : (t196 == 70) = false := beq_eq_false_iff_ne.mpr c20
          have c20b1 : (t196 != 70) = true := bne_iff_ne.mpr c20
          obtain rfl := Option.some.inj H
          go_wp2
          go_ret
          exact ⟨fj, fd⟩

end Go.Proofs.YtmkcnbaknnohgaaDoor.GUnitLoads
