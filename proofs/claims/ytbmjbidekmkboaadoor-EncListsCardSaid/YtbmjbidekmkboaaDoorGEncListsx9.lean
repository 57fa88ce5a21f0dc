-- Written by wip/stub.py of this repo.
import Derived.Test.YtbmjbidekmkboaaDoorGEncListsx0
import Derived.Test.YtbmjbidekmkboaaDoorGEncListsx1
import Derived.Test.YtbmjbidekmkboaaDoorGEncListsx8
namespace Go.Proofs.YtbmjbidekmkboaaDoor.GEncLists
open Go.RowKit Go.Proofs.YtbmjbidekmkboaaDoorW.PrintWords Go.Proofs.YtbmjbidekmkboaaDoorW.PrintLast Go.Proofs.YtbmjbidekmkboaaDoorW.PrintMore
attribute [local go_sem] max2_int min2_int max_two min_two max_three min_three max_four min_four   -- for this text's walks alone
set_option linter.unusedVariables false
set_option linter.unusedSimpArgs false

/-! ### spinnakerref04_bits: function 83 -/
def spinnakerref04_bits.l0 : Nat → Int → Int → Int → Int → Int → Int → Option (Int)
  | 0, _, _, _, _, _, _ => none
  | k + 1, x0, x1, x2, x3, x9, x10 => if x10 < x2 then ((spinnakerref01_Bit.f k (IntKind.u64.wrap (x0)) (wrap64 (x1 + x10))).bind fun t250 => (if t250 = 1 then ((spinnakerref01_Power.f k (wrap64 (x3 + x10))).bind fun t251 => (spinnakerref04_bits.l0 k x0 x1 x2 x3 (IntKind.u64.wrap (x9 + t251)) (wrap64 (x10 + 1)))) else (spinnakerref04_bits.l0 k x0 x1 x2 x3 x9 (wrap64 (x10 + 1))))) else (some ((x9) % 4294967296))
def spinnakerref04_bits.f (k : Nat) (a0 : Int) (a1 : Int) (a2 : Int) (a3 : Int) : Option (Int) := spinnakerref04_bits.l0 k a0 a1 a2 a3 0 0
theorem spinnakerref04_bits.mono_l : ∀ k, (∀ y0 y1 y2 y3 y4 y5, LeO (spinnakerref04_bits.l0 k y0 y1 y2 y3 y4 y5) (spinnakerref04_bits.l0 (k + 1) y0 y1 y2 y3 y4 y5))
 | 0 => fun _ _ _ _ _ _ r h => by simp [spinnakerref04_bits.l0] at h
 | k + 1 => by
  have ih0 := spinnakerref04_bits.mono_l k
  ·intro y0 y1 y2 y3 y4 y5
   unfold spinnakerref04_bits.l0
   repeat' first
   | (with_reducible exact ih0 _ _ _ _ _ _)
   | (with_reducible exact spinnakerref01_Bit.mono _ _ _)
   | (with_reducible exact spinnakerref01_Power.mono _ _)
   | (with_reducible exact LeO.refl _)
   | (with_reducible exact LeO.none _)
   | (with_reducible refine LeO.ite ?_ ?_)
   | (with_reducible refine LeO.bind ?_ (fun _ => ?_))
   | exact ih0 _ _ _ _ _ _
   | exact spinnakerref01_Bit.mono _ _ _
   | exact spinnakerref01_Power.mono _ _
   | exact LeO.none _
   | refine LeO.ite ?_ ?_
   | refine LeO.bind ?_ (fun _ => ?_)
theorem spinnakerref04_bits.mono : ∀ a0 a1 a2 a3 k, LeO (spinnakerref04_bits.f k a0 a1 a2 a3) (spinnakerref04_bits.f (k + 1) a0 a1 a2 a3) := by
 intro a0 a1 a2 a3 k
 have ih0 := spinnakerref04_bits.mono_l k
 unfold spinnakerref04_bits.f
 repeat' first
   | (with_reducible exact ih0 _ _ _ _ _ _)
   | (with_reducible exact spinnakerref01_Bit.mono _ _ _)
   | (with_reducible exact spinnakerref01_Power.mono _ _)
   | (with_reducible exact LeO.refl _)
   | (with_reducible exact LeO.none _)
   | (with_reducible refine LeO.ite ?_ ?_)
   | (with_reducible refine LeO.bind ?_ (fun _ => ?_))
   | exact ih0 _ _ _ _ _ _
   | exact spinnakerref01_Bit.mono _ _ _
   | exact spinnakerref01_Power.mono _ _
   | exact LeO.none _
   | refine LeO.ite ?_ ?_
   | refine LeO.bind ?_ (fun _ => ?_)
set_option maxHeartbeats 8000000 in
set_option maxRecDepth 100000 in
theorem spinnakerref04_bits.calls (k : Nat) (a0 : Int) (a1 : Int) (a2 : Int) (a3 : Int) (r : Int) (w : World) (h : spinnakerref04_bits.f k a0 a1 a2 a3 = some r) :
  Calls Tryd.prog 83 #[.int .i64 a0, .int .i64 a1, .int .i64 a2, .int .i64 a3] w fun e w' => e = .returned (.int .u32 r) ∧ Drawn0 w w' := by
 have H : (spinnakerref04_bits.l0 k a0 a1 a2 a3 0 0) = some r := h
 clear h
 have H' := Aside0.mk H
 clear H
 go_enter Tryd.func83, Tryd.ntmps83
 go_wp2
 go_loopg [9, 10] k (fun kq v9 v10 w' => ∃ (x9_1 : Int) (x10_1 : Int), v9 = .int .u64 x9_1 ∧ v10 = .int .i64 x10_1 ∧ Aside0 (spinnakerref04_bits.l0 kq a0 a1 a2 a3 x9_1 x10_1 = some r) ∧ Aside0 (kq ≤ k) ∧ Drawn0 w w')
 case atStart => exact ⟨(0), (0), (by first | rfl | (simp; done) | (simp [*]; done)), (by first | rfl | (simp; done) | (simp [*]; done)), H', ⟨Nat.le_refl _⟩, by repeat (first | exact Drawn0.refl _ | apply Drawn0.step)⟩
 case round =>
  clear H'
  try clear p2
  obtain ⟨x9_1, x10_1, rfl, rfl, HA, HK1, ⟨m1, rfl⟩⟩ := hrel
  cases gk with
  | zero => exact absurd HA.out (by simp [spinnakerref04_bits.l0])
  | succ k1 =>
   have H := HA.out
   clear HA
   simp only [spinnakerref04_bits.l0] at H
   by_cases c5 : x10_1 < a2
   ·rw [if_pos c5] at H
    have c5b0 : decide (x10_1 < a2) = true := decide_eq_true c5
    clear c5
    replace H := Option.bind_eq_some_iff.mp H
    obtain ⟨t250, A60, H⟩ := H
    replace H : (if t250 = 1 then ((spinnakerref01_Power.f k1 (wrap64 (a3 + x10_1))).bind fun t251 => (spinnakerref04_bits.l0 k1 a0 a1 a2 a3 (IntKind.u64.wrap (x9_1 + t251)) (wrap64 (x10_1 + 1)))) else (spinnakerref04_bits.l0 k1 a0 a1 a2 a3 x9_1 (wrap64 (x10_1 + 1)))) = some r := H
    have A6 := Aside0.mk A60
    clear A60
    by_cases c7 : t250 = 1
    ·rw [if_pos c7] at H
     have c7b0 : (t250 == 1) = true := beq_iff_eq.mpr c7
     have c7b1 : (t250 != 1) = false := bne_eq_false_iff_eq.mpr c7
     clear c7
     replace H := Option.bind_eq_some_iff.mp H
     obtain ⟨t251, A80, H⟩ := H
     replace H : (spinnakerref04_bits.l0 k1 a0 a1 a2 a3 (IntKind.u64.wrap (x9_1 + t251)) (wrap64 (x10_1 + 1))) = some r := H
     have A8 := Aside0.mk A80
     clear A80
     have H' := Aside0.mk H
     clear H
     go_wp2_with (first | ((with_reducible refine gate_callee (f := 37) rfl ?_); refine goesL_ (some 21) rfl rfl Tryd.func37 (by kernel_rfl) rfl #[.int .u64 (IntKind.u64.wrap (a0)), .int .i64 (wrap64 (a1 + x10_1))] rfl (by (try simp only [List.map_toArray, List.map_cons, List.map_nil]); first | done | rfl | (simp only [List.length_drop, List.length_take]; rfl)) ?_; (with_reducible refine (spinnakerref01_Bit.calls k1 (IntKind.u64.wrap (a0)) (wrap64 (a1 + x10_1)) t250 _ A6.out).mono ?_); rintro e w' ⟨rfl, ⟨nd, rfl⟩⟩; refine ⟨_, rfl, ?_⟩) | ((with_reducible refine gate_callee (f := 114) rfl ?_); refine goesL_ (some 27) rfl rfl Tryd.func114 (by kernel_rfl) rfl #[.int .i64 (wrap64 (a3 + x10_1))] rfl (by (try simp only [List.map_toArray, List.map_cons, List.map_nil]); first | done | rfl | (simp only [List.length_drop, List.length_take]; rfl)) ?_; (with_reducible refine (spinnakerref01_Power.calls k1 (wrap64 (a3 + x10_1)) t251 _ A8.out).mono ?_); rintro e w' ⟨rfl, ⟨nd, rfl⟩⟩; refine ⟨_, rfl, ?_⟩))
     go_roundg k1
     case measure => have := HK1.out; omega
     case rel => exact ⟨(IntKind.u64.wrap (x9_1 + t251)), (wrap64 (x10_1 + 1)), (by first | rfl | (simp; done) | (simp [*]; done)), (by first | rfl | (simp; done) | (simp [*]; done)), H', ⟨by have := HK1.out; omega⟩, by repeat (first | exact Drawn0.refl _ | apply Drawn0.step)⟩
    ·rw [if_neg c7] at H
     have c7b0 : (t250 == 1) = false := beq_eq_false_iff_ne.mpr c7
     have c7b1 : (t250 != 1) = true := bne_iff_ne.mpr c7
     have H' := Aside0.mk H
     clear H
     go_wp2_with (first | ((with_reducible refine gate_callee (f := 37) rfl ?_); refine goesL_ (some 21) rfl rfl Tryd.func37 (by kernel_rfl) rfl #[.int .u64 (IntKind.u64.wrap (a0)), .int .i64 (wrap64 (a1 + x10_1))] rfl (by (try simp only [List.map_toArray, List.map_cons, List.map_nil]); first | done | rfl | (simp only [List.length_drop, List.length_take]; rfl)) ?_; (with_reducible refine (spinnakerref01_Bit.calls k1 (IntKind.u64.wrap (a0)) (wrap64 (a1 + x10_1)) t250 _ A6.out).mono ?_); rintro e w' ⟨rfl, ⟨nd, rfl⟩⟩; refine ⟨_, rfl, ?_⟩))
     go_roundg k1
     case measure => have := HK1.out; omega
     case rel => exact ⟨(x9_1), (wrap64 (x10_1 + 1)), (by first | rfl | (simp; done) | (simp [*]; done)), (by first | rfl | (simp; done) | (simp [*]; done)), H', ⟨by have := HK1.out; omega⟩, by repeat (first | exact Drawn0.refl _ | apply Drawn0.step)⟩
   ·rw [if_neg c5] at H
    have c5b0 : decide (x10_1 < a2) = false := decide_eq_false c5
    clear c5
    obtain rfl := Option.some.inj H
    go_wp2
    go_ret
    exact ⟨by first | rfl | (simp; done) | (simp [*]; done), by repeat (first | exact Drawn0.refl _ | apply Drawn0.step)⟩

/-! ### spinnakerref03_Form: function 84 -/
def spinnakerref03_Form.f (a0 : Int) : Option (Int) := (spinnakerref03_letter.f a0).bind fun t252 => (if t252 = 85 then (some 1) else (if t252 = 74 then (some 2) else (if t252 = 73 then (some 3) else (if t252 = 66 then (some 4) else (if t252 = 83 then (some 5) else (if t252 = 82 then (some 6) else (if t252 = 72 then (some 7) else (if t252 = 87 then (some 8) else (if t252 = 70 then (some 9) else (if t252 = 78 then (some 0) else (if t252 = 76 then (some 10) else (if t252 = 65 then (some 11) else (some (-1))))))))))))))
set_option maxHeartbeats 8000000 in
set_option maxRecDepth 100000 in
theorem spinnakerref03_Form.calls (a0 : Int) (r : Int) (w : World) (h : spinnakerref03_Form.f a0 = some r) :
  Calls Tryd.prog 84 #[.int .i64 a0] w fun e w' => e = .returned (.int .i64 r) ∧ Drawn0 w w' := by
 have H : ((spinnakerref03_letter.f a0).bind fun t252 => (if t252 = 85 then (some 1) else (if t252 = 74 then (some 2) else (if t252 = 73 then (some 3) else (if t252 = 66 then (some 4) else (if t252 = 83 then (some 5) else (if t252 = 82 then (some 6) else (if t252 = 72 then (some 7) else (if t252 = 87 then (some 8) else (if t252 = 70 then (some 9) else (if t252 = 78 then (some 0) else (if t252 = 76 then (some 10) else (if t252 = 65 then (some 11) else (some (-1))))))))))))))) = some r := h
 clear h
 replace H := Option.bind_eq_some_iff.mp H
 obtain ⟨t252, A20, H⟩ := H
 replace H : (if t252 = 85 then (some 1) else (if t252 = 74 then (some 2) else (if t252 = 73 then (some 3) else (if t252 = 66 then (some 4) else (if t252 = 83 then (some 5) else (if t252 = 82 then (some 6) else (if t252 = 72 then (some 7) else (if t252 = 87 then (some 8) else (if t252 = 70 then (some 9) else (if t252 = 78 then (some 0) else (if t252 = 76 then (some 10) else (if t252 = 65 then (some 11) else (some (-1)))))))))))))) = some r := H
 have A2 := Aside0.mk A20
 clear A20
 by_cases c3 : t252 = 85
 ·rw [if_pos c3] at H
  have c3b0 : (t252 == 85) = true := beq_iff_eq.mpr c3
  have c3b1 : (t252 != 85) = false := bne_eq_false_iff_eq.mpr c3
  clear c3
  obtain rfl := Option.some.inj H
  go_enter Tryd.func84, Tryd.ntmps84
  go_wp2_with (first | ((with_reducible refine gate_callee (f := 75) rfl ?_); refine goesL_ (some 4) rfl rfl Tryd.func75 (by kernel_rfl) rfl #[.int .i64 a0] rfl (by (try simp only [List.map_toArray, List.map_cons, List.map_nil]); first | done | rfl | (simp only [List.length_drop, List.length_take]; rfl)) ?_; (with_reducible refine (spinnakerref03_letter.calls a0 t252 _ A2.out).mono ?_); rintro e w' ⟨rfl, ⟨nd, rfl⟩⟩; refine ⟨_, rfl, ?_⟩))
  go_ret
  exact ⟨by first | rfl | (simp; done) | (simp [*]; done), by repeat (first | exact Drawn0.refl _ | apply Drawn0.step)⟩
 ·rw [if_neg c3] at H
  have c3b0 : (t252 == 85) = false := beq_eq_false_iff_ne.mpr c3
  have c3b1 : (t252 != 85) = true := bne_iff_ne.mpr c3
  by_cases c4 : t252 = 74
  ·rw [if_pos c4] at H
   have c4b0 : (t252 == 74) = true := beq_iff_eq.mpr c4
   have c4b1 : (t252 != 74) = false := bne_eq_false_iff_eq.mpr c4
   clear c4
   obtain rfl := Option.some.inj H
   go_enter Tryd.func84, Tryd.ntmps84
   go_wp2_with (first | ((with_reducible refine gate_callee (f := 75) rfl ?_); refine goesL_ (some 4) rfl rfl Tryd.func75 (by kernel_rfl) rfl #[.int .i64 a0] rfl (by (try simp only [List.map_toArray, List.map_cons, List.map_nil]); first | done | rfl | (simp only [List.length_drop, List.length_take]; rfl)) ?_; (with_reducible refine (spinnakerref03_letter.calls a0 t252 _ A2.out).mono ?_); rintro e w' ⟨rfl, ⟨nd, rfl⟩⟩; refine ⟨_, rfl, ?_⟩))
   go_ret
   exact ⟨by first | rfl | (simp; done) | (simp [*]; done), by repeat (first | exact Drawn0.refl _ | apply Drawn0.step)⟩
  ·rw [if_neg c4] at H
   have c4b0 : (t252 == 74) = false := beq_eq_false_iff_ne.mpr c4
   have c4b1 : (t252 != 74) = true := bne_iff_ne.mpr c4
   by_cases c5 : t252 = 73
   ·rw [if_pos c5] at H
    have c5b0 : (t252 == 73) = true := beq_iff_eq.mpr c5
    have c5b1 : (t252 != 73) = false := bne_eq_false_iff_eq.mpr c5
    clear c5
    obtain rfl := Option.some.inj H
    go_enter Tryd.func84, Tryd.ntmps84
    go_wp2_with (first | ((with_reducible refine gate_callee (f := 75) rfl ?_); refine goesL_ (some 4) rfl rfl Tryd.func75 (by kernel_rfl) rfl #[.int .i64 a0] rfl (by (try simp only [List.map_toArray, List.map_cons, List.map_nil]); first | done | rfl | (simp only [List.length_drop, List.length_take]; rfl)) ?_; (with_reducible refine (spinnakerref03_letter.calls a0 t252 _ A2.out).mono ?_); rintro e w' ⟨rfl, ⟨nd, rfl⟩⟩; refine ⟨_, rfl, ?_⟩))
    go_ret
    exact ⟨by first | rfl | (simp; done) | (simp [*]; done), by repeat (first | exact Drawn0.refl _ | apply Drawn0.step)⟩
   ·rw [if_neg c5] at H
    have c5b0 : (t252 == 73) = false := beq_eq_false_iff_ne.mpr c5
    have c5b1 : (t252 != 73) = true := bne_iff_ne.mpr c5
    by_cases c6 : t252 = 66
    ·rw [if_pos c6] at H
     have c6b0 : (t252 == 66) = true := beq_iff_eq.mpr c6
     have c6b1 : (t252 != 66) = false := bne_eq_false_iff_eq.mpr c6
     clear c6
     obtain rfl := Option.some.inj H
     go_enter Tryd.func84, Tryd.ntmps84
     go_wp2_with (first | ((with_reducible refine gate_callee (f := 75) rfl ?_); refine goesL_ (some 4) rfl rfl Tryd.func75 (by kernel_rfl) rfl #[.int .i64 a0] rfl (by (try simp only [List.map_toArray, List.map_cons, List.map_nil]); first | done | rfl | (simp only [List.length_drop, List.length_take]; rfl)) ?_; (with_reducible refine (spinnakerref03_letter.calls a0 t252 _ A2.out).mono ?_); rintro e w' ⟨rfl, ⟨nd, rfl⟩⟩; refine ⟨_, rfl, ?_⟩))
     go_ret
     exact ⟨by first | rfl | (simp; done) | (simp [*]; done), by repeat (first | exact Drawn0.refl _ | apply Drawn0.step)⟩
    ·rw [if_neg c6] at H
     have c6b0 : (t252 == 66) = false := beq_eq_false_iff_ne.mpr c6
     have c6b1 : (t252 != 66) = true := bne_iff_ne.mpr c6
     by_cases c7 : t252 = 83
     ·rw [if_pos c7] at H
      have c7b0 : (t252 == 83) = true := beq_iff_eq.mpr c7
      have c7b1 : (t252 != 83) = false := bne_eq_false_iff_eq.mpr c7
      clear c7
      obtain rfl := Option.some.inj H
      go_enter Tryd.func84, Tryd.ntmps84
      go_wp2_with (first | ((with_reducible refine gate_callee (f := 75) rfl ?_); refine goesL_ (some 4) rfl rfl Tryd.func75 (by kernel_rfl) rfl #[.int .i64 a0] rfl (by (try simp only [List.map_toArray, List.map_cons, List.map_nil]); first | done | rfl | (simp only [List.length_drop, List.length_take]; rfl)) ?_; (with_reducible refine (spinnakerref03_letter.calls a0 t252 _ A2.out).mono ?_); rintro e w' ⟨rfl, ⟨nd, rfl⟩⟩; refine ⟨_, rfl, ?_⟩))
      go_ret
      exact ⟨by first | rfl | (simp; done) | (simp [*]; done), by repeat (first | exact Drawn0.refl _ | apply Drawn0.step)⟩
     ·rw [if_neg c7] at H
      have c7b0 : (t252 == 83) = false := beq_eq_false_iff_ne.mpr c7
      have c7b1 : (t252 != 83) = true := bne_iff_ne.mpr c7
      by_cases c8 : t252 = 82
      ·rw [if_pos c8] at H
       have c8b0 : (t252 == 82) = true := beq_iff_eq.mpr c8
       have c8b1 : (t252 != 82) = false := bne_eq_false_iff_eq.mpr c8
       clear c8
       obtain rfl := Option.some.inj H
       go_enter Tryd.func84, Tryd.ntmps84
       go_wp2_with (first | ((with_reducible refine gate_callee (f := 75) rfl ?_); refine goesL_ (some 4) rfl rfl Tryd.func75 (by kernel_rfl) rfl #[.int .i64 a0] rfl (by (try simp only [List.map_toArray, List.map_cons, List.map_nil]); first | done | rfl | (simp only [List.length_drop, List.length_take]; rfl)) ?_; (with_reducible refine (spinnakerref03_letter.calls a0 t252 _ A2.out).mono ?_); rintro e w' ⟨rfl, ⟨nd, rfl⟩⟩; refine ⟨_, rfl, ?_⟩))
       go_ret
       exact ⟨by first | rfl | (simp; done) | (simp [*]; done), by repeat (first | exact Drawn0.refl _ | apply Drawn0.step)⟩
      ·rw [if_neg c8] at H
       have c8b0 : (t252 == 82) = false := beq_eq_false_iff_ne.mpr c8
       have c8b1 : (t252 != 82) = true := bne_iff_ne.mpr c8
       by_cases c9 : t252 = 72
       ·rw [if_pos c9] at H
        have c9b0 : (t252 == 72) = true := beq_iff_eq.mpr c9
        have c9b1 : (t252 != 72) = false := bne_eq_false_iff_eq.mpr c9
        clear c9
        obtain rfl := Option.some.inj H
        go_enter Tryd.func84, Tryd.ntmps84
        go_wp2_with (first | ((with_reducible refine gate_callee (f := 75) rfl ?_); refine goesL_ (some 4) rfl rfl Tryd.func75 (by kernel_rfl) rfl #[.int .i64 a0] rfl (by (try simp only [List.map_toArray, List.map_cons, List.map_nil]); first | done | rfl | (simp only [List.length_drop, List.length_take]; rfl)) ?_; (with_reducible refine (spinnakerref03_letter.calls a0 t252 _ A2.out).mono ?_); rintro e w' ⟨rfl, ⟨nd, rfl⟩⟩; refine ⟨_, rfl, ?_⟩))
        go_ret
        exact ⟨by first | rfl | (simp; done) | (simp [*]; done), by repeat (first | exact Drawn0.refl _ | apply Drawn0.step)⟩
       ·rw [if_neg c9] at H
        have c9b0 : (t252 == 72) = false := beq_eq_false_iff_ne.mpr c9
        have c9b1 : (t252 != 72) = true := bne_iff_ne.mpr c9
        by_cases c10 : t252 = 87
        ·rw [if_pos c10] at H
         have c10b0 : (t252 == 87) = true := beq_iff_eq.mpr c10
         have c10b1 : (t252 != 87) = false := bne_eq_false_iff_eq.mpr c10
         clear c10
         obtain rfl := Option.some.inj H
         go_enter Tryd.func84, Tryd.ntmps84
         go_wp2_with (first | ((with_reducible refine gate_callee (f := 75) rfl ?_); refine goesL_ (some 4) rfl rfl Tryd.func75 (by kernel_rfl) rfl #[.int .i64 a0] rfl (by (try simp only [List.map_toArray, List.map_cons, List.map_nil]); first | done | rfl | (simp only [List.length_drop, List.length_take]; rfl)) ?_; (with_reducible refine (spinnakerref03_letter.calls a0 t252 _ A2.out).mono ?_); rintro e w' ⟨rfl, ⟨nd, rfl⟩⟩; refine ⟨_, rfl, ?_⟩))
         go_ret
         exact ⟨by first | rfl | (simp; done) | (simp [*]; done), by repeat (first | exact Drawn0.refl _ | apply Drawn0.step)⟩
        ·rw [if_neg c10] at H
         have c10b0 : (t252 == 87) = false := beq_eq_false_iff_ne.mpr c10
         have c10b1 : (t252 != 87) = true := bne_iff_ne.mpr c10
         by_cases c11 : t252 = 70
         ·rw [if_pos c11] at H
          have c11b0 : (t252 == 70) = true := beq_iff_eq.mpr c11
          have c11b1 : (t252 != 70) = false := bne_eq_false_iff_eq.mpr c11
          clear c11
          obtain rfl := Option.some.inj H
          go_enter Tryd.func84, Tryd.ntmps84
          go_wp2_with (first | ((with_reducible refine gate_callee (f := 75) rfl ?_); refine goesL_ (some 4) rfl rfl Tryd.func75 (by kernel_rfl) rfl #[.int .i64 a0] rfl (by (try simp only [List.map_toArray, List.map_cons, List.map_nil]); first | done | rfl | (simp only [List.length_drop, List.length_take]; rfl)) ?_; (with_reducible refine (spinnakerref03_letter.calls a0 t252 _ A2.out).mono ?_); rintro e w' ⟨rfl, ⟨nd, rfl⟩⟩; refine ⟨_, rfl, ?_⟩))
          go_ret
          exact ⟨by first | rfl | (simp; done) | (simp [*]; done), by repeat (first | exact Drawn0.refl _ | apply Drawn0.step)⟩
         ·rw [if_neg c11] at H
          have c11b0 : (t252 == 70) = false := beq_eq_false_iff_ne.mpr c11
          have c11b1 : (t252 != 70) = true := bne_iff_ne.mpr c11
          by_cases c12 : t252 = 78
          ·rw [if_pos c12] at H
           have c12b0 : (t252 == 78) = true := beq_iff_eq.mpr c12
           have c12b1 : (t252 != 78) = false := bne_eq_false_iff_eq.mpr c12
           clear c12
           obtain rfl := Option.some.inj H
           go_enter Tryd.func84, Tryd.ntmps84
           go_wp2_with (first | ((with_reducible refine gate_callee (f := 75) rfl ?_); refine goesL_ (some 4) rfl rfl Tryd.func75 (by kernel_rfl) rfl #[.int .i64 a0] rfl (by (try simp only [List.map_toArray, List.map_cons, List.map_nil]); first | done | rfl | (simp only [List.length_drop, List.length_take]; rfl)) ?_; (with_reducible refine (spinnakerref03_letter.calls a0 t252 _ A2.out).mono ?_); rintro e w' ⟨rfl, ⟨nd, rfl⟩⟩; refine ⟨_, rfl, ?_⟩))
           go_ret
           exact ⟨by first | rfl | (simp; done) | (simp [*]; done), by repeat (first | exact Drawn0.refl _ | apply Drawn0.step)⟩
          ·rw [if_neg c12] at H
           have c12b0 : (t252 == 78) = false := beq_eq_false_iff_ne.mpr c12
           have c12b1 : (t252 != 78) = true := bne_iff_ne.mpr c12
           by_cases c13 : t252 = 76
           ·rw [if_pos c13] at H
            have c13b0 : (t252 == 76) = true := beq_iff_eq.mpr c13
            have c13b1 : (t252 != 76) = false := bne_eq_false_iff_eq.mpr c13
            clear c13
            obtain rfl := Option.some.inj H
            go_enter Tryd.func84, Tryd.ntmps84
            go_wp2_with (first | ((with_reducible refine gate_callee (f := 75) rfl ?_); refine goesL_ (some 4) rfl rfl Tryd.func75 (by kernel_rfl) rfl #[.int .i64 a0] rfl (by (try simp only [List.map_toArray, List.map_cons, List.map_nil]); first | done | rfl | (simp only [List.length_drop, List.length_take]; rfl)) ?_; (with_reducible refine (spinnakerref03_letter.calls a0 t252 _ A2.out).mono ?_); rintro e w' ⟨rfl, ⟨nd, rfl⟩⟩; refine ⟨_, rfl, ?_⟩))
            go_ret
            exact ⟨by first | rfl | (simp; done) | (simp [*]; done), by repeat (first | exact Drawn0.refl _ | apply Drawn0.step)⟩
           ·rw [if_neg c13] at H
            have c13b0 : (t252 == 76) = false := beq_eq_false_iff_ne.mpr c13
            have c13b1 : (t252 != 76) = true := bne_iff_ne.mpr c13
            by_cases c14 : t252 = 65
            ·rw [if_pos c14] at H
             have c14b0 : (t252 == 65) = true := beq_iff_eq.mpr c14
             have c14b1 : (t252 != 65) = false := bne_eq_false_iff_eq.mpr c14
             clear c14
             obtain rfl := Option.some.inj H
             go_enter Tryd.func84, Tryd.ntmps84
             go_wp2_with (first | ((with_reducible refine gate_callee (f := 75) rfl ?_); refine goesL_ (some 4) rfl rfl Tryd.func75 (by kernel_rfl) rfl #[.int .i64 a0] rfl (by (try simp only [List.map_toArray, List.map_cons, List.map_nil]); first | done | rfl | (simp only [List.length_drop, List.length_take]; rfl)) ?_; (with_reducible refine (spinnakerref03_letter.calls a0 t252 _ A2.out).mono ?_); rintro e w' ⟨rfl, ⟨nd, rfl⟩⟩; refine ⟨_, rfl, ?_⟩))
             go_ret
             exact ⟨by first | rfl | (simp; done) | (simp [*]; done), by repeat (first | exact Drawn0.refl _ | apply Drawn0.step)⟩
            ·rw [if_neg c14] at H
             have c14b0 : (t252 == 65) = false := beq_eq_false_iff_ne.mpr c14
             have c14b1 : (t252 != 65) = true := bne_iff_ne.mpr c14
             obtain rfl := Option.some.inj H
             go_enter Tryd.func84, Tryd.ntmps84
             go_wp2_with (first | ((with_reducible refine gate_callee (f := 75) rfl ?_); refine goesL_ (some 4) rfl rfl Tryd.func75 (by kernel_rfl) rfl #[.int .i64 a0] rfl (by (try simp only [List.map_toArray, List.map_cons, List.map_nil]); first | done | rfl | (simp only [List.length_drop, List.length_take]; rfl)) ?_; (with_reducible refine (spinnakerref03_letter.calls a0 t252 _ A2.out).mono ?_); rintro e w' ⟨rfl, ⟨nd, rfl⟩⟩; refine ⟨_, rfl, ?_⟩))
             go_ret
             exact ⟨by first | rfl | (simp; done) | (simp [*]; done), by repeat (first | exact Drawn0.refl _ | apply Drawn0.step)⟩

end Go.Proofs.YtbmjbidekmkboaaDoor.GEncLists
