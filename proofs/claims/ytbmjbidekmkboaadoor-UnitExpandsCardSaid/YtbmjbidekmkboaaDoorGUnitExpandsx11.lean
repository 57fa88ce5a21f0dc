-- Written by wip/stub.py of this repo.
import Derived.Test.YtbmjbidekmkboaaDoorGUnitExpandsx0
import Derived.Test.YtbmjbidekmkboaaDoorGUnitExpandsx8
namespace Go.Proofs.YtbmjbidekmkboaaDoor.GUnitExpands
open Go.RowKit Go.Proofs.YtbmjbidekmkboaaDoorW.PrintWords Go.Proofs.YtbmjbidekmkboaaDoorW.PrintLast Go.Proofs.YtbmjbidekmkboaaDoorW.PrintMore
attribute [local go_sem] max2_int min2_int max_two min_two max_three min_three max_four min_four   -- for this text's walks alone
set_option linter.unusedVariables false
set_option linter.unusedSimpArgs false

/-! ### spinnakerref03_Form: function 84 -/
def spinnakerref03_Form.f (a0 : Int) : Option (Int) := (spinnakerref03_letter.f a0).bind fun t215 => (if t215 = 85 then (some 1) else (if t215 = 74 then (some 2) else (if t215 = 73 then (some 3) else (if t215 = 66 then (some 4) else (if t215 = 83 then (some 5) else (if t215 = 82 then (some 6) else (if t215 = 72 then (some 7) else (if t215 = 87 then (some 8) else (if t215 = 70 then (some 9) else (if t215 = 78 then (some 0) else (if t215 = 76 then (some 10) else (if t215 = 65 then (some 11) else (some (-1))))))))))))))
set_option maxHeartbeats 8000000 in
set_option maxRecDepth 100000 in
theorem spinnakerref03_Form.calls (a0 : Int) (r : Int) (w : World) (h : spinnakerref03_Form.f a0 = some r) :
  Calls Tryd.prog 84 #[.int .i64 a0] w fun e w' => e = .returned (.int .i64 r) ∧ Drawn0 w w' := by
 have H : ((spinnakerref03_letter.f a0).bind fun t215 => (if t215 = 85 then (some 1) else (if t215 = 74 then (some 2) else (if t215 = 73 then (some 3) else (if t215 = 66 then (some 4) else (if t215 = 83 then (some 5) else (if t215 = 82 then (some 6) else (if t215 = 72 then (some 7) else (if t215 = 87 then (some 8) else (if t215 = 70 then (some 9) else (if t215 = 78 then (some 0) else (if t215 = 76 then (some 10) else (if t215 = 65 then (some 11) else (some (-1))))))))))))))) = some r := h
 clear h
 replace H := Option.bind_eq_some_iff.mp H
 obtain ⟨t215, A20, H⟩ := H
 replace H : (if t215 = 85 then (some 1) else (if t215 = 74 then (some 2) else (if t215 = 73 then (some 3) else (if t215 = 66 then (some 4) else (if t215 = 83 then (some 5) else (if t215 = 82 then (some 6) else (if t215 = 72 then (some 7) else (if t215 = 87 then (some 8) else (if t215 = 70 then (some 9) else (if t215 = 78 then (some 0) else (if t215 = 76 then (some 10) else (if t215 = 65 then (some 11) else (some (-1)))))))))))))) = some r := H
 have A2 := Aside0.mk A20
 clear A20
 by_cases c3 : t215 = 85
 ·rw [if_pos c3] at H
  have c3b0 : (t215 == 85) = true := beq_iff_eq.mpr c3
  have c3b1 : (t215 != 85) = false := bne_eq_false_iff_eq.mpr c3
  clear c3
  obtain rfl := Option.some.inj H
  go_enter Tryd.func84, Tryd.ntmps84
  go_wp2_with (first | ((with_reducible refine gate_callee (f := 75) rfl ?_); refine goesL_ (some 4) rfl rfl Tryd.func75 (by kernel_rfl) rfl #[.int .i64 a0] rfl (by (try simp only [List.map_toArray, List.map_cons, List.map_nil]); first | done | rfl | (simp only [List.length_drop, List.length_take]; rfl)) ?_; (with_reducible refine (spinnakerref03_letter.calls a0 t215 _ A2.out).mono ?_); rintro e w' ⟨rfl, ⟨nd, rfl⟩⟩; refine ⟨_, rfl, ?_⟩))
  go_ret
  exact ⟨by first | rfl | (simp; done) | (simp [*]; done), by repeat (first | exact Drawn0.refl _ | apply Drawn0.step)⟩
 ·rw [if_neg c3] at H
  have c3b0 : (t215 == 85) = false := beq_eq_false_iff_ne.mpr c3
  have c3b1 : (t215 != 85) = true := bne_iff_ne.mpr c3
  by_cases c4 : t215 = 74
  ·rw [if_pos c4] at H
   have c4b0 : (t215 == 74) = true := beq_iff_eq.mpr c4
   have c4b1 : (t215 != 74) = false := bne_eq_false_iff_eq.mpr c4
   clear c4
   obtain rfl := Option.some.inj H
   go_enter Tryd.func84, Tryd.ntmps84
   go_wp2_with (first | ((with_reducible refine gate_callee (f := 75) rfl ?_); refine goesL_ (some 4) rfl rfl Tryd.func75 (by kernel_rfl) rfl #[.int .i64 a0] rfl (by (try simp only [List.map_toArray, List.map_cons, List.map_nil]); first | done | rfl | (simp only [List.length_drop, List.length_take]; rfl)) ?_; (with_reducible refine (spinnakerref03_letter.calls a0 t215 _ A2.out).mono ?_); rintro e w' ⟨rfl, ⟨nd, rfl⟩⟩; refine ⟨_, rfl, ?_⟩))
   go_ret
   exact ⟨by first | rfl | (simp; done) | (simp [*]; done), by repeat (first | exact Drawn0.refl _ | apply Drawn0.step)⟩
  ·rw [if_neg c4] at H
   have c4b0 : (t215 == 74) = false := beq_eq_false_iff_ne.mpr c4
   have c4b1 : (t215 != 74) = true := bne_iff_ne.mpr c4
   by_cases c5 : t215 = 73
   ·rw [if_pos c5] at H
    have c5b0 : (t215 == 73) = true := beq_iff_eq.mpr c5
    have c5b1 : (t215 != 73) = false := bne_eq_false_iff_eq.mpr c5
    clear c5
    obtain rfl := Option.some.inj H
    go_enter Tryd.func84, Tryd.ntmps84
    go_wp2_with (first | ((with_reducible refine gate_callee (f := 75) rfl ?_); refine goesL_ (some 4) rfl rfl Tryd.func75 (by kernel_rfl) rfl #[.int .i64 a0] rfl (by (try simp only [List.map_toArray, List.map_cons, List.map_nil]); first | done | rfl | (simp only [List.length_drop, List.length_take]; rfl)) ?_; (with_reducible refine (spinnakerref03_letter.calls a0 t215 _ A2.out).mono ?_); rintro e w' ⟨rfl, ⟨nd, rfl⟩⟩; refine ⟨_, rfl, ?_⟩))
    go_ret
    exact ⟨by first | rfl | (simp; done) | (simp [*]; done), by repeat (first | exact Drawn0.refl _ | apply Drawn0.step)⟩
   ·rw [if_neg c5] at H
    have c5b0 : (t215 == 73) = false := beq_eq_false_iff_ne.mpr c5
    have c5b1 : (t215 != 73) = true := bne_iff_ne.mpr c5
    by_cases c6 : t215 = 66
    ·rw [if_pos c6] at H
     have c6b0 : (t215 == 66) = true := beq_iff_eq.mpr c6
     have c6b1 : (t215 != 66) = false := bne_eq_false_iff_eq.mpr c6
     clear c6
     obtain rfl := Option.some.inj H
     go_enter Tryd.func84, Tryd.ntmps84
     go_wp2_with (first | ((with_reducible refine gate_callee (f := 75) rfl ?_); refine goesL_ (some 4) rfl rfl Tryd.func75 (by kernel_rfl) rfl #[.int .i64 a0] rfl (by (try simp only [List.map_toArray, List.map_cons, List.map_nil]); first | done | rfl | (simp only [List.length_drop, List.length_take]; rfl)) ?_; (with_reducible refine (spinnakerref03_letter.calls a0 t215 _ A2.out).mono ?_); rintro e w' ⟨rfl, ⟨nd, rfl⟩⟩; refine ⟨_, rfl, ?_⟩))
     go_ret
     exact ⟨by first | rfl | (simp; done) | (simp [*]; done), by repeat (first | exact Drawn0.refl _ | apply Drawn0.step)⟩
    ·rw [if_neg c6] at H
     have c6b0 : (t215 == 66) = false := beq_eq_false_iff_ne.mpr c6
     have c6b1 : (t215 != 66) = true := bne_iff_ne.mpr c6
     by_cases c7 : t215 = 83
     ·rw [if_pos c7] at H
      have c7b0 : (t215 == 83) = true := beq_iff_eq.mpr c7
      have c7b1 : (t215 != 83) = false := bne_eq_false_iff_eq.mpr c7
      clear c7
      obtain rfl := Option.some.inj H
      go_enter Tryd.func84, Tryd.ntmps84
      go_wp2_with (first | ((with_reducible refine gate_callee (f := 75) rfl ?_); refine goesL_ (some 4) rfl rfl Tryd.func75 (by kernel_rfl) rfl #[.int .i64 a0] rfl (by (try simp only [List.map_toArray, List.map_cons, List.map_nil]); first | done | rfl | (simp only [List.length_drop, List.length_take]; rfl)) ?_; (with_reducible refine (spinnakerref03_letter.calls a0 t215 _ A2.out).mono ?_); rintro e w' ⟨rfl, ⟨nd, rfl⟩⟩; refine ⟨_, rfl, ?_⟩))
      go_ret
      exact ⟨by first | rfl | (simp; done) | (simp [*]; done), by repeat (first | exact Drawn0.refl _ | apply Drawn0.step)⟩
     ·rw [if_neg c7] at H
      have c7b0 : (t215 == 83) = false := beq_eq_false_iff_ne.mpr c7
      have c7b1 : (t215 != 83) = true := bne_iff_ne.mpr c7
      by_cases c8 : t215 = 82
      ·rw [if_pos c8] at H
       have c8b0 : (t215 == 82) = true := beq_iff_eq.mpr c8
       have c8b1 : (t215 != 82) = false := bne_eq_false_iff_eq.mpr c8
       clear c8
       obtain rfl := Option.some.inj H
       go_enter Tryd.func84, Tryd.ntmps84
       go_wp2_with (first | ((with_reducible refine gate_callee (f := 75) rfl ?_); refine goesL_ (some 4) rfl rfl Tryd.func75 (by kernel_rfl) rfl #[.int .i64 a0] rfl (by (try simp only [List.map_toArray, List.map_cons, List.map_nil]); first | done | rfl | (simp only [List.length_drop, List.length_take]; rfl)) ?_; (with_reducible refine (spinnakerref03_letter.calls a0 t215 _ A2.out).mono ?_); rintro e w' ⟨rfl, ⟨nd, rfl⟩⟩; refine ⟨_, rfl, ?_⟩))
       go_ret
       exact ⟨by first | rfl | (simp; done) | (simp [*]; done), by repeat (first | exact Drawn0.refl _ | apply Drawn0.step)⟩
      ·rw [if_neg c8] at H
       have c8b0 : (t215 == 82) = false := beq_eq_false_iff_ne.mpr c8
       have c8b1 : (t215 != 82) = true := bne_iff_ne.mpr c8
       by_cases c9 : t215 = 72
       ·rw [if_pos c9] at H
        have c9b0 : (t215 == 72) = true := beq_iff_eq.mpr c9
        have c9b1 : (t215 != 72) = false := bne_eq_false_iff_eq.mpr c9
        clear c9
        obtain rfl := Option.some.inj H
        go_enter Tryd.func84, Tryd.ntmps84
        go_wp2_with (first | ((with_reducible refine gate_callee (f := 75) rfl ?_); refine goesL_ (some 4) rfl rfl Tryd.func75 (by kernel_rfl) rfl #[.int .i64 a0] rfl (by (try simp only [List.map_toArray, List.map_cons, List.map_nil]); first | done | rfl | (simp only [List.length_drop, List.length_take]; rfl)) ?_; (with_reducible refine (spinnakerref03_letter.calls a0 t215 _ A2.out).mono ?_); rintro e w' ⟨rfl, ⟨nd, rfl⟩⟩; refine ⟨_, rfl, ?_⟩))
        go_ret
        exact ⟨by first | rfl | (simp; done) | (simp [*]; done), by repeat (first | exact Drawn0.refl _ | apply Drawn0.step)⟩
       ·rw [if_neg c9] at H
        have c9b0 : (t215 == 72) = false := beq_eq_false_iff_ne.mpr c9
        have c9b1 : (t215 != 72) = true := bne_iff_ne.mpr c9
        by_cases c10 : t215 = 87
        ·rw [if_pos c10] at H
         have c10b0 : (t215 == 87) = true := beq_iff_eq.mpr c10
         have c10b1 : (t215 != 87) = false := bne_eq_false_iff_eq.mpr c10
         clear c10
         obtain rfl := Option.some.inj H
         go_enter Tryd.func84, Tryd.ntmps84
         go_wp2_with (first | ((with_reducible refine gate_callee (f := 75) rfl ?_); refine goesL_ (some 4) rfl rfl Tryd.func75 (by kernel_rfl) rfl #[.int .i64 a0] rfl (by (try simp only [List.map_toArray, List.map_cons, List.map_nil]); first | done | rfl | (simp only [List.length_drop, List.length_take]; rfl)) ?_; (with_reducible refine (spinnakerref03_letter.calls a0 t215 _ A2.out).mono ?_); rintro e w' ⟨rfl, ⟨nd, rfl⟩⟩; refine ⟨_, rfl, ?_⟩))
         go_ret
         exact ⟨by first | rfl | (simp; done) | (simp [*]; done), by repeat (first | exact Drawn0.refl _ | apply Drawn0.step)⟩
        ·rw [if_neg c10] at H
         have c10b0 : (t215 == 87) = false := beq_eq_false_iff_ne.mpr c10
         have c10b1 : (t215 != 87) = true := bne_iff_ne.mpr c10
         by_cases c11 : t215 = 70
         ·rw [if_pos c11] at H
          have c11b0 : (t215 == 70) = true := beq_iff_eq.mpr c11
          have c11b1 : (t215 != 70) = false := bne_eq_false_iff_eq.mpr c11
          clear c11
          obtain rfl := Option.some.inj H
          go_enter Tryd.func84, Tryd.ntmps84
          go_wp2_with (first | ((with_reducible refine gate_callee (f := 75) rfl ?_); refine goesL_ (some 4) rfl rfl Tryd.func75 (by kernel_rfl) rfl #[.int .i64 a0] rfl (by (try simp only [List.map_toArray, List.map_cons, List.map_nil]); first | done | rfl | (simp only [List.length_drop, List.length_take]; rfl)) ?_; (with_reducible refine (spinnakerref03_letter.calls a0 t215 _ A2.out).mono ?_); rintro e w' ⟨rfl, ⟨nd, rfl⟩⟩; refine ⟨_, rfl, ?_⟩))
          go_ret
          exact ⟨by first | rfl | (simp; done) | (simp [*]; done), by repeat (first | exact Drawn0.refl _ | apply Drawn0.step)⟩
         ·rw [if_neg c11] at H
          have c11b0 : (t215 == 70) = false := beq_eq_false_iff_ne.mpr c11
          have c11b1 : (t215 != 70) = true := bne_iff_ne.mpr c11
          by_cases c12 : t215 = 78
          ·rw [if_pos c12] at H
           have c12b0 : (t215 == 78) = true := beq_iff_eq.mpr c12
           have c12b1 : (t215 != 78) = false := bne_eq_false_iff_eq.mpr c12
           clear c12
           obtain rfl := Option.some.inj H
           go_enter Tryd.func84, Tryd.ntmps84
           go_wp2_with (first | ((with_reducible refine gate_callee (f := 75) rfl ?_); refine goesL_ (some 4) rfl rfl Tryd.func75 (by kernel_rfl) rfl #[.int .i64 a0] rfl (by (try simp only [List.map_toArray, List.map_cons, List.map_nil]); first | done | rfl | (simp only [List.length_drop, List.length_take]; rfl)) ?_; (with_reducible refine (spinnakerref03_letter.calls a0 t215 _ A2.out).mono ?_); rintro e w' ⟨rfl, ⟨nd, rfl⟩⟩; refine ⟨_, rfl, ?_⟩))
           go_ret
           exact ⟨by first | rfl | (simp; done) | (simp [*]; done), by repeat (first | exact Drawn0.refl _ | apply Drawn0.step)⟩
          ·rw [if_neg c12] at H
           have c12b0 : (t215 == 78) = false := beq_eq_false_iff_ne.mpr c12
           have c12b1 : (t215 != 78) = true := bne_iff_ne.mpr c12
           by_cases c13 : t215 = 76
           ·rw [if_pos c13] at H
            have c13b0 : (t215 == 76) = true := beq_iff_eq.mpr c13
            have c13b1 : (t215 != 76) = false := bne_eq_false_iff_eq.mpr c13
            clear c13
            obtain rfl := Option.some.inj H
            go_enter Tryd.func84, Tryd.ntmps84
            go_wp2_with (first | ((with_reducible refine gate_callee (f := 75) rfl ?_); refine goesL_ (some 4) rfl rfl Tryd.func75 (by kernel_rfl) rfl #[.int .i64 a0] rfl (by (try simp only [List.map_toArray, List.map_cons, List.map_nil]); first | done | rfl | (simp only [List.length_drop, List.length_take]; rfl)) ?_; (with_reducible refine (spinnakerref03_letter.calls a0 t215 _ A2.out).mono ?_); rintro e w' ⟨rfl, ⟨nd, rfl⟩⟩; refine ⟨_, rfl, ?_⟩))
            go_ret
            exact ⟨by first | rfl | (simp; done) | (simp [*]; done), by repeat (first | exact Drawn0.refl _ | apply Drawn0.step)⟩
           ·rw [if_neg c13] at H
            have c13b0 : (t215 == 76) = false := beq_eq_false_iff_ne.mpr c13
            have c13b1 : (t215 != 76) = true := bne_iff_ne.mpr c13
            by_cases c14 : t215 = 65
            ·rw [if_pos c14] at H
             have c14b0 : (t215 == 65) = true := beq_iff_eq.mpr c14
             have c14b1 : (t215 != 65) = false := bne_eq_false_iff_eq.mpr c14
             clear c14
             obtain rfl := Option.some.inj H
             go_enter Tryd.func84, Tryd.ntmps84
             go_wp2_with (first | ((with_reducible refine gate_callee (f := 75) rfl ?_); refine goesL_ (some 4) rfl rfl Tryd.func75 (by kernel_rfl) rfl #[.int .i64 a0] rfl (by (try simp only [List.map_toArray, List.map_cons, List.map_nil]); first | done | rfl | (simp only [List.length_drop, List.length_take]; rfl)) ?_; (with_reducible refine (spinnakerref03_letter.calls a0 t215 _ A2.out).mono ?_); rintro e w' ⟨rfl, ⟨nd, rfl⟩⟩; refine ⟨_, rfl, ?_⟩))
             go_ret
             exact ⟨by first | rfl | (simp; done) | (simp [*]; done), by repeat (first | exact Drawn0.refl _ | apply Drawn0.step)⟩
            ·rw [if_neg c14] at H
             have c14b0 : (t215 == 65) = false := beq_eq_false_iff_ne.mpr c14
             have c14b1 : (t215 != 65) = true := bne_iff_ne.mpr c14
             obtain rfl := Option.some.inj H
             go_enter Tryd.func84, Tryd.ntmps84
             go_wp2_with (first | ((with_reducible refine gate_callee (f := 75) rfl ?_); refine goesL_ (some 4) rfl rfl Tryd.func75 (by kernel_rfl) rfl #[.int .i64 a0] rfl (by (try simp only [List.map_toArray, List.map_cons, List.map_nil]); first | done | rfl | (simp only [List.length_drop, List.length_take]; rfl)) ?_; (with_reducible refine (spinnakerref03_letter.calls a0 t215 _ A2.out).mono ?_); rintro e w' ⟨rfl, ⟨nd, rfl⟩⟩; refine ⟨_, rfl, ?_⟩))
             go_ret
             exact ⟨by first | rfl | (simp; done) | (simp [*]; done), by repeat (first | exact Drawn0.refl _ | apply Drawn0.step)⟩

end Go.Proofs.YtbmjbidekmkboaaDoor.GUnitExpands
