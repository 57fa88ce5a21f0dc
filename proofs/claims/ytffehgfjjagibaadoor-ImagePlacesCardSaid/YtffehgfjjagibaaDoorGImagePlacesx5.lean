-- Written by wip/stub.py of this repo.
import Derived.Test.YtffehgfjjagibaaDoorGImagePlacesx0
import Derived.Test.YtffehgfjjagibaaDoorGImagePlacesx3
import Derived.Test.YtffehgfjjagibaaDoorGImagePlacesx4
namespace Go.Proofs.YtffehgfjjagibaaDoor.GImagePlaces
open Go.RowKit Go.Proofs.YtffehgfjjagibaaDoorW.PrintWords Go.Proofs.YtffehgfjjagibaaDoorW.PrintLast Go.Proofs.YtffehgfjjagibaaDoorW.PrintMore
attribute [local go_sem] max2_int min2_int max_two min_two max_three min_three max_four min_four   -- for this text's walks alone
set_option linter.unusedVariables false
set_option linter.unusedSimpArgs false

/-! ### isa_register: function 65 -/
def isa_register.f (a0 : Int) (a1 : Bool) : Option (Bool) := if a0 ≥ 0 then (if a0 < 32 then (if a1 = true then (some true) else (some (a0 == 0))) else (some false)) else (some false)
set_option maxHeartbeats 8000000 in
set_option maxRecDepth 100000 in
theorem isa_register.calls (a0 : Int) (a1 : Bool) (r : Bool) (w : World) (h : isa_register.f a0 a1 = some r) :
  Calls Tryd.prog 65 #[.int .i64 a0, .bool a1] w fun e w' => e = .returned (.bool r) ∧ Drawn0 w w' := by
 have H : (if a0 ≥ 0 then (if a0 < 32 then (if a1 = true then (some true) else (some (a0 == 0))) else (some false)) else (some false)) = some r := h
 clear h
 by_cases c3 : a0 ≥ 0
 ·rw [if_pos c3] at H
  have c3b0 := decide_eq_true c3
  clear c3
  by_cases c4 : a0 < 32
  ·rw [if_pos c4] at H
   have c4b0 := decide_eq_true c4
   clear c4
   by_cases c5 : a1 = true
   ·subst c5
    have H1 : (some true) = some r := by rw [if_pos rfl] at H; exact H
    clear H
    have H := H1
    clear H1
    obtain rfl := Option.some.inj H
    go_enter Tryd.func65, Tryd.ntmps65
    go_wp2
    go_ret
    exact ⟨fj, fd⟩
   ·replace c5 := Bool.eq_false_iff.mpr c5
    subst c5
    have H1 : (some (a0 == 0)) = some r := by rw [if_neg (show ¬ (false = true) by decide)] at H; exact H
    clear H
    have H := H1
    clear H1
    obtain rfl := Option.some.inj H
    go_enter Tryd.func65, Tryd.ntmps65
    go_wp2
    go_ret
    exact ⟨fj, fd⟩
  ·rw [if_neg c4] at H
   have c4b0 := decide_eq_false c4
   clear c4
   obtain rfl := Option.some.inj H
   go_enter Tryd.func65, Tryd.ntmps65
   go_wp2
   go_ret
   exact ⟨fj, fd⟩
 ·rw [if_neg c3] at H
  have c3b0 := decide_eq_false c3
  clear c3
  obtain rfl := Option.some.inj H
  go_enter Tryd.func65, Tryd.ntmps65
  go_wp2
  go_ret
  exact ⟨fj, fd⟩

/-! ### word_Fits: function 88 -/
def word_Fits.f (a0 : Int) (a1 : Int) : Option (Bool) := if a1 < 1 then (some false) else (if a1 > 64 then (some false) else (if 0 ≤ (wrap64 (64 - a1)) then (some ((shr .i64 (wrap64 (shl .u64 (IntKind.u64.wrap (a0)) (wrap64 (64 - a1)))) (wrap64 (64 - a1))) == a0)) else (none)))
set_option maxHeartbeats 8000000 in
set_option maxRecDepth 100000 in
theorem word_Fits.calls (a0 : Int) (a1 : Int) (r : Bool) (w : World) (h : word_Fits.f a0 a1 = some r) :
  Calls Tryd.prog 88 #[.int .i64 a0, .int .i64 a1] w fun e w' => e = .returned (.bool r) ∧ Drawn0 w w' := by
 have H : (if a1 < 1 then (some false) else (if a1 > 64 then (some false) else (if 0 ≤ (wrap64 (64 - a1)) then (some ((shr .i64 (wrap64 (shl .u64 (IntKind.u64.wrap (a0)) (wrap64 (64 - a1)))) (wrap64 (64 - a1))) == a0)) else (none)))) = some r := h
 clear h
 by_cases c3 : a1 < 1
 ·rw [if_pos c3] at H
  have c3b0 := decide_eq_true c3
  clear c3
  obtain rfl := Option.some.inj H
  go_enter Tryd.func88, Tryd.ntmps88
  go_wp2
  go_ret
  exact ⟨fj, fd⟩
 ·rw [if_neg c3] at H
  have c3b0 := decide_eq_false c3
  clear c3
  by_cases c4 : a1 > 64
  ·rw [if_pos c4] at H
   have c4b0 := decide_eq_true c4
   clear c4
   obtain rfl := Option.some.inj H
   go_enter Tryd.func88, Tryd.ntmps88
   go_wp2
   go_ret
   exact ⟨fj, fd⟩
  ·rw [if_neg c4] at H
   have c4b0 := decide_eq_false c4
   clear c4
   obtain ⟨ji5, hji5⟩ : ∃ j_ : Int, (wrap64 (64 - a1)) = j_ := ⟨_, rfl⟩
   replace H : (if 0 ≤ (ji5) then (some ((shr .i64 (wrap64 (shl .u64 (IntKind.u64.wrap (a0)) (ji5))) (ji5)) == a0)) else (none)) = some r := by first | (rw [hji5] at H; exact H) | (simp only [hji5] at H ⊢; exact H)
   have hji5w : (IntKind.i64.wrap (64 - a1)) = ji5 := (i64_w _).trans hji5
   by_cases c6 : 0 ≤ (ji5)
   ·rw [if_pos c6] at H
    have c6b0 := eq_true c6
    have c6b1 : decide (0 ≤ (ji5)) = true := decide_eq_true c6
    clear c6
    obtain ⟨ji7, hji7⟩ : ∃ j_ : Int, (shl .u64 (IntKind.u64.wrap (a0)) (ji5)) = j_ := ⟨_, rfl⟩
    replace H : (some ((shr .i64 (wrap64 (ji7)) (ji5)) == a0)) = some r := by first | (rw [hji7] at H; exact H) | (simp only [hji7] at H ⊢; exact H)
    have hji7_ : (IntKind.u64.wrap ((IntKind.u64.wrap (a0)) * 2 ^ min (ji5).toNat 64)) = ji7 := hji7
    have hji7z : (ji5) ≤ 64 → (IntKind.u64.wrap ((IntKind.u64.wrap (a0)) * 2 ^ (ji5).toNat)) = ji7 := shl_small hji7
    have c8b0 := eq_true (of_decide_eq_true (by first | (with_reducible assumption) | assumption) : 0 ≤ (ji5))
    obtain ⟨ji9, hji9⟩ : ∃ j_ : Int, (shr .i64 (wrap64 (ji7)) (ji5)) = j_ := ⟨_, rfl⟩
    replace H : (some ((ji9) == a0)) = some r := by first | (rw [hji9] at H; exact H) | (simp only [hji9] at H ⊢; exact H)
    have hji9_ : ((wrap64 (ji7)) / 2 ^ min (ji5).toNat 64) = ji9 := hji9
    have hji9z : (ji5) ≤ 64 → ((wrap64 (ji7)) / 2 ^ (ji5).toNat) = ji9 := shr_small hji9
    obtain rfl := Option.some.inj H
    go_enter Tryd.func88, Tryd.ntmps88
    go_wp2
    go_ret
    exact ⟨by first | rfl | (simp; done) | (simp only [← hji5, ← hji7, ← hji9] <;> (first | rfl | simp)) | (simp [*]; done), fd⟩
   ·rw [if_neg c6] at H
    exact absurd H (by simp)

/-! ### isa_immediate: function 66 -/
def isa_immediate.j0 : Nat → Int → Int → Bool → Option (Bool)
  | 0, _, _, _ => none
  | k + 1, x1, x5, x28 => if x28 = true then ((word_Fits.f x1 12).bind fun t169 => (some t169)) else (if x5 = 7 then ((isa_in.f x1 0 63).bind fun t170 => (some t170)) else (if x5 = 8 then ((isa_in.f x1 0 31).bind fun t171 => (some t171)) else (if x5 = 9 then ((isa_in.f x1 0 255).bind fun t172 => (some t172)) else (some (x1 == 0)))))
def isa_immediate.f (k : Nat) (a0 : Int) (a1 : Int) : Option (Bool) := if a0 = 1 then ((word_Fits.f a1 20).bind fun t166 => (some t166)) else (if a0 = 2 then ((word_Fits.f a1 21).bind fun t167 => (if t167 = true then (some ((Int.tmod a1 2) == 0)) else (some false))) else (if a0 = 4 then ((word_Fits.f a1 13).bind fun t168 => (if t168 = true then (some ((Int.tmod a1 2) == 0)) else (some false))) else (if a0 = 3 then (isa_immediate.j0 k a1 a0 (a0 == 3)) else (isa_immediate.j0 k a1 a0 (a0 == 5)))))
theorem isa_immediate.mono_l : ∀ k, (∀ y0 y1 y2, LeO (isa_immediate.j0 k y0 y1 y2) (isa_immediate.j0 (k + 1) y0 y1 y2))
 | 0 => fun _ _ _ r h => by simp [isa_immediate.j0] at h
 | k + 1 => by
  have ih0 := isa_immediate.mono_l k
  ·intro y0 y1 y2
   unfold isa_immediate.j0
   repeat' first | (with_reducible first | exact ih0 _ _ _ | exact LeO.refl _ | exact LeO.none _ | refine LeO.ite ?_ ?_ | refine LeO.bind ?_ (fun _ => ?_)) | exact ih0 _ _ _ | exact LeO.none _ | refine LeO.ite ?_ ?_ | refine LeO.bind ?_ (fun _ => ?_)
theorem isa_immediate.mono : ∀ a0 a1 k, LeO (isa_immediate.f k a0 a1) (isa_immediate.f (k + 1) a0 a1) := by
 intro a0 a1 k
 have ih0 := isa_immediate.mono_l k
 unfold isa_immediate.f
 repeat' first | (with_reducible first | exact ih0 _ _ _ | exact LeO.refl _ | exact LeO.none _ | refine LeO.ite ?_ ?_ | refine LeO.bind ?_ (fun _ => ?_)) | exact ih0 _ _ _ | exact LeO.none _ | refine LeO.ite ?_ ?_ | refine LeO.bind ?_ (fun _ => ?_)
set_option maxHeartbeats 8000000 in
set_option maxRecDepth 100000 in
theorem isa_immediate.calls (k : Nat) (a0 : Int) (a1 : Int) (r : Bool) (w : World) (h : isa_immediate.f k a0 a1 = some r) :
  Calls Tryd.prog 66 #[.int .i64 a0, .int .i64 a1] w fun e w' => e = .returned (.bool r) ∧ Drawn0 w w' := by
 have H : (if a0 = 1 then ((word_Fits.f a1 20).bind fun t166 => (some t166)) else (if a0 = 2 then ((word_Fits.f a1 21).bind fun t167 => (if t167 = true then (some ((Int.tmod a1 2) == 0)) else (some false))) else (if a0 = 4 then ((word_Fits.f a1 13).bind fun t168 => (if t168 = true then (some ((Int.tmod a1 2) == 0)) else (some false))) else (if a0 = 3 then (isa_immediate.j0 k a1 a0 (a0 == 3)) else (isa_immediate.j0 k a1 a0 (a0 == 5)))))) = some r := h
 clear h
 by_cases c3 : a0 = 1
 ·rw [if_pos c3] at H
  obtain ⟨c3b0, c3b1⟩ := eqs c3
  clear c3
  replace H := be H
  obtain ⟨t166, A4, H⟩ := H
  obtain rfl := Option.some.inj H
  go_enter Tryd.func66, Tryd.ntmps66
  go_wp2_with (first | ((with_reducible refine gate_callee (f := 88) rfl ?_); refine goesL_ (some 9) rfl rfl Tryd.func88 (by kernel_rfl) rfl #[.int .i64 a1, .int .i64 20] rfl ga ?_; (with_reducible refine (word_Fits.calls a1 20 t166 _ A4.out).mono ?_); rintro e w' ⟨rfl, ⟨nd, rfl⟩⟩; refine ⟨_, rfl, ?_⟩))
  go_ret
  exact ⟨fj, fd⟩
 ·rw [if_neg c3] at H
  have c3b0 : (a0 == 1) = false := beq_eq_false_iff_ne.mpr c3
  have c3b1 : (a0 != 1) = true := bne_iff_ne.mpr c3
  by_cases c5 : a0 = 2
  ·rw [if_pos c5] at H
   obtain ⟨c5b0, c5b1⟩ := eqs c5
   clear c5
   replace H := be H
   obtain ⟨t167, A6, H⟩ := H
   by_cases c7 : t167 = true
   ·subst c7
    have H1 : (some ((Int.tmod a1 2) == 0)) = some r := by rw [if_pos rfl] at H; exact H
    clear H
    have H := H1
    clear H1
    obtain rfl := Option.some.inj H
    go_enter Tryd.func66, Tryd.ntmps66
    go_wp2_with (first | ((with_reducible refine gate_callee (f := 88) rfl ?_); refine goesL_ (some 13) rfl rfl Tryd.func88 (by kernel_rfl) rfl #[.int .i64 a1, .int .i64 21] rfl ga ?_; (with_reducible refine (word_Fits.calls a1 21 true _ A6.out).mono ?_); rintro e w' ⟨rfl, ⟨nd, rfl⟩⟩; refine ⟨_, rfl, ?_⟩))
    go_ret
    exact ⟨fj, fd⟩
   ·replace c7 := Bool.eq_false_iff.mpr c7
    subst c7
    have H1 : (some false) = some r := by rw [if_neg (show ¬ (false = true) by decide)] at H; exact H
    clear H
    have H := H1
    clear H1
    obtain rfl := Option.some.inj H
    go_enter Tryd.func66, Tryd.ntmps66
    go_wp2_with (first | ((with_reducible refine gate_callee (f := 88) rfl ?_); refine goesL_ (some 13) rfl rfl Tryd.func88 (by kernel_rfl) rfl #[.int .i64 a1, .int .i64 21] rfl ga ?_; (with_reducible refine (word_Fits.calls a1 21 false _ A6.out).mono ?_); rintro e w' ⟨rfl, ⟨nd, rfl⟩⟩; refine ⟨_, rfl, ?_⟩))
    go_ret
    exact ⟨fj, fd⟩
  ·rw [if_neg c5] at H
   have c5b0 : (a0 == 2) = false := beq_eq_false_iff_ne.mpr c5
   have c5b1 : (a0 != 2) = true := bne_iff_ne.mpr c5
   by_cases c8 : a0 = 4
   ·rw [if_pos c8] at H
    obtain ⟨c8b0, c8b1⟩ := eqs c8
    clear c8
    replace H := be H
    obtain ⟨t168, A9, H⟩ := H
    by_cases c10 : t168 = true
    ·subst c10
     have H1 : (some ((Int.tmod a1 2) == 0)) = some r := by rw [if_pos rfl] at H; exact H
     clear H
     have H := H1
     clear H1
     obtain rfl := Option.some.inj H
     go_enter Tryd.func66, Tryd.ntmps66
     go_wp2_with (first | ((with_reducible refine gate_callee (f := 88) rfl ?_); refine goesL_ (some 22) rfl rfl Tryd.func88 (by kernel_rfl) rfl #[.int .i64 a1, .int .i64 13] rfl ga ?_; (with_reducible refine (word_Fits.calls a1 13 true _ A9.out).mono ?_); rintro e w' ⟨rfl, ⟨nd, rfl⟩⟩; refine ⟨_, rfl, ?_⟩))
     go_ret
     exact ⟨fj, fd⟩
    ·replace c10 := Bool.eq_false_iff.mpr c10
     subst c10
     have H1 : (some false) = some r := by rw [if_neg (show ¬ (false = true) by decide)] at H; exact H
     clear H
     have H := H1
     clear H1
     obtain rfl := Option.some.inj H
     go_enter Tryd.func66, Tryd.ntmps66
     go_wp2_with (first | ((with_reducible refine gate_callee (f := 88) rfl ?_); refine goesL_ (some 22) rfl rfl Tryd.func88 (by kernel_rfl) rfl #[.int .i64 a1, .int .i64 13] rfl ga ?_; (with_reducible refine (word_Fits.calls a1 13 false _ A9.out).mono ?_); rintro e w' ⟨rfl, ⟨nd, rfl⟩⟩; refine ⟨_, rfl, ?_⟩))
     go_ret
     exact ⟨fj, fd⟩
   ·rw [if_neg c8] at H
    have c8b0 : (a0 == 4) = false := beq_eq_false_iff_ne.mpr c8
    have c8b1 : (a0 != 4) = true := bne_iff_ne.mpr c8
    have HC11 := Aside0.mk H
    clear H
    go_enter Tryd.func66, Tryd.ntmps66
    go_upto_if 28 with (fail)
    go_cut [28] (fun v28 wc => ∃ (kq : Nat) (x28_10 : Bool), v28 = .bool x28_10 ∧ Aside0 (isa_immediate.j0 kq a1 a0 x28_10 = some r) ∧ Aside0 (kq ≤ k) ∧ Drawn0 w wc)
    case first =>
     have H := HC11.out
     clear HC11
     by_cases c12 : a0 = 3
     ·rw [if_pos c12] at H
      obtain ⟨c12b0, c12b1⟩ := eqs c12
      clear c12
      (first | rw [c12b0] | (simp only [i64_w, i32_w]; rw [c12b0]) | skip)
      have H' := Aside0.mk H
      clear H
      go_wp2
      go_meet
      case rel => exact ⟨_, ((a0 == 3)), fj, H', ⟨by first | omega | exact Nat.le_refl _⟩, fd⟩
     ·rw [if_neg c12] at H
      have c12b0 : (a0 == 3) = false := beq_eq_false_iff_ne.mpr c12
      have c12b1 : (a0 != 3) = true := bne_iff_ne.mpr c12
      (first | rw [c12b0] | (simp only [i64_w, i32_w]; rw [c12b0]) | skip)
      have H' := Aside0.mk H
      clear H
      go_wp2
      go_meet
      case rel => exact ⟨_, ((a0 == 5)), fj, H', ⟨by first | omega | exact Nat.le_refl _⟩, fd⟩
    case rest =>
     clear HC11
     try clear c1
     try clear p2
     try clear c3
     try clear c3b0
     try clear c3b1
     try clear c5
     try clear c5b0
     try clear c5b1
     try clear c6
     try clear c7
     try clear c8
     try clear c8b0
     try clear c8b1
     try clear c10
     try clear c12
     try clear c12b0
     try clear c12b1
     obtain ⟨kq, x28_10, rfl, HA, HJ10, ⟨mc10, rfl⟩⟩ := hcut
     cases kq with
     | zero => exact absurd HA.out (by simp [isa_immediate.j0])
     | succ kj10 =>
      have H := HA.out
      clear HA
      simp only [isa_immediate.j0] at H
      by_cases c13 : x28_10 = true
      ·subst c13
       have H1 : ((word_Fits.f a1 12).bind fun t169 => (some t169)) = some r := by rw [if_pos rfl] at H; exact H
       clear H
       have H := H1
       clear H1
       replace H := be H
       obtain ⟨t169, A14, H⟩ := H
       obtain rfl := Option.some.inj H
       go_wp2_with (first | ((with_reducible refine gate_callee (f := 88) rfl ?_); refine goesL_ (some 32) rfl rfl Tryd.func88 (by kernel_rfl) rfl #[.int .i64 a1, .int .i64 12] rfl ga ?_; (with_reducible refine (word_Fits.calls a1 12 t169 _ A14.out).mono ?_); rintro e w' ⟨rfl, ⟨nd, rfl⟩⟩; refine ⟨_, rfl, ?_⟩))
       go_ret
       exact ⟨fj, fd⟩
      ·replace c13 := Bool.eq_false_iff.mpr c13
       subst c13
       have H1 : (if a0 = 7 then ((isa_in.f a1 0 63).bind fun t170 => (some t170)) else (if a0 = 8 then ((isa_in.f a1 0 31).bind fun t171 => (some t171)) else (if a0 = 9 then ((isa_in.f a1 0 255).bind fun t172 => (some t172)) else (some (a1 == 0))))) = some r := by rw [if_neg (show ¬ (false = true) by decide)] at H; exact H
       clear H
       have H := H1
       clear H1
       by_cases c15 : a0 = 7
       ·rw [if_pos c15] at H
        obtain ⟨c15b0, c15b1⟩ := eqs c15
        clear c15
        replace H := be H
        obtain ⟨t170, A16, H⟩ := H
        obtain rfl := Option.some.inj H
        go_wp2_with (first | ((with_reducible refine gate_callee (f := 74) rfl ?_); refine goesL_ (some 36) rfl rfl Tryd.func74 (by kernel_rfl) rfl #[.int .i64 a1, .int .i64 0, .int .i64 63] rfl ga ?_; (with_reducible refine (isa_in.calls a1 0 63 t170 _ A16.out).mono ?_); rintro e w' ⟨rfl, ⟨nd, rfl⟩⟩; refine ⟨_, rfl, ?_⟩))
        go_ret
        exact ⟨fj, fd⟩
       ·rw [if_neg c15] at H
        have c15b0 : (a0 == 7) = false := beq_eq_false_iff_ne.mpr c15
        have c15b1 : (a0 != 7) = true := bne_iff_ne.mpr c15
        by_cases c17 : a0 = 8
        ·rw [if_pos c17] at H
         obtain ⟨c17b0, c17b1⟩ := eqs c17
         clear c17
         replace H := be H
         obtain ⟨t171, A18, H⟩ := H
         obtain rfl := Option.some.inj H
         go_wp2_with (first | ((with_reducible refine gate_callee (f := 74) rfl ?_); refine goesL_ (some 40) rfl rfl Tryd.func74 (by kernel_rfl) rfl #[.int .i64 a1, .int .i64 0, .int .i64 31] rfl ga ?_; (with_reducible refine (isa_in.calls a1 0 31 t171 _ A18.out).mono ?_); rintro e w' ⟨rfl, ⟨nd, rfl⟩⟩; refine ⟨_, rfl, ?_⟩))
         go_ret
         exact ⟨fj, fd⟩
        ·rw [if_neg c17] at H
         have c17b0 : (a0 == 8) = false := beq_eq_false_iff_ne.mpr c17
         have c17b1 : (a0 != 8) = true := bne_iff_ne.mpr c17
         by_cases c19 : a0 = 9
         ·rw [if_pos c19] at H
          obtain ⟨c19b0, c19b1⟩ := eqs c19
          clear c19
          replace H := be H
          obtain ⟨t172, A20, H⟩ := H
          obtain rfl := Option.some.inj H
          go_wp2_with (first | ((with_reducible refine gate_callee (f := 74) rfl ?_); refine goesL_ (some 44) rfl rfl Tryd.func74 (by kernel_rfl) rfl #[.int .i64 a1, .int .i64 0, .int .i64 255] rfl ga ?_; (with_reducible refine (isa_in.calls a1 0 255 t172 _ A20.out).mono ?_); rintro e w' ⟨rfl, ⟨nd, rfl⟩⟩; refine ⟨_, rfl, ?_⟩))
          go_ret
          exact ⟨fj, fd⟩
         ·rw [if_neg c19] at H
          have c19b0 : (a0 == 9) = false := beq_eq_false_iff_ne.mpr c19
          have c19b1 : (a0 != 9) = true := bne_iff_ne.mpr c19
          obtain rfl := Option.some.inj H
          go_wp2
          go_ret
          exact ⟨fj, fd⟩

/-! ### isa_May: function 37 -/
def isa_May.j0 : Nat → Int → Bool → Bool → Bool → Bool → Int → Int → Int → Int → Int → Bool → Bool → Option (Bool)
  | 0, _, _, _, _, _, _, _, _, _, _, _, _ => none
  | k + 1, x3, x4, x5, x6, x7, x174000, x174001, x174002, x174003, x174004, x174005, x174006 => (isa_register.f x174001 x4).bind fun t178 => (if t178 = true then ((isa_register.f x174002 x5).bind fun t179 => (if t179 = true then ((isa_register.f x174003 x6).bind fun t180 => (if t180 = true then ((isa_immediate.f k x3 x174004).bind fun t181 => (if t181 = true then (if x7 = true then (some true) else (if x174005 = true then (some false) else (some (!x174006)))) else (some false))) else (some false))) else (some false))) else (some false))
def isa_May.f (k : Nat) (a0_0 : Int) (a0_1 : Int) (a0_2 : Int) (a0_3 : Int) (a0_4 : Int) (a0_5 : Bool) (a0_6 : Bool) : Option (Bool) := (isa_Form.f k a0_0).bind fun t174 => (if t174 < 0 then (some false) else ((isa_fields.f k t174).bind fun bt175 => (if t174 = 10 then (isa_May.j0 k t174 bt175.1 bt175.2.1 bt175.2.2 true a0_0 a0_1 a0_2 a0_3 a0_4 a0_5 a0_6) else (isa_May.j0 k t174 bt175.1 bt175.2.1 bt175.2.2 (t174 == 11) a0_0 a0_1 a0_2 a0_3 a0_4 a0_5 a0_6))))
theorem isa_May.mono_l : ∀ k, (∀ y0 y1 y2 y3 y4 y5 y6 y7 y8 y9 y10 y11, LeO (isa_May.j0 k y0 y1 y2 y3 y4 y5 y6 y7 y8 y9 y10 y11) (isa_May.j0 (k + 1) y0 y1 y2 y3 y4 y5 y6 y7 y8 y9 y10 y11))
 | 0 => fun _ _ _ _ _ _ _ _ _ _ _ _ r h => by simp [isa_May.j0] at h
 | k + 1 => by
  have ih0 := isa_May.mono_l k
  ·intro y0 y1 y2 y3 y4 y5 y6 y7 y8 y9 y10 y11
   unfold isa_May.j0
   repeat' first | (with_reducible first | exact ih0 _ _ _ _ _ _ _ _ _ _ _ _ | exact isa_Form.mono _ _ | exact isa_fields.mono _ _ | exact isa_immediate.mono _ _ _ | exact LeO.refl _ | exact LeO.none _ | refine LeO.ite ?_ ?_ | refine LeO.bind ?_ (fun _ => ?_)) | exact ih0 _ _ _ _ _ _ _ _ _ _ _ _ | exact isa_Form.mono _ _ | exact isa_fields.mono _ _ | exact isa_immediate.mono _ _ _ | exact LeO.none _ | refine LeO.ite ?_ ?_ | refine LeO.bind ?_ (fun _ => ?_)
theorem isa_May.mono : ∀ a0 a1 a2 a3 a4 a5 a6 k, LeO (isa_May.f k a0 a1 a2 a3 a4 a5 a6) (isa_May.f (k + 1) a0 a1 a2 a3 a4 a5 a6) := by
 intro a0 a1 a2 a3 a4 a5 a6 k
 have ih0 := isa_May.mono_l k
 unfold isa_May.f
 repeat' first | (with_reducible first | exact ih0 _ _ _ _ _ _ _ _ _ _ _ _ | exact isa_Form.mono _ _ | exact isa_fields.mono _ _ | exact isa_immediate.mono _ _ _ | exact LeO.refl _ | exact LeO.none _ | refine LeO.ite ?_ ?_ | refine LeO.bind ?_ (fun _ => ?_)) | exact ih0 _ _ _ _ _ _ _ _ _ _ _ _ | exact isa_Form.mono _ _ | exact isa_fields.mono _ _ | exact isa_immediate.mono _ _ _ | exact LeO.none _ | refine LeO.ite ?_ ?_ | refine LeO.bind ?_ (fun _ => ?_)
set_option maxHeartbeats 8000000 in
set_option maxRecDepth 100000 in
theorem isa_May.calls (k : Nat) (a0_0 : Int) (a0_1 : Int) (a0_2 : Int) (a0_3 : Int) (a0_4 : Int) (a0_5 : Bool) (a0_6 : Bool) (r : Bool) (w : World) (hL : Laid w) (h : isa_May.f k a0_0 a0_1 a0_2 a0_3 a0_4 a0_5 a0_6 = some r) :
  Calls Tryd.prog 37 #[.agg #[.int .i64 a0_0, .int .i64 a0_1, .int .i64 a0_2, .int .i64 a0_3, .int .i64 a0_4, .bool a0_5, .bool a0_6]] w fun e w' => e = .returned (.bool r) ∧ Below w.heap.size w w' := by
 have HL := Aside0.mk hL
 clear hL
 have hu24 := Tryd.underlying24
 have HB := Aside0.mk (Below.refl w.heap.size w)
 have H : ((isa_Form.f k a0_0).bind fun t174 => (if t174 < 0 then (some false) else ((isa_fields.f k t174).bind fun bt175 => (if t174 = 10 then (isa_May.j0 k t174 bt175.1 bt175.2.1 bt175.2.2 true a0_0 a0_1 a0_2 a0_3 a0_4 a0_5 a0_6) else (isa_May.j0 k t174 bt175.1 bt175.2.1 bt175.2.2 (t174 == 11) a0_0 a0_1 a0_2 a0_3 a0_4 a0_5 a0_6))))) = some r := h
 clear h
 replace H := be H
 obtain ⟨t174, A2, H⟩ := H
 by_cases c3 : t174 < 0
 ·rw [if_pos c3] at H
  have c3b0 := decide_eq_true c3
  clear c3
  obtain rfl := Option.some.inj H
  go_enter Tryd.func37, Tryd.ntmps37
  go_wp2_with (first | ((with_reducible refine gate_dst (N := 1) rfl ?_); refine box_event ?hg (N := 1) ?hd (cs := #[.int .i64 a0_0, .int .i64 a0_1, .int .i64 a0_2, .int .i64 a0_3, .int .i64 a0_4, .bool a0_5, .bool a0_6]) (t := 24) ?hr ?_; (case hd => rfl); (case hg => rfl); (case hr => first | (go_simp; done) | (go_simp; rfl)); intro gb173 hg w4 hbox hb; obtain ⟨n0_, GW173⟩ := nb (w := w) hg hb; clear HB; have HB := n0_; have BK173 := Aside0.mk hbox; have GE173 := GW173; clear n0_ hb hbox hg; obtain ⟨hcz5_0, hcz5_1, hcz5_2, hcz5_3, hcz5_4, hcz5_5, hcz5_6, hfz5_0, hfz5_1, hfz5_2, hfz5_3, hfz5_4, hfz5_5, hfz5_6⟩ := cz7 (w := w4) BK173.out) | ((with_reducible refine gate_callee (f := 40) rfl ?_); refine goesL_ (some 10) rfl rfl Tryd.func40 (by kernel_rfl) rfl #[.int .i64 a0_0] rfl ga ?_; (with_reducible refine (isa_Form.calls k a0_0 t174 _ (by first | exact HL.out | exact laid_drewN HL.out | exact laid_below HL.out bl | exact laid_below HL.out HB.out | exact laid_belowd HL.out HB.out) A2.out).mono ?_); rintro e w' ⟨rfl, ⟨nd, rfl⟩⟩; refine ⟨_, rfl, ?_⟩))
  go_ret
  exact ⟨fi, bl⟩
 ·rw [if_neg c3] at H
  have c3b0 := decide_eq_false c3
  clear c3
  replace H := be H
  obtain ⟨⟨t175, t176, t177⟩, A6, H⟩ := H
  dsimp only at H
  have HC7 := Aside0.mk H
  clear H
  go_enter Tryd.func37, Tryd.ntmps37
  go_upto_region 5 with (first | ((with_reducible refine gate_dst (N := 1) rfl ?_); refine box_event ?hg (N := 1) ?hd (cs := #[.int .i64 a0_0, .int .i64 a0_1, .int .i64 a0_2, .int .i64 a0_3, .int .i64 a0_4, .bool a0_5, .bool a0_6]) (t := 24) ?hr ?_; (case hd => rfl); (case hg => rfl); (case hr => first | (go_simp; done) | (go_simp; rfl)); intro gb173 hg w8 hbox hb; obtain ⟨n0_, GW173⟩ := nb (w := w) hg hb; clear HB; have HB := n0_; have BK173 := Aside0.mk hbox; have GE173 := GW173; clear n0_ hb hbox hg; obtain ⟨hcz9_0, hcz9_1, hcz9_2, hcz9_3, hcz9_4, hcz9_5, hcz9_6, hfz9_0, hfz9_1, hfz9_2, hfz9_3, hfz9_4, hfz9_5, hfz9_6⟩ := cz7 (w := w8) BK173.out) | ((with_reducible refine gate_callee (f := 40) rfl ?_); refine goesL_ (some 10) rfl rfl Tryd.func40 (by kernel_rfl) rfl #[.int .i64 a0_0] rfl ga ?_; (with_reducible refine (isa_Form.calls k a0_0 t174 _ (by first | exact HL.out | exact laid_drewN HL.out | exact laid_below HL.out bl | exact laid_below HL.out HB.out | exact laid_belowd HL.out HB.out) A2.out).mono ?_); rintro e w' ⟨rfl, ⟨nd, rfl⟩⟩; refine ⟨_, rfl, ?_⟩) | ((with_reducible refine gate_callee (f := 64) rfl ?_); refine goesL_ (some 15) rfl rfl Tryd.func64 (by kernel_rfl) rfl #[.int .i64 t174] rfl ga ?_; (with_reducible refine (isa_fields.calls k t174 t175 t176 t177 _ A6.out).mono ?_); rintro e w' ⟨rfl, ⟨nd, rfl⟩⟩; refine ⟨_, rfl, ?_⟩))
  (try simp only [Act.put, List.setIfInBounds_toArray, List.set_cons_zero, List.set_cons_succ])
  go_cut [7] (fun v7 wc => ∃ (kq : Nat) (x7_6 : Bool), v7 = .bool x7_6 ∧ Aside0 (isa_May.j0 kq t174 t175 t176 t177 x7_6 a0_0 a0_1 a0_2 a0_3 a0_4 a0_5 a0_6 = some r) ∧ Aside0 (kq ≤ k) ∧ Aside0 (wc.heap[gb173]? = some (.cells #[.int .i64 a0_0, .int .i64 a0_1, .int .i64 a0_2, .int .i64 a0_3, .int .i64 a0_4, .bool a0_5, .bool a0_6] 24 (0, 0))) ∧ Aside0 (Below w.heap.size w wc))
  case first =>
   have H := HC7.out
   clear HC7
   by_cases c10 : t174 = 10
   ·rw [if_pos c10] at H
    obtain ⟨c10b0, c10b1⟩ := eqs c10
    clear c10
    (first | rw [c10b0] | (simp only [i64_w, i32_w]; rw [c10b0]) | skip)
    have H' := Aside0.mk H
    clear H
    go_wp2
    go_meet
    case rel => exact ⟨_, (true), fj, H', ⟨by first | omega | exact Nat.le_refl _⟩, ⟨by refine bx ?_; exact BK173.out⟩, ⟨bl⟩⟩
   ·rw [if_neg c10] at H
    have c10b0 : (t174 == 10) = false := beq_eq_false_iff_ne.mpr c10
    have c10b1 : (t174 != 10) = true := bne_iff_ne.mpr c10
    (first | rw [c10b0] | (simp only [i64_w, i32_w]; rw [c10b0]) | skip)
    have H' := Aside0.mk H
    clear H
    go_wp2
    go_meet
    case rel => exact ⟨_, ((t174 == 11)), fj, H', ⟨by first | omega | exact Nat.le_refl _⟩, ⟨by refine bx ?_; exact BK173.out⟩, ⟨bl⟩⟩
  case rest =>
   clear HC7
   try clear c1
   try clear p2
   try clear c3
   try clear c3b0
   try clear c4
   try clear c6
   try clear c10
   try clear c10b0
   try clear c10b1
   try clear hcz5_0 hcz5_1 hcz5_2 hcz5_3 hcz5_4 hcz5_5 hcz5_6
   try clear hcz9_0 hcz9_1 hcz9_2 hcz9_3 hcz9_4 hcz9_5 hcz9_6
   try clear hfz5_0 hfz5_1 hfz5_2 hfz5_3 hfz5_4 hfz5_5 hfz5_6
   try clear hfz9_0 hfz9_1 hfz9_2 hfz9_3 hfz9_4 hfz9_5 hfz9_6
   obtain ⟨kq, x7_6, rfl, HA, HJ6, BK173, HB⟩ := hcut
   cases kq with
   | zero => exact absurd HA.out (by simp [isa_May.j0])
   | succ kj6 =>
    have H := HA.out
    clear HA
    simp only [isa_May.j0] at H
    replace H := be H
    obtain ⟨t178, A11, H⟩ := H
    by_cases c12 : t178 = true
    ·subst c12
     have H1 : ((isa_register.f a0_2 t176).bind fun t179 => (if t179 = true then ((isa_register.f a0_3 t177).bind fun t180 => (if t180 = true then ((isa_immediate.f kj6 t174 a0_4).bind fun t181 => (if t181 = true then (if x7_6 = true then (some true) else (if a0_5 = true then (some false) else (some (!a0_6)))) else (some false))) else (some false))) else (some false))) = some r := by rw [if_pos rfl] at H; exact H
     clear H
     have H := H1
     clear H1
     replace H := be H
     obtain ⟨t179, A13, H⟩ := H
     by_cases c14 : t179 = true
     ·subst c14
      have H1 : ((isa_register.f a0_3 t177).bind fun t180 => (if t180 = true then ((isa_immediate.f kj6 t174 a0_4).bind fun t181 => (if t181 = true then (if x7_6 = true then (some true) else (if a0_5 = true then (some false) else (some (!a0_6)))) else (some false))) else (some false))) = some r := by rw [if_pos rfl] at H; exact H
      clear H
      have H := H1
      clear H1
      replace H := be H
      obtain ⟨t180, A15, H⟩ := H
      by_cases c16 : t180 = true
      ·subst c16
       have H1 : ((isa_immediate.f kj6 t174 a0_4).bind fun t181 => (if t181 = true then (if x7_6 = true then (some true) else (if a0_5 = true then (some false) else (some (!a0_6)))) else (some false))) = some r := by rw [if_pos rfl] at H; exact H
       clear H
       have H := H1
       clear H1
       replace H := be H
       obtain ⟨t181, A17, H⟩ := H
       by_cases c18 : t181 = true
       ·subst c18
        have H1 : (if x7_6 = true then (some true) else (if a0_5 = true then (some false) else (some (!a0_6)))) = some r := by rw [if_pos rfl] at H; exact H
        clear H
        have H := H1
        clear H1
        by_cases c19 : x7_6 = true
        ·subst c19
         have H1 : (some true) = some r := by rw [if_pos rfl] at H; exact H
         clear H
         have H := H1
         clear H1
         obtain rfl := Option.some.inj H
         obtain ⟨hcz20_0, hcz20_1, hcz20_2, hcz20_3, hcz20_4, hcz20_5, hcz20_6, hfz20_0, hfz20_1, hfz20_2, hfz20_3, hfz20_4, hfz20_5, hfz20_6⟩ := cz7 (w := wc) BK173.out
         go_wp2_with (first | ((with_reducible refine gate_callee (f := 65) rfl ?_); refine goesL_ (some 28) rfl rfl Tryd.func65 (by kernel_rfl) rfl #[.int .i64 a0_1, .bool t175] rfl ga ?_; (with_reducible refine (isa_register.calls a0_1 t175 true _ A11.out).mono ?_); rintro e w' ⟨rfl, ⟨nd, rfl⟩⟩; refine ⟨_, rfl, ?_⟩) | (go_at_call 65; (with_reducible refine (isa_register.calls a0_2 t176 true _ A13.out).mono ?_); rintro e w' ⟨rfl, ⟨nd, rfl⟩⟩) | (go_at_call 65; (with_reducible refine (isa_register.calls a0_3 t177 true _ A15.out).mono ?_); rintro e w' ⟨rfl, ⟨nd, rfl⟩⟩) | (go_at_call 66; (with_reducible refine (isa_immediate.calls kj6 t174 a0_4 true _ A17.out).mono ?_); rintro e w' ⟨rfl, ⟨nd, rfl⟩⟩))
         go_ret
         exact ⟨fi, bl⟩
        ·replace c19 := Bool.eq_false_iff.mpr c19
         subst c19
         have H1 : (if a0_5 = true then (some false) else (some (!a0_6))) = some r := by rw [if_neg (show ¬ (false = true) by decide)] at H; exact H
         clear H
         have H := H1
         clear H1
         by_cases c21 : a0_5 = true
         ·subst c21
          have H1 : (some false) = some r := by rw [if_pos rfl] at H; exact H
          clear H
          have H := H1
          clear H1
          obtain rfl := Option.some.inj H
          obtain ⟨hcz22_0, hcz22_1, hcz22_2, hcz22_3, hcz22_4, hcz22_5, hcz22_6, hfz22_0, hfz22_1, hfz22_2, hfz22_3, hfz22_4, hfz22_5, hfz22_6⟩ := cz7 (w := wc) BK173.out
          go_wp2_with (first | ((with_reducible refine gate_callee (f := 65) rfl ?_); refine goesL_ (some 28) rfl rfl Tryd.func65 (by kernel_rfl) rfl #[.int .i64 a0_1, .bool t175] rfl ga ?_; (with_reducible refine (isa_register.calls a0_1 t175 true _ A11.out).mono ?_); rintro e w' ⟨rfl, ⟨nd, rfl⟩⟩; refine ⟨_, rfl, ?_⟩) | (go_at_call 65; (with_reducible refine (isa_register.calls a0_2 t176 true _ A13.out).mono ?_); rintro e w' ⟨rfl, ⟨nd, rfl⟩⟩) | (go_at_call 65; (with_reducible refine (isa_register.calls a0_3 t177 true _ A15.out).mono ?_); rintro e w' ⟨rfl, ⟨nd, rfl⟩⟩) | (go_at_call 66; (with_reducible refine (isa_immediate.calls kj6 t174 a0_4 true _ A17.out).mono ?_); rintro e w' ⟨rfl, ⟨nd, rfl⟩⟩))
          go_ret
          exact ⟨fi, bl⟩
         ·replace c21 := Bool.eq_false_iff.mpr c21
          subst c21
          have H1 : (some (!a0_6)) = some r := by rw [if_neg (show ¬ (false = true) by decide)] at H; exact H
          clear H
          have H := H1
          clear H1
          obtain rfl := Option.some.inj H
          obtain ⟨hcz23_0, hcz23_1, hcz23_2, hcz23_3, hcz23_4, hcz23_5, hcz23_6, hfz23_0, hfz23_1, hfz23_2, hfz23_3, hfz23_4, hfz23_5, hfz23_6⟩ := cz7 (w := wc) BK173.out
          go_wp2_with (first | ((with_reducible refine gate_callee (f := 65) rfl ?_); refine goesL_ (some 28) rfl rfl Tryd.func65 (by kernel_rfl) rfl #[.int .i64 a0_1, .bool t175] rfl ga ?_; (with_reducible refine (isa_register.calls a0_1 t175 true _ A11.out).mono ?_); rintro e w' ⟨rfl, ⟨nd, rfl⟩⟩; refine ⟨_, rfl, ?_⟩) | (go_at_call 65; (with_reducible refine (isa_register.calls a0_2 t176 true _ A13.out).mono ?_); rintro e w' ⟨rfl, ⟨nd, rfl⟩⟩) | (go_at_call 65; (with_reducible refine (isa_register.calls a0_3 t177 true _ A15.out).mono ?_); rintro e w' ⟨rfl, ⟨nd, rfl⟩⟩) | (go_at_call 66; (with_reducible refine (isa_immediate.calls kj6 t174 a0_4 true _ A17.out).mono ?_); rintro e w' ⟨rfl, ⟨nd, rfl⟩⟩))
          go_ret
          exact ⟨fi, bl⟩
       ·replace c18 := Bool.eq_false_iff.mpr c18
        subst c18
        have H1 : (some false) = some r := by rw [if_neg (show ¬ (false = true) by decide)] at H; exact H
        clear H
        have H := H1
        clear H1
        obtain rfl := Option.some.inj H
        obtain ⟨hcz24_0, hcz24_1, hcz24_2, hcz24_3, hcz24_4, hcz24_5, hcz24_6, hfz24_0, hfz24_1, hfz24_2, hfz24_3, hfz24_4, hfz24_5, hfz24_6⟩ := cz7 (w := wc) BK173.out
        go_wp2_with (first | ((with_reducible refine gate_callee (f := 65) rfl ?_); refine goesL_ (some 28) rfl rfl Tryd.func65 (by kernel_rfl) rfl #[.int .i64 a0_1, .bool t175] rfl ga ?_; (with_reducible refine (isa_register.calls a0_1 t175 true _ A11.out).mono ?_); rintro e w' ⟨rfl, ⟨nd, rfl⟩⟩; refine ⟨_, rfl, ?_⟩) | (go_at_call 65; (with_reducible refine (isa_register.calls a0_2 t176 true _ A13.out).mono ?_); rintro e w' ⟨rfl, ⟨nd, rfl⟩⟩) | (go_at_call 65; (with_reducible refine (isa_register.calls a0_3 t177 true _ A15.out).mono ?_); rintro e w' ⟨rfl, ⟨nd, rfl⟩⟩) | (go_at_call 66; (with_reducible refine (isa_immediate.calls kj6 t174 a0_4 false _ A17.out).mono ?_); rintro e w' ⟨rfl, ⟨nd, rfl⟩⟩))
        go_ret
        exact ⟨fi, bl⟩
      ·replace c16 := Bool.eq_false_iff.mpr c16
       subst c16
       have H1 : (some false) = some r := by rw [if_neg (show ¬ (false = true) by decide)] at H; exact H
       clear H
       have H := H1
       clear H1
       obtain rfl := Option.some.inj H
       obtain ⟨hcz25_0, hcz25_1, hcz25_2, hcz25_3, hcz25_4, hcz25_5, hcz25_6, hfz25_0, hfz25_1, hfz25_2, hfz25_3, hfz25_4, hfz25_5, hfz25_6⟩ := cz7 (w := wc) BK173.out
       go_wp2_with (first | ((with_reducible refine gate_callee (f := 65) rfl ?_); refine goesL_ (some 28) rfl rfl Tryd.func65 (by kernel_rfl) rfl #[.int .i64 a0_1, .bool t175] rfl ga ?_; (with_reducible refine (isa_register.calls a0_1 t175 true _ A11.out).mono ?_); rintro e w' ⟨rfl, ⟨nd, rfl⟩⟩; refine ⟨_, rfl, ?_⟩) | (go_at_call 65; (with_reducible refine (isa_register.calls a0_2 t176 true _ A13.out).mono ?_); rintro e w' ⟨rfl, ⟨nd, rfl⟩⟩) | (go_at_call 65; (with_reducible refine (isa_register.calls a0_3 t177 false _ A15.out).mono ?_); rintro e w' ⟨rfl, ⟨nd, rfl⟩⟩))
       go_ret
       exact ⟨fi, bl⟩
     ·replace c14 := Bool.eq_false_iff.mpr c14
      subst c14
      have H1 : (some false) = some r := by rw [if_neg (show ¬ (false = true) by decide)] at H; exact H
      clear H
      have H := H1
      clear H1
      obtain rfl := Option.some.inj H
      obtain ⟨hcz26_0, hcz26_1, hcz26_2, hcz26_3, hcz26_4, hcz26_5, hcz26_6, hfz26_0, hfz26_1, hfz26_2, hfz26_3, hfz26_4, hfz26_5, hfz26_6⟩ := cz7 (w := wc) BK173.out
      go_wp2_with (first | ((with_reducible refine gate_callee (f := 65) rfl ?_); refine goesL_ (some 28) rfl rfl Tryd.func65 (by kernel_rfl) rfl #[.int .i64 a0_1, .bool t175] rfl ga ?_; (with_reducible refine (isa_register.calls a0_1 t175 true _ A11.out).mono ?_); rintro e w' ⟨rfl, ⟨nd, rfl⟩⟩; refine ⟨_, rfl, ?_⟩) | (go_at_call 65; (with_reducible refine (isa_register.calls a0_2 t176 false _ A13.out).mono ?_); rintro e w' ⟨rfl, ⟨nd, rfl⟩⟩))
      go_ret
      exact ⟨fi, bl⟩
    ·replace c12 := Bool.eq_false_iff.mpr c12
     subst c12
     have H1 : (some false) = some r := by rw [if_neg (show ¬ (false = true) by decide)] at H; exact H
     clear H
     have H := H1
     clear H1
     obtain rfl := Option.some.inj H
     obtain ⟨hcz27_0, hcz27_1, hcz27_2, hcz27_3, hcz27_4, hcz27_5, hcz27_6, hfz27_0, hfz27_1, hfz27_2, hfz27_3, hfz27_4, hfz27_5, hfz27_6⟩ := cz7 (w := wc) BK173.out
     go_wp2_with (first | ((with_reducible refine gate_callee (f := 65) rfl ?_); refine goesL_ (some 28) rfl rfl Tryd.func65 (by kernel_rfl) rfl #[.int .i64 a0_1, .bool t175] rfl ga ?_; (with_reducible refine (isa_register.calls a0_1 t175 false _ A11.out).mono ?_); rintro e w' ⟨rfl, ⟨nd, rfl⟩⟩; refine ⟨_, rfl, ?_⟩))
     go_ret
     exact ⟨fi, bl⟩

/-! ### isa_Branch: function 67 -/
def isa_Branch.f (a0 : Int) : Option (Bool) := (isa_in.f a0 5 10).bind fun t182 => (some t182)
set_option maxHeartbeats 8000000 in
set_option maxRecDepth 100000 in
theorem isa_Branch.calls (a0 : Int) (r : Bool) (w : World) (h : isa_Branch.f a0 = some r) :
  Calls Tryd.prog 67 #[.int .i64 a0] w fun e w' => e = .returned (.bool r) ∧ Drawn0 w w' := by
 have H : ((isa_in.f a0 5 10).bind fun t182 => (some t182)) = some r := h
 clear h
 replace H := be H
 obtain ⟨t182, A2, H⟩ := H
 obtain rfl := Option.some.inj H
 go_enter Tryd.func67, Tryd.ntmps67
 go_wp2_with (first | ((with_reducible refine gate_callee (f := 74) rfl ?_); refine goesL_ (some 4) rfl rfl Tryd.func74 (by kernel_rfl) rfl #[.int .i64 a0, .int .i64 5, .int .i64 10] rfl ga ?_; (with_reducible refine (isa_in.calls a0 5 10 t182 _ A2.out).mono ?_); rintro e w' ⟨rfl, ⟨nd, rfl⟩⟩; refine ⟨_, rfl, ?_⟩))
 go_ret
 exact ⟨fj, fd⟩

/-! ### enc_arith: function 68 (by hand) -/
def arithTab : List (Int × Int × Int) := [(0, 0, 0), (0, 2, 0), (0, 3, 0), (0, 4, 0), (0, 6, 0), (0, 7, 0), (0, 1, 0), (0, 5, 0), (0, 5, 32), (0, 0, 0), (0, 1, 0), (0, 5, 0), (0, 5, 32), (0, 0, 0), (0, 0, 32), (0, 1, 0), (0, 2, 0), (0, 3, 0), (0, 4, 0), (0, 5, 0), (0, 5, 32), (0, 6, 0), (0, 7, 0), (0, 0, 0), (0, 0, 32), (0, 1, 0), (0, 5, 0), (0, 5, 32)]
def enc_arith.f (k : Nat) (a0 : Int) : Option (Int × Int × Int) := if 22 ≤ a0 ∧ a0 < 50 then arithTab[a0.toNat - 22]? else none
theorem of_inj {a b c x y z : Int} (h : some (a, b, c) = some (x, y, z)) : a = x ∧ b = y ∧ c = z := by simpa using h
set_option maxHeartbeats 8000000 in
set_option maxRecDepth 100000 in
theorem arith_0 (a0 : Int) (h : a0 = 22 ∨ a0 = 31 ∨ a0 = 35 ∨ a0 = 45) (w : World) : Calls Tryd.prog 68 #[.int .i64 a0] w fun e w' => e = .returned (.agg #[.int .u32 0, .int .u32 0, .int .u32 0]) ∧ Below w.heap.size w w' := by
 have hu84 := Tryd.underlying61
 have HB := Aside0.mk (Below.refl w.heap.size w)
 rcases h with rfl | rfl | rfl | rfl
 all_goals
  go_enter Tryd.func68, Tryd.ntmps68
  go_wp2_with (first | ((with_reducible refine gate_dst (N := 2) rfl ?_); refine box_event ?hg (N := 2) ?hd (cs := #[.int .u32 0, .int .u32 0, .int .u32 0]) (t := 61) ?hr ?_; (case hd => rfl); (case hg => rfl); (case hr => first | (go_simp; done) | (go_simp; rfl)); intro gbp hg wbp hbox hb; have n0_ := Aside0.mk (below_step bl hb); have n1_ := Aside0.mk (hbox); have n2_ := Aside0.mk ((by rw [hg]; exact (below_size bl) : w.heap.size ≤ gbp)); clear HB; have HB := n0_; have BKp := n1_; have GEp := n2_; clear n0_ n1_ n2_; clear hb hbox hg; have hczp_0 : wbp.cell? ⟨gbp, 0, none⟩ = some (.int .u32 0) := (blk_cell BKp.out 0).trans rfl; have hfzp_0 := blk_frozen BKp.out 0; have hczp_1 : wbp.cell? ⟨gbp, 1, none⟩ = some (.int .u32 0) := (blk_cell BKp.out 1).trans rfl; have hfzp_1 := blk_frozen BKp.out 1; have hczp_2 : wbp.cell? ⟨gbp, 2, none⟩ = some (.int .u32 0) := (blk_cell BKp.out 2).trans rfl; have hfzp_2 := blk_frozen BKp.out 2))
  refine bodyPost_ret (results_cell_row rfl _ _ gbp 61 #[.int .u32 0, .int .u32 0, .int .u32 0] (0, 0) _ rfl (by refine bx ?_; refine blk_put (cs := #[.int .u32 0, .int .u32 0, .int .u32 0]) ?_ 2 _ rfl; refine bx ?_; refine blk_put (cs := #[.int .u32 0, .int .u32 0, .int .u32 0]) ?_ 1 _ rfl; refine bx ?_; refine blk_put (cs := #[.int .u32 0, .int .u32 0, .int .u32 0]) ?_ 0 _ rfl; refine bx ?_; exact BKp.out) Tryd.underlying61 rfl (by kernel_rfl)) rfl ?_
  exact ⟨by first | rfl | (simp; done), bl⟩
set_option maxHeartbeats 8000000 in
set_option maxRecDepth 100000 in
theorem arith_1 (a0 : Int) (h : a0 = 23 ∨ a0 = 38) (w : World) : Calls Tryd.prog 68 #[.int .i64 a0] w fun e w' => e = .returned (.agg #[.int .u32 0, .int .u32 2, .int .u32 0]) ∧ Below w.heap.size w w' := by
 have hu84 := Tryd.underlying61
 have HB := Aside0.mk (Below.refl w.heap.size w)
 rcases h with rfl | rfl
 all_goals
  go_enter Tryd.func68, Tryd.ntmps68
  go_wp2_with (first | ((with_reducible refine gate_dst (N := 2) rfl ?_); refine box_event ?hg (N := 2) ?hd (cs := #[.int .u32 0, .int .u32 0, .int .u32 0]) (t := 61) ?hr ?_; (case hd => rfl); (case hg => rfl); (case hr => first | (go_simp; done) | (go_simp; rfl)); intro gbp hg wbp hbox hb; have n0_ := Aside0.mk (below_step bl hb); have n1_ := Aside0.mk (hbox); have n2_ := Aside0.mk ((by rw [hg]; exact (below_size bl) : w.heap.size ≤ gbp)); clear HB; have HB := n0_; have BKp := n1_; have GEp := n2_; clear n0_ n1_ n2_; clear hb hbox hg; have hczp_0 : wbp.cell? ⟨gbp, 0, none⟩ = some (.int .u32 0) := (blk_cell BKp.out 0).trans rfl; have hfzp_0 := blk_frozen BKp.out 0; have hczp_1 : wbp.cell? ⟨gbp, 1, none⟩ = some (.int .u32 0) := (blk_cell BKp.out 1).trans rfl; have hfzp_1 := blk_frozen BKp.out 1; have hczp_2 : wbp.cell? ⟨gbp, 2, none⟩ = some (.int .u32 0) := (blk_cell BKp.out 2).trans rfl; have hfzp_2 := blk_frozen BKp.out 2))
  refine bodyPost_ret (results_cell_row rfl _ _ gbp 61 #[.int .u32 0, .int .u32 2, .int .u32 0] (0, 0) _ rfl (by refine bx ?_; refine blk_put (cs := #[.int .u32 0, .int .u32 2, .int .u32 0]) ?_ 2 _ rfl; refine bx ?_; refine blk_put (cs := #[.int .u32 0, .int .u32 0, .int .u32 0]) ?_ 1 _ rfl; refine bx ?_; refine blk_put (cs := #[.int .u32 0, .int .u32 0, .int .u32 0]) ?_ 0 _ rfl; refine bx ?_; exact BKp.out) Tryd.underlying61 rfl (by kernel_rfl)) rfl ?_
  exact ⟨by first | rfl | (simp; done), bl⟩
set_option maxHeartbeats 8000000 in
set_option maxRecDepth 100000 in
theorem arith_2 (a0 : Int) (h : a0 = 24 ∨ a0 = 39) (w : World) : Calls Tryd.prog 68 #[.int .i64 a0] w fun e w' => e = .returned (.agg #[.int .u32 0, .int .u32 3, .int .u32 0]) ∧ Below w.heap.size w w' := by
 have hu84 := Tryd.underlying61
 have HB := Aside0.mk (Below.refl w.heap.size w)
 rcases h with rfl | rfl
 all_goals
  go_enter Tryd.func68, Tryd.ntmps68
  go_wp2_with (first | ((with_reducible refine gate_dst (N := 2) rfl ?_); refine box_event ?hg (N := 2) ?hd (cs := #[.int .u32 0, .int .u32 0, .int .u32 0]) (t := 61) ?hr ?_; (case hd => rfl); (case hg => rfl); (case hr => first | (go_simp; done) | (go_simp; rfl)); intro gbp hg wbp hbox hb; have n0_ := Aside0.mk (below_step bl hb); have n1_ := Aside0.mk (hbox); have n2_ := Aside0.mk ((by rw [hg]; exact (below_size bl) : w.heap.size ≤ gbp)); clear HB; have HB := n0_; have BKp := n1_; have GEp := n2_; clear n0_ n1_ n2_; clear hb hbox hg; have hczp_0 : wbp.cell? ⟨gbp, 0, none⟩ = some (.int .u32 0) := (blk_cell BKp.out 0).trans rfl; have hfzp_0 := blk_frozen BKp.out 0; have hczp_1 : wbp.cell? ⟨gbp, 1, none⟩ = some (.int .u32 0) := (blk_cell BKp.out 1).trans rfl; have hfzp_1 := blk_frozen BKp.out 1; have hczp_2 : wbp.cell? ⟨gbp, 2, none⟩ = some (.int .u32 0) := (blk_cell BKp.out 2).trans rfl; have hfzp_2 := blk_frozen BKp.out 2))
  refine bodyPost_ret (results_cell_row rfl _ _ gbp 61 #[.int .u32 0, .int .u32 3, .int .u32 0] (0, 0) _ rfl (by refine bx ?_; refine blk_put (cs := #[.int .u32 0, .int .u32 3, .int .u32 0]) ?_ 2 _ rfl; refine bx ?_; refine blk_put (cs := #[.int .u32 0, .int .u32 0, .int .u32 0]) ?_ 1 _ rfl; refine bx ?_; refine blk_put (cs := #[.int .u32 0, .int .u32 0, .int .u32 0]) ?_ 0 _ rfl; refine bx ?_; exact BKp.out) Tryd.underlying61 rfl (by kernel_rfl)) rfl ?_
  exact ⟨by first | rfl | (simp; done), bl⟩
set_option maxHeartbeats 8000000 in
set_option maxRecDepth 100000 in
theorem arith_3 (a0 : Int) (h : a0 = 25 ∨ a0 = 40) (w : World) : Calls Tryd.prog 68 #[.int .i64 a0] w fun e w' => e = .returned (.agg #[.int .u32 0, .int .u32 4, .int .u32 0]) ∧ Below w.heap.size w w' := by
 have hu84 := Tryd.underlying61
 have HB := Aside0.mk (Below.refl w.heap.size w)
 rcases h with rfl | rfl
 all_goals
  go_enter Tryd.func68, Tryd.ntmps68
  go_wp2_with (first | ((with_reducible refine gate_dst (N := 2) rfl ?_); refine box_event ?hg (N := 2) ?hd (cs := #[.int .u32 0, .int .u32 0, .int .u32 0]) (t := 61) ?hr ?_; (case hd => rfl); (case hg => rfl); (case hr => first | (go_simp; done) | (go_simp; rfl)); intro gbp hg wbp hbox hb; have n0_ := Aside0.mk (below_step bl hb); have n1_ := Aside0.mk (hbox); have n2_ := Aside0.mk ((by rw [hg]; exact (below_size bl) : w.heap.size ≤ gbp)); clear HB; have HB := n0_; have BKp := n1_; have GEp := n2_; clear n0_ n1_ n2_; clear hb hbox hg; have hczp_0 : wbp.cell? ⟨gbp, 0, none⟩ = some (.int .u32 0) := (blk_cell BKp.out 0).trans rfl; have hfzp_0 := blk_frozen BKp.out 0; have hczp_1 : wbp.cell? ⟨gbp, 1, none⟩ = some (.int .u32 0) := (blk_cell BKp.out 1).trans rfl; have hfzp_1 := blk_frozen BKp.out 1; have hczp_2 : wbp.cell? ⟨gbp, 2, none⟩ = some (.int .u32 0) := (blk_cell BKp.out 2).trans rfl; have hfzp_2 := blk_frozen BKp.out 2))
  refine bodyPost_ret (results_cell_row rfl _ _ gbp 61 #[.int .u32 0, .int .u32 4, .int .u32 0] (0, 0) _ rfl (by refine bx ?_; refine blk_put (cs := #[.int .u32 0, .int .u32 4, .int .u32 0]) ?_ 2 _ rfl; refine bx ?_; refine blk_put (cs := #[.int .u32 0, .int .u32 0, .int .u32 0]) ?_ 1 _ rfl; refine bx ?_; refine blk_put (cs := #[.int .u32 0, .int .u32 0, .int .u32 0]) ?_ 0 _ rfl; refine bx ?_; exact BKp.out) Tryd.underlying61 rfl (by kernel_rfl)) rfl ?_
  exact ⟨by first | rfl | (simp; done), bl⟩
set_option maxHeartbeats 8000000 in
set_option maxRecDepth 100000 in
theorem arith_4 (a0 : Int) (h : a0 = 26 ∨ a0 = 43) (w : World) : Calls Tryd.prog 68 #[.int .i64 a0] w fun e w' => e = .returned (.agg #[.int .u32 0, .int .u32 6, .int .u32 0]) ∧ Below w.heap.size w w' := by
 have hu84 := Tryd.underlying61
 have HB := Aside0.mk (Below.refl w.heap.size w)
 rcases h with rfl | rfl
 all_goals
  go_enter Tryd.func68, Tryd.ntmps68
  go_wp2_with (first | ((with_reducible refine gate_dst (N := 2) rfl ?_); refine box_event ?hg (N := 2) ?hd (cs := #[.int .u32 0, .int .u32 0, .int .u32 0]) (t := 61) ?hr ?_; (case hd => rfl); (case hg => rfl); (case hr => first | (go_simp; done) | (go_simp; rfl)); intro gbp hg wbp hbox hb; have n0_ := Aside0.mk (below_step bl hb); have n1_ := Aside0.mk (hbox); have n2_ := Aside0.mk ((by rw [hg]; exact (below_size bl) : w.heap.size ≤ gbp)); clear HB; have HB := n0_; have BKp := n1_; have GEp := n2_; clear n0_ n1_ n2_; clear hb hbox hg; have hczp_0 : wbp.cell? ⟨gbp, 0, none⟩ = some (.int .u32 0) := (blk_cell BKp.out 0).trans rfl; have hfzp_0 := blk_frozen BKp.out 0; have hczp_1 : wbp.cell? ⟨gbp, 1, none⟩ = some (.int .u32 0) := (blk_cell BKp.out 1).trans rfl; have hfzp_1 := blk_frozen BKp.out 1; have hczp_2 : wbp.cell? ⟨gbp, 2, none⟩ = some (.int .u32 0) := (blk_cell BKp.out 2).trans rfl; have hfzp_2 := blk_frozen BKp.out 2))
  refine bodyPost_ret (results_cell_row rfl _ _ gbp 61 #[.int .u32 0, .int .u32 6, .int .u32 0] (0, 0) _ rfl (by refine bx ?_; refine blk_put (cs := #[.int .u32 0, .int .u32 6, .int .u32 0]) ?_ 2 _ rfl; refine bx ?_; refine blk_put (cs := #[.int .u32 0, .int .u32 0, .int .u32 0]) ?_ 1 _ rfl; refine bx ?_; refine blk_put (cs := #[.int .u32 0, .int .u32 0, .int .u32 0]) ?_ 0 _ rfl; refine bx ?_; exact BKp.out) Tryd.underlying61 rfl (by kernel_rfl)) rfl ?_
  exact ⟨by first | rfl | (simp; done), bl⟩
set_option maxHeartbeats 8000000 in
set_option maxRecDepth 100000 in
theorem arith_5 (a0 : Int) (h : a0 = 27 ∨ a0 = 44) (w : World) : Calls Tryd.prog 68 #[.int .i64 a0] w fun e w' => e = .returned (.agg #[.int .u32 0, .int .u32 7, .int .u32 0]) ∧ Below w.heap.size w w' := by
 have hu84 := Tryd.underlying61
 have HB := Aside0.mk (Below.refl w.heap.size w)
 rcases h with rfl | rfl
 all_goals
  go_enter Tryd.func68, Tryd.ntmps68
  go_wp2_with (first | ((with_reducible refine gate_dst (N := 2) rfl ?_); refine box_event ?hg (N := 2) ?hd (cs := #[.int .u32 0, .int .u32 0, .int .u32 0]) (t := 61) ?hr ?_; (case hd => rfl); (case hg => rfl); (case hr => first | (go_simp; done) | (go_simp; rfl)); intro gbp hg wbp hbox hb; have n0_ := Aside0.mk (below_step bl hb); have n1_ := Aside0.mk (hbox); have n2_ := Aside0.mk ((by rw [hg]; exact (below_size bl) : w.heap.size ≤ gbp)); clear HB; have HB := n0_; have BKp := n1_; have GEp := n2_; clear n0_ n1_ n2_; clear hb hbox hg; have hczp_0 : wbp.cell? ⟨gbp, 0, none⟩ = some (.int .u32 0) := (blk_cell BKp.out 0).trans rfl; have hfzp_0 := blk_frozen BKp.out 0; have hczp_1 : wbp.cell? ⟨gbp, 1, none⟩ = some (.int .u32 0) := (blk_cell BKp.out 1).trans rfl; have hfzp_1 := blk_frozen BKp.out 1; have hczp_2 : wbp.cell? ⟨gbp, 2, none⟩ = some (.int .u32 0) := (blk_cell BKp.out 2).trans rfl; have hfzp_2 := blk_frozen BKp.out 2))
  refine bodyPost_ret (results_cell_row rfl _ _ gbp 61 #[.int .u32 0, .int .u32 7, .int .u32 0] (0, 0) _ rfl (by refine bx ?_; refine blk_put (cs := #[.int .u32 0, .int .u32 7, .int .u32 0]) ?_ 2 _ rfl; refine bx ?_; refine blk_put (cs := #[.int .u32 0, .int .u32 0, .int .u32 0]) ?_ 1 _ rfl; refine bx ?_; refine blk_put (cs := #[.int .u32 0, .int .u32 0, .int .u32 0]) ?_ 0 _ rfl; refine bx ?_; exact BKp.out) Tryd.underlying61 rfl (by kernel_rfl)) rfl ?_
  exact ⟨by first | rfl | (simp; done), bl⟩
set_option maxHeartbeats 8000000 in
set_option maxRecDepth 100000 in
theorem arith_6 (a0 : Int) (h : a0 = 28 ∨ a0 = 32 ∨ a0 = 37 ∨ a0 = 47) (w : World) : Calls Tryd.prog 68 #[.int .i64 a0] w fun e w' => e = .returned (.agg #[.int .u32 0, .int .u32 1, .int .u32 0]) ∧ Below w.heap.size w w' := by
 have hu84 := Tryd.underlying61
 have HB := Aside0.mk (Below.refl w.heap.size w)
 rcases h with rfl | rfl | rfl | rfl
 all_goals
  go_enter Tryd.func68, Tryd.ntmps68
  go_wp2_with (first | ((with_reducible refine gate_dst (N := 2) rfl ?_); refine box_event ?hg (N := 2) ?hd (cs := #[.int .u32 0, .int .u32 0, .int .u32 0]) (t := 61) ?hr ?_; (case hd => rfl); (case hg => rfl); (case hr => first | (go_simp; done) | (go_simp; rfl)); intro gbp hg wbp hbox hb; have n0_ := Aside0.mk (below_step bl hb); have n1_ := Aside0.mk (hbox); have n2_ := Aside0.mk ((by rw [hg]; exact (below_size bl) : w.heap.size ≤ gbp)); clear HB; have HB := n0_; have BKp := n1_; have GEp := n2_; clear n0_ n1_ n2_; clear hb hbox hg; have hczp_0 : wbp.cell? ⟨gbp, 0, none⟩ = some (.int .u32 0) := (blk_cell BKp.out 0).trans rfl; have hfzp_0 := blk_frozen BKp.out 0; have hczp_1 : wbp.cell? ⟨gbp, 1, none⟩ = some (.int .u32 0) := (blk_cell BKp.out 1).trans rfl; have hfzp_1 := blk_frozen BKp.out 1; have hczp_2 : wbp.cell? ⟨gbp, 2, none⟩ = some (.int .u32 0) := (blk_cell BKp.out 2).trans rfl; have hfzp_2 := blk_frozen BKp.out 2))
  refine bodyPost_ret (results_cell_row rfl _ _ gbp 61 #[.int .u32 0, .int .u32 1, .int .u32 0] (0, 0) _ rfl (by refine bx ?_; refine blk_put (cs := #[.int .u32 0, .int .u32 1, .int .u32 0]) ?_ 2 _ rfl; refine bx ?_; refine blk_put (cs := #[.int .u32 0, .int .u32 0, .int .u32 0]) ?_ 1 _ rfl; refine bx ?_; refine blk_put (cs := #[.int .u32 0, .int .u32 0, .int .u32 0]) ?_ 0 _ rfl; refine bx ?_; exact BKp.out) Tryd.underlying61 rfl (by kernel_rfl)) rfl ?_
  exact ⟨by first | rfl | (simp; done), bl⟩
set_option maxHeartbeats 8000000 in
set_option maxRecDepth 100000 in
theorem arith_7 (a0 : Int) (h : a0 = 29 ∨ a0 = 33 ∨ a0 = 41 ∨ a0 = 48) (w : World) : Calls Tryd.prog 68 #[.int .i64 a0] w fun e w' => e = .returned (.agg #[.int .u32 0, .int .u32 5, .int .u32 0]) ∧ Below w.heap.size w w' := by
 have hu84 := Tryd.underlying61
 have HB := Aside0.mk (Below.refl w.heap.size w)
 rcases h with rfl | rfl | rfl | rfl
 all_goals
  go_enter Tryd.func68, Tryd.ntmps68
  go_wp2_with (first | ((with_reducible refine gate_dst (N := 2) rfl ?_); refine box_event ?hg (N := 2) ?hd (cs := #[.int .u32 0, .int .u32 0, .int .u32 0]) (t := 61) ?hr ?_; (case hd => rfl); (case hg => rfl); (case hr => first | (go_simp; done) | (go_simp; rfl)); intro gbp hg wbp hbox hb; have n0_ := Aside0.mk (below_step bl hb); have n1_ := Aside0.mk (hbox); have n2_ := Aside0.mk ((by rw [hg]; exact (below_size bl) : w.heap.size ≤ gbp)); clear HB; have HB := n0_; have BKp := n1_; have GEp := n2_; clear n0_ n1_ n2_; clear hb hbox hg; have hczp_0 : wbp.cell? ⟨gbp, 0, none⟩ = some (.int .u32 0) := (blk_cell BKp.out 0).trans rfl; have hfzp_0 := blk_frozen BKp.out 0; have hczp_1 : wbp.cell? ⟨gbp, 1, none⟩ = some (.int .u32 0) := (blk_cell BKp.out 1).trans rfl; have hfzp_1 := blk_frozen BKp.out 1; have hczp_2 : wbp.cell? ⟨gbp, 2, none⟩ = some (.int .u32 0) := (blk_cell BKp.out 2).trans rfl; have hfzp_2 := blk_frozen BKp.out 2))
  refine bodyPost_ret (results_cell_row rfl _ _ gbp 61 #[.int .u32 0, .int .u32 5, .int .u32 0] (0, 0) _ rfl (by refine bx ?_; refine blk_put (cs := #[.int .u32 0, .int .u32 5, .int .u32 0]) ?_ 2 _ rfl; refine bx ?_; refine blk_put (cs := #[.int .u32 0, .int .u32 0, .int .u32 0]) ?_ 1 _ rfl; refine bx ?_; refine blk_put (cs := #[.int .u32 0, .int .u32 0, .int .u32 0]) ?_ 0 _ rfl; refine bx ?_; exact BKp.out) Tryd.underlying61 rfl (by kernel_rfl)) rfl ?_
  exact ⟨by first | rfl | (simp; done), bl⟩
set_option maxHeartbeats 8000000 in
set_option maxRecDepth 100000 in
theorem arith_8 (a0 : Int) (h : a0 = 30 ∨ a0 = 34 ∨ a0 = 42 ∨ a0 = 49) (w : World) : Calls Tryd.prog 68 #[.int .i64 a0] w fun e w' => e = .returned (.agg #[.int .u32 0, .int .u32 5, .int .u32 32]) ∧ Below w.heap.size w w' := by
 have hu84 := Tryd.underlying61
 have HB := Aside0.mk (Below.refl w.heap.size w)
 rcases h with rfl | rfl | rfl | rfl
 all_goals
  go_enter Tryd.func68, Tryd.ntmps68
  go_wp2_with (first | ((with_reducible refine gate_dst (N := 2) rfl ?_); refine box_event ?hg (N := 2) ?hd (cs := #[.int .u32 0, .int .u32 0, .int .u32 0]) (t := 61) ?hr ?_; (case hd => rfl); (case hg => rfl); (case hr => first | (go_simp; done) | (go_simp; rfl)); intro gbp hg wbp hbox hb; have n0_ := Aside0.mk (below_step bl hb); have n1_ := Aside0.mk (hbox); have n2_ := Aside0.mk ((by rw [hg]; exact (below_size bl) : w.heap.size ≤ gbp)); clear HB; have HB := n0_; have BKp := n1_; have GEp := n2_; clear n0_ n1_ n2_; clear hb hbox hg; have hczp_0 : wbp.cell? ⟨gbp, 0, none⟩ = some (.int .u32 0) := (blk_cell BKp.out 0).trans rfl; have hfzp_0 := blk_frozen BKp.out 0; have hczp_1 : wbp.cell? ⟨gbp, 1, none⟩ = some (.int .u32 0) := (blk_cell BKp.out 1).trans rfl; have hfzp_1 := blk_frozen BKp.out 1; have hczp_2 : wbp.cell? ⟨gbp, 2, none⟩ = some (.int .u32 0) := (blk_cell BKp.out 2).trans rfl; have hfzp_2 := blk_frozen BKp.out 2))
  refine bodyPost_ret (results_cell_row rfl _ _ gbp 61 #[.int .u32 0, .int .u32 5, .int .u32 32] (0, 0) _ rfl (by refine bx ?_; refine blk_put (cs := #[.int .u32 0, .int .u32 5, .int .u32 0]) ?_ 2 _ rfl; refine bx ?_; refine blk_put (cs := #[.int .u32 0, .int .u32 0, .int .u32 0]) ?_ 1 _ rfl; refine bx ?_; refine blk_put (cs := #[.int .u32 0, .int .u32 0, .int .u32 0]) ?_ 0 _ rfl; refine bx ?_; exact BKp.out) Tryd.underlying61 rfl (by kernel_rfl)) rfl ?_
  exact ⟨by first | rfl | (simp; done), bl⟩
set_option maxHeartbeats 8000000 in
set_option maxRecDepth 100000 in
theorem arith_9 (a0 : Int) (h : a0 = 36 ∨ a0 = 46) (w : World) : Calls Tryd.prog 68 #[.int .i64 a0] w fun e w' => e = .returned (.agg #[.int .u32 0, .int .u32 0, .int .u32 32]) ∧ Below w.heap.size w w' := by
 have hu84 := Tryd.underlying61
 have HB := Aside0.mk (Below.refl w.heap.size w)
 rcases h with rfl | rfl
 all_goals
  go_enter Tryd.func68, Tryd.ntmps68
  go_wp2_with (first | ((with_reducible refine gate_dst (N := 2) rfl ?_); refine box_event ?hg (N := 2) ?hd (cs := #[.int .u32 0, .int .u32 0, .int .u32 0]) (t := 61) ?hr ?_; (case hd => rfl); (case hg => rfl); (case hr => first | (go_simp; done) | (go_simp; rfl)); intro gbp hg wbp hbox hb; have n0_ := Aside0.mk (below_step bl hb); have n1_ := Aside0.mk (hbox); have n2_ := Aside0.mk ((by rw [hg]; exact (below_size bl) : w.heap.size ≤ gbp)); clear HB; have HB := n0_; have BKp := n1_; have GEp := n2_; clear n0_ n1_ n2_; clear hb hbox hg; have hczp_0 : wbp.cell? ⟨gbp, 0, none⟩ = some (.int .u32 0) := (blk_cell BKp.out 0).trans rfl; have hfzp_0 := blk_frozen BKp.out 0; have hczp_1 : wbp.cell? ⟨gbp, 1, none⟩ = some (.int .u32 0) := (blk_cell BKp.out 1).trans rfl; have hfzp_1 := blk_frozen BKp.out 1; have hczp_2 : wbp.cell? ⟨gbp, 2, none⟩ = some (.int .u32 0) := (blk_cell BKp.out 2).trans rfl; have hfzp_2 := blk_frozen BKp.out 2))
  refine bodyPost_ret (results_cell_row rfl _ _ gbp 61 #[.int .u32 0, .int .u32 0, .int .u32 32] (0, 0) _ rfl (by refine bx ?_; refine blk_put (cs := #[.int .u32 0, .int .u32 0, .int .u32 0]) ?_ 2 _ rfl; refine bx ?_; refine blk_put (cs := #[.int .u32 0, .int .u32 0, .int .u32 0]) ?_ 1 _ rfl; refine bx ?_; refine blk_put (cs := #[.int .u32 0, .int .u32 0, .int .u32 0]) ?_ 0 _ rfl; refine bx ?_; exact BKp.out) Tryd.underlying61 rfl (by kernel_rfl)) rfl ?_
  exact ⟨by first | rfl | (simp; done), bl⟩
theorem enc_arith.calls (k : Nat) (a0 : Int) (r1 : Int) (r2 : Int) (r3 : Int) (w : World) (h : enc_arith.f k a0 = some (r1, r2, r3)) :
  Calls Tryd.prog 68 #[.int .i64 a0] w fun e w' => e = .returned (.agg #[.int .u32 r1, .int .u32 r2, .int .u32 r3]) ∧ Below w.heap.size w w' := by
 have hr : 22 ≤ a0 ∧ a0 < 50 := by
  unfold enc_arith.f at h
  by_cases h1 : 22 ≤ a0 ∧ a0 < 50
  ·exact h1
  ·rw [if_neg h1] at h
   exact absurd h (by simp)
 obtain ⟨n, rfl⟩ := Int.eq_ofNat_of_zero_le (show 0 ≤ a0 by omega)
 have h0 : 22 ≤ n := by omega
 have h1 : n < 50 := by omega
 clear hr
 match n, h0, h1, h with
 | 22, _, _, h => obtain ⟨rfl, rfl, rfl⟩ := of_inj ((show enc_arith.f k ((22 : Nat) : Int) = some (0, 0, 0) by kernel_rfl).symm.trans h); exact arith_0 22 (by decide) w
 | 23, _, _, h => obtain ⟨rfl, rfl, rfl⟩ := of_inj ((show enc_arith.f k ((23 : Nat) : Int) = some (0, 2, 0) by kernel_rfl).symm.trans h); exact arith_1 23 (by decide) w
 | 24, _, _, h => obtain ⟨rfl, rfl, rfl⟩ := of_inj ((show enc_arith.f k ((24 : Nat) : Int) = some (0, 3, 0) by kernel_rfl).symm.trans h); exact arith_2 24 (by decide) w
 | 25, _, _, h => obtain ⟨rfl, rfl, rfl⟩ := of_inj ((show enc_arith.f k ((25 : Nat) : Int) = some (0, 4, 0) by kernel_rfl).symm.trans h); exact arith_3 25 (by decide) w
 | 26, _, _, h => obtain ⟨rfl, rfl, rfl⟩ := of_inj ((show enc_arith.f k ((26 : Nat) : Int) = some (0, 6, 0) by kernel_rfl).symm.trans h); exact arith_4 26 (by decide) w
 | 27, _, _, h => obtain ⟨rfl, rfl, rfl⟩ := of_inj ((show enc_arith.f k ((27 : Nat) : Int) = some (0, 7, 0) by kernel_rfl).symm.trans h); exact arith_5 27 (by decide) w
 | 28, _, _, h => obtain ⟨rfl, rfl, rfl⟩ := of_inj ((show enc_arith.f k ((28 : Nat) : Int) = some (0, 1, 0) by kernel_rfl).symm.trans h); exact arith_6 28 (by decide) w
 | 29, _, _, h => obtain ⟨rfl, rfl, rfl⟩ := of_inj ((show enc_arith.f k ((29 : Nat) : Int) = some (0, 5, 0) by kernel_rfl).symm.trans h); exact arith_7 29 (by decide) w
 | 30, _, _, h => obtain ⟨rfl, rfl, rfl⟩ := of_inj ((show enc_arith.f k ((30 : Nat) : Int) = some (0, 5, 32) by kernel_rfl).symm.trans h); exact arith_8 30 (by decide) w
 | 31, _, _, h => obtain ⟨rfl, rfl, rfl⟩ := of_inj ((show enc_arith.f k ((31 : Nat) : Int) = some (0, 0, 0) by kernel_rfl).symm.trans h); exact arith_0 31 (by decide) w
 | 32, _, _, h => obtain ⟨rfl, rfl, rfl⟩ := of_inj ((show enc_arith.f k ((32 : Nat) : Int) = some (0, 1, 0) by kernel_rfl).symm.trans h); exact arith_6 32 (by decide) w
 | 33, _, _, h => obtain ⟨rfl, rfl, rfl⟩ := of_inj ((show enc_arith.f k ((33 : Nat) : Int) = some (0, 5, 0) by kernel_rfl).symm.trans h); exact arith_7 33 (by decide) w
 | 34, _, _, h => obtain ⟨rfl, rfl, rfl⟩ := of_inj ((show enc_arith.f k ((34 : Nat) : Int) = some (0, 5, 32) by kernel_rfl).symm.trans h); exact arith_8 34 (by decide) w
 | 35, _, _, h => obtain ⟨rfl, rfl, rfl⟩ := of_inj ((show enc_arith.f k ((35 : Nat) : Int) = some (0, 0, 0) by kernel_rfl).symm.trans h); exact arith_0 35 (by decide) w
 | 36, _, _, h => obtain ⟨rfl, rfl, rfl⟩ := of_inj ((show enc_arith.f k ((36 : Nat) : Int) = some (0, 0, 32) by kernel_rfl).symm.trans h); exact arith_9 36 (by decide) w
 | 37, _, _, h => obtain ⟨rfl, rfl, rfl⟩ := of_inj ((show enc_arith.f k ((37 : Nat) : Int) = some (0, 1, 0) by kernel_rfl).symm.trans h); exact arith_6 37 (by decide) w
 | 38, _, _, h => obtain ⟨rfl, rfl, rfl⟩ := of_inj ((show enc_arith.f k ((38 : Nat) : Int) = some (0, 2, 0) by kernel_rfl).symm.trans h); exact arith_1 38 (by decide) w
 | 39, _, _, h => obtain ⟨rfl, rfl, rfl⟩ := of_inj ((show enc_arith.f k ((39 : Nat) : Int) = some (0, 3, 0) by kernel_rfl).symm.trans h); exact arith_2 39 (by decide) w
 | 40, _, _, h => obtain ⟨rfl, rfl, rfl⟩ := of_inj ((show enc_arith.f k ((40 : Nat) : Int) = some (0, 4, 0) by kernel_rfl).symm.trans h); exact arith_3 40 (by decide) w
 | 41, _, _, h => obtain ⟨rfl, rfl, rfl⟩ := of_inj ((show enc_arith.f k ((41 : Nat) : Int) = some (0, 5, 0) by kernel_rfl).symm.trans h); exact arith_7 41 (by decide) w
 | 42, _, _, h => obtain ⟨rfl, rfl, rfl⟩ := of_inj ((show enc_arith.f k ((42 : Nat) : Int) = some (0, 5, 32) by kernel_rfl).symm.trans h); exact arith_8 42 (by decide) w
 | 43, _, _, h => obtain ⟨rfl, rfl, rfl⟩ := of_inj ((show enc_arith.f k ((43 : Nat) : Int) = some (0, 6, 0) by kernel_rfl).symm.trans h); exact arith_4 43 (by decide) w
 | 44, _, _, h => obtain ⟨rfl, rfl, rfl⟩ := of_inj ((show enc_arith.f k ((44 : Nat) : Int) = some (0, 7, 0) by kernel_rfl).symm.trans h); exact arith_5 44 (by decide) w
 | 45, _, _, h => obtain ⟨rfl, rfl, rfl⟩ := of_inj ((show enc_arith.f k ((45 : Nat) : Int) = some (0, 0, 0) by kernel_rfl).symm.trans h); exact arith_0 45 (by decide) w
 | 46, _, _, h => obtain ⟨rfl, rfl, rfl⟩ := of_inj ((show enc_arith.f k ((46 : Nat) : Int) = some (0, 0, 32) by kernel_rfl).symm.trans h); exact arith_9 46 (by decide) w
 | 47, _, _, h => obtain ⟨rfl, rfl, rfl⟩ := of_inj ((show enc_arith.f k ((47 : Nat) : Int) = some (0, 1, 0) by kernel_rfl).symm.trans h); exact arith_6 47 (by decide) w
 | 48, _, _, h => obtain ⟨rfl, rfl, rfl⟩ := of_inj ((show enc_arith.f k ((48 : Nat) : Int) = some (0, 5, 0) by kernel_rfl).symm.trans h); exact arith_7 48 (by decide) w
 | 49, _, _, h => obtain ⟨rfl, rfl, rfl⟩ := of_inj ((show enc_arith.f k ((49 : Nat) : Int) = some (0, 5, 32) by kernel_rfl).symm.trans h); exact arith_8 49 (by decide) w
 | n + 50, _, h1, _ => exact absurd h1 (by omega)

/-! ### enc_code_with: function 69 -/
def enc_code_with.f (a0_0 : Int) (a0_1 : Int) (a0_2 : Int) (a1 : Int) : Option (Int × Int × Int) := some (a1, a0_1, a0_2)
set_option maxHeartbeats 8000000 in
set_option maxRecDepth 100000 in
theorem enc_code_with.calls (a0_0 : Int) (a0_1 : Int) (a0_2 : Int) (a1 : Int) (r1 : Int) (r2 : Int) (r3 : Int) (w : World) (h : enc_code_with.f a0_0 a0_1 a0_2 a1 = some (r1, r2, r3)) :
  Calls Tryd.prog 69 #[.agg #[.int .u32 a0_0, .int .u32 a0_1, .int .u32 a0_2], .int .u32 a1] w fun e w' => e = .returned (.agg #[.int .u32 r1, .int .u32 r2, .int .u32 r3]) ∧ Below w.heap.size w w' := by
 have hu61 := Tryd.underlying61
 have HB := Aside0.mk (Below.refl w.heap.size w)
 have H : (some (a1, a0_1, a0_2)) = some (r1, r2, r3) := h
 clear h
 simp only [Option.some.injEq, Prod.mk.injEq] at H
 obtain ⟨rfl, rfl, rfl⟩ := H
 go_enter Tryd.func69, Tryd.ntmps69
 go_wp2_with (first | ((with_reducible refine gate_dst (N := 2) rfl ?_); refine box_event ?hg (N := 2) ?hd (cs := #[.int .u32 a0_0, .int .u32 a0_1, .int .u32 a0_2]) (t := 61) ?hr ?_; (case hd => rfl); (case hg => rfl); (case hr => first | (go_simp; done) | (go_simp; rfl)); intro gb184 hg w3 hbox hb; obtain ⟨n0_, GW184⟩ := nb (w := w) hg hb; clear HB; have HB := n0_; have BK184 := Aside0.mk hbox; have GE184 := GW184; clear n0_ hb hbox hg) | ((with_reducible refine gate_dst (N := 4) rfl ?_); refine box_event ?hg (N := 4) ?hd (cs := #[.int .u32 0, .int .u32 0, .int .u32 0]) (t := 61) ?hr ?_; (case hd => rfl); (case hg => rfl); (case hr => first | (go_simp; done) | (go_simp; rfl)); intro gb185 hg w4 hbox hb; have n0_ := Aside0.mk (blk_below (g := gb184) (o := .cells #[.int .u32 a0_0, .int .u32 a0_1, .int .u32 a0_2] 61 (0, 0)) (bk BK184.out) hb); have n1_ := Aside0.mk (below_step bl hb); have n2_ := Aside0.mk (hbox); have n3_ := Aside0.mk ((by rw [hg]; exact (below_size bl) : w.heap.size ≤ gb185)); have n4_ := Aside0.mk ((by rw [hg]; exact (below_size bl) : w.heap.size ≤ gb185)); have n5_ := Aside0.mk ((by rw [hg]; exact Nat.ne_of_lt (blk_lt (g := gb184) (o := .cells #[.int .u32 a0_0, .int .u32 a0_1, .int .u32 a0_2] 61 (0, 0)) (bk BK184.out)) : gb184 ≠ gb185)); have n6_ := Aside0.mk ((by rw [hg]; exact Nat.ne_of_gt (blk_lt (g := gb184) (o := .cells #[.int .u32 a0_0, .int .u32 a0_1, .int .u32 a0_2] 61 (0, 0)) (bk BK184.out)) : gb185 ≠ gb184)); clear BK184; clear HB; have BK184 := n0_; have HB := n1_; have BK185 := n2_; have GW185 := n3_; have GE185 := n4_; have NB184_185 := n5_; have NB185_184 := n6_; clear n0_ n1_ n2_ n3_ n4_ n5_ n6_; clear hb hbox hg; have hnb5 := NB184_185.out; have hnc5 := NB185_184.out; obtain ⟨hcz6_0, hcz6_1, hcz6_2, hfz6_0, hfz6_1, hfz6_2⟩ := cz3 (w := w4) BK184.out; obtain ⟨hcz7_0, hcz7_1, hcz7_2, hfz7_0, hfz7_1, hfz7_2⟩ := cz3 (w := w4) BK185.out))
 refine bodyPost_ret (results_cell_row rfl _ _ gb185 61 #[.int .u32 a1, .int .u32 a0_1, .int .u32 a0_2] (0, 0) _ rfl (by refine bx ?_; refine blk_put (cs := #[.int .u32 a1, .int .u32 a0_1, .int .u32 0]) ?_ 2 _ rfl; refine bx ?_; refine blk_put (cs := #[.int .u32 a1, .int .u32 0, .int .u32 0]) ?_ 1 _ rfl; refine bx ?_; refine blk_put (cs := #[.int .u32 0, .int .u32 0, .int .u32 0]) ?_ 0 _ rfl; refine bx ?_; exact BK185.out) Tryd.underlying61 rfl (by kernel_rfl)) rfl ?_
 exact ⟨fi, bl⟩

/-! ### enc_times: function 70 -/
def enc_times.f (a0 : Int) : Option (Int × Int × Int) := if a0 ≤ 57 then (some (0, (wrap64 (a0 - 50)) % 4294967296, 1)) else (if a0 > 58 then (some (0, (((wrap64 (a0 - 59)) % 4294967296) + 4) % 4294967296, 1)) else (some (0, 0, 1)))
set_option maxHeartbeats 8000000 in
set_option maxRecDepth 100000 in
theorem enc_times.calls (a0 : Int) (r1 : Int) (r2 : Int) (r3 : Int) (w : World) (h : enc_times.f a0 = some (r1, r2, r3)) :
  Calls Tryd.prog 70 #[.int .i64 a0] w fun e w' => e = .returned (.agg #[.int .u32 r1, .int .u32 r2, .int .u32 r3]) ∧ Below w.heap.size w w' := by
 have hu61 := Tryd.underlying61
 have HB := Aside0.mk (Below.refl w.heap.size w)
 have H : (if a0 ≤ 57 then (some (0, (wrap64 (a0 - 50)) % 4294967296, 1)) else (if a0 > 58 then (some (0, (((wrap64 (a0 - 59)) % 4294967296) + 4) % 4294967296, 1)) else (some (0, 0, 1)))) = some (r1, r2, r3) := h
 clear h
 by_cases c2 : a0 ≤ 57
 ·rw [if_pos c2] at H
  have c2b0 := decide_eq_true c2
  clear c2
  simp only [Option.some.injEq, Prod.mk.injEq] at H
  obtain ⟨rfl, rfl, rfl⟩ := H
  go_enter Tryd.func70, Tryd.ntmps70
  go_wp2_with (first | ((with_reducible refine gate_dst (N := 2) rfl ?_); refine box_event ?hg (N := 2) ?hd (cs := #[.int .u32 0, .int .u32 0, .int .u32 0]) (t := 61) ?hr ?_; (case hd => rfl); (case hg => rfl); (case hr => first | (go_simp; done) | (go_simp; rfl)); intro gb186 hg w3 hbox hb; obtain ⟨n0_, GW186⟩ := nb (w := w) hg hb; clear HB; have HB := n0_; have BK186 := Aside0.mk hbox; have GE186 := GW186; clear n0_ hb hbox hg; obtain ⟨hcz4_0, hcz4_1, hcz4_2, hfz4_0, hfz4_1, hfz4_2⟩ := cz3 (w := w3) BK186.out))
  refine bodyPost_ret (results_cell_row rfl _ _ gb186 61 #[.int .u32 0, .int .u32 ((wrap64 (a0 - 50)) % 4294967296), .int .u32 1] (0, 0) _ rfl (by refine bx ?_; refine blk_put (cs := #[.int .u32 0, .int .u32 ((wrap64 (a0 - 50)) % 4294967296), .int .u32 0]) ?_ 2 _ rfl; refine bx ?_; refine blk_put (cs := #[.int .u32 0, .int .u32 0, .int .u32 0]) ?_ 1 _ (by first | rfl | simp); refine bx ?_; refine blk_put (cs := #[.int .u32 0, .int .u32 0, .int .u32 0]) ?_ 0 _ rfl; refine bx ?_; exact BK186.out) Tryd.underlying61 rfl (by kernel_rfl)) rfl ?_
  exact ⟨fi, bl⟩
 ·rw [if_neg c2] at H
  have c2b0 := decide_eq_false c2
  clear c2
  by_cases c5 : a0 > 58
  ·rw [if_pos c5] at H
   have c5b0 := decide_eq_true c5
   clear c5
   simp only [Option.some.injEq, Prod.mk.injEq] at H
   obtain ⟨rfl, rfl, rfl⟩ := H
   go_enter Tryd.func70, Tryd.ntmps70
   go_wp2_with (first | ((with_reducible refine gate_dst (N := 2) rfl ?_); refine box_event ?hg (N := 2) ?hd (cs := #[.int .u32 0, .int .u32 0, .int .u32 0]) (t := 61) ?hr ?_; (case hd => rfl); (case hg => rfl); (case hr => first | (go_simp; done) | (go_simp; rfl)); intro gb186 hg w6 hbox hb; obtain ⟨n0_, GW186⟩ := nb (w := w) hg hb; clear HB; have HB := n0_; have BK186 := Aside0.mk hbox; have GE186 := GW186; clear n0_ hb hbox hg; obtain ⟨hcz7_0, hcz7_1, hcz7_2, hfz7_0, hfz7_1, hfz7_2⟩ := cz3 (w := w6) BK186.out))
   refine bodyPost_ret (results_cell_row rfl _ _ gb186 61 #[.int .u32 0, .int .u32 ((((wrap64 (a0 - 59)) % 4294967296) + 4) % 4294967296), .int .u32 1] (0, 0) _ rfl (by refine bx ?_; refine blk_put (cs := #[.int .u32 0, .int .u32 ((((wrap64 (a0 - 59)) % 4294967296) + 4) % 4294967296), .int .u32 0]) ?_ 2 _ rfl; refine bx ?_; refine blk_put (cs := #[.int .u32 0, .int .u32 0, .int .u32 0]) ?_ 1 _ (by first | rfl | simp); refine bx ?_; refine blk_put (cs := #[.int .u32 0, .int .u32 0, .int .u32 0]) ?_ 0 _ rfl; refine bx ?_; exact BK186.out) Tryd.underlying61 rfl (by kernel_rfl)) rfl ?_
   exact ⟨fi, bl⟩
  ·rw [if_neg c5] at H
   have c5b0 := decide_eq_false c5
   clear c5
   simp only [Option.some.injEq, Prod.mk.injEq] at H
   obtain ⟨rfl, rfl, rfl⟩ := H
   go_enter Tryd.func70, Tryd.ntmps70
   go_wp2_with (first | ((with_reducible refine gate_dst (N := 2) rfl ?_); refine box_event ?hg (N := 2) ?hd (cs := #[.int .u32 0, .int .u32 0, .int .u32 0]) (t := 61) ?hr ?_; (case hd => rfl); (case hg => rfl); (case hr => first | (go_simp; done) | (go_simp; rfl)); intro gb186 hg w8 hbox hb; obtain ⟨n0_, GW186⟩ := nb (w := w) hg hb; clear HB; have HB := n0_; have BK186 := Aside0.mk hbox; have GE186 := GW186; clear n0_ hb hbox hg; obtain ⟨hcz9_0, hcz9_1, hcz9_2, hfz9_0, hfz9_1, hfz9_2⟩ := cz3 (w := w8) BK186.out))
   refine bodyPost_ret (results_cell_row rfl _ _ gb186 61 #[.int .u32 0, .int .u32 0, .int .u32 1] (0, 0) _ rfl (by refine bx ?_; refine blk_put (cs := #[.int .u32 0, .int .u32 0, .int .u32 0]) ?_ 2 _ rfl; refine bx ?_; refine blk_put (cs := #[.int .u32 0, .int .u32 0, .int .u32 0]) ?_ 1 _ (by first | rfl | simp); refine bx ?_; refine blk_put (cs := #[.int .u32 0, .int .u32 0, .int .u32 0]) ?_ 0 _ rfl; refine bx ?_; exact BK186.out) Tryd.underlying61 rfl (by kernel_rfl)) rfl ?_
   exact ⟨fi, bl⟩

/-! ### enc_atomic: function 71 (by hand) -/
def f5Tab : List Int := [2, 3, 1, 0, 4, 12, 8, 16, 20, 24, 28]
def f5Arr : Array Value := (f5Tab.map fun n => Value.int .u32 n).toArray
def f5Zero : Array Value := Array.replicate 11 (.int .u32 0)
theorem f5Arr_one : ∀ q ∈ f5Arr.toList, q.oneCell' = true := by
 intro q hq
 obtain ⟨n, _, rfl⟩ := List.mem_map.mp hq
 rfl
theorem f5Arr_at (i : Nat) (h : i < 11) : f5Arr[i]? = some (.int .u32 (rd f5Tab (i : Int))) := by
 have hl : f5Tab.length = 11 := by decide
 unfold f5Arr rd
 simp [hl, h]
def enc_atomic.f (a0 : Int) : Option (Int × Int × Int) := if 66 ≤ a0 ∧ a0 < 88 then some (47, if a0 < 77 then 2 else 3, (rd f5Tab (if a0 < 77 then a0 - 66 else a0 - 77) * 4) % 4294967296) else none
theorem fill_event {P : Program} {ops : Array Oper} {rest : List Oper} {o : Oper} {a : Act} {Q : Exit → Act → World → Prop} {W : World} (hgd : o.guard = none) {t : TypeId} {p : Tmp} {v : Operand} (ho : o.op = .store t (.tmp p) v) (hN : o.dst = none)
  {g : Nat} {e : TypeId} {cur cs : Array Value} (hp : a.eval (.tmp p) = .pointer (some ⟨g, 0, none⟩)) (hv : a.eval v = .agg cs) (hh : W.heap[g]? = some (.cells cur e (0, 0))) (hsz : cs.size = cur.size)
  (h1 : ∀ q ∈ cs.toList, q.oneCell' = true) (hc : (Value.agg cs).cells.toList = cs.toList) (ht : (P.info? t).map (·.size) = some cs.size)
  (h : ∀ w1, w1.heap[g]? = some (.cells cs e (0, 0)) → Below g W w1 → wpList P ops Q rest a w1) : wpList P ops Q (o :: rest) a W := by
 have hrun : (Instr.storeAt t (.pointer (some ⟨g, 0, none⟩)) (.agg cs)).run P W = .ok () (W.setCells g 0 cs.toList) :=
  run_store_run t (.agg cs) cs.toList hh hc (by rw [ht, Array.length_toList]) (by rw [Array.length_toList]; omega) h1
 refine wpList_plain hgd fun K hK => ?_
 unfold Oper.wp execOp
 simp only [ho, hp, hv, Sem.run_bind, Sem.run_pure, Result.andThen_ok, hrun]
 show K (a.put o.dst undef) _
 rw [hN]
 refine hK a _ (h _ ?_ ?_)
 ·obtain ⟨cur', h3, h4, h5⟩ := setCells_row cs.toList 0 W cur hh (by rw [Array.length_toList]; omega)
  have e : cur' = cs := by
   apply Array.ext'
   rw [h5, List.take_zero, List.nil_append, List.drop_of_length_le (by rw [Array.length_toList, Array.length_toList]; omega), List.append_nil]
  rw [e] at h3; exact h3
 ·obtain ⟨s1, s2, s3, s4⟩ := setCells_same g cs.toList 0 W
  exact ⟨s1, s2, s3, by rw [s4]; exact Nat.le_refl _, fun k hk => setCells_far _ _ k (Nat.ne_of_lt hk)⟩
theorem below_fill {b g : Nat} {w W w1 : World} (h : Below b w W) (h1 : Below g W w1) (hg : b ≤ g) : Below b w w1 :=
 h.trans ⟨h1.os, h1.tape, h1.output, h1.size, fun k hk => h1.block k (Nat.lt_of_lt_of_le hk hg)⟩
set_option maxHeartbeats 8000000 in
set_option maxRecDepth 100000 in
theorem atomic_lo (a0 : Int) (i : Nat) (hi : i < 11) (he : wrap64 (a0 - 66) = (i : Int)) (hb0 : decide (77 ≤ a0) = false) (w : World) : Calls Tryd.prog 71 #[.int .i64 a0] w fun e w' => e = .returned (.agg #[.int .u32 47, .int .u32 2, .int .u32 ((rd f5Tab (i : Int) * 4) % 4294967296)]) ∧ Below w.heap.size w w' := by
 have hi0 : (0 : Int) ≤ (i : Int) := by omega
 have hi1 : (i : Int) < 11 := by omega
 have hu84 := Tryd.underlying61
 have hu120 := Tryd.underlying105
 have HB := Aside0.mk (Below.refl w.heap.size w)
 go_enter Tryd.func71, Tryd.ntmps71
 go_wp2_with (first | ((with_reducible refine gate_dst (N := 2) rfl ?_); refine box_event ?hg (N := 2) ?hd (cs := #[.int .u32 0, .int .u32 0, .int .u32 0]) (t := 61) ?hr ?_; (case hd => rfl); (case hg => rfl); (case hr => first | (go_simp; done) | (go_simp; rfl)); intro gbp hg wbp hbox hb; have n0_ := Aside0.mk (below_step bl hb); have n1_ := Aside0.mk (hbox); have n2_ := Aside0.mk ((by rw [hg]; exact (below_size bl) : w.heap.size ≤ gbp)); clear HB; have HB := n0_; have BKp := n1_; have GEp := n2_; clear n0_ n1_ n2_; clear hb hbox hg; have hczp_0 : wbp.cell? ⟨gbp, 0, none⟩ = some (.int .u32 0) := (blk_cell BKp.out 0).trans rfl; have hfzp_0 := blk_frozen BKp.out 0; have hczp_1 : wbp.cell? ⟨gbp, 1, none⟩ = some (.int .u32 0) := (blk_cell BKp.out 1).trans rfl; have hfzp_1 := blk_frozen BKp.out 1; have hczp_2 : wbp.cell? ⟨gbp, 2, none⟩ = some (.int .u32 0) := (blk_cell BKp.out 2).trans rfl; have hfzp_2 := blk_frozen BKp.out 2) | ((with_reducible refine gate_dst (N := 3) rfl ?_); refine box_event ?hg (N := 3) ?hd (cs := f5Zero) (t := 105) ?hr ?_; (case hd => rfl); (case hg => rfl); (case hr => first | (go_simp; done) | (go_simp; rfl)); intro gbq hg wbq hbox hb; have n0_ := Aside0.mk (blk_below (g := gbp) (o := .cells #[.int .u32 0, .int .u32 0, .int .u32 0] 61 (0, 0)) (bk BKp.out) hb); have n1_ := Aside0.mk (below_step bl hb); have n2_ := Aside0.mk (hbox); have n3_ := Aside0.mk ((by rw [hg]; exact (below_size bl) : w.heap.size ≤ gbq)); have n4_ := Aside0.mk ((by rw [hg]; exact Nat.ne_of_lt (blk_lt (g := gbp) (o := .cells #[.int .u32 0, .int .u32 0, .int .u32 0] 61 (0, 0)) (bk BKp.out)) : gbp ≠ gbq)); have n5_ := Aside0.mk ((by rw [hg]; exact Nat.ne_of_gt (blk_lt (g := gbp) (o := .cells #[.int .u32 0, .int .u32 0, .int .u32 0] 61 (0, 0)) (bk BKp.out)) : gbq ≠ gbp)); have n6_ := Aside0.mk ((by rw [hg]; exact blk_lt (g := gbp) (o := .cells #[.int .u32 0, .int .u32 0, .int .u32 0] 61 (0, 0)) (bk BKp.out)) : gbp < gbq); clear BKp; clear HB; have BKp := n0_; have HB := n1_; have BKq := n2_; have GEq := n3_; have NBp_q := n4_; have NBq_p := n5_; have LTp_q := n6_; clear n0_ n1_ n2_ n3_ n4_ n5_ n6_; clear hb hbox hg; have hnbp := NBp_q.out; have hncp := NBq_p.out; have hczp_0 : wbq.cell? ⟨gbp, 0, none⟩ = some (.int .u32 0) := (blk_cell BKp.out 0).trans rfl; have hfzp_0 := blk_frozen BKp.out 0; have hczp_1 : wbq.cell? ⟨gbp, 1, none⟩ = some (.int .u32 0) := (blk_cell BKp.out 1).trans rfl; have hfzp_1 := blk_frozen BKp.out 1; have hczp_2 : wbq.cell? ⟨gbp, 2, none⟩ = some (.int .u32 0) := (blk_cell BKp.out 2).trans rfl; have hfzp_2 := blk_frozen BKp.out 2) | ((with_reducible refine gate_store (t := 105) (p := 3) rfl ?_); refine fill_event rfl (t := 105) (p := 3) rfl rfl (g := gbq) (e := 105) (cur := f5Zero) (cs := f5Arr) ?hp ?hv (bk BKq.out) rfl f5Arr_one rfl ?ht ?_; (case hp => first | rfl | (go_simp; done) | (go_simp; rfl)); (case hv => first | rfl | (go_simp; done) | (go_simp; rfl)); (case ht => kernel_rfl); intro wf hwf hb; have n0_ := Aside0.mk (below_fill bl hb GEq.out); have n1_ := Aside0.mk hwf; have n2_ := Aside0.mk ((hb.block gbp LTp_q.out).trans (bk BKp.out)); clear BKq BKp HB; have BKq := n1_; have HB := n0_; have BKp := n2_; clear n0_ n1_ n2_ hb hwf; have hczp_0 : wf.cell? ⟨gbp, 0, none⟩ = some (.int .u32 0) := (blk_cell BKp.out 0).trans rfl; have hfzp_0 := blk_frozen BKp.out 0; have hczp_1 : wf.cell? ⟨gbp, 1, none⟩ = some (.int .u32 0) := (blk_cell BKp.out 1).trans rfl; have hfzp_1 := blk_frozen BKp.out 1; have hczp_2 : wf.cell? ⟨gbp, 2, none⟩ = some (.int .u32 0) := (blk_cell BKp.out 2).trans rfl; have hfzp_2 := blk_frozen BKp.out 2; have hcz : wf.cell? ⟨gbq, i, none⟩ = some (.int .u32 (rd f5Tab (i : Int))) := (blk_cell BKq.out i).trans (f5Arr_at i hi); have hfz := blk_frozen BKq.out i))
 refine bodyPost_ret (results_cell_row rfl _ _ gbp 61 #[.int .u32 47, .int .u32 2, .int .u32 ((rd f5Tab (i : Int) * 4) % 4294967296)] (0, 0) _ rfl (by refine bx ?_; refine blk_put (cs := #[.int .u32 47, .int .u32 2, .int .u32 0]) ?_ 2 _ rfl; refine bx ?_; refine blk_put (cs := #[.int .u32 47, .int .u32 0, .int .u32 0]) ?_ 1 _ rfl; refine bx ?_; refine blk_put (cs := #[.int .u32 0, .int .u32 0, .int .u32 0]) ?_ 0 _ rfl; refine bx ?_; exact BKp.out) Tryd.underlying61 rfl (by kernel_rfl)) rfl ?_
 exact ⟨by first | rfl | (simp; done), bl⟩
set_option maxHeartbeats 8000000 in
set_option maxRecDepth 100000 in
theorem atomic_hi (a0 : Int) (i : Nat) (hi : i < 11) (he : wrap64 (a0 - 77) = (i : Int)) (hb0 : decide (77 ≤ a0) = true) (w : World) : Calls Tryd.prog 71 #[.int .i64 a0] w fun e w' => e = .returned (.agg #[.int .u32 47, .int .u32 3, .int .u32 ((rd f5Tab (i : Int) * 4) % 4294967296)]) ∧ Below w.heap.size w w' := by
 have hi0 : (0 : Int) ≤ (i : Int) := by omega
 have hi1 : (i : Int) < 11 := by omega
 have hu84 := Tryd.underlying61
 have hu120 := Tryd.underlying105
 have HB := Aside0.mk (Below.refl w.heap.size w)
 go_enter Tryd.func71, Tryd.ntmps71
 go_wp2_with (first | ((with_reducible refine gate_dst (N := 2) rfl ?_); refine box_event ?hg (N := 2) ?hd (cs := #[.int .u32 0, .int .u32 0, .int .u32 0]) (t := 61) ?hr ?_; (case hd => rfl); (case hg => rfl); (case hr => first | (go_simp; done) | (go_simp; rfl)); intro gbp hg wbp hbox hb; have n0_ := Aside0.mk (below_step bl hb); have n1_ := Aside0.mk (hbox); have n2_ := Aside0.mk ((by rw [hg]; exact (below_size bl) : w.heap.size ≤ gbp)); clear HB; have HB := n0_; have BKp := n1_; have GEp := n2_; clear n0_ n1_ n2_; clear hb hbox hg; have hczp_0 : wbp.cell? ⟨gbp, 0, none⟩ = some (.int .u32 0) := (blk_cell BKp.out 0).trans rfl; have hfzp_0 := blk_frozen BKp.out 0; have hczp_1 : wbp.cell? ⟨gbp, 1, none⟩ = some (.int .u32 0) := (blk_cell BKp.out 1).trans rfl; have hfzp_1 := blk_frozen BKp.out 1; have hczp_2 : wbp.cell? ⟨gbp, 2, none⟩ = some (.int .u32 0) := (blk_cell BKp.out 2).trans rfl; have hfzp_2 := blk_frozen BKp.out 2) | ((with_reducible refine gate_dst (N := 3) rfl ?_); refine box_event ?hg (N := 3) ?hd (cs := f5Zero) (t := 105) ?hr ?_; (case hd => rfl); (case hg => rfl); (case hr => first | (go_simp; done) | (go_simp; rfl)); intro gbq hg wbq hbox hb; have n0_ := Aside0.mk (blk_below (g := gbp) (o := .cells #[.int .u32 0, .int .u32 0, .int .u32 0] 61 (0, 0)) (bk BKp.out) hb); have n1_ := Aside0.mk (below_step bl hb); have n2_ := Aside0.mk (hbox); have n3_ := Aside0.mk ((by rw [hg]; exact (below_size bl) : w.heap.size ≤ gbq)); have n4_ := Aside0.mk ((by rw [hg]; exact Nat.ne_of_lt (blk_lt (g := gbp) (o := .cells #[.int .u32 0, .int .u32 0, .int .u32 0] 61 (0, 0)) (bk BKp.out)) : gbp ≠ gbq)); have n5_ := Aside0.mk ((by rw [hg]; exact Nat.ne_of_gt (blk_lt (g := gbp) (o := .cells #[.int .u32 0, .int .u32 0, .int .u32 0] 61 (0, 0)) (bk BKp.out)) : gbq ≠ gbp)); have n6_ := Aside0.mk ((by rw [hg]; exact blk_lt (g := gbp) (o := .cells #[.int .u32 0, .int .u32 0, .int .u32 0] 61 (0, 0)) (bk BKp.out)) : gbp < gbq); clear BKp; clear HB; have BKp := n0_; have HB := n1_; have BKq := n2_; have GEq := n3_; have NBp_q := n4_; have NBq_p := n5_; have LTp_q := n6_; clear n0_ n1_ n2_ n3_ n4_ n5_ n6_; clear hb hbox hg; have hnbp := NBp_q.out; have hncp := NBq_p.out; have hczp_0 : wbq.cell? ⟨gbp, 0, none⟩ = some (.int .u32 0) := (blk_cell BKp.out 0).trans rfl; have hfzp_0 := blk_frozen BKp.out 0; have hczp_1 : wbq.cell? ⟨gbp, 1, none⟩ = some (.int .u32 0) := (blk_cell BKp.out 1).trans rfl; have hfzp_1 := blk_frozen BKp.out 1; have hczp_2 : wbq.cell? ⟨gbp, 2, none⟩ = some (.int .u32 0) := (blk_cell BKp.out 2).trans rfl; have hfzp_2 := blk_frozen BKp.out 2) | ((with_reducible refine gate_store (t := 105) (p := 3) rfl ?_); refine fill_event rfl (t := 105) (p := 3) rfl rfl (g := gbq) (e := 105) (cur := f5Zero) (cs := f5Arr) ?hp ?hv (bk BKq.out) rfl f5Arr_one rfl ?ht ?_; (case hp => first | rfl | (go_simp; done) | (go_simp; rfl)); (case hv => first | rfl | (go_simp; done) | (go_simp; rfl)); (case ht => kernel_rfl); intro wf hwf hb; have n0_ := Aside0.mk (below_fill bl hb GEq.out); have n1_ := Aside0.mk hwf; have n2_ := Aside0.mk ((hb.block gbp LTp_q.out).trans (bk BKp.out)); clear BKq BKp HB; have BKq := n1_; have HB := n0_; have BKp := n2_; clear n0_ n1_ n2_ hb hwf; have hczp_0 : wf.cell? ⟨gbp, 0, none⟩ = some (.int .u32 0) := (blk_cell BKp.out 0).trans rfl; have hfzp_0 := blk_frozen BKp.out 0; have hczp_1 : wf.cell? ⟨gbp, 1, none⟩ = some (.int .u32 0) := (blk_cell BKp.out 1).trans rfl; have hfzp_1 := blk_frozen BKp.out 1; have hczp_2 : wf.cell? ⟨gbp, 2, none⟩ = some (.int .u32 0) := (blk_cell BKp.out 2).trans rfl; have hfzp_2 := blk_frozen BKp.out 2; have hcz : wf.cell? ⟨gbq, i, none⟩ = some (.int .u32 (rd f5Tab (i : Int))) := (blk_cell BKq.out i).trans (f5Arr_at i hi); have hfz := blk_frozen BKq.out i))
 refine bodyPost_ret (results_cell_row rfl _ _ gbp 61 #[.int .u32 47, .int .u32 3, .int .u32 ((rd f5Tab (i : Int) * 4) % 4294967296)] (0, 0) _ rfl (by refine bx ?_; refine blk_put (cs := #[.int .u32 47, .int .u32 3, .int .u32 0]) ?_ 2 _ rfl; refine bx ?_; refine blk_put (cs := #[.int .u32 47, .int .u32 0, .int .u32 0]) ?_ 1 _ rfl; refine bx ?_; refine blk_put (cs := #[.int .u32 0, .int .u32 0, .int .u32 0]) ?_ 0 _ rfl; refine bx ?_; exact BKp.out) Tryd.underlying61 rfl (by kernel_rfl)) rfl ?_
 exact ⟨by first | rfl | (simp; done), bl⟩
theorem enc_atomic.calls (a0 : Int) (r1 : Int) (r2 : Int) (r3 : Int) (w : World) (h : enc_atomic.f a0 = some (r1, r2, r3)) :
  Calls Tryd.prog 71 #[.int .i64 a0] w fun e w' => e = .returned (.agg #[.int .u32 r1, .int .u32 r2, .int .u32 r3]) ∧ Below w.heap.size w w' := by
 unfold enc_atomic.f at h
 by_cases h1 : 66 ≤ a0 ∧ a0 < 88
 ·rw [if_pos h1] at h
  by_cases h2 : a0 < 77
  ·rw [if_pos h2, if_pos h2] at h
   obtain ⟨rfl, rfl, rfl⟩ : 47 = r1 ∧ 2 = r2 ∧ (rd f5Tab (a0 - 66) * 4) % 4294967296 = r3 := by simpa using h
   have e : a0 - 66 = (((a0 - 66).toNat : Nat) : Int) := by omega
   have q := atomic_lo a0 (a0 - 66).toNat (by omega) (by unfold wrap64; omega) (decide_eq_false (by omega)) w
   rw [e]; exact q
  ·rw [if_neg h2, if_neg h2] at h
   obtain ⟨rfl, rfl, rfl⟩ : 47 = r1 ∧ 3 = r2 ∧ (rd f5Tab (a0 - 77) * 4) % 4294967296 = r3 := by simpa using h
   have e : a0 - 77 = (((a0 - 77).toNat : Nat) : Int) := by omega
   have q := atomic_hi a0 (a0 - 77).toNat (by omega) (by unfold wrap64; omega) (decide_eq_true (by omega)) w
   rw [e]; exact q
 ·rw [if_neg h1] at h
  exact absurd h (by simp)

/-! ### enc_of: function 38 (by hand) -/
def codeTab : List (Int × Int × Int) := [(55, 0, 0), (23, 0, 0), (111, 0, 0), (103, 0, 0), (99, 0, 0), (99, 1, 0), (99, 4, 0), (99, 5, 0), (99, 6, 0), (99, 7, 0), (3, 0, 0), (3, 1, 0), (3, 2, 0), (3, 3, 0), (3, 4, 0), (3, 5, 0), (3, 6, 0), (35, 0, 0), (35, 1, 0), (35, 2, 0), (35, 3, 0), (19, 0, 0), (19, 2, 0), (19, 3, 0), (19, 4, 0), (19, 6, 0), (19, 7, 0), (19, 1, 0), (19, 5, 0), (19, 5, 32), (27, 0, 0), (27, 1, 0), (27, 5, 0), (27, 5, 32), (51, 0, 0), (51, 0, 32), (51, 1, 0), (51, 2, 0), (51, 3, 0), (51, 4, 0), (51, 5, 0), (51, 5, 32), (51, 6, 0), (51, 7, 0), (59, 0, 0), (59, 0, 32), (59, 1, 0), (59, 5, 0), (59, 5, 32), (51, 0, 1), (51, 1, 1), (51, 2, 1), (51, 3, 1), (51, 4, 1), (51, 5, 1), (51, 6, 1), (51, 7, 1), (59, 0, 1), (59, 4, 1), (59, 5, 1), (59, 6, 1), (59, 7, 1), (15, 0, 0), (115, 0, 0), (115, 0, 0), (47, 2, 8), (47, 2, 12), (47, 2, 4), (47, 2, 0), (47, 2, 16), (47, 2, 48), (47, 2, 32), (47, 2, 64), (47, 2, 80), (47, 2, 96), (47, 2, 112), (47, 3, 8), (47, 3, 12), (47, 3, 4), (47, 3, 0), (47, 3, 16), (47, 3, 48), (47, 3, 32), (47, 3, 64), (47, 3, 80), (47, 3, 96), (47, 3, 112)]
def enc_of.f (a0 : Int) : Option (Int × Int × Int) := if 1 ≤ a0 ∧ a0 < 88 then codeTab[a0.toNat - 1]? else none
theorem ls_eq {a x c d z : Int} {w : World} (q : Calls Tryd.prog 38 #[.int .i64 a] w fun e w' => e = .returned (.agg #[.int .u32 c, .int .u32 x, .int .u32 z]) ∧ Below w.heap.size w w') (h : x = d) :
  Calls Tryd.prog 38 #[.int .i64 a] w fun e w' => e = .returned (.agg #[.int .u32 c, .int .u32 d, .int .u32 z]) ∧ Below w.heap.size w w' := h ▸ q
set_option maxHeartbeats 8000000 in
set_option maxRecDepth 100000 in
theorem of_1 (w : World) : Calls Tryd.prog 38 #[.int .i64 1] w fun e w' => e = .returned (.agg #[.int .u32 55, .int .u32 0, .int .u32 0]) ∧ Below w.heap.size w w' := by
 have hu84 := Tryd.underlying61
 have hu107 := Tryd.underlying85
 have hu108 := Tryd.underlying86
 have hix : ∀ W : World, Sem.run Tryd.prog (Instr.index 85 (.agg #[.int .u32 55, .int .u32 23, .int .u32 111, .int .u32 103]) (.int .i64 0)) W = Result.ok (.int .u32 55) W := fun W => by rfl
 have HB := Aside0.mk (Below.refl w.heap.size w)
 go_enter Tryd.func38, Tryd.ntmps38
 go_wp2_with (first | ((with_reducible refine gate_dst (N := 2) rfl ?_); refine box_event ?hg (N := 2) ?hd (cs := #[.int .u32 0, .int .u32 0, .int .u32 0]) (t := 61) ?hr ?_; (case hd => rfl); (case hg => rfl); (case hr => first | (go_simp; done) | (go_simp; rfl)); intro gbp hg wbp hbox hb; have n0_ := Aside0.mk (below_step bl hb); have n1_ := Aside0.mk (hbox); have n2_ := Aside0.mk ((by rw [hg]; exact (below_size bl) : w.heap.size ≤ gbp)); clear HB; have HB := n0_; have BKp := n1_; have GEp := n2_; clear n0_ n1_ n2_; clear hb hbox hg; have hczp_0 : wbp.cell? ⟨gbp, 0, none⟩ = some (.int .u32 0) := (blk_cell BKp.out 0).trans rfl; have hfzp_0 := blk_frozen BKp.out 0; have hczp_1 : wbp.cell? ⟨gbp, 1, none⟩ = some (.int .u32 0) := (blk_cell BKp.out 1).trans rfl; have hfzp_1 := blk_frozen BKp.out 1; have hczp_2 : wbp.cell? ⟨gbp, 2, none⟩ = some (.int .u32 0) := (blk_cell BKp.out 2).trans rfl; have hfzp_2 := blk_frozen BKp.out 2))
 refine bodyPost_ret (results_cell_row rfl _ _ gbp 61 #[.int .u32 55, .int .u32 0, .int .u32 0] (0, 0) _ rfl (by refine bx ?_; refine blk_put (cs := #[.int .u32 55, .int .u32 0, .int .u32 0]) ?_ 2 _ rfl; refine bx ?_; refine blk_put (cs := #[.int .u32 55, .int .u32 0, .int .u32 0]) ?_ 1 _ rfl; refine bx ?_; refine blk_put (cs := #[.int .u32 0, .int .u32 0, .int .u32 0]) ?_ 0 _ rfl; refine bx ?_; exact BKp.out) Tryd.underlying61 rfl (by kernel_rfl)) rfl ?_
 exact ⟨by first | rfl | (simp; done), bl⟩
set_option maxHeartbeats 8000000 in
set_option maxRecDepth 100000 in
theorem of_2 (w : World) : Calls Tryd.prog 38 #[.int .i64 2] w fun e w' => e = .returned (.agg #[.int .u32 23, .int .u32 0, .int .u32 0]) ∧ Below w.heap.size w w' := by
 have hu84 := Tryd.underlying61
 have hu107 := Tryd.underlying85
 have hu108 := Tryd.underlying86
 have hix : ∀ W : World, Sem.run Tryd.prog (Instr.index 85 (.agg #[.int .u32 55, .int .u32 23, .int .u32 111, .int .u32 103]) (.int .i64 1)) W = Result.ok (.int .u32 23) W := fun W => by rfl
 have HB := Aside0.mk (Below.refl w.heap.size w)
 go_enter Tryd.func38, Tryd.ntmps38
 go_wp2_with (first | ((with_reducible refine gate_dst (N := 2) rfl ?_); refine box_event ?hg (N := 2) ?hd (cs := #[.int .u32 0, .int .u32 0, .int .u32 0]) (t := 61) ?hr ?_; (case hd => rfl); (case hg => rfl); (case hr => first | (go_simp; done) | (go_simp; rfl)); intro gbp hg wbp hbox hb; have n0_ := Aside0.mk (below_step bl hb); have n1_ := Aside0.mk (hbox); have n2_ := Aside0.mk ((by rw [hg]; exact (below_size bl) : w.heap.size ≤ gbp)); clear HB; have HB := n0_; have BKp := n1_; have GEp := n2_; clear n0_ n1_ n2_; clear hb hbox hg; have hczp_0 : wbp.cell? ⟨gbp, 0, none⟩ = some (.int .u32 0) := (blk_cell BKp.out 0).trans rfl; have hfzp_0 := blk_frozen BKp.out 0; have hczp_1 : wbp.cell? ⟨gbp, 1, none⟩ = some (.int .u32 0) := (blk_cell BKp.out 1).trans rfl; have hfzp_1 := blk_frozen BKp.out 1; have hczp_2 : wbp.cell? ⟨gbp, 2, none⟩ = some (.int .u32 0) := (blk_cell BKp.out 2).trans rfl; have hfzp_2 := blk_frozen BKp.out 2))
 refine bodyPost_ret (results_cell_row rfl _ _ gbp 61 #[.int .u32 23, .int .u32 0, .int .u32 0] (0, 0) _ rfl (by refine bx ?_; refine blk_put (cs := #[.int .u32 23, .int .u32 0, .int .u32 0]) ?_ 2 _ rfl; refine bx ?_; refine blk_put (cs := #[.int .u32 23, .int .u32 0, .int .u32 0]) ?_ 1 _ rfl; refine bx ?_; refine blk_put (cs := #[.int .u32 0, .int .u32 0, .int .u32 0]) ?_ 0 _ rfl; refine bx ?_; exact BKp.out) Tryd.underlying61 rfl (by kernel_rfl)) rfl ?_
 exact ⟨by first | rfl | (simp; done), bl⟩
set_option maxHeartbeats 8000000 in
set_option maxRecDepth 100000 in
theorem of_3 (w : World) : Calls Tryd.prog 38 #[.int .i64 3] w fun e w' => e = .returned (.agg #[.int .u32 111, .int .u32 0, .int .u32 0]) ∧ Below w.heap.size w w' := by
 have hu84 := Tryd.underlying61
 have hu107 := Tryd.underlying85
 have hu108 := Tryd.underlying86
 have hix : ∀ W : World, Sem.run Tryd.prog (Instr.index 85 (.agg #[.int .u32 55, .int .u32 23, .int .u32 111, .int .u32 103]) (.int .i64 2)) W = Result.ok (.int .u32 111) W := fun W => by rfl
 have HB := Aside0.mk (Below.refl w.heap.size w)
 go_enter Tryd.func38, Tryd.ntmps38
 go_wp2_with (first | ((with_reducible refine gate_dst (N := 2) rfl ?_); refine box_event ?hg (N := 2) ?hd (cs := #[.int .u32 0, .int .u32 0, .int .u32 0]) (t := 61) ?hr ?_; (case hd => rfl); (case hg => rfl); (case hr => first | (go_simp; done) | (go_simp; rfl)); intro gbp hg wbp hbox hb; have n0_ := Aside0.mk (below_step bl hb); have n1_ := Aside0.mk (hbox); have n2_ := Aside0.mk ((by rw [hg]; exact (below_size bl) : w.heap.size ≤ gbp)); clear HB; have HB := n0_; have BKp := n1_; have GEp := n2_; clear n0_ n1_ n2_; clear hb hbox hg; have hczp_0 : wbp.cell? ⟨gbp, 0, none⟩ = some (.int .u32 0) := (blk_cell BKp.out 0).trans rfl; have hfzp_0 := blk_frozen BKp.out 0; have hczp_1 : wbp.cell? ⟨gbp, 1, none⟩ = some (.int .u32 0) := (blk_cell BKp.out 1).trans rfl; have hfzp_1 := blk_frozen BKp.out 1; have hczp_2 : wbp.cell? ⟨gbp, 2, none⟩ = some (.int .u32 0) := (blk_cell BKp.out 2).trans rfl; have hfzp_2 := blk_frozen BKp.out 2))
 refine bodyPost_ret (results_cell_row rfl _ _ gbp 61 #[.int .u32 111, .int .u32 0, .int .u32 0] (0, 0) _ rfl (by refine bx ?_; refine blk_put (cs := #[.int .u32 111, .int .u32 0, .int .u32 0]) ?_ 2 _ rfl; refine bx ?_; refine blk_put (cs := #[.int .u32 111, .int .u32 0, .int .u32 0]) ?_ 1 _ rfl; refine bx ?_; refine blk_put (cs := #[.int .u32 0, .int .u32 0, .int .u32 0]) ?_ 0 _ rfl; refine bx ?_; exact BKp.out) Tryd.underlying61 rfl (by kernel_rfl)) rfl ?_
 exact ⟨by first | rfl | (simp; done), bl⟩
set_option maxHeartbeats 8000000 in
set_option maxRecDepth 100000 in
theorem of_4 (w : World) : Calls Tryd.prog 38 #[.int .i64 4] w fun e w' => e = .returned (.agg #[.int .u32 103, .int .u32 0, .int .u32 0]) ∧ Below w.heap.size w w' := by
 have hu84 := Tryd.underlying61
 have hu107 := Tryd.underlying85
 have hu108 := Tryd.underlying86
 have hix : ∀ W : World, Sem.run Tryd.prog (Instr.index 85 (.agg #[.int .u32 55, .int .u32 23, .int .u32 111, .int .u32 103]) (.int .i64 3)) W = Result.ok (.int .u32 103) W := fun W => by rfl
 have HB := Aside0.mk (Below.refl w.heap.size w)
 go_enter Tryd.func38, Tryd.ntmps38
 go_wp2_with (first | ((with_reducible refine gate_dst (N := 2) rfl ?_); refine box_event ?hg (N := 2) ?hd (cs := #[.int .u32 0, .int .u32 0, .int .u32 0]) (t := 61) ?hr ?_; (case hd => rfl); (case hg => rfl); (case hr => first | (go_simp; done) | (go_simp; rfl)); intro gbp hg wbp hbox hb; have n0_ := Aside0.mk (below_step bl hb); have n1_ := Aside0.mk (hbox); have n2_ := Aside0.mk ((by rw [hg]; exact (below_size bl) : w.heap.size ≤ gbp)); clear HB; have HB := n0_; have BKp := n1_; have GEp := n2_; clear n0_ n1_ n2_; clear hb hbox hg; have hczp_0 : wbp.cell? ⟨gbp, 0, none⟩ = some (.int .u32 0) := (blk_cell BKp.out 0).trans rfl; have hfzp_0 := blk_frozen BKp.out 0; have hczp_1 : wbp.cell? ⟨gbp, 1, none⟩ = some (.int .u32 0) := (blk_cell BKp.out 1).trans rfl; have hfzp_1 := blk_frozen BKp.out 1; have hczp_2 : wbp.cell? ⟨gbp, 2, none⟩ = some (.int .u32 0) := (blk_cell BKp.out 2).trans rfl; have hfzp_2 := blk_frozen BKp.out 2))
 refine bodyPost_ret (results_cell_row rfl _ _ gbp 61 #[.int .u32 103, .int .u32 0, .int .u32 0] (0, 0) _ rfl (by refine bx ?_; refine blk_put (cs := #[.int .u32 103, .int .u32 0, .int .u32 0]) ?_ 2 _ rfl; refine bx ?_; refine blk_put (cs := #[.int .u32 103, .int .u32 0, .int .u32 0]) ?_ 1 _ rfl; refine bx ?_; refine blk_put (cs := #[.int .u32 0, .int .u32 0, .int .u32 0]) ?_ 0 _ rfl; refine bx ?_; exact BKp.out) Tryd.underlying61 rfl (by kernel_rfl)) rfl ?_
 exact ⟨by first | rfl | (simp; done), bl⟩
set_option maxHeartbeats 8000000 in
set_option maxRecDepth 100000 in
theorem of_5 (w : World) : Calls Tryd.prog 38 #[.int .i64 5] w fun e w' => e = .returned (.agg #[.int .u32 99, .int .u32 0, .int .u32 0]) ∧ Below w.heap.size w w' := by
 have hu84 := Tryd.underlying61
 have hu107 := Tryd.underlying85
 have hu108 := Tryd.underlying86
 have hix : ∀ W : World, Sem.run Tryd.prog (Instr.index 86 (.agg #[.int .u32 0, .int .u32 1, .int .u32 4, .int .u32 5, .int .u32 6, .int .u32 7]) (.int .i64 0)) W = Result.ok (.int .u32 0) W := fun W => by rfl
 have HB := Aside0.mk (Below.refl w.heap.size w)
 go_enter Tryd.func38, Tryd.ntmps38
 go_wp2_with (first | ((with_reducible refine gate_dst (N := 2) rfl ?_); refine box_event ?hg (N := 2) ?hd (cs := #[.int .u32 0, .int .u32 0, .int .u32 0]) (t := 61) ?hr ?_; (case hd => rfl); (case hg => rfl); (case hr => first | (go_simp; done) | (go_simp; rfl)); intro gbp hg wbp hbox hb; have n0_ := Aside0.mk (below_step bl hb); have n1_ := Aside0.mk (hbox); have n2_ := Aside0.mk ((by rw [hg]; exact (below_size bl) : w.heap.size ≤ gbp)); clear HB; have HB := n0_; have BKp := n1_; have GEp := n2_; clear n0_ n1_ n2_; clear hb hbox hg; have hczp_0 : wbp.cell? ⟨gbp, 0, none⟩ = some (.int .u32 0) := (blk_cell BKp.out 0).trans rfl; have hfzp_0 := blk_frozen BKp.out 0; have hczp_1 : wbp.cell? ⟨gbp, 1, none⟩ = some (.int .u32 0) := (blk_cell BKp.out 1).trans rfl; have hfzp_1 := blk_frozen BKp.out 1; have hczp_2 : wbp.cell? ⟨gbp, 2, none⟩ = some (.int .u32 0) := (blk_cell BKp.out 2).trans rfl; have hfzp_2 := blk_frozen BKp.out 2) | (go_at_call 67; (with_reducible refine (isa_Branch.calls 5 true _ (by kernel_rfl)).mono ?_); rintro e w' ⟨rfl, ⟨nd, rfl⟩⟩))
 refine bodyPost_ret (results_cell_row rfl _ _ gbp 61 #[.int .u32 99, .int .u32 0, .int .u32 0] (0, 0) _ rfl (by refine bx ?_; refine blk_put (cs := #[.int .u32 99, .int .u32 0, .int .u32 0]) ?_ 2 _ rfl; refine bx ?_; refine blk_put (cs := #[.int .u32 99, .int .u32 0, .int .u32 0]) ?_ 1 _ rfl; refine bx ?_; refine blk_put (cs := #[.int .u32 0, .int .u32 0, .int .u32 0]) ?_ 0 _ rfl; refine bx ?_; exact BKp.out) Tryd.underlying61 rfl (by kernel_rfl)) rfl ?_
 exact ⟨by first | rfl | (simp; done), bl⟩
set_option maxHeartbeats 8000000 in
set_option maxRecDepth 100000 in
theorem of_6 (w : World) : Calls Tryd.prog 38 #[.int .i64 6] w fun e w' => e = .returned (.agg #[.int .u32 99, .int .u32 1, .int .u32 0]) ∧ Below w.heap.size w w' := by
 have hu84 := Tryd.underlying61
 have hu107 := Tryd.underlying85
 have hu108 := Tryd.underlying86
 have hix : ∀ W : World, Sem.run Tryd.prog (Instr.index 86 (.agg #[.int .u32 0, .int .u32 1, .int .u32 4, .int .u32 5, .int .u32 6, .int .u32 7]) (.int .i64 1)) W = Result.ok (.int .u32 1) W := fun W => by rfl
 have HB := Aside0.mk (Below.refl w.heap.size w)
 go_enter Tryd.func38, Tryd.ntmps38
 go_wp2_with (first | ((with_reducible refine gate_dst (N := 2) rfl ?_); refine box_event ?hg (N := 2) ?hd (cs := #[.int .u32 0, .int .u32 0, .int .u32 0]) (t := 61) ?hr ?_; (case hd => rfl); (case hg => rfl); (case hr => first | (go_simp; done) | (go_simp; rfl)); intro gbp hg wbp hbox hb; have n0_ := Aside0.mk (below_step bl hb); have n1_ := Aside0.mk (hbox); have n2_ := Aside0.mk ((by rw [hg]; exact (below_size bl) : w.heap.size ≤ gbp)); clear HB; have HB := n0_; have BKp := n1_; have GEp := n2_; clear n0_ n1_ n2_; clear hb hbox hg; have hczp_0 : wbp.cell? ⟨gbp, 0, none⟩ = some (.int .u32 0) := (blk_cell BKp.out 0).trans rfl; have hfzp_0 := blk_frozen BKp.out 0; have hczp_1 : wbp.cell? ⟨gbp, 1, none⟩ = some (.int .u32 0) := (blk_cell BKp.out 1).trans rfl; have hfzp_1 := blk_frozen BKp.out 1; have hczp_2 : wbp.cell? ⟨gbp, 2, none⟩ = some (.int .u32 0) := (blk_cell BKp.out 2).trans rfl; have hfzp_2 := blk_frozen BKp.out 2) | (go_at_call 67; (with_reducible refine (isa_Branch.calls 6 true _ (by kernel_rfl)).mono ?_); rintro e w' ⟨rfl, ⟨nd, rfl⟩⟩))
 refine bodyPost_ret (results_cell_row rfl _ _ gbp 61 #[.int .u32 99, .int .u32 1, .int .u32 0] (0, 0) _ rfl (by refine bx ?_; refine blk_put (cs := #[.int .u32 99, .int .u32 1, .int .u32 0]) ?_ 2 _ rfl; refine bx ?_; refine blk_put (cs := #[.int .u32 99, .int .u32 0, .int .u32 0]) ?_ 1 _ rfl; refine bx ?_; refine blk_put (cs := #[.int .u32 0, .int .u32 0, .int .u32 0]) ?_ 0 _ rfl; refine bx ?_; exact BKp.out) Tryd.underlying61 rfl (by kernel_rfl)) rfl ?_
 exact ⟨by first | rfl | (simp; done), bl⟩
set_option maxHeartbeats 8000000 in
set_option maxRecDepth 100000 in
theorem of_7 (w : World) : Calls Tryd.prog 38 #[.int .i64 7] w fun e w' => e = .returned (.agg #[.int .u32 99, .int .u32 4, .int .u32 0]) ∧ Below w.heap.size w w' := by
 have hu84 := Tryd.underlying61
 have hu107 := Tryd.underlying85
 have hu108 := Tryd.underlying86
 have hix : ∀ W : World, Sem.run Tryd.prog (Instr.index 86 (.agg #[.int .u32 0, .int .u32 1, .int .u32 4, .int .u32 5, .int .u32 6, .int .u32 7]) (.int .i64 2)) W = Result.ok (.int .u32 4) W := fun W => by rfl
 have HB := Aside0.mk (Below.refl w.heap.size w)
 go_enter Tryd.func38, Tryd.ntmps38
 go_wp2_with (first | ((with_reducible refine gate_dst (N := 2) rfl ?_); refine box_event ?hg (N := 2) ?hd (cs := #[.int .u32 0, .int .u32 0, .int .u32 0]) (t := 61) ?hr ?_; (case hd => rfl); (case hg => rfl); (case hr => first | (go_simp; done) | (go_simp; rfl)); intro gbp hg wbp hbox hb; have n0_ := Aside0.mk (below_step bl hb); have n1_ := Aside0.mk (hbox); have n2_ := Aside0.mk ((by rw [hg]; exact (below_size bl) : w.heap.size ≤ gbp)); clear HB; have HB := n0_; have BKp := n1_; have GEp := n2_; clear n0_ n1_ n2_; clear hb hbox hg; have hczp_0 : wbp.cell? ⟨gbp, 0, none⟩ = some (.int .u32 0) := (blk_cell BKp.out 0).trans rfl; have hfzp_0 := blk_frozen BKp.out 0; have hczp_1 : wbp.cell? ⟨gbp, 1, none⟩ = some (.int .u32 0) := (blk_cell BKp.out 1).trans rfl; have hfzp_1 := blk_frozen BKp.out 1; have hczp_2 : wbp.cell? ⟨gbp, 2, none⟩ = some (.int .u32 0) := (blk_cell BKp.out 2).trans rfl; have hfzp_2 := blk_frozen BKp.out 2) | (go_at_call 67; (with_reducible refine (isa_Branch.calls 7 true _ (by kernel_rfl)).mono ?_); rintro e w' ⟨rfl, ⟨nd, rfl⟩⟩))
 refine bodyPost_ret (results_cell_row rfl _ _ gbp 61 #[.int .u32 99, .int .u32 4, .int .u32 0] (0, 0) _ rfl (by refine bx ?_; refine blk_put (cs := #[.int .u32 99, .int .u32 4, .int .u32 0]) ?_ 2 _ rfl; refine bx ?_; refine blk_put (cs := #[.int .u32 99, .int .u32 0, .int .u32 0]) ?_ 1 _ rfl; refine bx ?_; refine blk_put (cs := #[.int .u32 0, .int .u32 0, .int .u32 0]) ?_ 0 _ rfl; refine bx ?_; exact BKp.out) Tryd.underlying61 rfl (by kernel_rfl)) rfl ?_
 exact ⟨by first | rfl | (simp; done), bl⟩
set_option maxHeartbeats 8000000 in
set_option maxRecDepth 100000 in
theorem of_8 (w : World) : Calls Tryd.prog 38 #[.int .i64 8] w fun e w' => e = .returned (.agg #[.int .u32 99, .int .u32 5, .int .u32 0]) ∧ Below w.heap.size w w' := by
 have hu84 := Tryd.underlying61
 have hu107 := Tryd.underlying85
 have hu108 := Tryd.underlying86
 have hix : ∀ W : World, Sem.run Tryd.prog (Instr.index 86 (.agg #[.int .u32 0, .int .u32 1, .int .u32 4, .int .u32 5, .int .u32 6, .int .u32 7]) (.int .i64 3)) W = Result.ok (.int .u32 5) W := fun W => by rfl
 have HB := Aside0.mk (Below.refl w.heap.size w)
 go_enter Tryd.func38, Tryd.ntmps38
 go_wp2_with (first | ((with_reducible refine gate_dst (N := 2) rfl ?_); refine box_event ?hg (N := 2) ?hd (cs := #[.int .u32 0, .int .u32 0, .int .u32 0]) (t := 61) ?hr ?_; (case hd => rfl); (case hg => rfl); (case hr => first | (go_simp; done) | (go_simp; rfl)); intro gbp hg wbp hbox hb; have n0_ := Aside0.mk (below_step bl hb); have n1_ := Aside0.mk (hbox); have n2_ := Aside0.mk ((by rw [hg]; exact (below_size bl) : w.heap.size ≤ gbp)); clear HB; have HB := n0_; have BKp := n1_; have GEp := n2_; clear n0_ n1_ n2_; clear hb hbox hg; have hczp_0 : wbp.cell? ⟨gbp, 0, none⟩ = some (.int .u32 0) := (blk_cell BKp.out 0).trans rfl; have hfzp_0 := blk_frozen BKp.out 0; have hczp_1 : wbp.cell? ⟨gbp, 1, none⟩ = some (.int .u32 0) := (blk_cell BKp.out 1).trans rfl; have hfzp_1 := blk_frozen BKp.out 1; have hczp_2 : wbp.cell? ⟨gbp, 2, none⟩ = some (.int .u32 0) := (blk_cell BKp.out 2).trans rfl; have hfzp_2 := blk_frozen BKp.out 2) | (go_at_call 67; (with_reducible refine (isa_Branch.calls 8 true _ (by kernel_rfl)).mono ?_); rintro e w' ⟨rfl, ⟨nd, rfl⟩⟩))
 refine bodyPost_ret (results_cell_row rfl _ _ gbp 61 #[.int .u32 99, .int .u32 5, .int .u32 0] (0, 0) _ rfl (by refine bx ?_; refine blk_put (cs := #[.int .u32 99, .int .u32 5, .int .u32 0]) ?_ 2 _ rfl; refine bx ?_; refine blk_put (cs := #[.int .u32 99, .int .u32 0, .int .u32 0]) ?_ 1 _ rfl; refine bx ?_; refine blk_put (cs := #[.int .u32 0, .int .u32 0, .int .u32 0]) ?_ 0 _ rfl; refine bx ?_; exact BKp.out) Tryd.underlying61 rfl (by kernel_rfl)) rfl ?_
 exact ⟨by first | rfl | (simp; done), bl⟩
set_option maxHeartbeats 8000000 in
set_option maxRecDepth 100000 in
theorem of_9 (w : World) : Calls Tryd.prog 38 #[.int .i64 9] w fun e w' => e = .returned (.agg #[.int .u32 99, .int .u32 6, .int .u32 0]) ∧ Below w.heap.size w w' := by
 have hu84 := Tryd.underlying61
 have hu107 := Tryd.underlying85
 have hu108 := Tryd.underlying86
 have hix : ∀ W : World, Sem.run Tryd.prog (Instr.index 86 (.agg #[.int .u32 0, .int .u32 1, .int .u32 4, .int .u32 5, .int .u32 6, .int .u32 7]) (.int .i64 4)) W = Result.ok (.int .u32 6) W := fun W => by rfl
 have HB := Aside0.mk (Below.refl w.heap.size w)
 go_enter Tryd.func38, Tryd.ntmps38
 go_wp2_with (first | ((with_reducible refine gate_dst (N := 2) rfl ?_); refine box_event ?hg (N := 2) ?hd (cs := #[.int .u32 0, .int .u32 0, .int .u32 0]) (t := 61) ?hr ?_; (case hd => rfl); (case hg => rfl); (case hr => first | (go_simp; done) | (go_simp; rfl)); intro gbp hg wbp hbox hb; have n0_ := Aside0.mk (below_step bl hb); have n1_ := Aside0.mk (hbox); have n2_ := Aside0.mk ((by rw [hg]; exact (below_size bl) : w.heap.size ≤ gbp)); clear HB; have HB := n0_; have BKp := n1_; have GEp := n2_; clear n0_ n1_ n2_; clear hb hbox hg; have hczp_0 : wbp.cell? ⟨gbp, 0, none⟩ = some (.int .u32 0) := (blk_cell BKp.out 0).trans rfl; have hfzp_0 := blk_frozen BKp.out 0; have hczp_1 : wbp.cell? ⟨gbp, 1, none⟩ = some (.int .u32 0) := (blk_cell BKp.out 1).trans rfl; have hfzp_1 := blk_frozen BKp.out 1; have hczp_2 : wbp.cell? ⟨gbp, 2, none⟩ = some (.int .u32 0) := (blk_cell BKp.out 2).trans rfl; have hfzp_2 := blk_frozen BKp.out 2) | (go_at_call 67; (with_reducible refine (isa_Branch.calls 9 true _ (by kernel_rfl)).mono ?_); rintro e w' ⟨rfl, ⟨nd, rfl⟩⟩))
 refine bodyPost_ret (results_cell_row rfl _ _ gbp 61 #[.int .u32 99, .int .u32 6, .int .u32 0] (0, 0) _ rfl (by refine bx ?_; refine blk_put (cs := #[.int .u32 99, .int .u32 6, .int .u32 0]) ?_ 2 _ rfl; refine bx ?_; refine blk_put (cs := #[.int .u32 99, .int .u32 0, .int .u32 0]) ?_ 1 _ rfl; refine bx ?_; refine blk_put (cs := #[.int .u32 0, .int .u32 0, .int .u32 0]) ?_ 0 _ rfl; refine bx ?_; exact BKp.out) Tryd.underlying61 rfl (by kernel_rfl)) rfl ?_
 exact ⟨by first | rfl | (simp; done), bl⟩
set_option maxHeartbeats 8000000 in
set_option maxRecDepth 100000 in
theorem of_10 (w : World) : Calls Tryd.prog 38 #[.int .i64 10] w fun e w' => e = .returned (.agg #[.int .u32 99, .int .u32 7, .int .u32 0]) ∧ Below w.heap.size w w' := by
 have hu84 := Tryd.underlying61
 have hu107 := Tryd.underlying85
 have hu108 := Tryd.underlying86
 have hix : ∀ W : World, Sem.run Tryd.prog (Instr.index 86 (.agg #[.int .u32 0, .int .u32 1, .int .u32 4, .int .u32 5, .int .u32 6, .int .u32 7]) (.int .i64 5)) W = Result.ok (.int .u32 7) W := fun W => by rfl
 have HB := Aside0.mk (Below.refl w.heap.size w)
 go_enter Tryd.func38, Tryd.ntmps38
 go_wp2_with (first | ((with_reducible refine gate_dst (N := 2) rfl ?_); refine box_event ?hg (N := 2) ?hd (cs := #[.int .u32 0, .int .u32 0, .int .u32 0]) (t := 61) ?hr ?_; (case hd => rfl); (case hg => rfl); (case hr => first | (go_simp; done) | (go_simp; rfl)); intro gbp hg wbp hbox hb; have n0_ := Aside0.mk (below_step bl hb); have n1_ := Aside0.mk (hbox); have n2_ := Aside0.mk ((by rw [hg]; exact (below_size bl) : w.heap.size ≤ gbp)); clear HB; have HB := n0_; have BKp := n1_; have GEp := n2_; clear n0_ n1_ n2_; clear hb hbox hg; have hczp_0 : wbp.cell? ⟨gbp, 0, none⟩ = some (.int .u32 0) := (blk_cell BKp.out 0).trans rfl; have hfzp_0 := blk_frozen BKp.out 0; have hczp_1 : wbp.cell? ⟨gbp, 1, none⟩ = some (.int .u32 0) := (blk_cell BKp.out 1).trans rfl; have hfzp_1 := blk_frozen BKp.out 1; have hczp_2 : wbp.cell? ⟨gbp, 2, none⟩ = some (.int .u32 0) := (blk_cell BKp.out 2).trans rfl; have hfzp_2 := blk_frozen BKp.out 2) | (go_at_call 67; (with_reducible refine (isa_Branch.calls 10 true _ (by kernel_rfl)).mono ?_); rintro e w' ⟨rfl, ⟨nd, rfl⟩⟩))
 refine bodyPost_ret (results_cell_row rfl _ _ gbp 61 #[.int .u32 99, .int .u32 7, .int .u32 0] (0, 0) _ rfl (by refine bx ?_; refine blk_put (cs := #[.int .u32 99, .int .u32 7, .int .u32 0]) ?_ 2 _ rfl; refine bx ?_; refine blk_put (cs := #[.int .u32 99, .int .u32 0, .int .u32 0]) ?_ 1 _ rfl; refine bx ?_; refine blk_put (cs := #[.int .u32 0, .int .u32 0, .int .u32 0]) ?_ 0 _ rfl; refine bx ?_; exact BKp.out) Tryd.underlying61 rfl (by kernel_rfl)) rfl ?_
 exact ⟨by first | rfl | (simp; done), bl⟩
set_option maxHeartbeats 8000000 in
set_option maxRecDepth 100000 in
theorem of_load (a0 : Int) (hbr : isa_Branch.f a0 = some false) (hb0 : decide (a0 ≤ 4) = false) (hb2 : decide (a0 ≤ 17) = true) (w : World) : Calls Tryd.prog 38 #[.int .i64 a0] w fun e w' => e = .returned (.agg #[.int .u32 3, .int .u32 (wrap64 (a0 - 11) % 4294967296), .int .u32 0]) ∧ Below w.heap.size w w' := by
 have AB := Aside0.mk hbr
 clear hbr
 have hu84 := Tryd.underlying61
 have HB := Aside0.mk (Below.refl w.heap.size w)
 go_enter Tryd.func38, Tryd.ntmps38
 go_wp2_with (first | ((with_reducible refine gate_dst (N := 2) rfl ?_); refine box_event ?hg (N := 2) ?hd (cs := #[.int .u32 0, .int .u32 0, .int .u32 0]) (t := 61) ?hr ?_; (case hd => rfl); (case hg => rfl); (case hr => first | (go_simp; done) | (go_simp; rfl)); intro gbp hg wbp hbox hb; have n0_ := Aside0.mk (below_step bl hb); have n1_ := Aside0.mk (hbox); have n2_ := Aside0.mk ((by rw [hg]; exact (below_size bl) : w.heap.size ≤ gbp)); clear HB; have HB := n0_; have BKp := n1_; have GEp := n2_; clear n0_ n1_ n2_; clear hb hbox hg; have hczp_0 : wbp.cell? ⟨gbp, 0, none⟩ = some (.int .u32 0) := (blk_cell BKp.out 0).trans rfl; have hfzp_0 := blk_frozen BKp.out 0; have hczp_1 : wbp.cell? ⟨gbp, 1, none⟩ = some (.int .u32 0) := (blk_cell BKp.out 1).trans rfl; have hfzp_1 := blk_frozen BKp.out 1; have hczp_2 : wbp.cell? ⟨gbp, 2, none⟩ = some (.int .u32 0) := (blk_cell BKp.out 2).trans rfl; have hfzp_2 := blk_frozen BKp.out 2) | (go_at_call 67; (with_reducible refine (isa_Branch.calls a0 false _ AB.out).mono ?_); rintro e w' ⟨rfl, ⟨nd, rfl⟩⟩))
 refine bodyPost_ret (results_cell_row rfl _ _ gbp 61 #[.int .u32 3, .int .u32 (wrap64 (a0 - 11) % 4294967296), .int .u32 0] (0, 0) _ rfl (by refine bx ?_; refine blk_put (cs := #[.int .u32 3, .int .u32 (wrap64 (a0 - 11) % 4294967296), .int .u32 0]) ?_ 2 _ rfl; refine bx ?_; refine blk_put (cs := #[.int .u32 3, .int .u32 0, .int .u32 0]) ?_ 1 _ rfl; refine bx ?_; refine blk_put (cs := #[.int .u32 0, .int .u32 0, .int .u32 0]) ?_ 0 _ rfl; refine bx ?_; exact BKp.out) Tryd.underlying61 rfl (by kernel_rfl)) rfl ?_
 exact ⟨by first | rfl | (simp; done), bl⟩
set_option maxHeartbeats 8000000 in
set_option maxRecDepth 100000 in
theorem of_store (a0 : Int) (hbr : isa_Branch.f a0 = some false) (hb0 : decide (a0 ≤ 4) = false) (hb2 : decide (a0 ≤ 17) = false) (hb3 : decide (a0 ≤ 21) = true) (w : World) : Calls Tryd.prog 38 #[.int .i64 a0] w fun e w' => e = .returned (.agg #[.int .u32 35, .int .u32 (wrap64 (a0 - 18) % 4294967296), .int .u32 0]) ∧ Below w.heap.size w w' := by
 have AB := Aside0.mk hbr
 clear hbr
 have hu84 := Tryd.underlying61
 have HB := Aside0.mk (Below.refl w.heap.size w)
 go_enter Tryd.func38, Tryd.ntmps38
 go_wp2_with (first | ((with_reducible refine gate_dst (N := 2) rfl ?_); refine box_event ?hg (N := 2) ?hd (cs := #[.int .u32 0, .int .u32 0, .int .u32 0]) (t := 61) ?hr ?_; (case hd => rfl); (case hg => rfl); (case hr => first | (go_simp; done) | (go_simp; rfl)); intro gbp hg wbp hbox hb; have n0_ := Aside0.mk (below_step bl hb); have n1_ := Aside0.mk (hbox); have n2_ := Aside0.mk ((by rw [hg]; exact (below_size bl) : w.heap.size ≤ gbp)); clear HB; have HB := n0_; have BKp := n1_; have GEp := n2_; clear n0_ n1_ n2_; clear hb hbox hg; have hczp_0 : wbp.cell? ⟨gbp, 0, none⟩ = some (.int .u32 0) := (blk_cell BKp.out 0).trans rfl; have hfzp_0 := blk_frozen BKp.out 0; have hczp_1 : wbp.cell? ⟨gbp, 1, none⟩ = some (.int .u32 0) := (blk_cell BKp.out 1).trans rfl; have hfzp_1 := blk_frozen BKp.out 1; have hczp_2 : wbp.cell? ⟨gbp, 2, none⟩ = some (.int .u32 0) := (blk_cell BKp.out 2).trans rfl; have hfzp_2 := blk_frozen BKp.out 2) | (go_at_call 67; (with_reducible refine (isa_Branch.calls a0 false _ AB.out).mono ?_); rintro e w' ⟨rfl, ⟨nd, rfl⟩⟩))
 refine bodyPost_ret (results_cell_row rfl _ _ gbp 61 #[.int .u32 35, .int .u32 (wrap64 (a0 - 18) % 4294967296), .int .u32 0] (0, 0) _ rfl (by refine bx ?_; refine blk_put (cs := #[.int .u32 35, .int .u32 (wrap64 (a0 - 18) % 4294967296), .int .u32 0]) ?_ 2 _ rfl; refine bx ?_; refine blk_put (cs := #[.int .u32 35, .int .u32 0, .int .u32 0]) ?_ 1 _ rfl; refine bx ?_; refine blk_put (cs := #[.int .u32 0, .int .u32 0, .int .u32 0]) ?_ 0 _ rfl; refine bx ?_; exact BKp.out) Tryd.underlying61 rfl (by kernel_rfl)) rfl ?_
 exact ⟨by first | rfl | (simp; done), bl⟩
set_option maxHeartbeats 8000000 in
set_option maxRecDepth 100000 in
theorem of_imm (a0 : Int) (c1 c2 : Int) (hA : enc_arith.f 20 a0 = some (0, c1, c2)) (hbr : isa_Branch.f a0 = some false) (hb0 : decide (a0 ≤ 4) = false) (hb2 : decide (a0 ≤ 17) = false) (hb3 : decide (a0 ≤ 21) = false) (hb4 : decide (a0 ≤ 30) = true) (w : World) : Calls Tryd.prog 38 #[.int .i64 a0] w fun e w' => e = .returned (.agg #[.int .u32 19, .int .u32 c1, .int .u32 c2]) ∧ Below w.heap.size w w' := by
 have AB := Aside0.mk hbr
 clear hbr
 have AA := Aside0.mk hA
 clear hA
 have hu84 := Tryd.underlying61
 have HB := Aside0.mk (Below.refl w.heap.size w)
 go_enter Tryd.func38, Tryd.ntmps38
 go_wp2_with (first | ((with_reducible refine gate_dst (N := 2) rfl ?_); refine box_event ?hg (N := 2) ?hd (cs := #[.int .u32 0, .int .u32 0, .int .u32 0]) (t := 61) ?hr ?_; (case hd => rfl); (case hg => rfl); (case hr => first | (go_simp; done) | (go_simp; rfl)); intro gbp hg wbp hbox hb; have n0_ := Aside0.mk (below_step bl hb); have n1_ := Aside0.mk (hbox); have n2_ := Aside0.mk ((by rw [hg]; exact (below_size bl) : w.heap.size ≤ gbp)); clear HB; have HB := n0_; have BKp := n1_; have GEp := n2_; clear n0_ n1_ n2_; clear hb hbox hg; have hczp_0 : wbp.cell? ⟨gbp, 0, none⟩ = some (.int .u32 0) := (blk_cell BKp.out 0).trans rfl; have hfzp_0 := blk_frozen BKp.out 0; have hczp_1 : wbp.cell? ⟨gbp, 1, none⟩ = some (.int .u32 0) := (blk_cell BKp.out 1).trans rfl; have hfzp_1 := blk_frozen BKp.out 1; have hczp_2 : wbp.cell? ⟨gbp, 2, none⟩ = some (.int .u32 0) := (blk_cell BKp.out 2).trans rfl; have hfzp_2 := blk_frozen BKp.out 2) | (go_at_call 67; (with_reducible refine (isa_Branch.calls a0 false _ AB.out).mono ?_); rintro e w' ⟨rfl, ⟨nd, rfl⟩⟩) | (go_at_call 68; (with_reducible refine (enc_arith.calls 20 a0 0 c1 c2 _ AA.out).mono ?_); rintro e wa ⟨rfl, hb⟩; have n0_ := Aside0.mk (blk_below (g := gbp) (o := .cells #[.int .u32 0, .int .u32 0, .int .u32 0] 61 (0, 0)) (bk BKp.out) hb); have n1_ := Aside0.mk (below_step bl hb); clear BKp HB; have BKp := n0_; have HB := n1_; clear n0_ n1_; clear hb; have hczp_0 : wa.cell? ⟨gbp, 0, none⟩ = some (.int .u32 0) := (blk_cell BKp.out 0).trans rfl; have hfzp_0 := blk_frozen BKp.out 0; have hczp_1 : wa.cell? ⟨gbp, 1, none⟩ = some (.int .u32 0) := (blk_cell BKp.out 1).trans rfl; have hfzp_1 := blk_frozen BKp.out 1; have hczp_2 : wa.cell? ⟨gbp, 2, none⟩ = some (.int .u32 0) := (blk_cell BKp.out 2).trans rfl; have hfzp_2 := blk_frozen BKp.out 2) | (go_at_call 69; (with_reducible refine (enc_code_with.calls 0 c1 c2 19 19 c1 c2 _ rfl).mono ?_); rintro e wc ⟨rfl, hb⟩; have n0_ := Aside0.mk (blk_below (g := gbp) (o := .cells #[.int .u32 0, .int .u32 0, .int .u32 0] 61 (0, 0)) (bk BKp.out) hb); have n1_ := Aside0.mk (below_step bl hb); clear BKp HB; have BKp := n0_; have HB := n1_; clear n0_ n1_; clear hb; have hczp_0 : wc.cell? ⟨gbp, 0, none⟩ = some (.int .u32 0) := (blk_cell BKp.out 0).trans rfl; have hfzp_0 := blk_frozen BKp.out 0; have hczp_1 : wc.cell? ⟨gbp, 1, none⟩ = some (.int .u32 0) := (blk_cell BKp.out 1).trans rfl; have hfzp_1 := blk_frozen BKp.out 1; have hczp_2 : wc.cell? ⟨gbp, 2, none⟩ = some (.int .u32 0) := (blk_cell BKp.out 2).trans rfl; have hfzp_2 := blk_frozen BKp.out 2))
 refine bodyPost_ret (results_cell_row rfl _ _ gbp 61 #[.int .u32 19, .int .u32 c1, .int .u32 c2] (0, 0) _ rfl (by refine bx ?_; refine blk_put (cs := #[.int .u32 19, .int .u32 c1, .int .u32 0]) ?_ 2 _ rfl; refine bx ?_; refine blk_put (cs := #[.int .u32 19, .int .u32 0, .int .u32 0]) ?_ 1 _ rfl; refine bx ?_; refine blk_put (cs := #[.int .u32 0, .int .u32 0, .int .u32 0]) ?_ 0 _ rfl; refine bx ?_; exact BKp.out) Tryd.underlying61 rfl (by kernel_rfl)) rfl ?_
 exact ⟨by first | rfl | (simp; done), bl⟩
set_option maxHeartbeats 8000000 in
set_option maxRecDepth 100000 in
theorem of_immw (a0 : Int) (c1 c2 : Int) (hA : enc_arith.f 20 a0 = some (0, c1, c2)) (hbr : isa_Branch.f a0 = some false) (hb0 : decide (a0 ≤ 4) = false) (hb2 : decide (a0 ≤ 17) = false) (hb3 : decide (a0 ≤ 21) = false) (hb4 : decide (a0 ≤ 30) = false) (hb5 : decide (a0 ≤ 34) = true) (w : World) : Calls Tryd.prog 38 #[.int .i64 a0] w fun e w' => e = .returned (.agg #[.int .u32 27, .int .u32 c1, .int .u32 c2]) ∧ Below w.heap.size w w' := by
 have AB := Aside0.mk hbr
 clear hbr
 have AA := Aside0.mk hA
 clear hA
 have hu84 := Tryd.underlying61
 have HB := Aside0.mk (Below.refl w.heap.size w)
 go_enter Tryd.func38, Tryd.ntmps38
 go_wp2_with (first | ((with_reducible refine gate_dst (N := 2) rfl ?_); refine box_event ?hg (N := 2) ?hd (cs := #[.int .u32 0, .int .u32 0, .int .u32 0]) (t := 61) ?hr ?_; (case hd => rfl); (case hg => rfl); (case hr => first | (go_simp; done) | (go_simp; rfl)); intro gbp hg wbp hbox hb; have n0_ := Aside0.mk (below_step bl hb); have n1_ := Aside0.mk (hbox); have n2_ := Aside0.mk ((by rw [hg]; exact (below_size bl) : w.heap.size ≤ gbp)); clear HB; have HB := n0_; have BKp := n1_; have GEp := n2_; clear n0_ n1_ n2_; clear hb hbox hg; have hczp_0 : wbp.cell? ⟨gbp, 0, none⟩ = some (.int .u32 0) := (blk_cell BKp.out 0).trans rfl; have hfzp_0 := blk_frozen BKp.out 0; have hczp_1 : wbp.cell? ⟨gbp, 1, none⟩ = some (.int .u32 0) := (blk_cell BKp.out 1).trans rfl; have hfzp_1 := blk_frozen BKp.out 1; have hczp_2 : wbp.cell? ⟨gbp, 2, none⟩ = some (.int .u32 0) := (blk_cell BKp.out 2).trans rfl; have hfzp_2 := blk_frozen BKp.out 2) | (go_at_call 67; (with_reducible refine (isa_Branch.calls a0 false _ AB.out).mono ?_); rintro e w' ⟨rfl, ⟨nd, rfl⟩⟩) | (go_at_call 68; (with_reducible refine (enc_arith.calls 20 a0 0 c1 c2 _ AA.out).mono ?_); rintro e wa ⟨rfl, hb⟩; have n0_ := Aside0.mk (blk_below (g := gbp) (o := .cells #[.int .u32 0, .int .u32 0, .int .u32 0] 61 (0, 0)) (bk BKp.out) hb); have n1_ := Aside0.mk (below_step bl hb); clear BKp HB; have BKp := n0_; have HB := n1_; clear n0_ n1_; clear hb; have hczp_0 : wa.cell? ⟨gbp, 0, none⟩ = some (.int .u32 0) := (blk_cell BKp.out 0).trans rfl; have hfzp_0 := blk_frozen BKp.out 0; have hczp_1 : wa.cell? ⟨gbp, 1, none⟩ = some (.int .u32 0) := (blk_cell BKp.out 1).trans rfl; have hfzp_1 := blk_frozen BKp.out 1; have hczp_2 : wa.cell? ⟨gbp, 2, none⟩ = some (.int .u32 0) := (blk_cell BKp.out 2).trans rfl; have hfzp_2 := blk_frozen BKp.out 2) | (go_at_call 69; (with_reducible refine (enc_code_with.calls 0 c1 c2 27 27 c1 c2 _ rfl).mono ?_); rintro e wc ⟨rfl, hb⟩; have n0_ := Aside0.mk (blk_below (g := gbp) (o := .cells #[.int .u32 0, .int .u32 0, .int .u32 0] 61 (0, 0)) (bk BKp.out) hb); have n1_ := Aside0.mk (below_step bl hb); clear BKp HB; have BKp := n0_; have HB := n1_; clear n0_ n1_; clear hb; have hczp_0 : wc.cell? ⟨gbp, 0, none⟩ = some (.int .u32 0) := (blk_cell BKp.out 0).trans rfl; have hfzp_0 := blk_frozen BKp.out 0; have hczp_1 : wc.cell? ⟨gbp, 1, none⟩ = some (.int .u32 0) := (blk_cell BKp.out 1).trans rfl; have hfzp_1 := blk_frozen BKp.out 1; have hczp_2 : wc.cell? ⟨gbp, 2, none⟩ = some (.int .u32 0) := (blk_cell BKp.out 2).trans rfl; have hfzp_2 := blk_frozen BKp.out 2))
 refine bodyPost_ret (results_cell_row rfl _ _ gbp 61 #[.int .u32 27, .int .u32 c1, .int .u32 c2] (0, 0) _ rfl (by refine bx ?_; refine blk_put (cs := #[.int .u32 27, .int .u32 c1, .int .u32 0]) ?_ 2 _ rfl; refine bx ?_; refine blk_put (cs := #[.int .u32 27, .int .u32 0, .int .u32 0]) ?_ 1 _ rfl; refine bx ?_; refine blk_put (cs := #[.int .u32 0, .int .u32 0, .int .u32 0]) ?_ 0 _ rfl; refine bx ?_; exact BKp.out) Tryd.underlying61 rfl (by kernel_rfl)) rfl ?_
 exact ⟨by first | rfl | (simp; done), bl⟩
set_option maxHeartbeats 8000000 in
set_option maxRecDepth 100000 in
theorem of_op (a0 : Int) (c1 c2 : Int) (hA : enc_arith.f 20 a0 = some (0, c1, c2)) (hbr : isa_Branch.f a0 = some false) (hb0 : decide (a0 ≤ 4) = false) (hb2 : decide (a0 ≤ 17) = false) (hb3 : decide (a0 ≤ 21) = false) (hb4 : decide (a0 ≤ 30) = false) (hb5 : decide (a0 ≤ 34) = false) (hb6 : decide (a0 ≤ 44) = true) (w : World) : Calls Tryd.prog 38 #[.int .i64 a0] w fun e w' => e = .returned (.agg #[.int .u32 51, .int .u32 c1, .int .u32 c2]) ∧ Below w.heap.size w w' := by
 have AB := Aside0.mk hbr
 clear hbr
 have AA := Aside0.mk hA
 clear hA
 have hu84 := Tryd.underlying61
 have HB := Aside0.mk (Below.refl w.heap.size w)
 go_enter Tryd.func38, Tryd.ntmps38
 go_wp2_with (first | ((with_reducible refine gate_dst (N := 2) rfl ?_); refine box_event ?hg (N := 2) ?hd (cs := #[.int .u32 0, .int .u32 0, .int .u32 0]) (t := 61) ?hr ?_; (case hd => rfl); (case hg => rfl); (case hr => first | (go_simp; done) | (go_simp; rfl)); intro gbp hg wbp hbox hb; have n0_ := Aside0.mk (below_step bl hb); have n1_ := Aside0.mk (hbox); have n2_ := Aside0.mk ((by rw [hg]; exact (below_size bl) : w.heap.size ≤ gbp)); clear HB; have HB := n0_; have BKp := n1_; have GEp := n2_; clear n0_ n1_ n2_; clear hb hbox hg; have hczp_0 : wbp.cell? ⟨gbp, 0, none⟩ = some (.int .u32 0) := (blk_cell BKp.out 0).trans rfl; have hfzp_0 := blk_frozen BKp.out 0; have hczp_1 : wbp.cell? ⟨gbp, 1, none⟩ = some (.int .u32 0) := (blk_cell BKp.out 1).trans rfl; have hfzp_1 := blk_frozen BKp.out 1; have hczp_2 : wbp.cell? ⟨gbp, 2, none⟩ = some (.int .u32 0) := (blk_cell BKp.out 2).trans rfl; have hfzp_2 := blk_frozen BKp.out 2) | (go_at_call 67; (with_reducible refine (isa_Branch.calls a0 false _ AB.out).mono ?_); rintro e w' ⟨rfl, ⟨nd, rfl⟩⟩) | (go_at_call 68; (with_reducible refine (enc_arith.calls 20 a0 0 c1 c2 _ AA.out).mono ?_); rintro e wa ⟨rfl, hb⟩; have n0_ := Aside0.mk (blk_below (g := gbp) (o := .cells #[.int .u32 0, .int .u32 0, .int .u32 0] 61 (0, 0)) (bk BKp.out) hb); have n1_ := Aside0.mk (below_step bl hb); clear BKp HB; have BKp := n0_; have HB := n1_; clear n0_ n1_; clear hb; have hczp_0 : wa.cell? ⟨gbp, 0, none⟩ = some (.int .u32 0) := (blk_cell BKp.out 0).trans rfl; have hfzp_0 := blk_frozen BKp.out 0; have hczp_1 : wa.cell? ⟨gbp, 1, none⟩ = some (.int .u32 0) := (blk_cell BKp.out 1).trans rfl; have hfzp_1 := blk_frozen BKp.out 1; have hczp_2 : wa.cell? ⟨gbp, 2, none⟩ = some (.int .u32 0) := (blk_cell BKp.out 2).trans rfl; have hfzp_2 := blk_frozen BKp.out 2) | (go_at_call 69; (with_reducible refine (enc_code_with.calls 0 c1 c2 51 51 c1 c2 _ rfl).mono ?_); rintro e wc ⟨rfl, hb⟩; have n0_ := Aside0.mk (blk_below (g := gbp) (o := .cells #[.int .u32 0, .int .u32 0, .int .u32 0] 61 (0, 0)) (bk BKp.out) hb); have n1_ := Aside0.mk (below_step bl hb); clear BKp HB; have BKp := n0_; have HB := n1_; clear n0_ n1_; clear hb; have hczp_0 : wc.cell? ⟨gbp, 0, none⟩ = some (.int .u32 0) := (blk_cell BKp.out 0).trans rfl; have hfzp_0 := blk_frozen BKp.out 0; have hczp_1 : wc.cell? ⟨gbp, 1, none⟩ = some (.int .u32 0) := (blk_cell BKp.out 1).trans rfl; have hfzp_1 := blk_frozen BKp.out 1; have hczp_2 : wc.cell? ⟨gbp, 2, none⟩ = some (.int .u32 0) := (blk_cell BKp.out 2).trans rfl; have hfzp_2 := blk_frozen BKp.out 2))
 refine bodyPost_ret (results_cell_row rfl _ _ gbp 61 #[.int .u32 51, .int .u32 c1, .int .u32 c2] (0, 0) _ rfl (by refine bx ?_; refine blk_put (cs := #[.int .u32 51, .int .u32 c1, .int .u32 0]) ?_ 2 _ rfl; refine bx ?_; refine blk_put (cs := #[.int .u32 51, .int .u32 0, .int .u32 0]) ?_ 1 _ rfl; refine bx ?_; refine blk_put (cs := #[.int .u32 0, .int .u32 0, .int .u32 0]) ?_ 0 _ rfl; refine bx ?_; exact BKp.out) Tryd.underlying61 rfl (by kernel_rfl)) rfl ?_
 exact ⟨by first | rfl | (simp; done), bl⟩
set_option maxHeartbeats 8000000 in
set_option maxRecDepth 100000 in
theorem of_opw (a0 : Int) (c1 c2 : Int) (hA : enc_arith.f 20 a0 = some (0, c1, c2)) (hbr : isa_Branch.f a0 = some false) (hb0 : decide (a0 ≤ 4) = false) (hb2 : decide (a0 ≤ 17) = false) (hb3 : decide (a0 ≤ 21) = false) (hb4 : decide (a0 ≤ 30) = false) (hb5 : decide (a0 ≤ 34) = false) (hb6 : decide (a0 ≤ 44) = false) (hb7 : decide (a0 ≤ 49) = true) (w : World) : Calls Tryd.prog 38 #[.int .i64 a0] w fun e w' => e = .returned (.agg #[.int .u32 59, .int .u32 c1, .int .u32 c2]) ∧ Below w.heap.size w w' := by
 have AB := Aside0.mk hbr
 clear hbr
 have AA := Aside0.mk hA
 clear hA
 have hu84 := Tryd.underlying61
 have HB := Aside0.mk (Below.refl w.heap.size w)
 go_enter Tryd.func38, Tryd.ntmps38
 go_wp2_with (first | ((with_reducible refine gate_dst (N := 2) rfl ?_); refine box_event ?hg (N := 2) ?hd (cs := #[.int .u32 0, .int .u32 0, .int .u32 0]) (t := 61) ?hr ?_; (case hd => rfl); (case hg => rfl); (case hr => first | (go_simp; done) | (go_simp; rfl)); intro gbp hg wbp hbox hb; have n0_ := Aside0.mk (below_step bl hb); have n1_ := Aside0.mk (hbox); have n2_ := Aside0.mk ((by rw [hg]; exact (below_size bl) : w.heap.size ≤ gbp)); clear HB; have HB := n0_; have BKp := n1_; have GEp := n2_; clear n0_ n1_ n2_; clear hb hbox hg; have hczp_0 : wbp.cell? ⟨gbp, 0, none⟩ = some (.int .u32 0) := (blk_cell BKp.out 0).trans rfl; have hfzp_0 := blk_frozen BKp.out 0; have hczp_1 : wbp.cell? ⟨gbp, 1, none⟩ = some (.int .u32 0) := (blk_cell BKp.out 1).trans rfl; have hfzp_1 := blk_frozen BKp.out 1; have hczp_2 : wbp.cell? ⟨gbp, 2, none⟩ = some (.int .u32 0) := (blk_cell BKp.out 2).trans rfl; have hfzp_2 := blk_frozen BKp.out 2) | (go_at_call 67; (with_reducible refine (isa_Branch.calls a0 false _ AB.out).mono ?_); rintro e w' ⟨rfl, ⟨nd, rfl⟩⟩) | (go_at_call 68; (with_reducible refine (enc_arith.calls 20 a0 0 c1 c2 _ AA.out).mono ?_); rintro e wa ⟨rfl, hb⟩; have n0_ := Aside0.mk (blk_below (g := gbp) (o := .cells #[.int .u32 0, .int .u32 0, .int .u32 0] 61 (0, 0)) (bk BKp.out) hb); have n1_ := Aside0.mk (below_step bl hb); clear BKp HB; have BKp := n0_; have HB := n1_; clear n0_ n1_; clear hb; have hczp_0 : wa.cell? ⟨gbp, 0, none⟩ = some (.int .u32 0) := (blk_cell BKp.out 0).trans rfl; have hfzp_0 := blk_frozen BKp.out 0; have hczp_1 : wa.cell? ⟨gbp, 1, none⟩ = some (.int .u32 0) := (blk_cell BKp.out 1).trans rfl; have hfzp_1 := blk_frozen BKp.out 1; have hczp_2 : wa.cell? ⟨gbp, 2, none⟩ = some (.int .u32 0) := (blk_cell BKp.out 2).trans rfl; have hfzp_2 := blk_frozen BKp.out 2) | (go_at_call 69; (with_reducible refine (enc_code_with.calls 0 c1 c2 59 59 c1 c2 _ rfl).mono ?_); rintro e wc ⟨rfl, hb⟩; have n0_ := Aside0.mk (blk_below (g := gbp) (o := .cells #[.int .u32 0, .int .u32 0, .int .u32 0] 61 (0, 0)) (bk BKp.out) hb); have n1_ := Aside0.mk (below_step bl hb); clear BKp HB; have BKp := n0_; have HB := n1_; clear n0_ n1_; clear hb; have hczp_0 : wc.cell? ⟨gbp, 0, none⟩ = some (.int .u32 0) := (blk_cell BKp.out 0).trans rfl; have hfzp_0 := blk_frozen BKp.out 0; have hczp_1 : wc.cell? ⟨gbp, 1, none⟩ = some (.int .u32 0) := (blk_cell BKp.out 1).trans rfl; have hfzp_1 := blk_frozen BKp.out 1; have hczp_2 : wc.cell? ⟨gbp, 2, none⟩ = some (.int .u32 0) := (blk_cell BKp.out 2).trans rfl; have hfzp_2 := blk_frozen BKp.out 2))
 refine bodyPost_ret (results_cell_row rfl _ _ gbp 61 #[.int .u32 59, .int .u32 c1, .int .u32 c2] (0, 0) _ rfl (by refine bx ?_; refine blk_put (cs := #[.int .u32 59, .int .u32 c1, .int .u32 0]) ?_ 2 _ rfl; refine bx ?_; refine blk_put (cs := #[.int .u32 59, .int .u32 0, .int .u32 0]) ?_ 1 _ rfl; refine bx ?_; refine blk_put (cs := #[.int .u32 0, .int .u32 0, .int .u32 0]) ?_ 0 _ rfl; refine bx ?_; exact BKp.out) Tryd.underlying61 rfl (by kernel_rfl)) rfl ?_
 exact ⟨by first | rfl | (simp; done), bl⟩
set_option maxHeartbeats 8000000 in
set_option maxRecDepth 100000 in
theorem of_mul (a0 : Int) (c1 c2 : Int) (hA : enc_times.f a0 = some (0, c1, c2)) (hbr : isa_Branch.f a0 = some false) (hb0 : decide (a0 ≤ 4) = false) (hb2 : decide (a0 ≤ 17) = false) (hb3 : decide (a0 ≤ 21) = false) (hb4 : decide (a0 ≤ 30) = false) (hb5 : decide (a0 ≤ 34) = false) (hb6 : decide (a0 ≤ 44) = false) (hb7 : decide (a0 ≤ 49) = false) (hb8 : decide (a0 ≤ 57) = true) (w : World) : Calls Tryd.prog 38 #[.int .i64 a0] w fun e w' => e = .returned (.agg #[.int .u32 51, .int .u32 c1, .int .u32 c2]) ∧ Below w.heap.size w w' := by
 have AB := Aside0.mk hbr
 clear hbr
 have AA := Aside0.mk hA
 clear hA
 have hu84 := Tryd.underlying61
 have HB := Aside0.mk (Below.refl w.heap.size w)
 go_enter Tryd.func38, Tryd.ntmps38
 go_wp2_with (first | ((with_reducible refine gate_dst (N := 2) rfl ?_); refine box_event ?hg (N := 2) ?hd (cs := #[.int .u32 0, .int .u32 0, .int .u32 0]) (t := 61) ?hr ?_; (case hd => rfl); (case hg => rfl); (case hr => first | (go_simp; done) | (go_simp; rfl)); intro gbp hg wbp hbox hb; have n0_ := Aside0.mk (below_step bl hb); have n1_ := Aside0.mk (hbox); have n2_ := Aside0.mk ((by rw [hg]; exact (below_size bl) : w.heap.size ≤ gbp)); clear HB; have HB := n0_; have BKp := n1_; have GEp := n2_; clear n0_ n1_ n2_; clear hb hbox hg; have hczp_0 : wbp.cell? ⟨gbp, 0, none⟩ = some (.int .u32 0) := (blk_cell BKp.out 0).trans rfl; have hfzp_0 := blk_frozen BKp.out 0; have hczp_1 : wbp.cell? ⟨gbp, 1, none⟩ = some (.int .u32 0) := (blk_cell BKp.out 1).trans rfl; have hfzp_1 := blk_frozen BKp.out 1; have hczp_2 : wbp.cell? ⟨gbp, 2, none⟩ = some (.int .u32 0) := (blk_cell BKp.out 2).trans rfl; have hfzp_2 := blk_frozen BKp.out 2) | (go_at_call 67; (with_reducible refine (isa_Branch.calls a0 false _ AB.out).mono ?_); rintro e w' ⟨rfl, ⟨nd, rfl⟩⟩) | (go_at_call 70; (with_reducible refine (enc_times.calls a0 0 c1 c2 _ AA.out).mono ?_); rintro e wa ⟨rfl, hb⟩; have n0_ := Aside0.mk (blk_below (g := gbp) (o := .cells #[.int .u32 0, .int .u32 0, .int .u32 0] 61 (0, 0)) (bk BKp.out) hb); have n1_ := Aside0.mk (below_step bl hb); clear BKp HB; have BKp := n0_; have HB := n1_; clear n0_ n1_; clear hb; have hczp_0 : wa.cell? ⟨gbp, 0, none⟩ = some (.int .u32 0) := (blk_cell BKp.out 0).trans rfl; have hfzp_0 := blk_frozen BKp.out 0; have hczp_1 : wa.cell? ⟨gbp, 1, none⟩ = some (.int .u32 0) := (blk_cell BKp.out 1).trans rfl; have hfzp_1 := blk_frozen BKp.out 1; have hczp_2 : wa.cell? ⟨gbp, 2, none⟩ = some (.int .u32 0) := (blk_cell BKp.out 2).trans rfl; have hfzp_2 := blk_frozen BKp.out 2) | (go_at_call 69; (with_reducible refine (enc_code_with.calls 0 c1 c2 51 51 c1 c2 _ rfl).mono ?_); rintro e wc ⟨rfl, hb⟩; have n0_ := Aside0.mk (blk_below (g := gbp) (o := .cells #[.int .u32 0, .int .u32 0, .int .u32 0] 61 (0, 0)) (bk BKp.out) hb); have n1_ := Aside0.mk (below_step bl hb); clear BKp HB; have BKp := n0_; have HB := n1_; clear n0_ n1_; clear hb; have hczp_0 : wc.cell? ⟨gbp, 0, none⟩ = some (.int .u32 0) := (blk_cell BKp.out 0).trans rfl; have hfzp_0 := blk_frozen BKp.out 0; have hczp_1 : wc.cell? ⟨gbp, 1, none⟩ = some (.int .u32 0) := (blk_cell BKp.out 1).trans rfl; have hfzp_1 := blk_frozen BKp.out 1; have hczp_2 : wc.cell? ⟨gbp, 2, none⟩ = some (.int .u32 0) := (blk_cell BKp.out 2).trans rfl; have hfzp_2 := blk_frozen BKp.out 2))
 refine bodyPost_ret (results_cell_row rfl _ _ gbp 61 #[.int .u32 51, .int .u32 c1, .int .u32 c2] (0, 0) _ rfl (by refine bx ?_; refine blk_put (cs := #[.int .u32 51, .int .u32 c1, .int .u32 0]) ?_ 2 _ rfl; refine bx ?_; refine blk_put (cs := #[.int .u32 51, .int .u32 0, .int .u32 0]) ?_ 1 _ rfl; refine bx ?_; refine blk_put (cs := #[.int .u32 0, .int .u32 0, .int .u32 0]) ?_ 0 _ rfl; refine bx ?_; exact BKp.out) Tryd.underlying61 rfl (by kernel_rfl)) rfl ?_
 exact ⟨by first | rfl | (simp; done), bl⟩
set_option maxHeartbeats 8000000 in
set_option maxRecDepth 100000 in
theorem of_mulw (a0 : Int) (c1 c2 : Int) (hA : enc_times.f a0 = some (0, c1, c2)) (hbr : isa_Branch.f a0 = some false) (hb0 : decide (a0 ≤ 4) = false) (hb2 : decide (a0 ≤ 17) = false) (hb3 : decide (a0 ≤ 21) = false) (hb4 : decide (a0 ≤ 30) = false) (hb5 : decide (a0 ≤ 34) = false) (hb6 : decide (a0 ≤ 44) = false) (hb7 : decide (a0 ≤ 49) = false) (hb8 : decide (a0 ≤ 57) = false) (hb9 : decide (a0 ≤ 62) = true) (w : World) : Calls Tryd.prog 38 #[.int .i64 a0] w fun e w' => e = .returned (.agg #[.int .u32 59, .int .u32 c1, .int .u32 c2]) ∧ Below w.heap.size w w' := by
 have AB := Aside0.mk hbr
 clear hbr
 have AA := Aside0.mk hA
 clear hA
 have hu84 := Tryd.underlying61
 have HB := Aside0.mk (Below.refl w.heap.size w)
 go_enter Tryd.func38, Tryd.ntmps38
 go_wp2_with (first | ((with_reducible refine gate_dst (N := 2) rfl ?_); refine box_event ?hg (N := 2) ?hd (cs := #[.int .u32 0, .int .u32 0, .int .u32 0]) (t := 61) ?hr ?_; (case hd => rfl); (case hg => rfl); (case hr => first | (go_simp; done) | (go_simp; rfl)); intro gbp hg wbp hbox hb; have n0_ := Aside0.mk (below_step bl hb); have n1_ := Aside0.mk (hbox); have n2_ := Aside0.mk ((by rw [hg]; exact (below_size bl) : w.heap.size ≤ gbp)); clear HB; have HB := n0_; have BKp := n1_; have GEp := n2_; clear n0_ n1_ n2_; clear hb hbox hg; have hczp_0 : wbp.cell? ⟨gbp, 0, none⟩ = some (.int .u32 0) := (blk_cell BKp.out 0).trans rfl; have hfzp_0 := blk_frozen BKp.out 0; have hczp_1 : wbp.cell? ⟨gbp, 1, none⟩ = some (.int .u32 0) := (blk_cell BKp.out 1).trans rfl; have hfzp_1 := blk_frozen BKp.out 1; have hczp_2 : wbp.cell? ⟨gbp, 2, none⟩ = some (.int .u32 0) := (blk_cell BKp.out 2).trans rfl; have hfzp_2 := blk_frozen BKp.out 2) | (go_at_call 67; (with_reducible refine (isa_Branch.calls a0 false _ AB.out).mono ?_); rintro e w' ⟨rfl, ⟨nd, rfl⟩⟩) | (go_at_call 70; (with_reducible refine (enc_times.calls a0 0 c1 c2 _ AA.out).mono ?_); rintro e wa ⟨rfl, hb⟩; have n0_ := Aside0.mk (blk_below (g := gbp) (o := .cells #[.int .u32 0, .int .u32 0, .int .u32 0] 61 (0, 0)) (bk BKp.out) hb); have n1_ := Aside0.mk (below_step bl hb); clear BKp HB; have BKp := n0_; have HB := n1_; clear n0_ n1_; clear hb; have hczp_0 : wa.cell? ⟨gbp, 0, none⟩ = some (.int .u32 0) := (blk_cell BKp.out 0).trans rfl; have hfzp_0 := blk_frozen BKp.out 0; have hczp_1 : wa.cell? ⟨gbp, 1, none⟩ = some (.int .u32 0) := (blk_cell BKp.out 1).trans rfl; have hfzp_1 := blk_frozen BKp.out 1; have hczp_2 : wa.cell? ⟨gbp, 2, none⟩ = some (.int .u32 0) := (blk_cell BKp.out 2).trans rfl; have hfzp_2 := blk_frozen BKp.out 2) | (go_at_call 69; (with_reducible refine (enc_code_with.calls 0 c1 c2 59 59 c1 c2 _ rfl).mono ?_); rintro e wc ⟨rfl, hb⟩; have n0_ := Aside0.mk (blk_below (g := gbp) (o := .cells #[.int .u32 0, .int .u32 0, .int .u32 0] 61 (0, 0)) (bk BKp.out) hb); have n1_ := Aside0.mk (below_step bl hb); clear BKp HB; have BKp := n0_; have HB := n1_; clear n0_ n1_; clear hb; have hczp_0 : wc.cell? ⟨gbp, 0, none⟩ = some (.int .u32 0) := (blk_cell BKp.out 0).trans rfl; have hfzp_0 := blk_frozen BKp.out 0; have hczp_1 : wc.cell? ⟨gbp, 1, none⟩ = some (.int .u32 0) := (blk_cell BKp.out 1).trans rfl; have hfzp_1 := blk_frozen BKp.out 1; have hczp_2 : wc.cell? ⟨gbp, 2, none⟩ = some (.int .u32 0) := (blk_cell BKp.out 2).trans rfl; have hfzp_2 := blk_frozen BKp.out 2))
 refine bodyPost_ret (results_cell_row rfl _ _ gbp 61 #[.int .u32 59, .int .u32 c1, .int .u32 c2] (0, 0) _ rfl (by refine bx ?_; refine blk_put (cs := #[.int .u32 59, .int .u32 c1, .int .u32 0]) ?_ 2 _ rfl; refine bx ?_; refine blk_put (cs := #[.int .u32 59, .int .u32 0, .int .u32 0]) ?_ 1 _ rfl; refine bx ?_; refine blk_put (cs := #[.int .u32 0, .int .u32 0, .int .u32 0]) ?_ 0 _ rfl; refine bx ?_; exact BKp.out) Tryd.underlying61 rfl (by kernel_rfl)) rfl ?_
 exact ⟨by first | rfl | (simp; done), bl⟩
set_option maxHeartbeats 8000000 in
set_option maxRecDepth 100000 in
theorem of_fence (a0 : Int) (hbr : isa_Branch.f a0 = some false) (hb0 : decide (a0 ≤ 4) = false) (hb2 : decide (a0 ≤ 17) = false) (hb3 : decide (a0 ≤ 21) = false) (hb4 : decide (a0 ≤ 30) = false) (hb5 : decide (a0 ≤ 34) = false) (hb6 : decide (a0 ≤ 44) = false) (hb7 : decide (a0 ≤ 49) = false) (hb8 : decide (a0 ≤ 57) = false) (hb9 : decide (a0 ≤ 62) = false) (hb10 : (a0 == 63) = true) (w : World) : Calls Tryd.prog 38 #[.int .i64 a0] w fun e w' => e = .returned (.agg #[.int .u32 15, .int .u32 0, .int .u32 0]) ∧ Below w.heap.size w w' := by
 have AB := Aside0.mk hbr
 clear hbr
 have hu84 := Tryd.underlying61
 have HB := Aside0.mk (Below.refl w.heap.size w)
 go_enter Tryd.func38, Tryd.ntmps38
 go_wp2_with (first | ((with_reducible refine gate_dst (N := 2) rfl ?_); refine box_event ?hg (N := 2) ?hd (cs := #[.int .u32 0, .int .u32 0, .int .u32 0]) (t := 61) ?hr ?_; (case hd => rfl); (case hg => rfl); (case hr => first | (go_simp; done) | (go_simp; rfl)); intro gbp hg wbp hbox hb; have n0_ := Aside0.mk (below_step bl hb); have n1_ := Aside0.mk (hbox); have n2_ := Aside0.mk ((by rw [hg]; exact (below_size bl) : w.heap.size ≤ gbp)); clear HB; have HB := n0_; have BKp := n1_; have GEp := n2_; clear n0_ n1_ n2_; clear hb hbox hg; have hczp_0 : wbp.cell? ⟨gbp, 0, none⟩ = some (.int .u32 0) := (blk_cell BKp.out 0).trans rfl; have hfzp_0 := blk_frozen BKp.out 0; have hczp_1 : wbp.cell? ⟨gbp, 1, none⟩ = some (.int .u32 0) := (blk_cell BKp.out 1).trans rfl; have hfzp_1 := blk_frozen BKp.out 1; have hczp_2 : wbp.cell? ⟨gbp, 2, none⟩ = some (.int .u32 0) := (blk_cell BKp.out 2).trans rfl; have hfzp_2 := blk_frozen BKp.out 2) | (go_at_call 67; (with_reducible refine (isa_Branch.calls a0 false _ AB.out).mono ?_); rintro e w' ⟨rfl, ⟨nd, rfl⟩⟩))
 refine bodyPost_ret (results_cell_row rfl _ _ gbp 61 #[.int .u32 15, .int .u32 0, .int .u32 0] (0, 0) _ rfl (by refine bx ?_; refine blk_put (cs := #[.int .u32 15, .int .u32 0, .int .u32 0]) ?_ 2 _ rfl; refine bx ?_; refine blk_put (cs := #[.int .u32 15, .int .u32 0, .int .u32 0]) ?_ 1 _ rfl; refine bx ?_; refine blk_put (cs := #[.int .u32 0, .int .u32 0, .int .u32 0]) ?_ 0 _ rfl; refine bx ?_; exact BKp.out) Tryd.underlying61 rfl (by kernel_rfl)) rfl ?_
 exact ⟨by first | rfl | (simp; done), bl⟩
set_option maxHeartbeats 8000000 in
set_option maxRecDepth 100000 in
theorem of_sys (a0 : Int) (hbr : isa_Branch.f a0 = some false) (hb0 : decide (a0 ≤ 4) = false) (hb2 : decide (a0 ≤ 17) = false) (hb3 : decide (a0 ≤ 21) = false) (hb4 : decide (a0 ≤ 30) = false) (hb5 : decide (a0 ≤ 34) = false) (hb6 : decide (a0 ≤ 44) = false) (hb7 : decide (a0 ≤ 49) = false) (hb8 : decide (a0 ≤ 57) = false) (hb9 : decide (a0 ≤ 62) = false) (hb10 : (a0 == 63) = false) (hb11 : decide (a0 ≤ 65) = true) (w : World) : Calls Tryd.prog 38 #[.int .i64 a0] w fun e w' => e = .returned (.agg #[.int .u32 115, .int .u32 0, .int .u32 0]) ∧ Below w.heap.size w w' := by
 have AB := Aside0.mk hbr
 clear hbr
 have hu84 := Tryd.underlying61
 have HB := Aside0.mk (Below.refl w.heap.size w)
 go_enter Tryd.func38, Tryd.ntmps38
 go_wp2_with (first | ((with_reducible refine gate_dst (N := 2) rfl ?_); refine box_event ?hg (N := 2) ?hd (cs := #[.int .u32 0, .int .u32 0, .int .u32 0]) (t := 61) ?hr ?_; (case hd => rfl); (case hg => rfl); (case hr => first | (go_simp; done) | (go_simp; rfl)); intro gbp hg wbp hbox hb; have n0_ := Aside0.mk (below_step bl hb); have n1_ := Aside0.mk (hbox); have n2_ := Aside0.mk ((by rw [hg]; exact (below_size bl) : w.heap.size ≤ gbp)); clear HB; have HB := n0_; have BKp := n1_; have GEp := n2_; clear n0_ n1_ n2_; clear hb hbox hg; have hczp_0 : wbp.cell? ⟨gbp, 0, none⟩ = some (.int .u32 0) := (blk_cell BKp.out 0).trans rfl; have hfzp_0 := blk_frozen BKp.out 0; have hczp_1 : wbp.cell? ⟨gbp, 1, none⟩ = some (.int .u32 0) := (blk_cell BKp.out 1).trans rfl; have hfzp_1 := blk_frozen BKp.out 1; have hczp_2 : wbp.cell? ⟨gbp, 2, none⟩ = some (.int .u32 0) := (blk_cell BKp.out 2).trans rfl; have hfzp_2 := blk_frozen BKp.out 2) | (go_at_call 67; (with_reducible refine (isa_Branch.calls a0 false _ AB.out).mono ?_); rintro e w' ⟨rfl, ⟨nd, rfl⟩⟩))
 refine bodyPost_ret (results_cell_row rfl _ _ gbp 61 #[.int .u32 115, .int .u32 0, .int .u32 0] (0, 0) _ rfl (by refine bx ?_; refine blk_put (cs := #[.int .u32 115, .int .u32 0, .int .u32 0]) ?_ 2 _ rfl; refine bx ?_; refine blk_put (cs := #[.int .u32 115, .int .u32 0, .int .u32 0]) ?_ 1 _ rfl; refine bx ?_; refine blk_put (cs := #[.int .u32 0, .int .u32 0, .int .u32 0]) ?_ 0 _ rfl; refine bx ?_; exact BKp.out) Tryd.underlying61 rfl (by kernel_rfl)) rfl ?_
 exact ⟨by first | rfl | (simp; done), bl⟩
set_option maxHeartbeats 8000000 in
set_option maxRecDepth 100000 in
theorem of_amo (a0 : Int) (c1 c2 : Int) (hA : enc_atomic.f a0 = some (47, c1, c2)) (hbr : isa_Branch.f a0 = some false) (hb0 : decide (a0 ≤ 4) = false) (hb2 : decide (a0 ≤ 17) = false) (hb3 : decide (a0 ≤ 21) = false) (hb4 : decide (a0 ≤ 30) = false) (hb5 : decide (a0 ≤ 34) = false) (hb6 : decide (a0 ≤ 44) = false) (hb7 : decide (a0 ≤ 49) = false) (hb8 : decide (a0 ≤ 57) = false) (hb9 : decide (a0 ≤ 62) = false) (hb10 : (a0 == 63) = false) (hb11 : decide (a0 ≤ 65) = false) (w : World) : Calls Tryd.prog 38 #[.int .i64 a0] w fun e w' => e = .returned (.agg #[.int .u32 47, .int .u32 c1, .int .u32 c2]) ∧ Below w.heap.size w w' := by
 have AB := Aside0.mk hbr
 clear hbr
 have AA := Aside0.mk hA
 clear hA
 have hu84 := Tryd.underlying61
 have HB := Aside0.mk (Below.refl w.heap.size w)
 go_enter Tryd.func38, Tryd.ntmps38
 go_wp2_with (first | ((with_reducible refine gate_dst (N := 2) rfl ?_); refine box_event ?hg (N := 2) ?hd (cs := #[.int .u32 0, .int .u32 0, .int .u32 0]) (t := 61) ?hr ?_; (case hd => rfl); (case hg => rfl); (case hr => first | (go_simp; done) | (go_simp; rfl)); intro gbp hg wbp hbox hb; have n0_ := Aside0.mk (below_step bl hb); have n1_ := Aside0.mk (hbox); have n2_ := Aside0.mk ((by rw [hg]; exact (below_size bl) : w.heap.size ≤ gbp)); clear HB; have HB := n0_; have BKp := n1_; have GEp := n2_; clear n0_ n1_ n2_; clear hb hbox hg; have hczp_0 : wbp.cell? ⟨gbp, 0, none⟩ = some (.int .u32 0) := (blk_cell BKp.out 0).trans rfl; have hfzp_0 := blk_frozen BKp.out 0; have hczp_1 : wbp.cell? ⟨gbp, 1, none⟩ = some (.int .u32 0) := (blk_cell BKp.out 1).trans rfl; have hfzp_1 := blk_frozen BKp.out 1; have hczp_2 : wbp.cell? ⟨gbp, 2, none⟩ = some (.int .u32 0) := (blk_cell BKp.out 2).trans rfl; have hfzp_2 := blk_frozen BKp.out 2) | (go_at_call 67; (with_reducible refine (isa_Branch.calls a0 false _ AB.out).mono ?_); rintro e w' ⟨rfl, ⟨nd, rfl⟩⟩) | (go_at_call 71; (with_reducible refine (enc_atomic.calls a0 47 c1 c2 _ AA.out).mono ?_); rintro e wa ⟨rfl, hb⟩; have n0_ := Aside0.mk (blk_below (g := gbp) (o := .cells #[.int .u32 0, .int .u32 0, .int .u32 0] 61 (0, 0)) (bk BKp.out) hb); have n1_ := Aside0.mk (below_step bl hb); clear BKp HB; have BKp := n0_; have HB := n1_; clear n0_ n1_; clear hb; have hczp_0 : wa.cell? ⟨gbp, 0, none⟩ = some (.int .u32 0) := (blk_cell BKp.out 0).trans rfl; have hfzp_0 := blk_frozen BKp.out 0; have hczp_1 : wa.cell? ⟨gbp, 1, none⟩ = some (.int .u32 0) := (blk_cell BKp.out 1).trans rfl; have hfzp_1 := blk_frozen BKp.out 1; have hczp_2 : wa.cell? ⟨gbp, 2, none⟩ = some (.int .u32 0) := (blk_cell BKp.out 2).trans rfl; have hfzp_2 := blk_frozen BKp.out 2))
 refine bodyPost_ret (results_cell_row rfl _ _ gbp 61 #[.int .u32 47, .int .u32 c1, .int .u32 c2] (0, 0) _ rfl (by refine bx ?_; refine blk_put (cs := #[.int .u32 47, .int .u32 c1, .int .u32 0]) ?_ 2 _ rfl; refine bx ?_; refine blk_put (cs := #[.int .u32 47, .int .u32 0, .int .u32 0]) ?_ 1 _ rfl; refine bx ?_; refine blk_put (cs := #[.int .u32 0, .int .u32 0, .int .u32 0]) ?_ 0 _ rfl; refine bx ?_; exact BKp.out) Tryd.underlying61 rfl (by kernel_rfl)) rfl ?_
 exact ⟨by first | rfl | (simp; done), bl⟩
theorem enc_of.calls (a0 : Int) (r1 : Int) (r2 : Int) (r3 : Int) (w : World) (h : enc_of.f a0 = some (r1, r2, r3)) :
  Calls Tryd.prog 38 #[.int .i64 a0] w fun e w' => e = .returned (.agg #[.int .u32 r1, .int .u32 r2, .int .u32 r3]) ∧ Below w.heap.size w w' := by
 have hr : 1 ≤ a0 ∧ a0 < 88 := by
  unfold enc_of.f at h
  by_cases h1 : 1 ≤ a0 ∧ a0 < 88
  ·exact h1
  ·rw [if_neg h1] at h
   exact absurd h (by simp)
 obtain ⟨n, rfl⟩ := Int.eq_ofNat_of_zero_le (show 0 ≤ a0 by omega)
 have h0 : 1 ≤ n := by omega
 have h1 : n < 88 := by omega
 clear hr
 match n, h0, h1, h with
 | 1, _, _, h => obtain ⟨rfl, rfl, rfl⟩ := of_inj ((show enc_of.f ((1 : Nat) : Int) = some (55, 0, 0) by kernel_rfl).symm.trans h); exact of_1 w
 | 2, _, _, h => obtain ⟨rfl, rfl, rfl⟩ := of_inj ((show enc_of.f ((2 : Nat) : Int) = some (23, 0, 0) by kernel_rfl).symm.trans h); exact of_2 w
 | 3, _, _, h => obtain ⟨rfl, rfl, rfl⟩ := of_inj ((show enc_of.f ((3 : Nat) : Int) = some (111, 0, 0) by kernel_rfl).symm.trans h); exact of_3 w
 | 4, _, _, h => obtain ⟨rfl, rfl, rfl⟩ := of_inj ((show enc_of.f ((4 : Nat) : Int) = some (103, 0, 0) by kernel_rfl).symm.trans h); exact of_4 w
 | 5, _, _, h => obtain ⟨rfl, rfl, rfl⟩ := of_inj ((show enc_of.f ((5 : Nat) : Int) = some (99, 0, 0) by kernel_rfl).symm.trans h); exact of_5 w
 | 6, _, _, h => obtain ⟨rfl, rfl, rfl⟩ := of_inj ((show enc_of.f ((6 : Nat) : Int) = some (99, 1, 0) by kernel_rfl).symm.trans h); exact of_6 w
 | 7, _, _, h => obtain ⟨rfl, rfl, rfl⟩ := of_inj ((show enc_of.f ((7 : Nat) : Int) = some (99, 4, 0) by kernel_rfl).symm.trans h); exact of_7 w
 | 8, _, _, h => obtain ⟨rfl, rfl, rfl⟩ := of_inj ((show enc_of.f ((8 : Nat) : Int) = some (99, 5, 0) by kernel_rfl).symm.trans h); exact of_8 w
 | 9, _, _, h => obtain ⟨rfl, rfl, rfl⟩ := of_inj ((show enc_of.f ((9 : Nat) : Int) = some (99, 6, 0) by kernel_rfl).symm.trans h); exact of_9 w
 | 10, _, _, h => obtain ⟨rfl, rfl, rfl⟩ := of_inj ((show enc_of.f ((10 : Nat) : Int) = some (99, 7, 0) by kernel_rfl).symm.trans h); exact of_10 w
 | 11, _, _, h => obtain ⟨rfl, rfl, rfl⟩ := of_inj ((show enc_of.f ((11 : Nat) : Int) = some (3, 0, 0) by kernel_rfl).symm.trans h); exact ls_eq (of_load 11 (by kernel_rfl) (by decide) (by decide) w) (by kernel_rfl)
 | 12, _, _, h => obtain ⟨rfl, rfl, rfl⟩ := of_inj ((show enc_of.f ((12 : Nat) : Int) = some (3, 1, 0) by kernel_rfl).symm.trans h); exact ls_eq (of_load 12 (by kernel_rfl) (by decide) (by decide) w) (by kernel_rfl)
 | 13, _, _, h => obtain ⟨rfl, rfl, rfl⟩ := of_inj ((show enc_of.f ((13 : Nat) : Int) = some (3, 2, 0) by kernel_rfl).symm.trans h); exact ls_eq (of_load 13 (by kernel_rfl) (by decide) (by decide) w) (by kernel_rfl)
 | 14, _, _, h => obtain ⟨rfl, rfl, rfl⟩ := of_inj ((show enc_of.f ((14 : Nat) : Int) = some (3, 3, 0) by kernel_rfl).symm.trans h); exact ls_eq (of_load 14 (by kernel_rfl) (by decide) (by decide) w) (by kernel_rfl)
 | 15, _, _, h => obtain ⟨rfl, rfl, rfl⟩ := of_inj ((show enc_of.f ((15 : Nat) : Int) = some (3, 4, 0) by kernel_rfl).symm.trans h); exact ls_eq (of_load 15 (by kernel_rfl) (by decide) (by decide) w) (by kernel_rfl)
 | 16, _, _, h => obtain ⟨rfl, rfl, rfl⟩ := of_inj ((show enc_of.f ((16 : Nat) : Int) = some (3, 5, 0) by kernel_rfl).symm.trans h); exact ls_eq (of_load 16 (by kernel_rfl) (by decide) (by decide) w) (by kernel_rfl)
 | 17, _, _, h => obtain ⟨rfl, rfl, rfl⟩ := of_inj ((show enc_of.f ((17 : Nat) : Int) = some (3, 6, 0) by kernel_rfl).symm.trans h); exact ls_eq (of_load 17 (by kernel_rfl) (by decide) (by decide) w) (by kernel_rfl)
 | 18, _, _, h => obtain ⟨rfl, rfl, rfl⟩ := of_inj ((show enc_of.f ((18 : Nat) : Int) = some (35, 0, 0) by kernel_rfl).symm.trans h); exact ls_eq (of_store 18 (by kernel_rfl) (by decide) (by decide) (by decide) w) (by kernel_rfl)
 | 19, _, _, h => obtain ⟨rfl, rfl, rfl⟩ := of_inj ((show enc_of.f ((19 : Nat) : Int) = some (35, 1, 0) by kernel_rfl).symm.trans h); exact ls_eq (of_store 19 (by kernel_rfl) (by decide) (by decide) (by decide) w) (by kernel_rfl)
 | 20, _, _, h => obtain ⟨rfl, rfl, rfl⟩ := of_inj ((show enc_of.f ((20 : Nat) : Int) = some (35, 2, 0) by kernel_rfl).symm.trans h); exact ls_eq (of_store 20 (by kernel_rfl) (by decide) (by decide) (by decide) w) (by kernel_rfl)
 | 21, _, _, h => obtain ⟨rfl, rfl, rfl⟩ := of_inj ((show enc_of.f ((21 : Nat) : Int) = some (35, 3, 0) by kernel_rfl).symm.trans h); exact ls_eq (of_store 21 (by kernel_rfl) (by decide) (by decide) (by decide) w) (by kernel_rfl)
 | 22, _, _, h => obtain ⟨rfl, rfl, rfl⟩ := of_inj ((show enc_of.f ((22 : Nat) : Int) = some (19, 0, 0) by kernel_rfl).symm.trans h); exact of_imm 22 0 0 (by kernel_rfl) (by kernel_rfl) (by decide) (by decide) (by decide) (by decide) w
 | 23, _, _, h => obtain ⟨rfl, rfl, rfl⟩ := of_inj ((show enc_of.f ((23 : Nat) : Int) = some (19, 2, 0) by kernel_rfl).symm.trans h); exact of_imm 23 2 0 (by kernel_rfl) (by kernel_rfl) (by decide) (by decide) (by decide) (by decide) w
 | 24, _, _, h => obtain ⟨rfl, rfl, rfl⟩ := of_inj ((show enc_of.f ((24 : Nat) : Int) = some (19, 3, 0) by kernel_rfl).symm.trans h); exact of_imm 24 3 0 (by kernel_rfl) (by kernel_rfl) (by decide) (by decide) (by decide) (by decide) w
 | 25, _, _, h => obtain ⟨rfl, rfl, rfl⟩ := of_inj ((show enc_of.f ((25 : Nat) : Int) = some (19, 4, 0) by kernel_rfl).symm.trans h); exact of_imm 25 4 0 (by kernel_rfl) (by kernel_rfl) (by decide) (by decide) (by decide) (by decide) w
 | 26, _, _, h => obtain ⟨rfl, rfl, rfl⟩ := of_inj ((show enc_of.f ((26 : Nat) : Int) = some (19, 6, 0) by kernel_rfl).symm.trans h); exact of_imm 26 6 0 (by kernel_rfl) (by kernel_rfl) (by decide) (by decide) (by decide) (by decide) w
 | 27, _, _, h => obtain ⟨rfl, rfl, rfl⟩ := of_inj ((show enc_of.f ((27 : Nat) : Int) = some (19, 7, 0) by kernel_rfl).symm.trans h); exact of_imm 27 7 0 (by kernel_rfl) (by kernel_rfl) (by decide) (by decide) (by decide) (by decide) w
 | 28, _, _, h => obtain ⟨rfl, rfl, rfl⟩ := of_inj ((show enc_of.f ((28 : Nat) : Int) = some (19, 1, 0) by kernel_rfl).symm.trans h); exact of_imm 28 1 0 (by kernel_rfl) (by kernel_rfl) (by decide) (by decide) (by decide) (by decide) w
 | 29, _, _, h => obtain ⟨rfl, rfl, rfl⟩ := of_inj ((show enc_of.f ((29 : Nat) : Int) = some (19, 5, 0) by kernel_rfl).symm.trans h); exact of_imm 29 5 0 (by kernel_rfl) (by kernel_rfl) (by decide) (by decide) (by decide) (by decide) w
 | 30, _, _, h => obtain ⟨rfl, rfl, rfl⟩ := of_inj ((show enc_of.f ((30 : Nat) : Int) = some (19, 5, 32) by kernel_rfl).symm.trans h); exact of_imm 30 5 32 (by kernel_rfl) (by kernel_rfl) (by decide) (by decide) (by decide) (by decide) w
 | 31, _, _, h => obtain ⟨rfl, rfl, rfl⟩ := of_inj ((show enc_of.f ((31 : Nat) : Int) = some (27, 0, 0) by kernel_rfl).symm.trans h); exact of_immw 31 0 0 (by kernel_rfl) (by kernel_rfl) (by decide) (by decide) (by decide) (by decide) (by decide) w
 | 32, _, _, h => obtain ⟨rfl, rfl, rfl⟩ := of_inj ((show enc_of.f ((32 : Nat) : Int) = some (27, 1, 0) by kernel_rfl).symm.trans h); exact of_immw 32 1 0 (by kernel_rfl) (by kernel_rfl) (by decide) (by decide) (by decide) (by decide) (by decide) w
 | 33, _, _, h => obtain ⟨rfl, rfl, rfl⟩ := of_inj ((show enc_of.f ((33 : Nat) : Int) = some (27, 5, 0) by kernel_rfl).symm.trans h); exact of_immw 33 5 0 (by kernel_rfl) (by kernel_rfl) (by decide) (by decide) (by decide) (by decide) (by decide) w
 | 34, _, _, h => obtain ⟨rfl, rfl, rfl⟩ := of_inj ((show enc_of.f ((34 : Nat) : Int) = some (27, 5, 32) by kernel_rfl).symm.trans h); exact of_immw 34 5 32 (by kernel_rfl) (by kernel_rfl) (by decide) (by decide) (by decide) (by decide) (by decide) w
 | 35, _, _, h => obtain ⟨rfl, rfl, rfl⟩ := of_inj ((show enc_of.f ((35 : Nat) : Int) = some (51, 0, 0) by kernel_rfl).symm.trans h); exact of_op 35 0 0 (by kernel_rfl) (by kernel_rfl) (by decide) (by decide) (by decide) (by decide) (by decide) (by decide) w
 | 36, _, _, h => obtain ⟨rfl, rfl, rfl⟩ := of_inj ((show enc_of.f ((36 : Nat) : Int) = some (51, 0, 32) by kernel_rfl).symm.trans h); exact of_op 36 0 32 (by kernel_rfl) (by kernel_rfl) (by decide) (by decide) (by decide) (by decide) (by decide) (by decide) w
 | 37, _, _, h => obtain ⟨rfl, rfl, rfl⟩ := of_inj ((show enc_of.f ((37 : Nat) : Int) = some (51, 1, 0) by kernel_rfl).symm.trans h); exact of_op 37 1 0 (by kernel_rfl) (by kernel_rfl) (by decide) (by decide) (by decide) (by decide) (by decide) (by decide) w
 | 38, _, _, h => obtain ⟨rfl, rfl, rfl⟩ := of_inj ((show enc_of.f ((38 : Nat) : Int) = some (51, 2, 0) by kernel_rfl).symm.trans h); exact of_op 38 2 0 (by kernel_rfl) (by kernel_rfl) (by decide) (by decide) (by decide) (by decide) (by decide) (by decide) w
 | 39, _, _, h => obtain ⟨rfl, rfl, rfl⟩ := of_inj ((show enc_of.f ((39 : Nat) : Int) = some (51, 3, 0) by kernel_rfl).symm.trans h); exact of_op 39 3 0 (by kernel_rfl) (by kernel_rfl) (by decide) (by decide) (by decide) (by decide) (by decide) (by decide) w
 | 40, _, _, h => obtain ⟨rfl, rfl, rfl⟩ := of_inj ((show enc_of.f ((40 : Nat) : Int) = some (51, 4, 0) by kernel_rfl).symm.trans h); exact of_op 40 4 0 (by kernel_rfl) (by kernel_rfl) (by decide) (by decide) (by decide) (by decide) (by decide) (by decide) w
 | 41, _, _, h => obtain ⟨rfl, rfl, rfl⟩ := of_inj ((show enc_of.f ((41 : Nat) : Int) = some (51, 5, 0) by kernel_rfl).symm.trans h); exact of_op 41 5 0 (by kernel_rfl) (by kernel_rfl) (by decide) (by decide) (by decide) (by decide) (by decide) (by decide) w
 | 42, _, _, h => obtain ⟨rfl, rfl, rfl⟩ := of_inj ((show enc_of.f ((42 : Nat) : Int) = some (51, 5, 32) by kernel_rfl).symm.trans h); exact of_op 42 5 32 (by kernel_rfl) (by kernel_rfl) (by decide) (by decide) (by decide) (by decide) (by decide) (by decide) w
 | 43, _, _, h => obtain ⟨rfl, rfl, rfl⟩ := of_inj ((show enc_of.f ((43 : Nat) : Int) = some (51, 6, 0) by kernel_rfl).symm.trans h); exact of_op 43 6 0 (by kernel_rfl) (by kernel_rfl) (by decide) (by decide) (by decide) (by decide) (by decide) (by decide) w
 | 44, _, _, h => obtain ⟨rfl, rfl, rfl⟩ := of_inj ((show enc_of.f ((44 : Nat) : Int) = some (51, 7, 0) by kernel_rfl).symm.trans h); exact of_op 44 7 0 (by kernel_rfl) (by kernel_rfl) (by decide) (by decide) (by decide) (by decide) (by decide) (by decide) w
 | 45, _, _, h => obtain ⟨rfl, rfl, rfl⟩ := of_inj ((show enc_of.f ((45 : Nat) : Int) = some (59, 0, 0) by kernel_rfl).symm.trans h); exact of_opw 45 0 0 (by kernel_rfl) (by kernel_rfl) (by decide) (by decide) (by decide) (by decide) (by decide) (by decide) (by decide) w
 | 46, _, _, h => obtain ⟨rfl, rfl, rfl⟩ := of_inj ((show enc_of.f ((46 : Nat) : Int) = some (59, 0, 32) by kernel_rfl).symm.trans h); exact of_opw 46 0 32 (by kernel_rfl) (by kernel_rfl) (by decide) (by decide) (by decide) (by decide) (by decide) (by decide) (by decide) w
 | 47, _, _, h => obtain ⟨rfl, rfl, rfl⟩ := of_inj ((show enc_of.f ((47 : Nat) : Int) = some (59, 1, 0) by kernel_rfl).symm.trans h); exact of_opw 47 1 0 (by kernel_rfl) (by kernel_rfl) (by decide) (by decide) (by decide) (by decide) (by decide) (by decide) (by decide) w
 | 48, _, _, h => obtain ⟨rfl, rfl, rfl⟩ := of_inj ((show enc_of.f ((48 : Nat) : Int) = some (59, 5, 0) by kernel_rfl).symm.trans h); exact of_opw 48 5 0 (by kernel_rfl) (by kernel_rfl) (by decide) (by decide) (by decide) (by decide) (by decide) (by decide) (by decide) w
 | 49, _, _, h => obtain ⟨rfl, rfl, rfl⟩ := of_inj ((show enc_of.f ((49 : Nat) : Int) = some (59, 5, 32) by kernel_rfl).symm.trans h); exact of_opw 49 5 32 (by kernel_rfl) (by kernel_rfl) (by decide) (by decide) (by decide) (by decide) (by decide) (by decide) (by decide) w
 | 50, _, _, h => obtain ⟨rfl, rfl, rfl⟩ := of_inj ((show enc_of.f ((50 : Nat) : Int) = some (51, 0, 1) by kernel_rfl).symm.trans h); exact of_mul 50 0 1 (by kernel_rfl) (by kernel_rfl) (by decide) (by decide) (by decide) (by decide) (by decide) (by decide) (by decide) (by decide) w
 | 51, _, _, h => obtain ⟨rfl, rfl, rfl⟩ := of_inj ((show enc_of.f ((51 : Nat) : Int) = some (51, 1, 1) by kernel_rfl).symm.trans h); exact of_mul 51 1 1 (by kernel_rfl) (by kernel_rfl) (by decide) (by decide) (by decide) (by decide) (by decide) (by decide) (by decide) (by decide) w
 | 52, _, _, h => obtain ⟨rfl, rfl, rfl⟩ := of_inj ((show enc_of.f ((52 : Nat) : Int) = some (51, 2, 1) by kernel_rfl).symm.trans h); exact of_mul 52 2 1 (by kernel_rfl) (by kernel_rfl) (by decide) (by decide) (by decide) (by decide) (by decide) (by decide) (by decide) (by decide) w
 | 53, _, _, h => obtain ⟨rfl, rfl, rfl⟩ := of_inj ((show enc_of.f ((53 : Nat) : Int) = some (51, 3, 1) by kernel_rfl).symm.trans h); exact of_mul 53 3 1 (by kernel_rfl) (by kernel_rfl) (by decide) (by decide) (by decide) (by decide) (by decide) (by decide) (by decide) (by decide) w
 | 54, _, _, h => obtain ⟨rfl, rfl, rfl⟩ := of_inj ((show enc_of.f ((54 : Nat) : Int) = some (51, 4, 1) by kernel_rfl).symm.trans h); exact of_mul 54 4 1 (by kernel_rfl) (by kernel_rfl) (by decide) (by decide) (by decide) (by decide) (by decide) (by decide) (by decide) (by decide) w
 | 55, _, _, h => obtain ⟨rfl, rfl, rfl⟩ := of_inj ((show enc_of.f ((55 : Nat) : Int) = some (51, 5, 1) by kernel_rfl).symm.trans h); exact of_mul 55 5 1 (by kernel_rfl) (by kernel_rfl) (by decide) (by decide) (by decide) (by decide) (by decide) (by decide) (by decide) (by decide) w
 | 56, _, _, h => obtain ⟨rfl, rfl, rfl⟩ := of_inj ((show enc_of.f ((56 : Nat) : Int) = some (51, 6, 1) by kernel_rfl).symm.trans h); exact of_mul 56 6 1 (by kernel_rfl) (by kernel_rfl) (by decide) (by decide) (by decide) (by decide) (by decide) (by decide) (by decide) (by decide) w
 | 57, _, _, h => obtain ⟨rfl, rfl, rfl⟩ := of_inj ((show enc_of.f ((57 : Nat) : Int) = some (51, 7, 1) by kernel_rfl).symm.trans h); exact of_mul 57 7 1 (by kernel_rfl) (by kernel_rfl) (by decide) (by decide) (by decide) (by decide) (by decide) (by decide) (by decide) (by decide) w
 | 58, _, _, h => obtain ⟨rfl, rfl, rfl⟩ := of_inj ((show enc_of.f ((58 : Nat) : Int) = some (59, 0, 1) by kernel_rfl).symm.trans h); exact of_mulw 58 0 1 (by kernel_rfl) (by kernel_rfl) (by decide) (by decide) (by decide) (by decide) (by decide) (by decide) (by decide) (by decide) (by decide) w
 | 59, _, _, h => obtain ⟨rfl, rfl, rfl⟩ := of_inj ((show enc_of.f ((59 : Nat) : Int) = some (59, 4, 1) by kernel_rfl).symm.trans h); exact of_mulw 59 4 1 (by kernel_rfl) (by kernel_rfl) (by decide) (by decide) (by decide) (by decide) (by decide) (by decide) (by decide) (by decide) (by decide) w
 | 60, _, _, h => obtain ⟨rfl, rfl, rfl⟩ := of_inj ((show enc_of.f ((60 : Nat) : Int) = some (59, 5, 1) by kernel_rfl).symm.trans h); exact of_mulw 60 5 1 (by kernel_rfl) (by kernel_rfl) (by decide) (by decide) (by decide) (by decide) (by decide) (by decide) (by decide) (by decide) (by decide) w
 | 61, _, _, h => obtain ⟨rfl, rfl, rfl⟩ := of_inj ((show enc_of.f ((61 : Nat) : Int) = some (59, 6, 1) by kernel_rfl).symm.trans h); exact of_mulw 61 6 1 (by kernel_rfl) (by kernel_rfl) (by decide) (by decide) (by decide) (by decide) (by decide) (by decide) (by decide) (by decide) (by decide) w
 | 62, _, _, h => obtain ⟨rfl, rfl, rfl⟩ := of_inj ((show enc_of.f ((62 : Nat) : Int) = some (59, 7, 1) by kernel_rfl).symm.trans h); exact of_mulw 62 7 1 (by kernel_rfl) (by kernel_rfl) (by decide) (by decide) (by decide) (by decide) (by decide) (by decide) (by decide) (by decide) (by decide) w
 | 63, _, _, h => obtain ⟨rfl, rfl, rfl⟩ := of_inj ((show enc_of.f ((63 : Nat) : Int) = some (15, 0, 0) by kernel_rfl).symm.trans h); exact of_fence 63 (by kernel_rfl) (by decide) (by decide) (by decide) (by decide) (by decide) (by decide) (by decide) (by decide) (by decide) (by decide) w
 | 64, _, _, h => obtain ⟨rfl, rfl, rfl⟩ := of_inj ((show enc_of.f ((64 : Nat) : Int) = some (115, 0, 0) by kernel_rfl).symm.trans h); exact of_sys 64 (by kernel_rfl) (by decide) (by decide) (by decide) (by decide) (by decide) (by decide) (by decide) (by decide) (by decide) (by decide) (by decide) w
 | 65, _, _, h => obtain ⟨rfl, rfl, rfl⟩ := of_inj ((show enc_of.f ((65 : Nat) : Int) = some (115, 0, 0) by kernel_rfl).symm.trans h); exact of_sys 65 (by kernel_rfl) (by decide) (by decide) (by decide) (by decide) (by decide) (by decide) (by decide) (by decide) (by decide) (by decide) (by decide) w
 | 66, _, _, h => obtain ⟨rfl, rfl, rfl⟩ := of_inj ((show enc_of.f ((66 : Nat) : Int) = some (47, 2, 8) by kernel_rfl).symm.trans h); exact of_amo 66 2 8 (by kernel_rfl) (by kernel_rfl) (by decide) (by decide) (by decide) (by decide) (by decide) (by decide) (by decide) (by decide) (by decide) (by decide) (by decide) w
 | 67, _, _, h => obtain ⟨rfl, rfl, rfl⟩ := of_inj ((show enc_of.f ((67 : Nat) : Int) = some (47, 2, 12) by kernel_rfl).symm.trans h); exact of_amo 67 2 12 (by kernel_rfl) (by kernel_rfl) (by decide) (by decide) (by decide) (by decide) (by decide) (by decide) (by decide) (by decide) (by decide) (by decide) (by decide) w
 | 68, _, _, h => obtain ⟨rfl, rfl, rfl⟩ := of_inj ((show enc_of.f ((68 : Nat) : Int) = some (47, 2, 4) by kernel_rfl).symm.trans h); exact of_amo 68 2 4 (by kernel_rfl) (by kernel_rfl) (by decide) (by decide) (by decide) (by decide) (by decide) (by decide) (by decide) (by decide) (by decide) (by decide) (by decide) w
 | 69, _, _, h => obtain ⟨rfl, rfl, rfl⟩ := of_inj ((show enc_of.f ((69 : Nat) : Int) = some (47, 2, 0) by kernel_rfl).symm.trans h); exact of_amo 69 2 0 (by kernel_rfl) (by kernel_rfl) (by decide) (by decide) (by decide) (by decide) (by decide) (by decide) (by decide) (by decide) (by decide) (by decide) (by decide) w
 | 70, _, _, h => obtain ⟨rfl, rfl, rfl⟩ := of_inj ((show enc_of.f ((70 : Nat) : Int) = some (47, 2, 16) by kernel_rfl).symm.trans h); exact of_amo 70 2 16 (by kernel_rfl) (by kernel_rfl) (by decide) (by decide) (by decide) (by decide) (by decide) (by decide) (by decide) (by decide) (by decide) (by decide) (by decide) w
 | 71, _, _, h => obtain ⟨rfl, rfl, rfl⟩ := of_inj ((show enc_of.f ((71 : Nat) : Int) = some (47, 2, 48) by kernel_rfl).symm.trans h); exact of_amo 71 2 48 (by kernel_rfl) (by kernel_rfl) (by decide) (by decide) (by decide) (by decide) (by decide) (by decide) (by decide) (by decide) (by decide) (by decide) (by decide) w
 | 72, _, _, h => obtain ⟨rfl, rfl, rfl⟩ := of_inj ((show enc_of.f ((72 : Nat) : Int) = some (47, 2, 32) by kernel_rfl).symm.trans h); exact of_amo 72 2 32 (by kernel_rfl) (by kernel_rfl) (by decide) (by decide) (by decide) (by decide) (by decide) (by decide) (by decide) (by decide) (by decide) (by decide) (by decide) w
 | 73, _, _, h => obtain ⟨rfl, rfl, rfl⟩ := of_inj ((show enc_of.f ((73 : Nat) : Int) = some (47, 2, 64) by kernel_rfl).symm.trans h); exact of_amo 73 2 64 (by kernel_rfl) (by kernel_rfl) (by decide) (by decide) (by decide) (by decide) (by decide) (by decide) (by decide) (by decide) (by decide) (by decide) (by decide) w
 | 74, _, _, h => obtain ⟨rfl, rfl, rfl⟩ := of_inj ((show enc_of.f ((74 : Nat) : Int) = some (47, 2, 80) by kernel_rfl).symm.trans h); exact of_amo 74 2 80 (by kernel_rfl) (by kernel_rfl) (by decide) (by decide) (by decide) (by decide) (by decide) (by decide) (by decide) (by decide) (by decide) (by decide) (by decide) w
 | 75, _, _, h => obtain ⟨rfl, rfl, rfl⟩ := of_inj ((show enc_of.f ((75 : Nat) : Int) = some (47, 2, 96) by kernel_rfl).symm.trans h); exact of_amo 75 2 96 (by kernel_rfl) (by kernel_rfl) (by decide) (by decide) (by decide) (by decide) (by decide) (by decide) (by decide) (by decide) (by decide) (by decide) (by decide) w
 | 76, _, _, h => obtain ⟨rfl, rfl, rfl⟩ := of_inj ((show enc_of.f ((76 : Nat) : Int) = some (47, 2, 112) by kernel_rfl).symm.trans h); exact of_amo 76 2 112 (by kernel_rfl) (by kernel_rfl) (by decide) (by decide) (by decide) (by decide) (by decide) (by decide) (by decide) (by decide) (by decide) (by decide) (by decide) w
 | 77, _, _, h => obtain ⟨rfl, rfl, rfl⟩ := of_inj ((show enc_of.f ((77 : Nat) : Int) = some (47, 3, 8) by kernel_rfl).symm.trans h); exact of_amo 77 3 8 (by kernel_rfl) (by kernel_rfl) (by decide) (by decide) (by decide) (by decide) (by decide) (by decide) (by decide) (by decide) (by decide) (by decide) (by decide) w
 | 78, _, _, h => obtain ⟨rfl, rfl, rfl⟩ := of_inj ((show enc_of.f ((78 : Nat) : Int) = some (47, 3, 12) by kernel_rfl).symm.trans h); exact of_amo 78 3 12 (by kernel_rfl) (by kernel_rfl) (by decide) (by decide) (by decide) (by decide) (by decide) (by decide) (by decide) (by decide) (by decide) (by decide) (by decide) w
 | 79, _, _, h => obtain ⟨rfl, rfl, rfl⟩ := of_inj ((show enc_of.f ((79 : Nat) : Int) = some (47, 3, 4) by kernel_rfl).symm.trans h); exact of_amo 79 3 4 (by kernel_rfl) (by kernel_rfl) (by decide) (by decide) (by decide) (by decide) (by decide) (by decide) (by decide) (by decide) (by decide) (by decide) (by decide) w
 | 80, _, _, h => obtain ⟨rfl, rfl, rfl⟩ := of_inj ((show enc_of.f ((80 : Nat) : Int) = some (47, 3, 0) by kernel_rfl).symm.trans h); exact of_amo 80 3 0 (by kernel_rfl) (by kernel_rfl) (by decide) (by decide) (by decide) (by decide) (by decide) (by decide) (by decide) (by decide) (by decide) (by decide) (by decide) w
 | 81, _, _, h => obtain ⟨rfl, rfl, rfl⟩ := of_inj ((show enc_of.f ((81 : Nat) : Int) = some (47, 3, 16) by kernel_rfl).symm.trans h); exact of_amo 81 3 16 (by kernel_rfl) (by kernel_rfl) (by decide) (by decide) (by decide) (by decide) (by decide) (by decide) (by decide) (by decide) (by decide) (by decide) (by decide) w
 | 82, _, _, h => obtain ⟨rfl, rfl, rfl⟩ := of_inj ((show enc_of.f ((82 : Nat) : Int) = some (47, 3, 48) by kernel_rfl).symm.trans h); exact of_amo 82 3 48 (by kernel_rfl) (by kernel_rfl) (by decide) (by decide) (by decide) (by decide) (by decide) (by decide) (by decide) (by decide) (by decide) (by decide) (by decide) w
 | 83, _, _, h => obtain ⟨rfl, rfl, rfl⟩ := of_inj ((show enc_of.f ((83 : Nat) : Int) = some (47, 3, 32) by kernel_rfl).symm.trans h); exact of_amo 83 3 32 (by kernel_rfl) (by kernel_rfl) (by decide) (by decide) (by decide) (by decide) (by decide) (by decide) (by decide) (by decide) (by decide) (by decide) (by decide) w
 | 84, _, _, h => obtain ⟨rfl, rfl, rfl⟩ := of_inj ((show enc_of.f ((84 : Nat) : Int) = some (47, 3, 64) by kernel_rfl).symm.trans h); exact of_amo 84 3 64 (by kernel_rfl) (by kernel_rfl) (by decide) (by decide) (by decide) (by decide) (by decide) (by decide) (by decide) (by decide) (by decide) (by decide) (by decide) w
 | 85, _, _, h => obtain ⟨rfl, rfl, rfl⟩ := of_inj ((show enc_of.f ((85 : Nat) : Int) = some (47, 3, 80) by kernel_rfl).symm.trans h); exact of_amo 85 3 80 (by kernel_rfl) (by kernel_rfl) (by decide) (by decide) (by decide) (by decide) (by decide) (by decide) (by decide) (by decide) (by decide) (by decide) (by decide) w
 | 86, _, _, h => obtain ⟨rfl, rfl, rfl⟩ := of_inj ((show enc_of.f ((86 : Nat) : Int) = some (47, 3, 96) by kernel_rfl).symm.trans h); exact of_amo 86 3 96 (by kernel_rfl) (by kernel_rfl) (by decide) (by decide) (by decide) (by decide) (by decide) (by decide) (by decide) (by decide) (by decide) (by decide) (by decide) w
 | 87, _, _, h => obtain ⟨rfl, rfl, rfl⟩ := of_inj ((show enc_of.f ((87 : Nat) : Int) = some (47, 3, 112) by kernel_rfl).symm.trans h); exact of_amo 87 3 112 (by kernel_rfl) (by kernel_rfl) (by decide) (by decide) (by decide) (by decide) (by decide) (by decide) (by decide) (by decide) (by decide) (by decide) (by decide) w
 | n + 88, _, h1, _ => exact absurd h1 (by omega)

end Go.Proofs.YtffehgfjjagibaaDoor.GImagePlaces
