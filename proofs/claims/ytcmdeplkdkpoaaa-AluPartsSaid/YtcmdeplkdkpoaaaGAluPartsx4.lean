-- Written by wip/stub.py of this repo.
import Derived.Test.YtcmdeplkdkpoaaaGAluPartsx0
import Derived.Test.YtcmdeplkdkpoaaaGAluPartsx2
import Derived.Test.YtcmdeplkdkpoaaaGAluPartsx3
namespace Go.Proofs.Ytcmdeplkdkpoaaa.GAluParts
open Go.RowKit Go.Proofs.YtcmdeplkdkpoaaaW.PrintWords Go.Proofs.YtcmdeplkdkpoaaaW.PrintLast Go.Proofs.YtcmdeplkdkpoaaaW.PrintMore
attribute [local go_sem] max2_int min2_int max_two min_two max_three min_three max_four min_four   -- for this text's walks alone
set_option linter.unusedVariables false
set_option linter.unusedSimpArgs false

/-! ### alu_Eval: function 21 -/
def alu_Eval.j0 : Nat → Int → Int → Int → Bool → Option (Int × Bool)
  | 0, _, _, _, _ => none
  | k + 1, x0, x1, x2, x8 => if x8 = true then (some (0, false)) else (if x0 ≤ 30 then ((alu_plain.f k x0 x1 x2).bind fun t128 => (some (t128, true))) else (if x0 ≤ 34 then ((alu_short.f k x0 x1 x2).bind fun t129 => (some (t129, true))) else (if x0 ≤ 44 then ((alu_plain.f k x0 x1 x2).bind fun t130 => (some (t130, true))) else (if x0 ≤ 49 then ((alu_short.f k x0 x1 x2).bind fun t131 => (some (t131, true))) else (if x0 ≤ 57 then ((alu_times.f k x0 x1 x2).bind fun t132 => (some (t132, true))) else ((alu_shortTimes.f x0 x1 x2).bind fun t133 => (some (t133, true))))))))
def alu_Eval.f (k : Nat) (a0 : Int) (a1 : Int) (a2 : Int) : Option (Int × Bool) := if a0 < 22 then (alu_Eval.j0 k a0 a1 a2 true) else (alu_Eval.j0 k a0 a1 a2 (decide (a0 > 62)))
theorem alu_Eval.mono_l : ∀ k, (∀ y0 y1 y2 y3, LeO (alu_Eval.j0 k y0 y1 y2 y3) (alu_Eval.j0 (k + 1) y0 y1 y2 y3))
  | 0 => fun _ _ _ _ r h => by simp [alu_Eval.j0] at h
  | k + 1 => by
    have ih0 := alu_Eval.mono_l k
    · intro y0 y1 y2 y3
      unfold alu_Eval.j0
      repeat' first
      | (with_reducible exact ih0 _ _ _ _)
      | (with_reducible exact alu_plain.mono _ _ _ _)
      | (with_reducible exact alu_short.mono _ _ _ _)
      | (with_reducible exact alu_times.mono _ _ _ _)
      | (with_reducible exact LeO.refl _)
      | (with_reducible exact LeO.none _)
      | (with_reducible refine LeO.ite ?_ ?_)
      | (with_reducible refine LeO.bind ?_ (fun _ => ?_))
      | exact ih0 _ _ _ _
      | exact alu_plain.mono _ _ _ _
      | exact alu_short.mono _ _ _ _
      | exact alu_times.mono _ _ _ _
      | exact LeO.none _
      | refine LeO.ite ?_ ?_
      | refine LeO.bind ?_ (fun _ => ?_)
theorem alu_Eval.mono : ∀ a0 a1 a2 k, LeO (alu_Eval.f k a0 a1 a2) (alu_Eval.f (k + 1) a0 a1 a2) := by
  intro a0 a1 a2 k
  have ih0 := alu_Eval.mono_l k
  unfold alu_Eval.f
  repeat' first
      | (with_reducible exact ih0 _ _ _ _)
      | (with_reducible exact alu_plain.mono _ _ _ _)
      | (with_reducible exact alu_short.mono _ _ _ _)
      | (with_reducible exact alu_times.mono _ _ _ _)
      | (with_reducible exact LeO.refl _)
      | (with_reducible exact LeO.none _)
      | (with_reducible refine LeO.ite ?_ ?_)
      | (with_reducible refine LeO.bind ?_ (fun _ => ?_))
      | exact ih0 _ _ _ _
      | exact alu_plain.mono _ _ _ _
      | exact alu_short.mono _ _ _ _
      | exact alu_times.mono _ _ _ _
      | exact LeO.none _
      | refine LeO.ite ?_ ?_
      | refine LeO.bind ?_ (fun _ => ?_)
set_option maxHeartbeats 8000000 in
set_option maxRecDepth 100000 in
theorem alu_Eval.calls (k : Nat) (a0 : Int) (a1 : Int) (a2 : Int) (r1 : Int) (r2 : Bool) (w : World) (h : alu_Eval.f k a0 a1 a2 = some (r1, r2)) :
    Calls Try.prog 21 #[.int .i64 a0, .int .i64 a1, .int .i64 a2] w fun e w' => e = .returned (.tuple #[.int .i64 r1, .bool r2]) ∧ Drawn0 w w' := by
  have H : (if a0 < 22 then (alu_Eval.j0 k a0 a1 a2 true) else (alu_Eval.j0 k a0 a1 a2 (decide (a0 > 62)))) = some (r1, r2) := h
  clear h
  have HC4 := Aside0.mk H
  clear H
  go_enter Try.func21, Try.ntmps21
  go_upto_region 1 with (fail)
  go_cut [8] (fun v8 wc => ∃ (kq : Nat) (x8_3 : Bool), v8 = .bool x8_3 ∧ Aside0 (alu_Eval.j0 kq a0 a1 a2 x8_3 = some (r1, r2)) ∧ Aside0 (kq ≤ k) ∧ Drawn0 w wc)
  case first =>
    have H := HC4.out
    clear HC4
    by_cases c5 : a0 < 22
    · rw [if_pos c5] at H
      have c5b0 : decide (a0 < 22) = true := decide_eq_true c5
      clear c5
      (first | rw [c5b0] | (simp only [i64_w, i32_w]; rw [c5b0]) | skip)
      have H' := Aside0.mk H
      clear H
      go_wp2
      go_meet
      case rel => exact ⟨_, (true), (by first | rfl | (simp; done) | (simp [*]; done)), H', ⟨by first | omega | exact Nat.le_refl _⟩, by repeat (first | exact Drawn0.refl _ | apply Drawn0.step)⟩
    · rw [if_neg c5] at H
      have c5b0 : decide (a0 < 22) = false := decide_eq_false c5
      clear c5
      (first | rw [c5b0] | (simp only [i64_w, i32_w]; rw [c5b0]) | skip)
      have H' := Aside0.mk H
      clear H
      go_wp2
      go_meet
      case rel => exact ⟨_, (decide (a0 > 62)), (by first | rfl | (simp; done) | (simp [*]; done)), H', ⟨by first | omega | exact Nat.le_refl _⟩, by repeat (first | exact Drawn0.refl _ | apply Drawn0.step)⟩
  case rest =>
    clear HC4
    try clear c2
    try clear p2
    try clear c5
    try clear c5b0
    obtain ⟨kq, x8_3, rfl, HA, HJ3, ⟨mc3, rfl⟩⟩ := hcut
    cases kq with
    | zero => exact absurd HA.out (by simp [alu_Eval.j0])
    | succ kj3 =>
      have H := HA.out
      clear HA
      simp only [alu_Eval.j0] at H
      by_cases c6 : x8_3 = true
      · subst c6
        have H1 : (some (0, false)) = some (r1, r2) := by rw [if_pos rfl] at H; exact H
        clear H
        have H := H1
        clear H1
        simp only [Option.some.injEq, Prod.mk.injEq] at H
        obtain ⟨rfl, rfl⟩ := H
        go_wp2
        go_ret2
        exact ⟨by first | rfl | (simp; done) | (simp [*]; done), by repeat (first | exact Drawn0.refl _ | apply Drawn0.step)⟩
      · replace c6 := Bool.eq_false_iff.mpr c6
        subst c6
        have H1 : (if a0 ≤ 30 then ((alu_plain.f kj3 a0 a1 a2).bind fun t128 => (some (t128, true))) else (if a0 ≤ 34 then ((alu_short.f kj3 a0 a1 a2).bind fun t129 => (some (t129, true))) else (if a0 ≤ 44 then ((alu_plain.f kj3 a0 a1 a2).bind fun t130 => (some (t130, true))) else (if a0 ≤ 49 then ((alu_short.f kj3 a0 a1 a2).bind fun t131 => (some (t131, true))) else (if a0 ≤ 57 then ((alu_times.f kj3 a0 a1 a2).bind fun t132 => (some (t132, true))) else ((alu_shortTimes.f a0 a1 a2).bind fun t133 => (some (t133, true)))))))) = some (r1, r2) := by rw [if_neg (show ¬ (false = true) by decide)] at H; exact H
        clear H
        have H := H1
        clear H1
        by_cases c7 : a0 ≤ 30
        · rw [if_pos c7] at H
          have c7b0 : decide (a0 ≤ 30) = true := decide_eq_true c7
          clear c7
          replace H := Option.bind_eq_some_iff.mp H
          obtain ⟨t128, A80, H⟩ := H
          replace H : (some (t128, true)) = some (r1, r2) := H
          have A8 := Aside0.mk A80
          clear A80
          simp only [Option.some.injEq, Prod.mk.injEq] at H
          obtain ⟨rfl, rfl⟩ := H
          go_wp2_with (first | ((with_reducible refine gate_callee (f := 51) rfl ?_); refine goesL_ (some 21) rfl rfl Try.func51 (by kernel_rfl) rfl #[.int .i64 a0, .int .i64 a1, .int .i64 a2] rfl (by (try simp only [List.map_toArray, List.map_cons, List.map_nil]); first | done | rfl | (simp only [List.length_drop, List.length_take]; rfl)) ?_; (with_reducible refine (alu_plain.calls kj3 a0 a1 a2 t128 _ A8.out).mono ?_); rintro e w' ⟨rfl, ⟨nd, rfl⟩⟩; refine ⟨_, rfl, ?_⟩))
          go_ret2
          exact ⟨by first | rfl | (simp; done) | (simp [*]; done), by repeat (first | exact Drawn0.refl _ | apply Drawn0.step)⟩
        · rw [if_neg c7] at H
          have c7b0 : decide (a0 ≤ 30) = false := decide_eq_false c7
          clear c7
          by_cases c9 : a0 ≤ 34
          · rw [if_pos c9] at H
            have c9b0 : decide (a0 ≤ 34) = true := decide_eq_true c9
            clear c9
            replace H := Option.bind_eq_some_iff.mp H
            obtain ⟨t129, A100, H⟩ := H
            replace H : (some (t129, true)) = some (r1, r2) := H
            have A10 := Aside0.mk A100
            clear A100
            simp only [Option.some.injEq, Prod.mk.injEq] at H
            obtain ⟨rfl, rfl⟩ := H
            go_wp2_with (first | ((with_reducible refine gate_callee (f := 52) rfl ?_); refine goesL_ (some 28) rfl rfl Try.func52 (by kernel_rfl) rfl #[.int .i64 a0, .int .i64 a1, .int .i64 a2] rfl (by (try simp only [List.map_toArray, List.map_cons, List.map_nil]); first | done | rfl | (simp only [List.length_drop, List.length_take]; rfl)) ?_; (with_reducible refine (alu_short.calls kj3 a0 a1 a2 t129 _ A10.out).mono ?_); rintro e w' ⟨rfl, ⟨nd, rfl⟩⟩; refine ⟨_, rfl, ?_⟩))
            go_ret2
            exact ⟨by first | rfl | (simp; done) | (simp [*]; done), by repeat (first | exact Drawn0.refl _ | apply Drawn0.step)⟩
          · rw [if_neg c9] at H
            have c9b0 : decide (a0 ≤ 34) = false := decide_eq_false c9
            clear c9
            by_cases c11 : a0 ≤ 44
            · rw [if_pos c11] at H
              have c11b0 : decide (a0 ≤ 44) = true := decide_eq_true c11
              clear c11
              replace H := Option.bind_eq_some_iff.mp H
              obtain ⟨t130, A120, H⟩ := H
              replace H : (some (t130, true)) = some (r1, r2) := H
              have A12 := Aside0.mk A120
              clear A120
              simp only [Option.some.injEq, Prod.mk.injEq] at H
              obtain ⟨rfl, rfl⟩ := H
              go_wp2_with (first | ((with_reducible refine gate_callee (f := 51) rfl ?_); refine goesL_ (some 35) rfl rfl Try.func51 (by kernel_rfl) rfl #[.int .i64 a0, .int .i64 a1, .int .i64 a2] rfl (by (try simp only [List.map_toArray, List.map_cons, List.map_nil]); first | done | rfl | (simp only [List.length_drop, List.length_take]; rfl)) ?_; (with_reducible refine (alu_plain.calls kj3 a0 a1 a2 t130 _ A12.out).mono ?_); rintro e w' ⟨rfl, ⟨nd, rfl⟩⟩; refine ⟨_, rfl, ?_⟩))
              go_ret2
              exact ⟨by first | rfl | (simp; done) | (simp [*]; done), by repeat (first | exact Drawn0.refl _ | apply Drawn0.step)⟩
            · rw [if_neg c11] at H
              have c11b0 : decide (a0 ≤ 44) = false := decide_eq_false c11
              clear c11
              by_cases c13 : a0 ≤ 49
              · rw [if_pos c13] at H
                have c13b0 : decide (a0 ≤ 49) = true := decide_eq_true c13
                clear c13
                replace H := Option.bind_eq_some_iff.mp H
                obtain ⟨t131, A140, H⟩ := H
                replace H : (some (t131, true)) = some (r1, r2) := H
                have A14 := Aside0.mk A140
                clear A140
                simp only [Option.some.injEq, Prod.mk.injEq] at H
                obtain ⟨rfl, rfl⟩ := H
                go_wp2_with (first | ((with_reducible refine gate_callee (f := 52) rfl ?_); refine goesL_ (some 42) rfl rfl Try.func52 (by kernel_rfl) rfl #[.int .i64 a0, .int .i64 a1, .int .i64 a2] rfl (by (try simp only [List.map_toArray, List.map_cons, List.map_nil]); first | done | rfl | (simp only [List.length_drop, List.length_take]; rfl)) ?_; (with_reducible refine (alu_short.calls kj3 a0 a1 a2 t131 _ A14.out).mono ?_); rintro e w' ⟨rfl, ⟨nd, rfl⟩⟩; refine ⟨_, rfl, ?_⟩))
                go_ret2
                exact ⟨by first | rfl | (simp; done) | (simp [*]; done), by repeat (first | exact Drawn0.refl _ | apply Drawn0.step)⟩
              · rw [if_neg c13] at H
                have c13b0 : decide (a0 ≤ 49) = false := decide_eq_false c13
                clear c13
                by_cases c15 : a0 ≤ 57
                · rw [if_pos c15] at H
                  have c15b0 : decide (a0 ≤ 57) = true := decide_eq_true c15
                  clear c15
                  replace H := Option.bind_eq_some_iff.mp H
                  obtain ⟨t132, A160, H⟩ := H
                  replace H : (some (t132, true)) = some (r1, r2) := H
                  have A16 := Aside0.mk A160
                  clear A160
                  simp only [Option.some.injEq, Prod.mk.injEq] at H
                  obtain ⟨rfl, rfl⟩ := H
                  go_wp2_with (first | ((with_reducible refine gate_callee (f := 53) rfl ?_); refine goesL_ (some 49) rfl rfl Try.func53 (by kernel_rfl) rfl #[.int .i64 a0, .int .i64 a1, .int .i64 a2] rfl (by (try simp only [List.map_toArray, List.map_cons, List.map_nil]); first | done | rfl | (simp only [List.length_drop, List.length_take]; rfl)) ?_; (with_reducible refine (alu_times.calls kj3 a0 a1 a2 t132 _ A16.out).mono ?_); rintro e w' ⟨rfl, ⟨nd, rfl⟩⟩; refine ⟨_, rfl, ?_⟩))
                  go_ret2
                  exact ⟨by first | rfl | (simp; done) | (simp [*]; done), by repeat (first | exact Drawn0.refl _ | apply Drawn0.step)⟩
                · rw [if_neg c15] at H
                  have c15b0 : decide (a0 ≤ 57) = false := decide_eq_false c15
                  clear c15
                  replace H := Option.bind_eq_some_iff.mp H
                  obtain ⟨t133, A170, H⟩ := H
                  replace H : (some (t133, true)) = some (r1, r2) := H
                  have A17 := Aside0.mk A170
                  clear A170
                  simp only [Option.some.injEq, Prod.mk.injEq] at H
                  obtain ⟨rfl, rfl⟩ := H
                  go_wp2_with (first | ((with_reducible refine gate_callee (f := 54) rfl ?_); refine goesL_ (some 53) rfl rfl Try.func54 (by kernel_rfl) rfl #[.int .i64 a0, .int .i64 a1, .int .i64 a2] rfl (by (try simp only [List.map_toArray, List.map_cons, List.map_nil]); first | done | rfl | (simp only [List.length_drop, List.length_take]; rfl)) ?_; (with_reducible refine (alu_shortTimes.calls a0 a1 a2 t133 _ A17.out).mono ?_); rintro e w' ⟨rfl, ⟨nd, rfl⟩⟩; refine ⟨_, rfl, ?_⟩))
                  go_ret2
                  exact ⟨by first | rfl | (simp; done) | (simp [*]; done), by repeat (first | exact Drawn0.refl _ | apply Drawn0.step)⟩

/-! ### spinnakerlaw07_awake: function 22 -/
def spinnakerlaw07_awake.f (k : Nat)  : Option (Bool) := (alu_Eval.f k 56 (-7) 2).bind fun bt134 => (if bt134.1 = (-1) then (some bt134.2) else (some false))
theorem spinnakerlaw07_awake.mono : ∀ k, LeO (spinnakerlaw07_awake.f k ) (spinnakerlaw07_awake.f (k + 1) ) := by
  intro  k
  unfold spinnakerlaw07_awake.f
  repeat' first
      | (with_reducible exact alu_Eval.mono _ _ _ _)
      | (with_reducible exact LeO.refl _)
      | (with_reducible exact LeO.none _)
      | (with_reducible refine LeO.ite ?_ ?_)
      | (with_reducible refine LeO.bind ?_ (fun _ => ?_))
      | exact alu_Eval.mono _ _ _ _
      | exact LeO.none _
      | refine LeO.ite ?_ ?_
      | refine LeO.bind ?_ (fun _ => ?_)
set_option maxHeartbeats 8000000 in
set_option maxRecDepth 100000 in
theorem spinnakerlaw07_awake.calls (k : Nat)  (r : Bool) (w : World) (h : spinnakerlaw07_awake.f k  = some r) :
    Calls Try.prog 22 #[] w fun e w' => e = .returned (.bool r) ∧ Drawn0 w w' := by
  have H : ((alu_Eval.f k 56 (-7) 2).bind fun bt134 => (if bt134.1 = (-1) then (some bt134.2) else (some false))) = some r := h
  clear h
  replace H := Option.bind_eq_some_iff.mp H
  obtain ⟨⟨t134, t135⟩, A10, H⟩ := H
  replace H : (if t134 = (-1) then (some t135) else (some false)) = some r := H
  have A1 := Aside0.mk A10
  clear A10
  by_cases c2 : t134 = (-1)
  · rw [if_pos c2] at H
    have c2b0 : (t134 == (-1)) = true := beq_iff_eq.mpr c2
    have c2b1 : (t134 != (-1)) = false := bne_eq_false_iff_eq.mpr c2
    clear c2
    obtain rfl := Option.some.inj H
    go_enter Try.func22, Try.ntmps22
    go_wp2_with (first | ((with_reducible refine gate_callee (f := 21) rfl ?_); refine goesL_ (some 4) rfl rfl Try.func21 (by kernel_rfl) rfl #[.int .i64 56, .int .i64 (-7), .int .i64 2] rfl (by (try simp only [List.map_toArray, List.map_cons, List.map_nil]); first | done | rfl | (simp only [List.length_drop, List.length_take]; rfl)) ?_; (with_reducible refine (alu_Eval.calls k 56 (-7) 2 t134 t135 _ A1.out).mono ?_); rintro e w' ⟨rfl, ⟨nd, rfl⟩⟩; refine ⟨_, rfl, ?_⟩))
    go_ret
    exact ⟨by first | rfl | (simp; done) | (simp [*]; done), by repeat (first | exact Drawn0.refl _ | apply Drawn0.step)⟩
  · rw [if_neg c2] at H
    have c2b0 : (t134 == (-1)) = false := beq_eq_false_iff_ne.mpr c2
    have c2b1 : (t134 != (-1)) = true := bne_iff_ne.mpr c2
    obtain rfl := Option.some.inj H
    go_enter Try.func22, Try.ntmps22
    go_wp2_with (first | ((with_reducible refine gate_callee (f := 21) rfl ?_); refine goesL_ (some 4) rfl rfl Try.func21 (by kernel_rfl) rfl #[.int .i64 56, .int .i64 (-7), .int .i64 2] rfl (by (try simp only [List.map_toArray, List.map_cons, List.map_nil]); first | done | rfl | (simp only [List.length_drop, List.length_take]; rfl)) ?_; (with_reducible refine (alu_Eval.calls k 56 (-7) 2 t134 t135 _ A1.out).mono ?_); rintro e w' ⟨rfl, ⟨nd, rfl⟩⟩; refine ⟨_, rfl, ?_⟩))
    go_ret
    exact ⟨by first | rfl | (simp; done) | (simp [*]; done), by repeat (first | exact Drawn0.refl _ | apply Drawn0.step)⟩

/-! ### spinnakerref01_Bit: function 59 -/
def spinnakerref01_Bit.l0 : Nat → Int → Int → Int → Option (Int)
  | 0, _, _, _ => none
  | k + 1, x0, x1, x5 => if x5 < x1 then (spinnakerref01_Bit.l0 k (IntKind.u64.wrap (Int.tdiv x0 2)) x1 (wrap64 (x5 + 1))) else (some (wrap64 (Int.tmod x0 2)))
def spinnakerref01_Bit.f (k : Nat) (a0 : Int) (a1 : Int) : Option (Int) := spinnakerref01_Bit.l0 k a0 a1 0
theorem spinnakerref01_Bit.mono_l : ∀ k, (∀ y0 y1 y2, LeO (spinnakerref01_Bit.l0 k y0 y1 y2) (spinnakerref01_Bit.l0 (k + 1) y0 y1 y2))
  | 0 => fun _ _ _ r h => by simp [spinnakerref01_Bit.l0] at h
  | k + 1 => by
    have ih0 := spinnakerref01_Bit.mono_l k
    · intro y0 y1 y2
      unfold spinnakerref01_Bit.l0
      repeat' first
      | (with_reducible exact ih0 _ _ _)
      | (with_reducible exact LeO.refl _)
      | (with_reducible exact LeO.none _)
      | (with_reducible refine LeO.ite ?_ ?_)
      | (with_reducible refine LeO.bind ?_ (fun _ => ?_))
      | exact ih0 _ _ _
      | exact LeO.none _
      | refine LeO.ite ?_ ?_
      | refine LeO.bind ?_ (fun _ => ?_)
theorem spinnakerref01_Bit.mono : ∀ a0 a1 k, LeO (spinnakerref01_Bit.f k a0 a1) (spinnakerref01_Bit.f (k + 1) a0 a1) := by
  intro a0 a1 k
  have ih0 := spinnakerref01_Bit.mono_l k
  unfold spinnakerref01_Bit.f
  repeat' first
      | (with_reducible exact ih0 _ _ _)
      | (with_reducible exact LeO.refl _)
      | (with_reducible exact LeO.none _)
      | (with_reducible refine LeO.ite ?_ ?_)
      | (with_reducible refine LeO.bind ?_ (fun _ => ?_))
      | exact ih0 _ _ _
      | exact LeO.none _
      | refine LeO.ite ?_ ?_
      | refine LeO.bind ?_ (fun _ => ?_)
set_option maxHeartbeats 8000000 in
set_option maxRecDepth 100000 in
theorem spinnakerref01_Bit.calls (k : Nat) (a0 : Int) (a1 : Int) (r : Int) (w : World) (h : spinnakerref01_Bit.f k a0 a1 = some r) :
    Calls Try.prog 59 #[.int .u64 a0, .int .i64 a1] w fun e w' => e = .returned (.int .i64 r) ∧ Drawn0 w w' := by
  have H : (spinnakerref01_Bit.l0 k a0 a1 0) = some r := h
  clear h
  have H' := Aside0.mk H
  clear H
  go_enter Try.func59, Try.ntmps59
  go_wp2
  go_loopg [0, 5] k (fun kq v0 v5 w' => ∃ (x0_1 : Int) (x5_1 : Int), v0 = .int .u64 x0_1 ∧ v5 = .int .i64 x5_1 ∧ Aside0 (spinnakerref01_Bit.l0 kq x0_1 a1 x5_1 = some r) ∧ Aside0 (kq ≤ k) ∧ Drawn0 w w')
  case atStart => exact ⟨(a0), (0), (by first | rfl | (simp; done) | (simp [*]; done)), (by first | rfl | (simp; done) | (simp [*]; done)), H', ⟨Nat.le_refl _⟩, by repeat (first | exact Drawn0.refl _ | apply Drawn0.step)⟩
  case round =>
    clear H'
    try clear p2
    obtain ⟨x0_1, x5_1, rfl, rfl, HA, HK1, ⟨m1, rfl⟩⟩ := hrel
    cases gk with
    | zero => exact absurd HA.out (by simp [spinnakerref01_Bit.l0])
    | succ k1 =>
      have H := HA.out
      clear HA
      simp only [spinnakerref01_Bit.l0] at H
      by_cases c3 : x5_1 < a1
      · rw [if_pos c3] at H
        have c3b0 : decide (x5_1 < a1) = true := decide_eq_true c3
        clear c3
        have H' := Aside0.mk H
        clear H
        go_wp2
        go_roundg k1
        case measure => have := HK1.out; omega
        case rel => exact ⟨(IntKind.u64.wrap (Int.tdiv x0_1 2)), (wrap64 (x5_1 + 1)), (by first | rfl | (simp; done) | (simp [*]; done)), (by first | rfl | (simp; done) | (simp [*]; done)), H', ⟨by have := HK1.out; omega⟩, by repeat (first | exact Drawn0.refl _ | apply Drawn0.step)⟩
      · rw [if_neg c3] at H
        have c3b0 : decide (x5_1 < a1) = false := decide_eq_false c3
        clear c3
        obtain rfl := Option.some.inj H
        go_wp2
        go_ret
        exact ⟨by first | rfl | (simp; done) | (simp [*]; done), by repeat (first | exact Drawn0.refl _ | apply Drawn0.step)⟩

/-! ### spinnakerref01_Sign: function 62 -/
def spinnakerref01_Sign.l0 : Nat → Int → Int → Int → Int → Int → Option (Int)
  | 0, _, _, _, _, _ => none
  | k + 1, x0, x1, x5, x6, x7 => if x7 < (wrap64 (x1 - 1)) then ((spinnakerref01_Bit.f k x0 x7).bind fun t136 => (spinnakerref01_Sign.l0 k x0 x1 (wrap64 (x5 + (wrap64 (x6 * t136)))) (wrap64 (2 * x6)) (wrap64 (x7 + 1)))) else ((spinnakerref01_Bit.f k x0 (wrap64 (x1 - 1))).bind fun t137 => (some (wrap64 (x5 - (wrap64 (x6 * t137))))))
def spinnakerref01_Sign.f (k : Nat) (a0 : Int) (a1 : Int) : Option (Int) := spinnakerref01_Sign.l0 k a0 a1 0 1 0
theorem spinnakerref01_Sign.mono_l : ∀ k, (∀ y0 y1 y2 y3 y4, LeO (spinnakerref01_Sign.l0 k y0 y1 y2 y3 y4) (spinnakerref01_Sign.l0 (k + 1) y0 y1 y2 y3 y4))
  | 0 => fun _ _ _ _ _ r h => by simp [spinnakerref01_Sign.l0] at h
  | k + 1 => by
    have ih0 := spinnakerref01_Sign.mono_l k
    · intro y0 y1 y2 y3 y4
      unfold spinnakerref01_Sign.l0
      repeat' first
      | (with_reducible exact ih0 _ _ _ _ _)
      | (with_reducible exact spinnakerref01_Bit.mono _ _ _)
      | (with_reducible exact LeO.refl _)
      | (with_reducible exact LeO.none _)
      | (with_reducible refine LeO.ite ?_ ?_)
      | (with_reducible refine LeO.bind ?_ (fun _ => ?_))
      | exact ih0 _ _ _ _ _
      | exact spinnakerref01_Bit.mono _ _ _
      | exact LeO.none _
      | refine LeO.ite ?_ ?_
      | refine LeO.bind ?_ (fun _ => ?_)
theorem spinnakerref01_Sign.mono : ∀ a0 a1 k, LeO (spinnakerref01_Sign.f k a0 a1) (spinnakerref01_Sign.f (k + 1) a0 a1) := by
  intro a0 a1 k
  have ih0 := spinnakerref01_Sign.mono_l k
  unfold spinnakerref01_Sign.f
  repeat' first
      | (with_reducible exact ih0 _ _ _ _ _)
      | (with_reducible exact spinnakerref01_Bit.mono _ _ _)
      | (with_reducible exact LeO.refl _)
      | (with_reducible exact LeO.none _)
      | (with_reducible refine LeO.ite ?_ ?_)
      | (with_reducible refine LeO.bind ?_ (fun _ => ?_))
      | exact ih0 _ _ _ _ _
      | exact spinnakerref01_Bit.mono _ _ _
      | exact LeO.none _
      | refine LeO.ite ?_ ?_
      | refine LeO.bind ?_ (fun _ => ?_)
set_option maxHeartbeats 8000000 in
set_option maxRecDepth 100000 in
theorem spinnakerref01_Sign.calls (k : Nat) (a0 : Int) (a1 : Int) (r : Int) (w : World) (h : spinnakerref01_Sign.f k a0 a1 = some r) :
    Calls Try.prog 62 #[.int .u64 a0, .int .i64 a1] w fun e w' => e = .returned (.int .i64 r) ∧ Drawn0 w w' := by
  have H : (spinnakerref01_Sign.l0 k a0 a1 0 1 0) = some r := h
  clear h
  have H' := Aside0.mk H
  clear H
  go_enter Try.func62, Try.ntmps62
  go_wp2
  go_loopg [5, 6, 7] k (fun kq v5 v6 v7 w' => ∃ (x5_1 : Int) (x6_1 : Int) (x7_1 : Int), v5 = .int .i64 x5_1 ∧ v6 = .int .i64 x6_1 ∧ v7 = .int .i64 x7_1 ∧ Aside0 (spinnakerref01_Sign.l0 kq a0 a1 x5_1 x6_1 x7_1 = some r) ∧ Aside0 (kq ≤ k) ∧ Drawn0 w w')
  case atStart => exact ⟨(0), (1), (0), (by first | rfl | (simp; done) | (simp [*]; done)), (by first | rfl | (simp; done) | (simp [*]; done)), (by first | rfl | (simp; done) | (simp [*]; done)), H', ⟨Nat.le_refl _⟩, by repeat (first | exact Drawn0.refl _ | apply Drawn0.step)⟩
  case round =>
    clear H'
    try clear p2
    obtain ⟨x5_1, x6_1, x7_1, rfl, rfl, rfl, HA, HK1, ⟨m1, rfl⟩⟩ := hrel
    cases gk with
    | zero => exact absurd HA.out (by simp [spinnakerref01_Sign.l0])
    | succ k1 =>
      have H := HA.out
      clear HA
      simp only [spinnakerref01_Sign.l0] at H
      by_cases c3 : x7_1 < (wrap64 (a1 - 1))
      · rw [if_pos c3] at H
        have c3b0 : decide (x7_1 < (wrap64 (a1 - 1))) = true := decide_eq_true c3
        clear c3
        replace H := Option.bind_eq_some_iff.mp H
        obtain ⟨t136, A40, H⟩ := H
        replace H : (spinnakerref01_Sign.l0 k1 a0 a1 (wrap64 (x5_1 + (wrap64 (x6_1 * t136)))) (wrap64 (2 * x6_1)) (wrap64 (x7_1 + 1))) = some r := H
        have A4 := Aside0.mk A40
        clear A40
        have H' := Aside0.mk H
        clear H
        go_wp2_with (first | ((with_reducible refine gate_callee (f := 59) rfl ?_); refine goesL_ (some 18) rfl rfl Try.func59 (by kernel_rfl) rfl #[.int .u64 a0, .int .i64 x7_1] rfl (by (try simp only [List.map_toArray, List.map_cons, List.map_nil]); first | done | rfl | (simp only [List.length_drop, List.length_take]; rfl)) ?_; (with_reducible refine (spinnakerref01_Bit.calls k1 a0 x7_1 t136 _ A4.out).mono ?_); rintro e w' ⟨rfl, ⟨nd, rfl⟩⟩; refine ⟨_, rfl, ?_⟩))
        go_roundg k1
        case measure => have := HK1.out; omega
        case rel => exact ⟨(wrap64 (x5_1 + (wrap64 (x6_1 * t136)))), (wrap64 (2 * x6_1)), (wrap64 (x7_1 + 1)), (by first | rfl | (simp; done) | (simp [*]; done)), (by first | rfl | (simp; done) | (simp [*]; done)), (by first | rfl | (simp; done) | (simp [*]; done)), H', ⟨by have := HK1.out; omega⟩, by repeat (first | exact Drawn0.refl _ | apply Drawn0.step)⟩
      · rw [if_neg c3] at H
        have c3b0 : decide (x7_1 < (wrap64 (a1 - 1))) = false := decide_eq_false c3
        clear c3
        replace H := Option.bind_eq_some_iff.mp H
        obtain ⟨t137, A50, H⟩ := H
        replace H : (some (wrap64 (x5_1 - (wrap64 (x6_1 * t137))))) = some r := H
        have A5 := Aside0.mk A50
        clear A50
        obtain rfl := Option.some.inj H
        go_wp2_with (first | ((with_reducible refine gate_callee (f := 59) rfl ?_); refine goesL_ (some 28) rfl rfl Try.func59 (by kernel_rfl) rfl #[.int .u64 a0, .int .i64 (wrap64 (a1 - 1))] rfl (by (try simp only [List.map_toArray, List.map_cons, List.map_nil]); first | done | rfl | (simp only [List.length_drop, List.length_take]; rfl)) ?_; (with_reducible refine (spinnakerref01_Bit.calls k1 a0 (wrap64 (a1 - 1)) t137 _ A5.out).mono ?_); rintro e w' ⟨rfl, ⟨nd, rfl⟩⟩; refine ⟨_, rfl, ?_⟩))
        go_ret
        exact ⟨by first | rfl | (simp; done) | (simp [*]; done), by repeat (first | exact Drawn0.refl _ | apply Drawn0.step)⟩

/-! ### spinnakerref07_Half: function 24 -/
def spinnakerref07_Half.f (k : Nat) (a0 : Int) : Option (Int) := (spinnakerref01_Sign.f k (IntKind.u64.wrap (a0)) 32).bind fun t138 => (some t138)
theorem spinnakerref07_Half.mono : ∀ a0 k, LeO (spinnakerref07_Half.f k a0) (spinnakerref07_Half.f (k + 1) a0) := by
  intro a0 k
  unfold spinnakerref07_Half.f
  repeat' first
      | (with_reducible exact spinnakerref01_Sign.mono _ _ _)
      | (with_reducible exact LeO.refl _)
      | (with_reducible exact LeO.none _)
      | (with_reducible refine LeO.ite ?_ ?_)
      | (with_reducible refine LeO.bind ?_ (fun _ => ?_))
      | exact spinnakerref01_Sign.mono _ _ _
      | exact LeO.none _
      | refine LeO.ite ?_ ?_
      | refine LeO.bind ?_ (fun _ => ?_)
set_option maxHeartbeats 8000000 in
set_option maxRecDepth 100000 in
theorem spinnakerref07_Half.calls (k : Nat) (a0 : Int) (r : Int) (w : World) (h : spinnakerref07_Half.f k a0 = some r) :
    Calls Try.prog 24 #[.int .i64 a0] w fun e w' => e = .returned (.int .i64 r) ∧ Drawn0 w w' := by
  have H : ((spinnakerref01_Sign.f k (IntKind.u64.wrap (a0)) 32).bind fun t138 => (some t138)) = some r := h
  clear h
  replace H := Option.bind_eq_some_iff.mp H
  obtain ⟨t138, A20, H⟩ := H
  replace H : (some t138) = some r := H
  have A2 := Aside0.mk A20
  clear A20
  obtain rfl := Option.some.inj H
  go_enter Try.func24, Try.ntmps24
  go_wp2_with (first | ((with_reducible refine gate_callee (f := 62) rfl ?_); refine goesL_ (some 5) rfl rfl Try.func62 (by kernel_rfl) rfl #[.int .u64 (IntKind.u64.wrap (a0)), .int .i64 32] rfl (by (try simp only [List.map_toArray, List.map_cons, List.map_nil]); first | done | rfl | (simp only [List.length_drop, List.length_take]; rfl)) ?_; (with_reducible refine (spinnakerref01_Sign.calls k (IntKind.u64.wrap (a0)) 32 t138 _ A2.out).mono ?_); rintro e w' ⟨rfl, ⟨nd, rfl⟩⟩; refine ⟨_, rfl, ?_⟩))
  go_ret
  exact ⟨by first | rfl | (simp; done) | (simp [*]; done), by repeat (first | exact Drawn0.refl _ | apply Drawn0.step)⟩

/-! ### spinnakerlaw07_AluParts: function 6 -/
def spinnakerlaw07_AluParts.j0 : Nat → Int → Int → Int → Int → Int → Int → Int → Int → Bool → Option (Bool)
  | 0, _, _, _, _, _, _, _, _, _ => none
  | k + 1, x0, x1, x5, x7, x9, x11, x13, x15, x61 => if x61 = true then (some false) else (if (wrap64 ((wrap64 (x5 * x1)) + x7)) = x0 then (if (wrap64 ((wrap64 (x9 * x1)) + x11)) = x0 then ((spinnakerref07_Half.f k x1).bind fun t151 => ((spinnakerref07_Half.f k (wrap64 ((wrap64 (x13 * t151)) + x15))).bind fun t152 => ((spinnakerref07_Half.f k x0).bind fun t153 => (if t152 = t153 then ((spinnakerlaw07_awake.f k).bind fun t154 => (some t154)) else (some false))))) else (some false)) else (some false))
def spinnakerlaw07_AluParts.f (k : Nat) (a0 : Int) (a1 : Int) : Option (Bool) := (alu_Eval.f k 54 a0 a1).bind fun bt139 => ((alu_Eval.f k 56 a0 a1).bind fun bt141 => ((alu_Eval.f k 55 a0 a1).bind fun bt143 => ((alu_Eval.f k 57 a0 a1).bind fun bt145 => ((alu_Eval.f k 59 a0 a1).bind fun bt147 => ((alu_Eval.f k 61 a0 a1).bind fun bt149 => (if a1 = 0 then (spinnakerlaw07_AluParts.j0 k a0 a1 bt139.1 bt141.1 bt143.1 bt145.1 bt147.1 bt149.1 false) else (spinnakerlaw07_AluParts.j0 k a0 a1 bt139.1 bt141.1 bt143.1 bt145.1 bt147.1 bt149.1 (decide ((IntKind.u64.wrap (bt145.1)) ≥ (IntKind.u64.wrap (a1)))))))))))
theorem spinnakerlaw07_AluParts.mono_l : ∀ k, (∀ y0 y1 y2 y3 y4 y5 y6 y7 y8, LeO (spinnakerlaw07_AluParts.j0 k y0 y1 y2 y3 y4 y5 y6 y7 y8) (spinnakerlaw07_AluParts.j0 (k + 1) y0 y1 y2 y3 y4 y5 y6 y7 y8))
  | 0 => fun _ _ _ _ _ _ _ _ _ r h => by simp [spinnakerlaw07_AluParts.j0] at h
  | k + 1 => by
    have ih0 := spinnakerlaw07_AluParts.mono_l k
    · intro y0 y1 y2 y3 y4 y5 y6 y7 y8
      unfold spinnakerlaw07_AluParts.j0
      repeat' first
      | (with_reducible exact ih0 _ _ _ _ _ _ _ _ _)
      | (with_reducible exact alu_Eval.mono _ _ _ _)
      | (with_reducible exact spinnakerlaw07_awake.mono _)
      | (with_reducible exact spinnakerref07_Half.mono _ _)
      | (with_reducible exact LeO.refl _)
      | (with_reducible exact LeO.none _)
      | (with_reducible refine LeO.ite ?_ ?_)
      | (with_reducible refine LeO.bind ?_ (fun _ => ?_))
      | exact ih0 _ _ _ _ _ _ _ _ _
      | exact alu_Eval.mono _ _ _ _
      | exact spinnakerlaw07_awake.mono _
      | exact spinnakerref07_Half.mono _ _
      | exact LeO.none _
      | refine LeO.ite ?_ ?_
      | refine LeO.bind ?_ (fun _ => ?_)
theorem spinnakerlaw07_AluParts.mono : ∀ a0 a1 k, LeO (spinnakerlaw07_AluParts.f k a0 a1) (spinnakerlaw07_AluParts.f (k + 1) a0 a1) := by
  intro a0 a1 k
  have ih0 := spinnakerlaw07_AluParts.mono_l k
  unfold spinnakerlaw07_AluParts.f
  repeat' first
      | (with_reducible exact ih0 _ _ _ _ _ _ _ _ _)
      | (with_reducible exact alu_Eval.mono _ _ _ _)
      | (with_reducible exact spinnakerlaw07_awake.mono _)
      | (with_reducible exact spinnakerref07_Half.mono _ _)
      | (with_reducible exact LeO.refl _)
      | (with_reducible exact LeO.none _)
      | (with_reducible refine LeO.ite ?_ ?_)
      | (with_reducible refine LeO.bind ?_ (fun _ => ?_))
      | exact ih0 _ _ _ _ _ _ _ _ _
      | exact alu_Eval.mono _ _ _ _
      | exact spinnakerlaw07_awake.mono _
      | exact spinnakerref07_Half.mono _ _
      | exact LeO.none _
      | refine LeO.ite ?_ ?_
      | refine LeO.bind ?_ (fun _ => ?_)
set_option maxHeartbeats 8000000 in
set_option maxRecDepth 100000 in
theorem spinnakerlaw07_AluParts.calls (k : Nat) (a0 : Int) (a1 : Int) (r : Bool) (w : World) (h : spinnakerlaw07_AluParts.f k a0 a1 = some r) :
    Calls Try.prog 6 #[.int .i64 a0, .int .i64 a1] w fun e w' => e = .returned (.bool r) ∧ Drawn0 w w' := by
  have H : ((alu_Eval.f k 54 a0 a1).bind fun bt139 => ((alu_Eval.f k 56 a0 a1).bind fun bt141 => ((alu_Eval.f k 55 a0 a1).bind fun bt143 => ((alu_Eval.f k 57 a0 a1).bind fun bt145 => ((alu_Eval.f k 59 a0 a1).bind fun bt147 => ((alu_Eval.f k 61 a0 a1).bind fun bt149 => (if a1 = 0 then (spinnakerlaw07_AluParts.j0 k a0 a1 bt139.1 bt141.1 bt143.1 bt145.1 bt147.1 bt149.1 false) else (spinnakerlaw07_AluParts.j0 k a0 a1 bt139.1 bt141.1 bt143.1 bt145.1 bt147.1 bt149.1 (decide ((IntKind.u64.wrap (bt145.1)) ≥ (IntKind.u64.wrap (a1)))))))))))) = some r := h
  clear h
  replace H := Option.bind_eq_some_iff.mp H
  obtain ⟨⟨t139, t140⟩, A30, H⟩ := H
  replace H : ((alu_Eval.f k 56 a0 a1).bind fun bt141 => ((alu_Eval.f k 55 a0 a1).bind fun bt143 => ((alu_Eval.f k 57 a0 a1).bind fun bt145 => ((alu_Eval.f k 59 a0 a1).bind fun bt147 => ((alu_Eval.f k 61 a0 a1).bind fun bt149 => (if a1 = 0 then (spinnakerlaw07_AluParts.j0 k a0 a1 t139 bt141.1 bt143.1 bt145.1 bt147.1 bt149.1 false) else (spinnakerlaw07_AluParts.j0 k a0 a1 t139 bt141.1 bt143.1 bt145.1 bt147.1 bt149.1 (decide ((IntKind.u64.wrap (bt145.1)) ≥ (IntKind.u64.wrap (a1))))))))))) = some r := H
  have A3 := Aside0.mk A30
  clear A30
  replace H := Option.bind_eq_some_iff.mp H
  obtain ⟨⟨t141, t142⟩, A40, H⟩ := H
  replace H : ((alu_Eval.f k 55 a0 a1).bind fun bt143 => ((alu_Eval.f k 57 a0 a1).bind fun bt145 => ((alu_Eval.f k 59 a0 a1).bind fun bt147 => ((alu_Eval.f k 61 a0 a1).bind fun bt149 => (if a1 = 0 then (spinnakerlaw07_AluParts.j0 k a0 a1 t139 t141 bt143.1 bt145.1 bt147.1 bt149.1 false) else (spinnakerlaw07_AluParts.j0 k a0 a1 t139 t141 bt143.1 bt145.1 bt147.1 bt149.1 (decide ((IntKind.u64.wrap (bt145.1)) ≥ (IntKind.u64.wrap (a1)))))))))) = some r := H
  have A4 := Aside0.mk A40
  clear A40
  replace H := Option.bind_eq_some_iff.mp H
  obtain ⟨⟨t143, t144⟩, A50, H⟩ := H
  replace H : ((alu_Eval.f k 57 a0 a1).bind fun bt145 => ((alu_Eval.f k 59 a0 a1).bind fun bt147 => ((alu_Eval.f k 61 a0 a1).bind fun bt149 => (if a1 = 0 then (spinnakerlaw07_AluParts.j0 k a0 a1 t139 t141 t143 bt145.1 bt147.1 bt149.1 false) else (spinnakerlaw07_AluParts.j0 k a0 a1 t139 t141 t143 bt145.1 bt147.1 bt149.1 (decide ((IntKind.u64.wrap (bt145.1)) ≥ (IntKind.u64.wrap (a1))))))))) = some r := H
  have A5 := Aside0.mk A50
  clear A50
  replace H := Option.bind_eq_some_iff.mp H
  obtain ⟨⟨t145, t146⟩, A60, H⟩ := H
  replace H : ((alu_Eval.f k 59 a0 a1).bind fun bt147 => ((alu_Eval.f k 61 a0 a1).bind fun bt149 => (if a1 = 0 then (spinnakerlaw07_AluParts.j0 k a0 a1 t139 t141 t143 t145 bt147.1 bt149.1 false) else (spinnakerlaw07_AluParts.j0 k a0 a1 t139 t141 t143 t145 bt147.1 bt149.1 (decide ((IntKind.u64.wrap (t145)) ≥ (IntKind.u64.wrap (a1)))))))) = some r := H
  have A6 := Aside0.mk A60
  clear A60
  replace H := Option.bind_eq_some_iff.mp H
  obtain ⟨⟨t147, t148⟩, A70, H⟩ := H
  replace H : ((alu_Eval.f k 61 a0 a1).bind fun bt149 => (if a1 = 0 then (spinnakerlaw07_AluParts.j0 k a0 a1 t139 t141 t143 t145 t147 bt149.1 false) else (spinnakerlaw07_AluParts.j0 k a0 a1 t139 t141 t143 t145 t147 bt149.1 (decide ((IntKind.u64.wrap (t145)) ≥ (IntKind.u64.wrap (a1))))))) = some r := H
  have A7 := Aside0.mk A70
  clear A70
  replace H := Option.bind_eq_some_iff.mp H
  obtain ⟨⟨t149, t150⟩, A80, H⟩ := H
  replace H : (if a1 = 0 then (spinnakerlaw07_AluParts.j0 k a0 a1 t139 t141 t143 t145 t147 t149 false) else (spinnakerlaw07_AluParts.j0 k a0 a1 t139 t141 t143 t145 t147 t149 (decide ((IntKind.u64.wrap (t145)) ≥ (IntKind.u64.wrap (a1)))))) = some r := H
  have A8 := Aside0.mk A80
  clear A80
  have HC9 := Aside0.mk H
  clear H
  go_enter Try.func6, Try.ntmps6
  go_upto_region 7 with (first | ((with_reducible refine gate_callee (f := 21) rfl ?_); refine goesL_ (some 20) rfl rfl Try.func21 (by kernel_rfl) rfl #[.int .i64 54, .int .i64 a0, .int .i64 a1] rfl (by (try simp only [List.map_toArray, List.map_cons, List.map_nil]); first | done | rfl | (simp only [List.length_drop, List.length_take]; rfl)) ?_; (with_reducible refine (alu_Eval.calls k 54 a0 a1 t139 t140 _ A3.out).mono ?_); rintro e w' ⟨rfl, ⟨nd, rfl⟩⟩; refine ⟨_, rfl, ?_⟩) | ((with_reducible refine gate_callee (f := 21) rfl ?_); refine goesL_ (some 26) rfl rfl Try.func21 (by kernel_rfl) rfl #[.int .i64 56, .int .i64 a0, .int .i64 a1] rfl (by (try simp only [List.map_toArray, List.map_cons, List.map_nil]); first | done | rfl | (simp only [List.length_drop, List.length_take]; rfl)) ?_; (with_reducible refine (alu_Eval.calls k 56 a0 a1 t141 t142 _ A4.out).mono ?_); rintro e w' ⟨rfl, ⟨nd, rfl⟩⟩; refine ⟨_, rfl, ?_⟩) | ((with_reducible refine gate_callee (f := 21) rfl ?_); refine goesL_ (some 32) rfl rfl Try.func21 (by kernel_rfl) rfl #[.int .i64 55, .int .i64 a0, .int .i64 a1] rfl (by (try simp only [List.map_toArray, List.map_cons, List.map_nil]); first | done | rfl | (simp only [List.length_drop, List.length_take]; rfl)) ?_; (with_reducible refine (alu_Eval.calls k 55 a0 a1 t143 t144 _ A5.out).mono ?_); rintro e w' ⟨rfl, ⟨nd, rfl⟩⟩; refine ⟨_, rfl, ?_⟩) | ((with_reducible refine gate_callee (f := 21) rfl ?_); refine goesL_ (some 38) rfl rfl Try.func21 (by kernel_rfl) rfl #[.int .i64 57, .int .i64 a0, .int .i64 a1] rfl (by (try simp only [List.map_toArray, List.map_cons, List.map_nil]); first | done | rfl | (simp only [List.length_drop, List.length_take]; rfl)) ?_; (with_reducible refine (alu_Eval.calls k 57 a0 a1 t145 t146 _ A6.out).mono ?_); rintro e w' ⟨rfl, ⟨nd, rfl⟩⟩; refine ⟨_, rfl, ?_⟩) | ((with_reducible refine gate_callee (f := 21) rfl ?_); refine goesL_ (some 44) rfl rfl Try.func21 (by kernel_rfl) rfl #[.int .i64 59, .int .i64 a0, .int .i64 a1] rfl (by (try simp only [List.map_toArray, List.map_cons, List.map_nil]); first | done | rfl | (simp only [List.length_drop, List.length_take]; rfl)) ?_; (with_reducible refine (alu_Eval.calls k 59 a0 a1 t147 t148 _ A7.out).mono ?_); rintro e w' ⟨rfl, ⟨nd, rfl⟩⟩; refine ⟨_, rfl, ?_⟩) | ((with_reducible refine gate_callee (f := 21) rfl ?_); refine goesL_ (some 50) rfl rfl Try.func21 (by kernel_rfl) rfl #[.int .i64 61, .int .i64 a0, .int .i64 a1] rfl (by (try simp only [List.map_toArray, List.map_cons, List.map_nil]); first | done | rfl | (simp only [List.length_drop, List.length_take]; rfl)) ?_; (with_reducible refine (alu_Eval.calls k 61 a0 a1 t149 t150 _ A8.out).mono ?_); rintro e w' ⟨rfl, ⟨nd, rfl⟩⟩; refine ⟨_, rfl, ?_⟩))
  (try simp only [Act.put, List.setIfInBounds_toArray, List.set_cons_zero, List.set_cons_succ])
  go_cut [61] (fun v61 wc => ∃ (kq : Nat) (x61_8 : Bool), v61 = .bool x61_8 ∧ Aside0 (spinnakerlaw07_AluParts.j0 kq a0 a1 t139 t141 t143 t145 t147 t149 x61_8 = some r) ∧ Aside0 (kq ≤ k) ∧ Drawn0 w wc)
  case first =>
    have H := HC9.out
    clear HC9
    by_cases c10 : a1 = 0
    · rw [if_pos c10] at H
      have c10b0 : (a1 == 0) = true := beq_iff_eq.mpr c10
      have c10b1 : (a1 != 0) = false := bne_eq_false_iff_eq.mpr c10
      clear c10
      (first | rw [c10b0] | (simp only [i64_w, i32_w]; rw [c10b0]) | skip)
      have H' := Aside0.mk H
      clear H
      go_wp2
      go_meet
      case rel => exact ⟨_, (false), (by first | rfl | (simp; done) | (simp [*]; done)), H', ⟨by first | omega | exact Nat.le_refl _⟩, by repeat (first | exact Drawn0.refl _ | apply Drawn0.step)⟩
    · rw [if_neg c10] at H
      have c10b0 : (a1 == 0) = false := beq_eq_false_iff_ne.mpr c10
      have c10b1 : (a1 != 0) = true := bne_iff_ne.mpr c10
      (first | rw [c10b0] | (simp only [i64_w, i32_w]; rw [c10b0]) | skip)
      have H' := Aside0.mk H
      clear H
      go_wp2
      go_meet
      case rel => exact ⟨_, (decide ((IntKind.u64.wrap (t145)) ≥ (IntKind.u64.wrap (a1)))), (by first | rfl | (simp; done) | (simp [*]; done)), H', ⟨by first | omega | exact Nat.le_refl _⟩, by repeat (first | exact Drawn0.refl _ | apply Drawn0.step)⟩
  case rest =>
    clear HC9
    try clear c1
    try clear c2
    try clear p2
    try clear c6
    try clear c10
    try clear c10b0
    try clear c10b1
    obtain ⟨kq, x61_8, rfl, HA, HJ8, ⟨mc8, rfl⟩⟩ := hcut
    cases kq with
    | zero => exact absurd HA.out (by simp [spinnakerlaw07_AluParts.j0])
    | succ kj8 =>
      have H := HA.out
      clear HA
      simp only [spinnakerlaw07_AluParts.j0] at H
      by_cases c11 : x61_8 = true
      · subst c11
        have H1 : (some false) = some r := by rw [if_pos rfl] at H; exact H
        clear H
        have H := H1
        clear H1
        obtain rfl := Option.some.inj H
        go_wp2
        go_ret
        exact ⟨by first | rfl | (simp; done) | (simp [*]; done), by repeat (first | exact Drawn0.refl _ | apply Drawn0.step)⟩
      · replace c11 := Bool.eq_false_iff.mpr c11
        subst c11
        have H1 : (if (wrap64 ((wrap64 (t139 * a1)) + t141)) = a0 then (if (wrap64 ((wrap64 (t143 * a1)) + t145)) = a0 then ((spinnakerref07_Half.f kj8 a1).bind fun t151 => ((spinnakerref07_Half.f kj8 (wrap64 ((wrap64 (t147 * t151)) + t149))).bind fun t152 => ((spinnakerref07_Half.f kj8 a0).bind fun t153 => (if t152 = t153 then ((spinnakerlaw07_awake.f kj8).bind fun t154 => (some t154)) else (some false))))) else (some false)) else (some false)) = some r := by rw [if_neg (show ¬ (false = true) by decide)] at H; exact H
        clear H
        have H := H1
        clear H1
        by_cases c12 : (wrap64 ((wrap64 (t139 * a1)) + t141)) = a0
        · rw [if_pos c12] at H
          have c12b0 : ((wrap64 ((wrap64 (t139 * a1)) + t141)) == a0) = true := beq_iff_eq.mpr c12
          have c12b1 : ((wrap64 ((wrap64 (t139 * a1)) + t141)) != a0) = false := bne_eq_false_iff_eq.mpr c12
          clear c12
          by_cases c13 : (wrap64 ((wrap64 (t143 * a1)) + t145)) = a0
          · rw [if_pos c13] at H
            have c13b0 : ((wrap64 ((wrap64 (t143 * a1)) + t145)) == a0) = true := beq_iff_eq.mpr c13
            have c13b1 : ((wrap64 ((wrap64 (t143 * a1)) + t145)) != a0) = false := bne_eq_false_iff_eq.mpr c13
            clear c13
            replace H := Option.bind_eq_some_iff.mp H
            obtain ⟨t151, A140, H⟩ := H
            replace H : ((spinnakerref07_Half.f kj8 (wrap64 ((wrap64 (t147 * t151)) + t149))).bind fun t152 => ((spinnakerref07_Half.f kj8 a0).bind fun t153 => (if t152 = t153 then ((spinnakerlaw07_awake.f kj8).bind fun t154 => (some t154)) else (some false)))) = some r := H
            have A14 := Aside0.mk A140
            clear A140
            replace H := Option.bind_eq_some_iff.mp H
            obtain ⟨t152, A150, H⟩ := H
            replace H : ((spinnakerref07_Half.f kj8 a0).bind fun t153 => (if t152 = t153 then ((spinnakerlaw07_awake.f kj8).bind fun t154 => (some t154)) else (some false))) = some r := H
            have A15 := Aside0.mk A150
            clear A150
            replace H := Option.bind_eq_some_iff.mp H
            obtain ⟨t153, A160, H⟩ := H
            replace H : (if t152 = t153 then ((spinnakerlaw07_awake.f kj8).bind fun t154 => (some t154)) else (some false)) = some r := H
            have A16 := Aside0.mk A160
            clear A160
            by_cases c17 : t152 = t153
            · rw [if_pos c17] at H
              have c17b0 : (t152 == t153) = true := beq_iff_eq.mpr c17
              have c17b1 : (t152 != t153) = false := bne_eq_false_iff_eq.mpr c17
              clear c17
              replace H := Option.bind_eq_some_iff.mp H
              obtain ⟨t154, A180, H⟩ := H
              replace H : (some t154) = some r := H
              have A18 := Aside0.mk A180
              clear A180
              obtain rfl := Option.some.inj H
              go_wp2_with (first | (go_at_call 24; (with_reducible refine (spinnakerref07_Half.calls kj8 a1 t151 _ A14.out).mono ?_); rintro e w' ⟨rfl, ⟨nd, rfl⟩⟩) | (go_at_call 24; (with_reducible refine (spinnakerref07_Half.calls kj8 (wrap64 ((wrap64 (t147 * t151)) + t149)) t152 _ A15.out).mono ?_); rintro e w' ⟨rfl, ⟨nd, rfl⟩⟩) | (go_at_call 24; (with_reducible refine (spinnakerref07_Half.calls kj8 a0 t153 _ A16.out).mono ?_); rintro e w' ⟨rfl, ⟨nd, rfl⟩⟩) | (go_at_call 22; (with_reducible refine (spinnakerlaw07_awake.calls kj8  t154 _ A18.out).mono ?_); rintro e w' ⟨rfl, ⟨nd, rfl⟩⟩))
              go_ret
              exact ⟨by first | rfl | (simp; done) | (simp [*]; done), by repeat (first | exact Drawn0.refl _ | apply Drawn0.step)⟩
            · rw [if_neg c17] at H
              have c17b0 : (t152 == t153) = false := beq_eq_false_iff_ne.mpr c17
              have c17b1 : (t152 != t153) = true := bne_iff_ne.mpr c17
              obtain rfl := Option.some.inj H
              go_wp2_with (first | (go_at_call 24; (with_reducible refine (spinnakerref07_Half.calls kj8 a1 t151 _ A14.out).mono ?_); rintro e w' ⟨rfl, ⟨nd, rfl⟩⟩) | (go_at_call 24; (with_reducible refine (spinnakerref07_Half.calls kj8 (wrap64 ((wrap64 (t147 * t151)) + t149)) t152 _ A15.out).mono ?_); rintro e w' ⟨rfl, ⟨nd, rfl⟩⟩) | (go_at_call 24; (with_reducible refine (spinnakerref07_Half.calls kj8 a0 t153 _ A16.out).mono ?_); rintro e w' ⟨rfl, ⟨nd, rfl⟩⟩))
              go_ret
              exact ⟨by first | rfl | (simp; done) | (simp [*]; done), by repeat (first | exact Drawn0.refl _ | apply Drawn0.step)⟩
          · rw [if_neg c13] at H
            have c13b0 : ((wrap64 ((wrap64 (t143 * a1)) + t145)) == a0) = false := beq_eq_false_iff_ne.mpr c13
            have c13b1 : ((wrap64 ((wrap64 (t143 * a1)) + t145)) != a0) = true := bne_iff_ne.mpr c13
            obtain rfl := Option.some.inj H
            go_wp2
            go_ret
            exact ⟨by first | rfl | (simp; done) | (simp [*]; done), by repeat (first | exact Drawn0.refl _ | apply Drawn0.step)⟩
        · rw [if_neg c12] at H
          have c12b0 : ((wrap64 ((wrap64 (t139 * a1)) + t141)) == a0) = false := beq_eq_false_iff_ne.mpr c12
          have c12b1 : ((wrap64 ((wrap64 (t139 * a1)) + t141)) != a0) = true := bne_iff_ne.mpr c12
          obtain rfl := Option.some.inj H
          go_wp2
          go_ret
          exact ⟨by first | rfl | (simp; done) | (simp [*]; done), by repeat (first | exact Drawn0.refl _ | apply Drawn0.step)⟩

/-- THE ONE PURE STATEMENT of spinnakerlaw07_AluParts: yours. -/
def spinnakerlaw07_AluParts.Pure : Prop := ∀ (a0 : Int) (a1 : Int), (Lit.int .i64 a0).wf = true → (Lit.int .i64 a1).wf = true → ∃ k, spinnakerlaw07_AluParts.f k a0 a1 = some true
theorem spinnakerlaw07_AluParts.walk (P : spinnakerlaw07_AluParts.Pure) (a0 : Int) (a1 : Int) (w : World) (w0 : (Lit.int .i64 a0).wf = true) (w1 : (Lit.int .i64 a1).wf = true) :
    Calls Try.prog 6 #[.int .i64 a0, .int .i64 a1] w fun e w' => e = .returned (.bool true) ∧ Below w.heap.size w w' := by
  obtain ⟨k, h⟩ := P a0 a1 w0 w1
  refine (spinnakerlaw07_AluParts.calls k a0 a1 true w h).mono ?_
  rintro e w' ⟨rfl, hd⟩
  exact ⟨rfl, hd.below⟩

end Go.Proofs.Ytcmdeplkdkpoaaa.GAluParts
