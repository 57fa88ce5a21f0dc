-- Written by wip/stub.py of this repo.
import Derived.Test.YtcmdeplkdkpoaaaGAluTakenx0
import Derived.Test.YtcmdeplkdkpoaaaGAluTakenx2
import Derived.Test.YtcmdeplkdkpoaaaGAluTakenx3
namespace Go.Proofs.Ytcmdeplkdkpoaaa.GAluTaken
open Go.RowKit Go.Proofs.YtcmdeplkdkpoaaaW.PrintWords Go.Proofs.YtcmdeplkdkpoaaaW.PrintLast Go.Proofs.YtcmdeplkdkpoaaaW.PrintMore
attribute [local go_sem] max2_int min2_int max_two min_two max_three min_three max_four min_four   -- for this text's walks alone
set_option linter.unusedVariables false
set_option linter.unusedSimpArgs false

/-! ### alu_Eval: function 21 -/
def alu_Eval.j0 : Nat → Int → Int → Int → Bool → Option (Int × Bool)
  | 0, _, _, _, _ => none
  | k + 1, x0, x1, x2, x8 => if x8 = true then (some (0, false)) else (if x0 ≤ 30 then ((alu_plain.f k x0 x1 x2).bind fun t128 => (some (t128, true))) else (if x0 ≤ 34 then ((alu_short.f k x0 x1 x2).bind fun t129 => (some (t129, true))) else (if x0 ≤ 44 then ((alu_plain.f k x0 x1 x2).bind fun t130 => (some (t130, true))) else (if x0 ≤ 49 then ((alu_short.f k x0 x1 x2).bind fun t131 => (some (t131, true))) else (if x0 ≤ 57 then ((alu_times.f k x0 x1 x2).bind fun t132 => (some (t132, true))) else ((alu_shortTimes.f x0 x1 x2).bind fun t133 => (some (t133, true))))))))
def alu_Eval.f (k : Nat) (a0 : Int) (a1 : Int) (a2 : Int) : Option (Int × Bool) := if a0 < 22 then (alu_Eval.j0 k a0 a1 a2 true) else (alu_Eval.j0 k a0 a1 a2 (decide (a0 > 62)))
theorem alu_Eval.mono_l : ∀ k, (∀ y0 y1 y2 y3, LeO (alu_Eval.j0 k y0 y1 y2 y3) (alu_Eval.j0 (k + 1) y0 y1 y2 y3))
  | 0 => fun _ _ _ _ r h => by simp [alu_Eval.j0] at h
  | k + 1 => by
    have ih0 := alu_Eval.mono_l k
    · intro y0 y1 y2 y3
      unfold alu_Eval.j0
      repeat' first
      | (with_reducible exact ih0 _ _ _ _)
      | (with_reducible exact alu_plain.mono _ _ _ _)
      | (with_reducible exact alu_short.mono _ _ _ _)
      | (with_reducible exact alu_times.mono _ _ _ _)
      | (with_reducible exact LeO.refl _)
      | (with_reducible exact LeO.none _)
      | (with_reducible refine LeO.ite ?_ ?_)
      | (with_reducible refine LeO.bind ?_ (fun _ => ?_))
      | exact ih0 _ _ _ _
      | exact alu_plain.mono _ _ _ _
      | exact alu_short.mono _ _ _ _
      | exact alu_times.mono _ _ _ _
      | exact LeO.none _
      | refine LeO.ite ?_ ?_
      | refine LeO.bind ?_ (fun _ => ?_)
theorem alu_Eval.mono : ∀ a0 a1 a2 k, LeO (alu_Eval.f k a0 a1 a2) (alu_Eval.f (k + 1) a0 a1 a2) := by
  intro a0 a1 a2 k
  have ih0 := alu_Eval.mono_l k
  unfold alu_Eval.f
  repeat' first
      | (with_reducible exact ih0 _ _ _ _)
      | (with_reducible exact alu_plain.mono _ _ _ _)
      | (with_reducible exact alu_short.mono _ _ _ _)
      | (with_reducible exact alu_times.mono _ _ _ _)
      | (with_reducible exact LeO.refl _)
      | (with_reducible exact LeO.none _)
      | (with_reducible refine LeO.ite ?_ ?_)
      | (with_reducible refine LeO.bind ?_ (fun _ => ?_))
      | exact ih0 _ _ _ _
      | exact alu_plain.mono _ _ _ _
      | exact alu_short.mono _ _ _ _
      | exact alu_times.mono _ _ _ _
      | exact LeO.none _
      | refine LeO.ite ?_ ?_
      | refine LeO.bind ?_ (fun _ => ?_)
set_option maxHeartbeats 8000000 in
set_option maxRecDepth 100000 in
theorem alu_Eval.calls (k : Nat) (a0 : Int) (a1 : Int) (a2 : Int) (r1 : Int) (r2 : Bool) (w : World) (h : alu_Eval.f k a0 a1 a2 = some (r1, r2)) :
    Calls Try.prog 21 #[.int .i64 a0, .int .i64 a1, .int .i64 a2] w fun e w' => e = .returned (.tuple #[.int .i64 r1, .bool r2]) ∧ Drawn0 w w' := by
  have H : (if a0 < 22 then (alu_Eval.j0 k a0 a1 a2 true) else (alu_Eval.j0 k a0 a1 a2 (decide (a0 > 62)))) = some (r1, r2) := h
  clear h
  have HC4 := Aside0.mk H
  clear H
  go_enter Try.func21, Try.ntmps21
  go_upto_region 1 with (fail)
  go_cut [8] (fun v8 wc => ∃ (kq : Nat) (x8_3 : Bool), v8 = .bool x8_3 ∧ Aside0 (alu_Eval.j0 kq a0 a1 a2 x8_3 = some (r1, r2)) ∧ Aside0 (kq ≤ k) ∧ Drawn0 w wc)
  case first =>
    have H := HC4.out
    clear HC4
    by_cases c5 : a0 < 22
    · rw [if_pos c5] at H
      have c5b0 : decide (a0 < 22) = true := decide_eq_true c5
      clear c5
      (first | rw [c5b0] | (simp only [i64_w, i32_w]; rw [c5b0]) | skip)
      have H' := Aside0.mk H
      clear H
      go_wp2
      go_meet
      case rel => exact ⟨_, (true), (by first | rfl | (simp; done) | (simp [*]; done)), H', ⟨by first | omega | exact Nat.le_refl _⟩, by repeat (first | exact Drawn0.refl _ | apply Drawn0.step)⟩
    · rw [if_neg c5] at H
      have c5b0 : decide (a0 < 22) = false := decide_eq_false c5
      clear c5
      (first | rw [c5b0] | (simp only [i64_w, i32_w]; rw [c5b0]) | skip)
      have H' := Aside0.mk H
      clear H
      go_wp2
      go_meet
      case rel => exact ⟨_, (decide (a0 > 62)), (by first | rfl | (simp; done) | (simp [*]; done)), H', ⟨by first | omega | exact Nat.le_refl _⟩, by repeat (first | exact Drawn0.refl _ | apply Drawn0.step)⟩
  case rest =>
    clear HC4
    try clear c2
    try clear p2
    try clear c5
    try clear c5b0
    obtain ⟨kq, x8_3, rfl, HA, HJ3, ⟨mc3, rfl⟩⟩ := hcut
    cases kq with
    | zero => exact absurd HA.out (by simp [alu_Eval.j0])
    | succ kj3 =>
      have H := HA.out
      clear HA
      simp only [alu_Eval.j0] at H
      by_cases c6 : x8_3 = true
      · subst c6
        have H1 : (some (0, false)) = some (r1, r2) := by rw [if_pos rfl] at H; exact H
        clear H
        have H := H1
        clear H1
        simp only [Option.some.injEq, Prod.mk.injEq] at H
        obtain ⟨rfl, rfl⟩ := H
        go_wp2
        go_ret2
        exact ⟨by first | rfl | (simp; done) | (simp [*]; done), by repeat (first | exact Drawn0.refl _ | apply Drawn0.step)⟩
      · replace c6 := Bool.eq_false_iff.mpr c6
        subst c6
        have H1 : (if a0 ≤ 30 then ((alu_plain.f kj3 a0 a1 a2).bind fun t128 => (some (t128, true))) else (if a0 ≤ 34 then ((alu_short.f kj3 a0 a1 a2).bind fun t129 => (some (t129, true))) else (if a0 ≤ 44 then ((alu_plain.f kj3 a0 a1 a2).bind fun t130 => (some (t130, true))) else (if a0 ≤ 49 then ((alu_short.f kj3 a0 a1 a2).bind fun t131 => (some (t131, true))) else (if a0 ≤ 57 then ((alu_times.f kj3 a0 a1 a2).bind fun t132 => (some (t132, true))) else ((alu_shortTimes.f a0 a1 a2).bind fun t133 => (some (t133, true)))))))) = some (r1, r2) := by rw [if_neg (show ¬ (false = true) by decide)] at H; exact H
        clear H
        have H := H1
        clear H1
        by_cases c7 : a0 ≤ 30
        · rw [if_pos c7] at H
          have c7b0 : decide (a0 ≤ 30) = true := decide_eq_true c7
          clear c7
          replace H := Option.bind_eq_some_iff.mp H
          obtain ⟨t128, A80, H⟩ := H
          replace H : (some (t128, true)) = some (r1, r2) := H
          have A8 := Aside0.mk A80
          clear A80
          simp only [Option.some.injEq, Prod.mk.injEq] at H
          obtain ⟨rfl, rfl⟩ := H
          go_wp2_with (first | ((with_reducible refine gate_callee (f := 51) rfl ?_); refine goesL_ (some 21) rfl rfl Try.func51 (by kernel_rfl) rfl #[.int .i64 a0, .int .i64 a1, .int .i64 a2] rfl (by (try simp only [List.map_toArray, List.map_cons, List.map_nil]); first | done | rfl | (simp only [List.length_drop, List.length_take]; rfl)) ?_; (with_reducible refine (alu_plain.calls kj3 a0 a1 a2 t128 _ A8.out).mono ?_); rintro e w' ⟨rfl, ⟨nd, rfl⟩⟩; refine ⟨_, rfl, ?_⟩))
          go_ret2
          exact ⟨by first | rfl | (simp; done) | (simp [*]; done), by repeat (first | exact Drawn0.refl _ | apply Drawn0.step)⟩
        · rw [if_neg c7] at H
          have c7b0 : decide (a0 ≤ 30) = false := decide_eq_false c7
          clear c7
          by_cases c9 : a0 ≤ 34
          · rw [if_pos c9] at H
            have c9b0 : decide (a0 ≤ 34) = true := decide_eq_true c9
            clear c9
            replace H := Option.bind_eq_some_iff.mp H
            obtain ⟨t129, A100, H⟩ := H
            replace H : (some (t129, true)) = some (r1, r2) := H
            have A10 := Aside0.mk A100
            clear A100
            simp only [Option.some.injEq, Prod.mk.injEq] at H
            obtain ⟨rfl, rfl⟩ := H
            go_wp2_with (first | ((with_reducible refine gate_callee (f := 52) rfl ?_); refine goesL_ (some 28) rfl rfl Try.func52 (by kernel_rfl) rfl #[.int .i64 a0, .int .i64 a1, .int .i64 a2] rfl (by (try simp only [List.map_toArray, List.map_cons, List.map_nil]); first | done | rfl | (simp only [List.length_drop, List.length_take]; rfl)) ?_; (with_reducible refine (alu_short.calls kj3 a0 a1 a2 t129 _ A10.out).mono ?_); rintro e w' ⟨rfl, ⟨nd, rfl⟩⟩; refine ⟨_, rfl, ?_⟩))
            go_ret2
            exact ⟨by first | rfl | (simp; done) | (simp [*]; done), by repeat (first | exact Drawn0.refl _ | apply Drawn0.step)⟩
          · rw [if_neg c9] at H
            have c9b0 : decide (a0 ≤ 34) = false := decide_eq_false c9
            clear c9
            by_cases c11 : a0 ≤ 44
            · rw [if_pos c11] at H
              have c11b0 : decide (a0 ≤ 44) = true := decide_eq_true c11
              clear c11
              replace H := Option.bind_eq_some_iff.mp H
              obtain ⟨t130, A120, H⟩ := H
              replace H : (some (t130, true)) = some (r1, r2) := H
              have A12 := Aside0.mk A120
              clear A120
              simp only [Option.some.injEq, Prod.mk.injEq] at H
              obtain ⟨rfl, rfl⟩ := H
              go_wp2_with (first | ((with_reducible refine gate_callee (f := 51) rfl ?_); refine goesL_ (some 35) rfl rfl Try.func51 (by kernel_rfl) rfl #[.int .i64 a0, .int .i64 a1, .int .i64 a2] rfl (by (try simp only [List.map_toArray, List.map_cons, List.map_nil]); first | done | rfl | (simp only [List.length_drop, List.length_take]; rfl)) ?_; (with_reducible refine (alu_plain.calls kj3 a0 a1 a2 t130 _ A12.out).mono ?_); rintro e w' ⟨rfl, ⟨nd, rfl⟩⟩; refine ⟨_, rfl, ?_⟩))
              go_ret2
              exact ⟨by first | rfl | (simp; done) | (simp [*]; done), by repeat (first | exact Drawn0.refl _ | apply Drawn0.step)⟩
            · rw [if_neg c11] at H
              have c11b0 : decide (a0 ≤ 44) = false := decide_eq_false c11
              clear c11
              by_cases c13 : a0 ≤ 49
              · rw [if_pos c13] at H
                have c13b0 : decide (a0 ≤ 49) = true := decide_eq_true c13
                clear c13
                replace H := Option.bind_eq_some_iff.mp H
                obtain ⟨t131, A140, H⟩ := H
                replace H : (some (t131, true)) = some (r1, r2) := H
                have A14 := Aside0.mk A140
                clear A140
                simp only [Option.some.injEq, Prod.mk.injEq] at H
                obtain ⟨rfl, rfl⟩ := H
                go_wp2_with (first | ((with_reducible refine gate_callee (f := 52) rfl ?_); refine goesL_ (some 42) rfl rfl Try.func52 (by kernel_rfl) rfl #[.int .i64 a0, .int .i64 a1, .int .i64 a2] rfl (by (try simp only [List.map_toArray, List.map_cons, List.map_nil]); first | done | rfl | (simp only [List.length_drop, List.length_take]; rfl)) ?_; (with_reducible refine (alu_short.calls kj3 a0 a1 a2 t131 _ A14.out).mono ?_); rintro e w' ⟨rfl, ⟨nd, rfl⟩⟩; refine ⟨_, rfl, ?_⟩))
                go_ret2
                exact ⟨by first | rfl | (simp; done) | (simp [*]; done), by repeat (first | exact Drawn0.refl _ | apply Drawn0.step)⟩
              · rw [if_neg c13] at H
                have c13b0 : decide (a0 ≤ 49) = false := decide_eq_false c13
                clear c13
                by_cases c15 : a0 ≤ 57
                · rw [if_pos c15] at H
                  have c15b0 : decide (a0 ≤ 57) = true := decide_eq_true c15
                  clear c15
                  replace H := Option.bind_eq_some_iff.mp H
                  obtain ⟨t132, A160, H⟩ := H
                  replace H : (some (t132, true)) = some (r1, r2) := H
                  have A16 := Aside0.mk A160
                  clear A160
                  simp only [Option.some.injEq, Prod.mk.injEq] at H
                  obtain ⟨rfl, rfl⟩ := H
                  go_wp2_with (first | ((with_reducible refine gate_callee (f := 53) rfl ?_); refine goesL_ (some 49) rfl rfl Try.func53 (by kernel_rfl) rfl #[.int .i64 a0, .int .i64 a1, .int .i64 a2] rfl (by (try simp only [List.map_toArray, List.map_cons, List.map_nil]); first | done | rfl | (simp only [List.length_drop, List.length_take]; rfl)) ?_; (with_reducible refine (alu_times.calls kj3 a0 a1 a2 t132 _ A16.out).mono ?_); rintro e w' ⟨rfl, ⟨nd, rfl⟩⟩; refine ⟨_, rfl, ?_⟩))
                  go_ret2
                  exact ⟨by first | rfl | (simp; done) | (simp [*]; done), by repeat (first | exact Drawn0.refl _ | apply Drawn0.step)⟩
                · rw [if_neg c15] at H
                  have c15b0 : decide (a0 ≤ 57) = false := decide_eq_false c15
                  clear c15
                  replace H := Option.bind_eq_some_iff.mp H
                  obtain ⟨t133, A170, H⟩ := H
                  replace H : (some (t133, true)) = some (r1, r2) := H
                  have A17 := Aside0.mk A170
                  clear A170
                  simp only [Option.some.injEq, Prod.mk.injEq] at H
                  obtain ⟨rfl, rfl⟩ := H
                  go_wp2_with (first | ((with_reducible refine gate_callee (f := 54) rfl ?_); refine goesL_ (some 53) rfl rfl Try.func54 (by kernel_rfl) rfl #[.int .i64 a0, .int .i64 a1, .int .i64 a2] rfl (by (try simp only [List.map_toArray, List.map_cons, List.map_nil]); first | done | rfl | (simp only [List.length_drop, List.length_take]; rfl)) ?_; (with_reducible refine (alu_shortTimes.calls a0 a1 a2 t133 _ A17.out).mono ?_); rintro e w' ⟨rfl, ⟨nd, rfl⟩⟩; refine ⟨_, rfl, ?_⟩))
                  go_ret2
                  exact ⟨by first | rfl | (simp; done) | (simp [*]; done), by repeat (first | exact Drawn0.refl _ | apply Drawn0.step)⟩

/-! ### spinnakerlaw07_awake: function 22 -/
def spinnakerlaw07_awake.f (k : Nat)  : Option (Bool) := (alu_Eval.f k 56 (-7) 2).bind fun bt134 => (if bt134.1 = (-1) then (some bt134.2) else (some false))
theorem spinnakerlaw07_awake.mono : ∀ k, LeO (spinnakerlaw07_awake.f k ) (spinnakerlaw07_awake.f (k + 1) ) := by
  intro  k
  unfold spinnakerlaw07_awake.f
  repeat' first
      | (with_reducible exact alu_Eval.mono _ _ _ _)
      | (with_reducible exact LeO.refl _)
      | (with_reducible exact LeO.none _)
      | (with_reducible refine LeO.ite ?_ ?_)
      | (with_reducible refine LeO.bind ?_ (fun _ => ?_))
      | exact alu_Eval.mono _ _ _ _
      | exact LeO.none _
      | refine LeO.ite ?_ ?_
      | refine LeO.bind ?_ (fun _ => ?_)
set_option maxHeartbeats 8000000 in
set_option maxRecDepth 100000 in
theorem spinnakerlaw07_awake.calls (k : Nat)  (r : Bool) (w : World) (h : spinnakerlaw07_awake.f k  = some r) :
    Calls Try.prog 22 #[] w fun e w' => e = .returned (.bool r) ∧ Drawn0 w w' := by
  have H : ((alu_Eval.f k 56 (-7) 2).bind fun bt134 => (if bt134.1 = (-1) then (some bt134.2) else (some false))) = some r := h
  clear h
  replace H := Option.bind_eq_some_iff.mp H
  obtain ⟨⟨t134, t135⟩, A10, H⟩ := H
  replace H : (if t134 = (-1) then (some t135) else (some false)) = some r := H
  have A1 := Aside0.mk A10
  clear A10
  by_cases c2 : t134 = (-1)
  · rw [if_pos c2] at H
    have c2b0 : (t134 == (-1)) = true := beq_iff_eq.mpr c2
    have c2b1 : (t134 != (-1)) = false := bne_eq_false_iff_eq.mpr c2
    clear c2
    obtain rfl := Option.some.inj H
    go_enter Try.func22, Try.ntmps22
    go_wp2_with (first | ((with_reducible refine gate_callee (f := 21) rfl ?_); refine goesL_ (some 4) rfl rfl Try.func21 (by kernel_rfl) rfl #[.int .i64 56, .int .i64 (-7), .int .i64 2] rfl (by (try simp only [List.map_toArray, List.map_cons, List.map_nil]); first | done | rfl | (simp only [List.length_drop, List.length_take]; rfl)) ?_; (with_reducible refine (alu_Eval.calls k 56 (-7) 2 t134 t135 _ A1.out).mono ?_); rintro e w' ⟨rfl, ⟨nd, rfl⟩⟩; refine ⟨_, rfl, ?_⟩))
    go_ret
    exact ⟨by first | rfl | (simp; done) | (simp [*]; done), by repeat (first | exact Drawn0.refl _ | apply Drawn0.step)⟩
  · rw [if_neg c2] at H
    have c2b0 : (t134 == (-1)) = false := beq_eq_false_iff_ne.mpr c2
    have c2b1 : (t134 != (-1)) = true := bne_iff_ne.mpr c2
    obtain rfl := Option.some.inj H
    go_enter Try.func22, Try.ntmps22
    go_wp2_with (first | ((with_reducible refine gate_callee (f := 21) rfl ?_); refine goesL_ (some 4) rfl rfl Try.func21 (by kernel_rfl) rfl #[.int .i64 56, .int .i64 (-7), .int .i64 2] rfl (by (try simp only [List.map_toArray, List.map_cons, List.map_nil]); first | done | rfl | (simp only [List.length_drop, List.length_take]; rfl)) ?_; (with_reducible refine (alu_Eval.calls k 56 (-7) 2 t134 t135 _ A1.out).mono ?_); rintro e w' ⟨rfl, ⟨nd, rfl⟩⟩; refine ⟨_, rfl, ?_⟩))
    go_ret
    exact ⟨by first | rfl | (simp; done) | (simp [*]; done), by repeat (first | exact Drawn0.refl _ | apply Drawn0.step)⟩

/-! ### alu_Taken: function 25 (by hand) -/
/-- What branches are taken: the answer, and whether there is such a branch. -/
def alu_Taken.f (a0 : Int) (a1 : Int) (a2 : Int) : Option (Bool × Bool) :=
  some (if a0 = 5 then (a1 == a2, true) else if a0 = 6 then (a1 != a2, true) else if a0 = 7 then (decide (a1 < a2), true) else if a0 = 8 then (!decide (a1 < a2), true)
    else if a0 = 9 then (decide (IntKind.u64.wrap a1 < IntKind.u64.wrap a2), true) else if a0 = 10 then (!decide (IntKind.u64.wrap a1 < IntKind.u64.wrap a2), true) else (false, false))
set_option maxHeartbeats 8000000 in
set_option maxRecDepth 100000 in
theorem taken_less (p q : Nat) (a b : Int) (w : World) (hp : w.cell? ⟨p, 0, none⟩ = some (.int .i64 a)) (hq : w.cell? ⟨q, 0, none⟩ = some (.int .i64 b)) :
    Calls Try.prog 63 #[.pointer (some { block := p, off := 0 }), .pointer (some { block := q, off := 0 })] w fun e w' => e = .returned (.bool (decide (a < b))) ∧ Drawn0 w w' := by
  go_enter Try.func63, Try.ntmps63
  go_wp2
  go_ret
  exact ⟨rfl, by repeat (first | exact Drawn0.refl _ | apply Drawn0.step)⟩
set_option maxHeartbeats 8000000 in
set_option maxRecDepth 100000 in
theorem taken_lessU (p q : Nat) (a b : Int) (w : World) (hp : w.cell? ⟨p, 0, none⟩ = some (.int .i64 a)) (hq : w.cell? ⟨q, 0, none⟩ = some (.int .i64 b)) :
    Calls Try.prog 64 #[.pointer (some { block := p, off := 0 }), .pointer (some { block := q, off := 0 })] w fun e w' => e = .returned (.bool (decide (IntKind.u64.wrap a < IntKind.u64.wrap b))) ∧ Drawn0 w w' := by
  go_enter Try.func64, Try.ntmps64
  go_wp2
  go_ret
  exact ⟨rfl, by repeat (first | exact Drawn0.refl _ | apply Drawn0.step)⟩
set_option maxHeartbeats 8000000 in
set_option maxRecDepth 100000 in
theorem alu_Taken.calls (a0 : Int) (a1 : Int) (a2 : Int) (r1 : Bool) (r2 : Bool) (w : World) (h : alu_Taken.f a0 a1 a2 = some (r1, r2)) :
    Calls Try.prog 25 #[.int .i64 a0, .int .i64 a1, .int .i64 a2] w fun e w' => e = .returned (.tuple #[.bool r1, .bool r2]) ∧ Below w.heap.size w w' := by
  have H := Option.some.inj h
  clear h
  have HB := Aside0.mk (Below.refl w.heap.size w)
  by_cases h5 : a0 = 5
  · subst h5
    rw [if_pos rfl] at H
    obtain ⟨rfl, rfl⟩ := Prod.mk.inj H
    clear H
    go_enter Try.func25, Try.ntmps25
    go_wp2
    go_ret2
    exact ⟨by first | rfl | (simp; done), by repeat (first | (with_reducible first | exact HB.out | apply below_alloc | apply pw_below_drewN | apply below_drew1) | exact HB.out)⟩
  by_cases h6 : a0 = 6
  · subst h6
    rw [if_neg (show ¬ (6 : Int) = 5 by decide), if_pos rfl] at H
    obtain ⟨rfl, rfl⟩ := Prod.mk.inj H
    clear H
    go_enter Try.func25, Try.ntmps25
    go_wp2
    go_ret2
    exact ⟨by first | rfl | (simp; done), by repeat (first | (with_reducible first | exact HB.out | apply below_alloc | apply pw_below_drewN | apply below_drew1) | exact HB.out)⟩
  by_cases h7 : a0 = 7
  · subst h7
    rw [if_neg (show ¬ (7 : Int) = 5 by decide), if_neg (show ¬ (7 : Int) = 6 by decide), if_pos rfl] at H
    obtain ⟨rfl, rfl⟩ := Prod.mk.inj H
    clear H
    go_enter Try.func25, Try.ntmps25
    go_wp2_with (first | (go_at_call 63; (with_reducible refine (taken_less _ _ a1 a2 _ (by simp) (by simp)).mono ?_); rintro e w' ⟨rfl, ⟨nd, rfl⟩⟩))
    go_ret2
    exact ⟨by first | rfl | (simp; done), by repeat (first | (with_reducible first | exact HB.out | apply below_alloc | apply pw_below_drewN | apply below_drew1) | exact HB.out)⟩
  by_cases h8 : a0 = 8
  · subst h8
    rw [if_neg (show ¬ (8 : Int) = 5 by decide), if_neg (show ¬ (8 : Int) = 6 by decide), if_neg (show ¬ (8 : Int) = 7 by decide), if_pos rfl] at H
    obtain ⟨rfl, rfl⟩ := Prod.mk.inj H
    clear H
    go_enter Try.func25, Try.ntmps25
    go_wp2_with (first | (go_at_call 63; (with_reducible refine (taken_less _ _ a1 a2 _ (by simp) (by simp)).mono ?_); rintro e w' ⟨rfl, ⟨nd, rfl⟩⟩))
    go_ret2
    exact ⟨by first | rfl | (simp; done), by repeat (first | (with_reducible first | exact HB.out | apply below_alloc | apply pw_below_drewN | apply below_drew1) | exact HB.out)⟩
  by_cases h9 : a0 = 9
  · subst h9
    rw [if_neg (show ¬ (9 : Int) = 5 by decide), if_neg (show ¬ (9 : Int) = 6 by decide), if_neg (show ¬ (9 : Int) = 7 by decide), if_neg (show ¬ (9 : Int) = 8 by decide), if_pos rfl] at H
    obtain ⟨rfl, rfl⟩ := Prod.mk.inj H
    clear H
    go_enter Try.func25, Try.ntmps25
    go_wp2_with (first | (go_at_call 64; (with_reducible refine (taken_lessU _ _ a1 a2 _ (by simp) (by simp)).mono ?_); rintro e w' ⟨rfl, ⟨nd, rfl⟩⟩))
    go_ret2
    exact ⟨by first | rfl | (simp; done), by repeat (first | (with_reducible first | exact HB.out | apply below_alloc | apply pw_below_drewN | apply below_drew1) | exact HB.out)⟩
  by_cases h10 : a0 = 10
  · subst h10
    rw [if_neg (show ¬ (10 : Int) = 5 by decide), if_neg (show ¬ (10 : Int) = 6 by decide), if_neg (show ¬ (10 : Int) = 7 by decide), if_neg (show ¬ (10 : Int) = 8 by decide), if_neg (show ¬ (10 : Int) = 9 by decide), if_pos rfl] at H
    obtain ⟨rfl, rfl⟩ := Prod.mk.inj H
    clear H
    go_enter Try.func25, Try.ntmps25
    go_wp2_with (first | (go_at_call 64; (with_reducible refine (taken_lessU _ _ a1 a2 _ (by simp) (by simp)).mono ?_); rintro e w' ⟨rfl, ⟨nd, rfl⟩⟩))
    go_ret2
    exact ⟨by first | rfl | (simp; done), by repeat (first | (with_reducible first | exact HB.out | apply below_alloc | apply pw_below_drewN | apply below_drew1) | exact HB.out)⟩
  rw [if_neg h5, if_neg h6, if_neg h7, if_neg h8, if_neg h9, if_neg h10] at H
  obtain ⟨rfl, rfl⟩ := Prod.mk.inj H
  clear H
  have b5 : (a0 == 5) = false := beq_eq_false_iff_ne.mpr h5
  have b6 : (a0 == 6) = false := beq_eq_false_iff_ne.mpr h6
  have b7 : (a0 == 7) = false := beq_eq_false_iff_ne.mpr h7
  have b8 : (a0 == 8) = false := beq_eq_false_iff_ne.mpr h8
  have b9 : (a0 == 9) = false := beq_eq_false_iff_ne.mpr h9
  have b10 : (a0 == 10) = false := beq_eq_false_iff_ne.mpr h10
  clear h5 h6 h7 h8 h9 h10
  go_enter Try.func25, Try.ntmps25
  go_wp2
  go_ret2
  exact ⟨by first | rfl | (simp; done), by repeat (first | (with_reducible first | exact HB.out | apply below_alloc | apply pw_below_drewN | apply below_drew1) | exact HB.out)⟩

/-! ### spinnakerref03_Names: function 93 -/
def spinnakerref03_Names.f  : Option (List ByteArray) := some (([(⟨#[108, 117, 105]⟩ : ByteArray), (⟨#[97, 117, 105, 112, 99]⟩ : ByteArray), (⟨#[106, 97, 108]⟩ : ByteArray), (⟨#[106, 97, 108, 114]⟩ : ByteArray), (⟨#[98, 101, 113]⟩ : ByteArray), (⟨#[98, 110, 101]⟩ : ByteArray), (⟨#[98, 108, 116]⟩ : ByteArray), (⟨#[98, 103, 101]⟩ : ByteArray), (⟨#[98, 108, 116, 117]⟩ : ByteArray), (⟨#[98, 103, 101, 117]⟩ : ByteArray), (⟨#[108, 98]⟩ : ByteArray), (⟨#[108, 104]⟩ : ByteArray), (⟨#[108, 119]⟩ : ByteArray), (⟨#[108, 100]⟩ : ByteArray), (⟨#[108, 98, 117]⟩ : ByteArray), (⟨#[108, 104, 117]⟩ : ByteArray), (⟨#[108, 119, 117]⟩ : ByteArray), (⟨#[115, 98]⟩ : ByteArray), (⟨#[115, 104]⟩ : ByteArray), (⟨#[115, 119]⟩ : ByteArray), (⟨#[115, 100]⟩ : ByteArray), (⟨#[97, 100, 100, 105]⟩ : ByteArray), (⟨#[115, 108, 116, 105]⟩ : ByteArray), (⟨#[115, 108, 116, 105, 117]⟩ : ByteArray), (⟨#[120, 111, 114, 105]⟩ : ByteArray), (⟨#[111, 114, 105]⟩ : ByteArray), (⟨#[97, 110, 100, 105]⟩ : ByteArray), (⟨#[115, 108, 108, 105]⟩ : ByteArray), (⟨#[115, 114, 108, 105]⟩ : ByteArray), (⟨#[115, 114, 97, 105]⟩ : ByteArray), (⟨#[97, 100, 100, 105, 119]⟩ : ByteArray), (⟨#[115, 108, 108, 105, 119]⟩ : ByteArray), (⟨#[115, 114, 108, 105, 119]⟩ : ByteArray), (⟨#[115, 114, 97, 105, 119]⟩ : ByteArray), (⟨#[97, 100, 100]⟩ : ByteArray), (⟨#[115, 117, 98]⟩ : ByteArray), (⟨#[115, 108, 108]⟩ : ByteArray), (⟨#[115, 108, 116]⟩ : ByteArray), (⟨#[115, 108, 116, 117]⟩ : ByteArray), (⟨#[120, 111, 114]⟩ : ByteArray), (⟨#[115, 114, 108]⟩ : ByteArray), (⟨#[115, 114, 97]⟩ : ByteArray), (⟨#[111, 114]⟩ : ByteArray), (⟨#[97, 110, 100]⟩ : ByteArray), (⟨#[97, 100, 100, 119]⟩ : ByteArray), (⟨#[115, 117, 98, 119]⟩ : ByteArray), (⟨#[115, 108, 108, 119]⟩ : ByteArray), (⟨#[115, 114, 108, 119]⟩ : ByteArray), (⟨#[115, 114, 97, 119]⟩ : ByteArray), (⟨#[109, 117, 108]⟩ : ByteArray), (⟨#[109, 117, 108, 104]⟩ : ByteArray), (⟨#[109, 117, 108, 104, 115, 117]⟩ : ByteArray), (⟨#[109, 117, 108, 104, 117]⟩ : ByteArray), (⟨#[100, 105, 118]⟩ : ByteArray), (⟨#[100, 105, 118, 117]⟩ : ByteArray), (⟨#[114, 101, 109]⟩ : ByteArray), (⟨#[114, 101, 109, 117]⟩ : ByteArray), (⟨#[109, 117, 108, 119]⟩ : ByteArray), (⟨#[100, 105, 118, 119]⟩ : ByteArray), (⟨#[100, 105, 118, 117, 119]⟩ : ByteArray), (⟨#[114, 101, 109, 119]⟩ : ByteArray), (⟨#[114, 101, 109, 117, 119]⟩ : ByteArray), (⟨#[102, 101, 110, 99, 101]⟩ : ByteArray), (⟨#[101, 99, 97, 108, 108]⟩ : ByteArray), (⟨#[101, 98, 114, 101, 97, 107]⟩ : ByteArray), (⟨#[108, 114, 46, 119]⟩ : ByteArray), (⟨#[115, 99, 46, 119]⟩ : ByteArray), (⟨#[97, 109, 111, 115, 119, 97, 112, 46, 119]⟩ : ByteArray), (⟨#[97, 109, 111, 97, 100, 100, 46, 119]⟩ : ByteArray), (⟨#[97, 109, 111, 120, 111, 114, 46, 119]⟩ : ByteArray), (⟨#[97, 109, 111, 97, 110, 100, 46, 119]⟩ : ByteArray), (⟨#[97, 109, 111, 111, 114, 46, 119]⟩ : ByteArray), (⟨#[97, 109, 111, 109, 105, 110, 46, 119]⟩ : ByteArray), (⟨#[97, 109, 111, 109, 97, 120, 46, 119]⟩ : ByteArray), (⟨#[97, 109, 111, 109, 105, 110, 117, 46, 119]⟩ : ByteArray), (⟨#[97, 109, 111, 109, 97, 120, 117, 46, 119]⟩ : ByteArray), (⟨#[108, 114, 46, 100]⟩ : ByteArray), (⟨#[115, 99, 46, 100]⟩ : ByteArray), (⟨#[97, 109, 111, 115, 119, 97, 112, 46, 100]⟩ : ByteArray), (⟨#[97, 109, 111, 97, 100, 100, 46, 100]⟩ : ByteArray), (⟨#[97, 109, 111, 120, 111, 114, 46, 100]⟩ : ByteArray), (⟨#[97, 109, 111, 97, 110, 100, 46, 100]⟩ : ByteArray), (⟨#[97, 109, 111, 111, 114, 46, 100]⟩ : ByteArray), (⟨#[97, 109, 111, 109, 105, 110, 46, 100]⟩ : ByteArray), (⟨#[97, 109, 111, 109, 97, 120, 46, 100]⟩ : ByteArray), (⟨#[97, 109, 111, 109, 105, 110, 117, 46, 100]⟩ : ByteArray), (⟨#[97, 109, 111, 109, 97, 120, 117, 46, 100]⟩ : ByteArray)] : List ByteArray))
set_option maxHeartbeats 8000000 in
set_option maxRecDepth 100000 in
theorem spinnakerref03_Names.calls  (r : List ByteArray) (w : World) (h : spinnakerref03_Names.f  = some r) :
    Calls Try.prog 93 #[] w fun e w' => ∃ v0_ : Value, e = .returned (v0_) ∧ Kd.R Kd.string 9 w' w.heap.size (fun _ => True) v0_ r ∧ Below w.heap.size w w' := by
  have HB := Aside0.mk (Below.refl w.heap.size w)
  have H : (some (([(⟨#[108, 117, 105]⟩ : ByteArray), (⟨#[97, 117, 105, 112, 99]⟩ : ByteArray), (⟨#[106, 97, 108]⟩ : ByteArray), (⟨#[106, 97, 108, 114]⟩ : ByteArray), (⟨#[98, 101, 113]⟩ : ByteArray), (⟨#[98, 110, 101]⟩ : ByteArray), (⟨#[98, 108, 116]⟩ : ByteArray), (⟨#[98, 103, 101]⟩ : ByteArray), (⟨#[98, 108, 116, 117]⟩ : ByteArray), (⟨#[98, 103, 101, 117]⟩ : ByteArray), (⟨#[108, 98]⟩ : ByteArray), (⟨#[108, 104]⟩ : ByteArray), (⟨#[108, 119]⟩ : ByteArray), (⟨#[108, 100]⟩ : ByteArray), (⟨#[108, 98, 117]⟩ : ByteArray), (⟨#[108, 104, 117]⟩ : ByteArray), (⟨#[108, 119, 117]⟩ : ByteArray), (⟨#[115, 98]⟩ : ByteArray), (⟨#[115, 104]⟩ : ByteArray), (⟨#[115, 119]⟩ : ByteArray), (⟨#[115, 100]⟩ : ByteArray), (⟨#[97, 100, 100, 105]⟩ : ByteArray), (⟨#[115, 108, 116, 105]⟩ : ByteArray), (⟨#[115, 108, 116, 105, 117]⟩ : ByteArray), (⟨#[120, 111, 114, 105]⟩ : ByteArray), (⟨#[111, 114, 105]⟩ : ByteArray), (⟨#[97, 110, 100, 105]⟩ : ByteArray), (⟨#[115, 108, 108, 105]⟩ : ByteArray), (⟨#[115, 114, 108, 105]⟩ : ByteArray), (⟨#[115, 114, 97, 105]⟩ : ByteArray), (⟨#[97, 100, 100, 105, 119]⟩ : ByteArray), (⟨#[115, 108, 108, 105, 119]⟩ : ByteArray), (⟨#[115, 114, 108, 105, 119]⟩ : ByteArray), (⟨#[115, 114, 97, 105, 119]⟩ : ByteArray), (⟨#[97, 100, 100]⟩ : ByteArray), (⟨#[115, 117, 98]⟩ : ByteArray), (⟨#[115, 108, 108]⟩ : ByteArray), (⟨#[115, 108, 116]⟩ : ByteArray), (⟨#[115, 108, 116, 117]⟩ : ByteArray), (⟨#[120, 111, 114]⟩ : ByteArray), (⟨#[115, 114, 108]⟩ : ByteArray), (⟨#[115, 114, 97]⟩ : ByteArray), (⟨#[111, 114]⟩ : ByteArray), (⟨#[97, 110, 100]⟩ : ByteArray), (⟨#[97, 100, 100, 119]⟩ : ByteArray), (⟨#[115, 117, 98, 119]⟩ : ByteArray), (⟨#[115, 108, 108, 119]⟩ : ByteArray), (⟨#[115, 114, 108, 119]⟩ : ByteArray), (⟨#[115, 114, 97, 119]⟩ : ByteArray), (⟨#[109, 117, 108]⟩ : ByteArray), (⟨#[109, 117, 108, 104]⟩ : ByteArray), (⟨#[109, 117, 108, 104, 115, 117]⟩ : ByteArray), (⟨#[109, 117, 108, 104, 117]⟩ : ByteArray), (⟨#[100, 105, 118]⟩ : ByteArray), (⟨#[100, 105, 118, 117]⟩ : ByteArray), (⟨#[114, 101, 109]⟩ : ByteArray), (⟨#[114, 101, 109, 117]⟩ : ByteArray), (⟨#[109, 117, 108, 119]⟩ : ByteArray), (⟨#[100, 105, 118, 119]⟩ : ByteArray), (⟨#[100, 105, 118, 117, 119]⟩ : ByteArray), (⟨#[114, 101, 109, 119]⟩ : ByteArray), (⟨#[114, 101, 109, 117, 119]⟩ : ByteArray), (⟨#[102, 101, 110, 99, 101]⟩ : ByteArray), (⟨#[101, 99, 97, 108, 108]⟩ : ByteArray), (⟨#[101, 98, 114, 101, 97, 107]⟩ : ByteArray), (⟨#[108, 114, 46, 119]⟩ : ByteArray), (⟨#[115, 99, 46, 119]⟩ : ByteArray), (⟨#[97, 109, 111, 115, 119, 97, 112, 46, 119]⟩ : ByteArray), (⟨#[97, 109, 111, 97, 100, 100, 46, 119]⟩ : ByteArray), (⟨#[97, 109, 111, 120, 111, 114, 46, 119]⟩ : ByteArray), (⟨#[97, 109, 111, 97, 110, 100, 46, 119]⟩ : ByteArray), (⟨#[97, 109, 111, 111, 114, 46, 119]⟩ : ByteArray), (⟨#[97, 109, 111, 109, 105, 110, 46, 119]⟩ : ByteArray), (⟨#[97, 109, 111, 109, 97, 120, 46, 119]⟩ : ByteArray), (⟨#[97, 109, 111, 109, 105, 110, 117, 46, 119]⟩ : ByteArray), (⟨#[97, 109, 111, 109, 97, 120, 117, 46, 119]⟩ : ByteArray), (⟨#[108, 114, 46, 100]⟩ : ByteArray), (⟨#[115, 99, 46, 100]⟩ : ByteArray), (⟨#[97, 109, 111, 115, 119, 97, 112, 46, 100]⟩ : ByteArray), (⟨#[97, 109, 111, 97, 100, 100, 46, 100]⟩ : ByteArray), (⟨#[97, 109, 111, 120, 111, 114, 46, 100]⟩ : ByteArray), (⟨#[97, 109, 111, 97, 110, 100, 46, 100]⟩ : ByteArray), (⟨#[97, 109, 111, 111, 114, 46, 100]⟩ : ByteArray), (⟨#[97, 109, 111, 109, 105, 110, 46, 100]⟩ : ByteArray), (⟨#[97, 109, 111, 109, 97, 120, 46, 100]⟩ : ByteArray), (⟨#[97, 109, 111, 109, 105, 110, 117, 46, 100]⟩ : ByteArray), (⟨#[97, 109, 111, 109, 97, 120, 117, 46, 100]⟩ : ByteArray)] : List ByteArray))) = some r := h
  clear h
  obtain ⟨y139, hy139⟩ : ∃ y_ : List ByteArray, y_ = (([(⟨#[108, 117, 105]⟩ : ByteArray), (⟨#[97, 117, 105, 112, 99]⟩ : ByteArray), (⟨#[106, 97, 108]⟩ : ByteArray), (⟨#[106, 97, 108, 114]⟩ : ByteArray), (⟨#[98, 101, 113]⟩ : ByteArray), (⟨#[98, 110, 101]⟩ : ByteArray), (⟨#[98, 108, 116]⟩ : ByteArray), (⟨#[98, 103, 101]⟩ : ByteArray), (⟨#[98, 108, 116, 117]⟩ : ByteArray), (⟨#[98, 103, 101, 117]⟩ : ByteArray), (⟨#[108, 98]⟩ : ByteArray), (⟨#[108, 104]⟩ : ByteArray), (⟨#[108, 119]⟩ : ByteArray), (⟨#[108, 100]⟩ : ByteArray), (⟨#[108, 98, 117]⟩ : ByteArray), (⟨#[108, 104, 117]⟩ : ByteArray), (⟨#[108, 119, 117]⟩ : ByteArray), (⟨#[115, 98]⟩ : ByteArray), (⟨#[115, 104]⟩ : ByteArray), (⟨#[115, 119]⟩ : ByteArray), (⟨#[115, 100]⟩ : ByteArray), (⟨#[97, 100, 100, 105]⟩ : ByteArray), (⟨#[115, 108, 116, 105]⟩ : ByteArray), (⟨#[115, 108, 116, 105, 117]⟩ : ByteArray), (⟨#[120, 111, 114, 105]⟩ : ByteArray), (⟨#[111, 114, 105]⟩ : ByteArray), (⟨#[97, 110, 100, 105]⟩ : ByteArray), (⟨#[115, 108, 108, 105]⟩ : ByteArray), (⟨#[115, 114, 108, 105]⟩ : ByteArray), (⟨#[115, 114, 97, 105]⟩ : ByteArray), (⟨#[97, 100, 100, 105, 119]⟩ : ByteArray), (⟨#[115, 108, 108, 105, 119]⟩ : ByteArray), (⟨#[115, 114, 108, 105, 119]⟩ : ByteArray), (⟨#[115, 114, 97, 105, 119]⟩ : ByteArray), (⟨#[97, 100, 100]⟩ : ByteArray), (⟨#[115, 117, 98]⟩ : ByteArray), (⟨#[115, 108, 108]⟩ : ByteArray), (⟨#[115, 108, 116]⟩ : ByteArray), (⟨#[115, 108, 116, 117]⟩ : ByteArray), (⟨#[120, 111, 114]⟩ : ByteArray), (⟨#[115, 114, 108]⟩ : ByteArray), (⟨#[115, 114, 97]⟩ : ByteArray), (⟨#[111, 114]⟩ : ByteArray), (⟨#[97, 110, 100]⟩ : ByteArray), (⟨#[97, 100, 100, 119]⟩ : ByteArray), (⟨#[115, 117, 98, 119]⟩ : ByteArray), (⟨#[115, 108, 108, 119]⟩ : ByteArray), (⟨#[115, 114, 108, 119]⟩ : ByteArray), (⟨#[115, 114, 97, 119]⟩ : ByteArray), (⟨#[109, 117, 108]⟩ : ByteArray), (⟨#[109, 117, 108, 104]⟩ : ByteArray), (⟨#[109, 117, 108, 104, 115, 117]⟩ : ByteArray), (⟨#[109, 117, 108, 104, 117]⟩ : ByteArray), (⟨#[100, 105, 118]⟩ : ByteArray), (⟨#[100, 105, 118, 117]⟩ : ByteArray), (⟨#[114, 101, 109]⟩ : ByteArray), (⟨#[114, 101, 109, 117]⟩ : ByteArray), (⟨#[109, 117, 108, 119]⟩ : ByteArray), (⟨#[100, 105, 118, 119]⟩ : ByteArray), (⟨#[100, 105, 118, 117, 119]⟩ : ByteArray), (⟨#[114, 101, 109, 119]⟩ : ByteArray), (⟨#[114, 101, 109, 117, 119]⟩ : ByteArray), (⟨#[102, 101, 110, 99, 101]⟩ : ByteArray), (⟨#[101, 99, 97, 108, 108]⟩ : ByteArray), (⟨#[101, 98, 114, 101, 97, 107]⟩ : ByteArray), (⟨#[108, 114, 46, 119]⟩ : ByteArray), (⟨#[115, 99, 46, 119]⟩ : ByteArray), (⟨#[97, 109, 111, 115, 119, 97, 112, 46, 119]⟩ : ByteArray), (⟨#[97, 109, 111, 97, 100, 100, 46, 119]⟩ : ByteArray), (⟨#[97, 109, 111, 120, 111, 114, 46, 119]⟩ : ByteArray), (⟨#[97, 109, 111, 97, 110, 100, 46, 119]⟩ : ByteArray), (⟨#[97, 109, 111, 111, 114, 46, 119]⟩ : ByteArray), (⟨#[97, 109, 111, 109, 105, 110, 46, 119]⟩ : ByteArray), (⟨#[97, 109, 111, 109, 97, 120, 46, 119]⟩ : ByteArray), (⟨#[97, 109, 111, 109, 105, 110, 117, 46, 119]⟩ : ByteArray), (⟨#[97, 109, 111, 109, 97, 120, 117, 46, 119]⟩ : ByteArray), (⟨#[108, 114, 46, 100]⟩ : ByteArray), (⟨#[115, 99, 46, 100]⟩ : ByteArray), (⟨#[97, 109, 111, 115, 119, 97, 112, 46, 100]⟩ : ByteArray), (⟨#[97, 109, 111, 97, 100, 100, 46, 100]⟩ : ByteArray), (⟨#[97, 109, 111, 120, 111, 114, 46, 100]⟩ : ByteArray), (⟨#[97, 109, 111, 97, 110, 100, 46, 100]⟩ : ByteArray), (⟨#[97, 109, 111, 111, 114, 46, 100]⟩ : ByteArray), (⟨#[97, 109, 111, 109, 105, 110, 46, 100]⟩ : ByteArray), (⟨#[97, 109, 111, 109, 97, 120, 46, 100]⟩ : ByteArray), (⟨#[97, 109, 111, 109, 105, 110, 117, 46, 100]⟩ : ByteArray), (⟨#[97, 109, 111, 109, 97, 120, 117, 46, 100]⟩ : ByteArray)] : List ByteArray)) := ⟨_, rfl⟩
  replace H : (some y139) = some r := by first | (rw [hy139]; with_reducible exact H) | (have H2_ := (Option.bind_some _ _).symm.trans H; rw [hy139]; with_reducible exact H2_) | (have H2_ := (Option.bind_some _ _).symm.trans H; with_reducible exact H2_) | with_reducible exact H | (rw [hy139]; exact H) | exact H
  have Ny139 := Aside0.mk hy139
  clear hy139
  obtain rfl := Option.some.inj H
  go_enter Try.func93, Try.ntmps93
  go_wp2_with (first | ((with_reducible refine gate_dst (N := 1) rfl ?_); refine Kd.R_lit Kd.string _ 9 ?hg (N := 1) ?hd (xs := ([(⟨#[108, 117, 105]⟩ : ByteArray), (⟨#[97, 117, 105, 112, 99]⟩ : ByteArray), (⟨#[106, 97, 108]⟩ : ByteArray), (⟨#[106, 97, 108, 114]⟩ : ByteArray), (⟨#[98, 101, 113]⟩ : ByteArray), (⟨#[98, 110, 101]⟩ : ByteArray), (⟨#[98, 108, 116]⟩ : ByteArray), (⟨#[98, 103, 101]⟩ : ByteArray), (⟨#[98, 108, 116, 117]⟩ : ByteArray), (⟨#[98, 103, 101, 117]⟩ : ByteArray), (⟨#[108, 98]⟩ : ByteArray), (⟨#[108, 104]⟩ : ByteArray), (⟨#[108, 119]⟩ : ByteArray), (⟨#[108, 100]⟩ : ByteArray), (⟨#[108, 98, 117]⟩ : ByteArray), (⟨#[108, 104, 117]⟩ : ByteArray), (⟨#[108, 119, 117]⟩ : ByteArray), (⟨#[115, 98]⟩ : ByteArray), (⟨#[115, 104]⟩ : ByteArray), (⟨#[115, 119]⟩ : ByteArray), (⟨#[115, 100]⟩ : ByteArray), (⟨#[97, 100, 100, 105]⟩ : ByteArray), (⟨#[115, 108, 116, 105]⟩ : ByteArray), (⟨#[115, 108, 116, 105, 117]⟩ : ByteArray), (⟨#[120, 111, 114, 105]⟩ : ByteArray), (⟨#[111, 114, 105]⟩ : ByteArray), (⟨#[97, 110, 100, 105]⟩ : ByteArray), (⟨#[115, 108, 108, 105]⟩ : ByteArray), (⟨#[115, 114, 108, 105]⟩ : ByteArray), (⟨#[115, 114, 97, 105]⟩ : ByteArray), (⟨#[97, 100, 100, 105, 119]⟩ : ByteArray), (⟨#[115, 108, 108, 105, 119]⟩ : ByteArray), (⟨#[115, 114, 108, 105, 119]⟩ : ByteArray), (⟨#[115, 114, 97, 105, 119]⟩ : ByteArray), (⟨#[97, 100, 100]⟩ : ByteArray), (⟨#[115, 117, 98]⟩ : ByteArray), (⟨#[115, 108, 108]⟩ : ByteArray), (⟨#[115, 108, 116]⟩ : ByteArray), (⟨#[115, 108, 116, 117]⟩ : ByteArray), (⟨#[120, 111, 114]⟩ : ByteArray), (⟨#[115, 114, 108]⟩ : ByteArray), (⟨#[115, 114, 97]⟩ : ByteArray), (⟨#[111, 114]⟩ : ByteArray), (⟨#[97, 110, 100]⟩ : ByteArray), (⟨#[97, 100, 100, 119]⟩ : ByteArray), (⟨#[115, 117, 98, 119]⟩ : ByteArray), (⟨#[115, 108, 108, 119]⟩ : ByteArray), (⟨#[115, 114, 108, 119]⟩ : ByteArray), (⟨#[115, 114, 97, 119]⟩ : ByteArray), (⟨#[109, 117, 108]⟩ : ByteArray), (⟨#[109, 117, 108, 104]⟩ : ByteArray), (⟨#[109, 117, 108, 104, 115, 117]⟩ : ByteArray), (⟨#[109, 117, 108, 104, 117]⟩ : ByteArray), (⟨#[100, 105, 118]⟩ : ByteArray), (⟨#[100, 105, 118, 117]⟩ : ByteArray), (⟨#[114, 101, 109]⟩ : ByteArray), (⟨#[114, 101, 109, 117]⟩ : ByteArray), (⟨#[109, 117, 108, 119]⟩ : ByteArray), (⟨#[100, 105, 118, 119]⟩ : ByteArray), (⟨#[100, 105, 118, 117, 119]⟩ : ByteArray), (⟨#[114, 101, 109, 119]⟩ : ByteArray), (⟨#[114, 101, 109, 117, 119]⟩ : ByteArray), (⟨#[102, 101, 110, 99, 101]⟩ : ByteArray), (⟨#[101, 99, 97, 108, 108]⟩ : ByteArray), (⟨#[101, 98, 114, 101, 97, 107]⟩ : ByteArray), (⟨#[108, 114, 46, 119]⟩ : ByteArray), (⟨#[115, 99, 46, 119]⟩ : ByteArray), (⟨#[97, 109, 111, 115, 119, 97, 112, 46, 119]⟩ : ByteArray), (⟨#[97, 109, 111, 97, 100, 100, 46, 119]⟩ : ByteArray), (⟨#[97, 109, 111, 120, 111, 114, 46, 119]⟩ : ByteArray), (⟨#[97, 109, 111, 97, 110, 100, 46, 119]⟩ : ByteArray), (⟨#[97, 109, 111, 111, 114, 46, 119]⟩ : ByteArray), (⟨#[97, 109, 111, 109, 105, 110, 46, 119]⟩ : ByteArray), (⟨#[97, 109, 111, 109, 97, 120, 46, 119]⟩ : ByteArray), (⟨#[97, 109, 111, 109, 105, 110, 117, 46, 119]⟩ : ByteArray), (⟨#[97, 109, 111, 109, 97, 120, 117, 46, 119]⟩ : ByteArray), (⟨#[108, 114, 46, 100]⟩ : ByteArray), (⟨#[115, 99, 46, 100]⟩ : ByteArray), (⟨#[97, 109, 111, 115, 119, 97, 112, 46, 100]⟩ : ByteArray), (⟨#[97, 109, 111, 97, 100, 100, 46, 100]⟩ : ByteArray), (⟨#[97, 109, 111, 120, 111, 114, 46, 100]⟩ : ByteArray), (⟨#[97, 109, 111, 97, 110, 100, 46, 100]⟩ : ByteArray), (⟨#[97, 109, 111, 111, 114, 46, 100]⟩ : ByteArray), (⟨#[97, 109, 111, 109, 105, 110, 46, 100]⟩ : ByteArray), (⟨#[97, 109, 111, 109, 97, 120, 46, 100]⟩ : ByteArray), (⟨#[97, 109, 111, 109, 105, 110, 117, 46, 100]⟩ : ByteArray), (⟨#[97, 109, 111, 109, 97, 120, 117, 46, 100]⟩ : ByteArray)] : List ByteArray)) (inner := [.string (⟨#[108, 117, 105]⟩ : ByteArray), .string (⟨#[97, 117, 105, 112, 99]⟩ : ByteArray), .string (⟨#[106, 97, 108]⟩ : ByteArray), .string (⟨#[106, 97, 108, 114]⟩ : ByteArray), .string (⟨#[98, 101, 113]⟩ : ByteArray), .string (⟨#[98, 110, 101]⟩ : ByteArray), .string (⟨#[98, 108, 116]⟩ : ByteArray), .string (⟨#[98, 103, 101]⟩ : ByteArray), .string (⟨#[98, 108, 116, 117]⟩ : ByteArray), .string (⟨#[98, 103, 101, 117]⟩ : ByteArray), .string (⟨#[108, 98]⟩ : ByteArray), .string (⟨#[108, 104]⟩ : ByteArray), .string (⟨#[108, 119]⟩ : ByteArray), .string (⟨#[108, 100]⟩ : ByteArray), .string (⟨#[108, 98, 117]⟩ : ByteArray), .string (⟨#[108, 104, 117]⟩ : ByteArray), .string (⟨#[108, 119, 117]⟩ : ByteArray), .string (⟨#[115, 98]⟩ : ByteArray), .string (⟨#[115, 104]⟩ : ByteArray), .string (⟨#[115, 119]⟩ : ByteArray), .string (⟨#[115, 100]⟩ : ByteArray), .string (⟨#[97, 100, 100, 105]⟩ : ByteArray), .string (⟨#[115, 108, 116, 105]⟩ : ByteArray), .string (⟨#[115, 108, 116, 105, 117]⟩ : ByteArray), .string (⟨#[120, 111, 114, 105]⟩ : ByteArray), .string (⟨#[111, 114, 105]⟩ : ByteArray), .string (⟨#[97, 110, 100, 105]⟩ : ByteArray), .string (⟨#[115, 108, 108, 105]⟩ : ByteArray), .string (⟨#[115, 114, 108, 105]⟩ : ByteArray), .string (⟨#[115, 114, 97, 105]⟩ : ByteArray), .string (⟨#[97, 100, 100, 105, 119]⟩ : ByteArray), .string (⟨#[115, 108, 108, 105, 119]⟩ : ByteArray), .string (⟨#[115, 114, 108, 105, 119]⟩ : ByteArray), .string (⟨#[115, 114, 97, 105, 119]⟩ : ByteArray), .string (⟨#[97, 100, 100]⟩ : ByteArray), .string (⟨#[115, 117, 98]⟩ : ByteArray), .string (⟨#[115, 108, 108]⟩ : ByteArray), .string (⟨#[115, 108, 116]⟩ : ByteArray), .string (⟨#[115, 108, 116, 117]⟩ : ByteArray), .string (⟨#[120, 111, 114]⟩ : ByteArray), .string (⟨#[115, 114, 108]⟩ : ByteArray), .string (⟨#[115, 114, 97]⟩ : ByteArray), .string (⟨#[111, 114]⟩ : ByteArray), .string (⟨#[97, 110, 100]⟩ : ByteArray), .string (⟨#[97, 100, 100, 119]⟩ : ByteArray), .string (⟨#[115, 117, 98, 119]⟩ : ByteArray), .string (⟨#[115, 108, 108, 119]⟩ : ByteArray), .string (⟨#[115, 114, 108, 119]⟩ : ByteArray), .string (⟨#[115, 114, 97, 119]⟩ : ByteArray), .string (⟨#[109, 117, 108]⟩ : ByteArray), .string (⟨#[109, 117, 108, 104]⟩ : ByteArray), .string (⟨#[109, 117, 108, 104, 115, 117]⟩ : ByteArray), .string (⟨#[109, 117, 108, 104, 117]⟩ : ByteArray), .string (⟨#[100, 105, 118]⟩ : ByteArray), .string (⟨#[100, 105, 118, 117]⟩ : ByteArray), .string (⟨#[114, 101, 109]⟩ : ByteArray), .string (⟨#[114, 101, 109, 117]⟩ : ByteArray), .string (⟨#[109, 117, 108, 119]⟩ : ByteArray), .string (⟨#[100, 105, 118, 119]⟩ : ByteArray), .string (⟨#[100, 105, 118, 117, 119]⟩ : ByteArray), .string (⟨#[114, 101, 109, 119]⟩ : ByteArray), .string (⟨#[114, 101, 109, 117, 119]⟩ : ByteArray), .string (⟨#[102, 101, 110, 99, 101]⟩ : ByteArray), .string (⟨#[101, 99, 97, 108, 108]⟩ : ByteArray), .string (⟨#[101, 98, 114, 101, 97, 107]⟩ : ByteArray), .string (⟨#[108, 114, 46, 119]⟩ : ByteArray), .string (⟨#[115, 99, 46, 119]⟩ : ByteArray), .string (⟨#[97, 109, 111, 115, 119, 97, 112, 46, 119]⟩ : ByteArray), .string (⟨#[97, 109, 111, 97, 100, 100, 46, 119]⟩ : ByteArray), .string (⟨#[97, 109, 111, 120, 111, 114, 46, 119]⟩ : ByteArray), .string (⟨#[97, 109, 111, 97, 110, 100, 46, 119]⟩ : ByteArray), .string (⟨#[97, 109, 111, 111, 114, 46, 119]⟩ : ByteArray), .string (⟨#[97, 109, 111, 109, 105, 110, 46, 119]⟩ : ByteArray), .string (⟨#[97, 109, 111, 109, 97, 120, 46, 119]⟩ : ByteArray), .string (⟨#[97, 109, 111, 109, 105, 110, 117, 46, 119]⟩ : ByteArray), .string (⟨#[97, 109, 111, 109, 97, 120, 117, 46, 119]⟩ : ByteArray), .string (⟨#[108, 114, 46, 100]⟩ : ByteArray), .string (⟨#[115, 99, 46, 100]⟩ : ByteArray), .string (⟨#[97, 109, 111, 115, 119, 97, 112, 46, 100]⟩ : ByteArray), .string (⟨#[97, 109, 111, 97, 100, 100, 46, 100]⟩ : ByteArray), .string (⟨#[97, 109, 111, 120, 111, 114, 46, 100]⟩ : ByteArray), .string (⟨#[97, 109, 111, 97, 110, 100, 46, 100]⟩ : ByteArray), .string (⟨#[97, 109, 111, 111, 114, 46, 100]⟩ : ByteArray), .string (⟨#[97, 109, 111, 109, 105, 110, 46, 100]⟩ : ByteArray), .string (⟨#[97, 109, 111, 109, 97, 120, 46, 100]⟩ : ByteArray), .string (⟨#[97, 109, 111, 109, 105, 110, 117, 46, 100]⟩ : ByteArray), .string (⟨#[97, 109, 111, 109, 97, 120, 117, 46, 100]⟩ : ByteArray)]) (ok := fun _ => True) (okp := fun _ => True) ?hr ?hp (fun _ hk => hk) trivial (Below.refl _ _) (Nat.le_refl _) (by simp) ?_; (case hd => rfl); (case hg => rfl); (case hr => first | (go_simp; done) | (go_simp; rfl)); (case hp => exact (Reps.one (show Kd.M Kd.string _ _ _ (⟨#[108, 117, 105]⟩ : ByteArray) [.string (⟨#[108, 117, 105]⟩ : ByteArray)] from rfl) (Reps.one (show Kd.M Kd.string _ _ _ (⟨#[97, 117, 105, 112, 99]⟩ : ByteArray) [.string (⟨#[97, 117, 105, 112, 99]⟩ : ByteArray)] from rfl) (Reps.one (show Kd.M Kd.string _ _ _ (⟨#[106, 97, 108]⟩ : ByteArray) [.string (⟨#[106, 97, 108]⟩ : ByteArray)] from rfl) (Reps.one (show Kd.M Kd.string _ _ _ (⟨#[106, 97, 108, 114]⟩ : ByteArray) [.string (⟨#[106, 97, 108, 114]⟩ : ByteArray)] from rfl) (Reps.one (show Kd.M Kd.string _ _ _ (⟨#[98, 101, 113]⟩ : ByteArray) [.string (⟨#[98, 101, 113]⟩ : ByteArray)] from rfl) (Reps.one (show Kd.M Kd.string _ _ _ (⟨#[98, 110, 101]⟩ : ByteArray) [.string (⟨#[98, 110, 101]⟩ : ByteArray)] from rfl) (Reps.one (show Kd.M Kd.string _ _ _ (⟨#[98, 108, 116]⟩ : ByteArray) [.string (⟨#[98, 108, 116]⟩ : ByteArray)] from rfl) (Reps.one (show Kd.M Kd.string _ _ _ (⟨#[98, 103, 101]⟩ : ByteArray) [.string (⟨#[98, 103, 101]⟩ : ByteArray)] from rfl) (Reps.one (show Kd.M Kd.string _ _ _ (⟨#[98, 108, 116, 117]⟩ : ByteArray) [.string (⟨#[98, 108, 116, 117]⟩ : ByteArray)] from rfl) (Reps.one (show Kd.M Kd.string _ _ _ (⟨#[98, 103, 101, 117]⟩ : ByteArray) [.string (⟨#[98, 103, 101, 117]⟩ : ByteArray)] from rfl) (Reps.one (show Kd.M Kd.string _ _ _ (⟨#[108, 98]⟩ : ByteArray) [.string (⟨#[108, 98]⟩ : ByteArray)] from rfl) (Reps.one (show Kd.M Kd.string _ _ _ (⟨#[108, 104]⟩ : ByteArray) [.string (⟨#[108, 104]⟩ : ByteArray)] from rfl) (Reps.one (show Kd.M Kd.string _ _ _ (⟨#[108, 119]⟩ : ByteArray) [.string (⟨#[108, 119]⟩ : ByteArray)] from rfl) (Reps.one (show Kd.M Kd.string _ _ _ (⟨#[108, 100]⟩ : ByteArray) [.string (⟨#[108, 100]⟩ : ByteArray)] from rfl) (Reps.one (show Kd.M Kd.string _ _ _ (⟨#[108, 98, 117]⟩ : ByteArray) [.string (⟨#[108, 98, 117]⟩ : ByteArray)] from rfl) (Reps.one (show Kd.M Kd.string _ _ _ (⟨#[108, 104, 117]⟩ : ByteArray) [.string (⟨#[108, 104, 117]⟩ : ByteArray)] from rfl) (Reps.one (show Kd.M Kd.string _ _ _ (⟨#[108, 119, 117]⟩ : ByteArray) [.string (⟨#[108, 119, 117]⟩ : ByteArray)] from rfl) (Reps.one (show Kd.M Kd.string _ _ _ (⟨#[115, 98]⟩ : ByteArray) [.string (⟨#[115, 98]⟩ : ByteArray)] from rfl) (Reps.one (show Kd.M Kd.string _ _ _ (⟨#[115, 104]⟩ : ByteArray) [.string (⟨#[115, 104]⟩ : ByteArray)] from rfl) (Reps.one (show Kd.M Kd.string _ _ _ (⟨#[115, 119]⟩ : ByteArray) [.string (⟨#[115, 119]⟩ : ByteArray)] from rfl) (Reps.one (show Kd.M Kd.string _ _ _ (⟨#[115, 100]⟩ : ByteArray) [.string (⟨#[115, 100]⟩ : ByteArray)] from rfl) (Reps.one (show Kd.M Kd.string _ _ _ (⟨#[97, 100, 100, 105]⟩ : ByteArray) [.string (⟨#[97, 100, 100, 105]⟩ : ByteArray)] from rfl) (Reps.one (show Kd.M Kd.string _ _ _ (⟨#[115, 108, 116, 105]⟩ : ByteArray) [.string (⟨#[115, 108, 116, 105]⟩ : ByteArray)] from rfl) (Reps.one (show Kd.M Kd.string _ _ _ (⟨#[115, 108, 116, 105, 117]⟩ : ByteArray) [.string (⟨#[115, 108, 116, 105, 117]⟩ : ByteArray)] from rfl) (Reps.one (show Kd.M Kd.string _ _ _ (⟨#[120, 111, 114, 105]⟩ : ByteArray) [.string (⟨#[120, 111, 114, 105]⟩ : ByteArray)] from rfl) (Reps.one (show Kd.M Kd.string _ _ _ (⟨#[111, 114, 105]⟩ : ByteArray) [.string (⟨#[111, 114, 105]⟩ : ByteArray)] from rfl) (Reps.one (show Kd.M Kd.string _ _ _ (⟨#[97, 110, 100, 105]⟩ : ByteArray) [.string (⟨#[97, 110, 100, 105]⟩ : ByteArray)] from rfl) (Reps.one (show Kd.M Kd.string _ _ _ (⟨#[115, 108, 108, 105]⟩ : ByteArray) [.string (⟨#[115, 108, 108, 105]⟩ : ByteArray)] from rfl) (Reps.one (show Kd.M Kd.string _ _ _ (⟨#[115, 114, 108, 105]⟩ : ByteArray) [.string (⟨#[115, 114, 108, 105]⟩ : ByteArray)] from rfl) (Reps.one (show Kd.M Kd.string _ _ _ (⟨#[115, 114, 97, 105]⟩ : ByteArray) [.string (⟨#[115, 114, 97, 105]⟩ : ByteArray)] from rfl) (Reps.one (show Kd.M Kd.string _ _ _ (⟨#[97, 100, 100, 105, 119]⟩ : ByteArray) [.string (⟨#[97, 100, 100, 105, 119]⟩ : ByteArray)] from rfl) (Reps.one (show Kd.M Kd.string _ _ _ (⟨#[115, 108, 108, 105, 119]⟩ : ByteArray) [.string (⟨#[115, 108, 108, 105, 119]⟩ : ByteArray)] from rfl) (Reps.one (show Kd.M Kd.string _ _ _ (⟨#[115, 114, 108, 105, 119]⟩ : ByteArray) [.string (⟨#[115, 114, 108, 105, 119]⟩ : ByteArray)] from rfl) (Reps.one (show Kd.M Kd.string _ _ _ (⟨#[115, 114, 97, 105, 119]⟩ : ByteArray) [.string (⟨#[115, 114, 97, 105, 119]⟩ : ByteArray)] from rfl) (Reps.one (show Kd.M Kd.string _ _ _ (⟨#[97, 100, 100]⟩ : ByteArray) [.string (⟨#[97, 100, 100]⟩ : ByteArray)] from rfl) (Reps.one (show Kd.M Kd.string _ _ _ (⟨#[115, 117, 98]⟩ : ByteArray) [.string (⟨#[115, 117, 98]⟩ : ByteArray)] from rfl) (Reps.one (show Kd.M Kd.string _ _ _ (⟨#[115, 108, 108]⟩ : ByteArray) [.string (⟨#[115, 108, 108]⟩ : ByteArray)] from rfl) (Reps.one (show Kd.M Kd.string _ _ _ (⟨#[115, 108, 116]⟩ : ByteArray) [.string (⟨#[115, 108, 116]⟩ : ByteArray)] from rfl) (Reps.one (show Kd.M Kd.string _ _ _ (⟨#[115, 108, 116, 117]⟩ : ByteArray) [.string (⟨#[115, 108, 116, 117]⟩ : ByteArray)] from rfl) (Reps.one (show Kd.M Kd.string _ _ _ (⟨#[120, 111, 114]⟩ : ByteArray) [.string (⟨#[120, 111, 114]⟩ : ByteArray)] from rfl) (Reps.one (show Kd.M Kd.string _ _ _ (⟨#[115, 114, 108]⟩ : ByteArray) [.string (⟨#[115, 114, 108]⟩ : ByteArray)] from rfl) (Reps.one (show Kd.M Kd.string _ _ _ (⟨#[115, 114, 97]⟩ : ByteArray) [.string (⟨#[115, 114, 97]⟩ : ByteArray)] from rfl) (Reps.one (show Kd.M Kd.string _ _ _ (⟨#[111, 114]⟩ : ByteArray) [.string (⟨#[111, 114]⟩ : ByteArray)] from rfl) (Reps.one (show Kd.M Kd.string _ _ _ (⟨#[97, 110, 100]⟩ : ByteArray) [.string (⟨#[97, 110, 100]⟩ : ByteArray)] from rfl) (Reps.one (show Kd.M Kd.string _ _ _ (⟨#[97, 100, 100, 119]⟩ : ByteArray) [.string (⟨#[97, 100, 100, 119]⟩ : ByteArray)] from rfl) (Reps.one (show Kd.M Kd.string _ _ _ (⟨#[115, 117, 98, 119]⟩ : ByteArray) [.string (⟨#[115, 117, 98, 119]⟩ : ByteArray)] from rfl) (Reps.one (show Kd.M Kd.string _ _ _ (⟨#[115, 108, 108, 119]⟩ : ByteArray) [.string (⟨#[115, 108, 108, 119]⟩ : ByteArray)] from rfl) (Reps.one (show Kd.M Kd.string _ _ _ (⟨#[115, 114, 108, 119]⟩ : ByteArray) [.string (⟨#[115, 114, 108, 119]⟩ : ByteArray)] from rfl) (Reps.one (show Kd.M Kd.string _ _ _ (⟨#[115, 114, 97, 119]⟩ : ByteArray) [.string (⟨#[115, 114, 97, 119]⟩ : ByteArray)] from rfl) (Reps.one (show Kd.M Kd.string _ _ _ (⟨#[109, 117, 108]⟩ : ByteArray) [.string (⟨#[109, 117, 108]⟩ : ByteArray)] from rfl) (Reps.one (show Kd.M Kd.string _ _ _ (⟨#[109, 117, 108, 104]⟩ : ByteArray) [.string (⟨#[109, 117, 108, 104]⟩ : ByteArray)] from rfl) (Reps.one (show Kd.M Kd.string _ _ _ (⟨#[109, 117, 108, 104, 115, 117]⟩ : ByteArray) [.string (⟨#[109, 117, 108, 104, 115, 117]⟩ : ByteArray)] from rfl) (Reps.one (show Kd.M Kd.string _ _ _ (⟨#[109, 117, 108, 104, 117]⟩ : ByteArray) [.string (⟨#[109, 117, 108, 104, 117]⟩ : ByteArray)] from rfl) (Reps.one (show Kd.M Kd.string _ _ _ (⟨#[100, 105, 118]⟩ : ByteArray) [.string (⟨#[100, 105, 118]⟩ : ByteArray)] from rfl) (Reps.one (show Kd.M Kd.string _ _ _ (⟨#[100, 105, 118, 117]⟩ : ByteArray) [.string (⟨#[100, 105, 118, 117]⟩ : ByteArray)] from rfl) (Reps.one (show Kd.M Kd.string _ _ _ (⟨#[114, 101, 109]⟩ : ByteArray) [.string (⟨#[114, 101, 109]⟩ : ByteArray)] from rfl) (Reps.one (show Kd.M Kd.string _ _ _ (⟨#[114, 101, 109, 117]⟩ : ByteArray) [.string (⟨#[114, 101, 109, 117]⟩ : ByteArray)] from rfl) (Reps.one (show Kd.M Kd.string _ _ _ (⟨#[109, 117, 108, 119]⟩ : ByteArray) [.string (⟨#[109, 117, 108, 119]⟩ : ByteArray)] from rfl) (Reps.one (show Kd.M Kd.string _ _ _ (⟨#[100, 105, 118, 119]⟩ : ByteArray) [.string (⟨#[100, 105, 118, 119]⟩ : ByteArray)] from rfl) (Reps.one (show Kd.M Kd.string _ _ _ (⟨#[100, 105, 118, 117, 119]⟩ : ByteArray) [.string (⟨#[100, 105, 118, 117, 119]⟩ : ByteArray)] from rfl) (Reps.one (show Kd.M Kd.string _ _ _ (⟨#[114, 101, 109, 119]⟩ : ByteArray) [.string (⟨#[114, 101, 109, 119]⟩ : ByteArray)] from rfl) (Reps.one (show Kd.M Kd.string _ _ _ (⟨#[114, 101, 109, 117, 119]⟩ : ByteArray) [.string (⟨#[114, 101, 109, 117, 119]⟩ : ByteArray)] from rfl) (Reps.one (show Kd.M Kd.string _ _ _ (⟨#[102, 101, 110, 99, 101]⟩ : ByteArray) [.string (⟨#[102, 101, 110, 99, 101]⟩ : ByteArray)] from rfl) (Reps.one (show Kd.M Kd.string _ _ _ (⟨#[101, 99, 97, 108, 108]⟩ : ByteArray) [.string (⟨#[101, 99, 97, 108, 108]⟩ : ByteArray)] from rfl) (Reps.one (show Kd.M Kd.string _ _ _ (⟨#[101, 98, 114, 101, 97, 107]⟩ : ByteArray) [.string (⟨#[101, 98, 114, 101, 97, 107]⟩ : ByteArray)] from rfl) (Reps.one (show Kd.M Kd.string _ _ _ (⟨#[108, 114, 46, 119]⟩ : ByteArray) [.string (⟨#[108, 114, 46, 119]⟩ : ByteArray)] from rfl) (Reps.one (show Kd.M Kd.string _ _ _ (⟨#[115, 99, 46, 119]⟩ : ByteArray) [.string (⟨#[115, 99, 46, 119]⟩ : ByteArray)] from rfl) (Reps.one (show Kd.M Kd.string _ _ _ (⟨#[97, 109, 111, 115, 119, 97, 112, 46, 119]⟩ : ByteArray) [.string (⟨#[97, 109, 111, 115, 119, 97, 112, 46, 119]⟩ : ByteArray)] from rfl) (Reps.one (show Kd.M Kd.string _ _ _ (⟨#[97, 109, 111, 97, 100, 100, 46, 119]⟩ : ByteArray) [.string (⟨#[97, 109, 111, 97, 100, 100, 46, 119]⟩ : ByteArray)] from rfl) (Reps.one (show Kd.M Kd.string _ _ _ (⟨#[97, 109, 111, 120, 111, 114, 46, 119]⟩ : ByteArray) [.string (⟨#[97, 109, 111, 120, 111, 114, 46, 119]⟩ : ByteArray)] from rfl) (Reps.one (show Kd.M Kd.string _ _ _ (⟨#[97, 109, 111, 97, 110, 100, 46, 119]⟩ : ByteArray) [.string (⟨#[97, 109, 111, 97, 110, 100, 46, 119]⟩ : ByteArray)] from rfl) (Reps.one (show Kd.M Kd.string _ _ _ (⟨#[97, 109, 111, 111, 114, 46, 119]⟩ : ByteArray) [.string (⟨#[97, 109, 111, 111, 114, 46, 119]⟩ : ByteArray)] from rfl) (Reps.one (show Kd.M Kd.string _ _ _ (⟨#[97, 109, 111, 109, 105, 110, 46, 119]⟩ : ByteArray) [.string (⟨#[97, 109, 111, 109, 105, 110, 46, 119]⟩ : ByteArray)] from rfl) (Reps.one (show Kd.M Kd.string _ _ _ (⟨#[97, 109, 111, 109, 97, 120, 46, 119]⟩ : ByteArray) [.string (⟨#[97, 109, 111, 109, 97, 120, 46, 119]⟩ : ByteArray)] from rfl) (Reps.one (show Kd.M Kd.string _ _ _ (⟨#[97, 109, 111, 109, 105, 110, 117, 46, 119]⟩ : ByteArray) [.string (⟨#[97, 109, 111, 109, 105, 110, 117, 46, 119]⟩ : ByteArray)] from rfl) (Reps.one (show Kd.M Kd.string _ _ _ (⟨#[97, 109, 111, 109, 97, 120, 117, 46, 119]⟩ : ByteArray) [.string (⟨#[97, 109, 111, 109, 97, 120, 117, 46, 119]⟩ : ByteArray)] from rfl) (Reps.one (show Kd.M Kd.string _ _ _ (⟨#[108, 114, 46, 100]⟩ : ByteArray) [.string (⟨#[108, 114, 46, 100]⟩ : ByteArray)] from rfl) (Reps.one (show Kd.M Kd.string _ _ _ (⟨#[115, 99, 46, 100]⟩ : ByteArray) [.string (⟨#[115, 99, 46, 100]⟩ : ByteArray)] from rfl) (Reps.one (show Kd.M Kd.string _ _ _ (⟨#[97, 109, 111, 115, 119, 97, 112, 46, 100]⟩ : ByteArray) [.string (⟨#[97, 109, 111, 115, 119, 97, 112, 46, 100]⟩ : ByteArray)] from rfl) (Reps.one (show Kd.M Kd.string _ _ _ (⟨#[97, 109, 111, 97, 100, 100, 46, 100]⟩ : ByteArray) [.string (⟨#[97, 109, 111, 97, 100, 100, 46, 100]⟩ : ByteArray)] from rfl) (Reps.one (show Kd.M Kd.string _ _ _ (⟨#[97, 109, 111, 120, 111, 114, 46, 100]⟩ : ByteArray) [.string (⟨#[97, 109, 111, 120, 111, 114, 46, 100]⟩ : ByteArray)] from rfl) (Reps.one (show Kd.M Kd.string _ _ _ (⟨#[97, 109, 111, 97, 110, 100, 46, 100]⟩ : ByteArray) [.string (⟨#[97, 109, 111, 97, 110, 100, 46, 100]⟩ : ByteArray)] from rfl) (Reps.one (show Kd.M Kd.string _ _ _ (⟨#[97, 109, 111, 111, 114, 46, 100]⟩ : ByteArray) [.string (⟨#[97, 109, 111, 111, 114, 46, 100]⟩ : ByteArray)] from rfl) (Reps.one (show Kd.M Kd.string _ _ _ (⟨#[97, 109, 111, 109, 105, 110, 46, 100]⟩ : ByteArray) [.string (⟨#[97, 109, 111, 109, 105, 110, 46, 100]⟩ : ByteArray)] from rfl) (Reps.one (show Kd.M Kd.string _ _ _ (⟨#[97, 109, 111, 109, 97, 120, 46, 100]⟩ : ByteArray) [.string (⟨#[97, 109, 111, 109, 97, 120, 46, 100]⟩ : ByteArray)] from rfl) (Reps.one (show Kd.M Kd.string _ _ _ (⟨#[97, 109, 111, 109, 105, 110, 117, 46, 100]⟩ : ByteArray) [.string (⟨#[97, 109, 111, 109, 105, 110, 117, 46, 100]⟩ : ByteArray)] from rfl) (Reps.one (show Kd.M Kd.string _ _ _ (⟨#[97, 109, 111, 109, 97, 120, 117, 46, 100]⟩ : ByteArray) [.string (⟨#[97, 109, 111, 109, 97, 120, 117, 46, 100]⟩ : ByteArray)] from rfl) (Reps.none _ _))))))))))))))))))))))))))))))))))))))))))))))))))))))))))))))))))))))))))))))))))))))))); intro v140 w1 ho2 hb hg_ hnew_; clear hg_ hnew_; (first | rw [← Ny139.out] at ho2 | (simp only [Int.reduceToNat] at ho2; rw [← Ny139.out] at ho2)); have n0_ := Aside0.mk (Kd.R_lower ho2 (below_size (by repeat (first | (with_reducible first | exact HB.out | apply below_alloc | apply pw_below_drewN | apply below_drew1) | exact HB.out)))); have n1_ := Aside0.mk (below_step (by repeat (first | (with_reducible first | exact HB.out | apply below_alloc | apply pw_below_drewN | apply below_drew1) | exact HB.out)) hb); clear HB; have HO141 := n0_; have HB := n1_; clear n0_ n1_; clear hb ho2))
  go_ret
  exact ⟨_, by first | rfl | (simp [errW_none, errW_some] <;> rfl) | (simp [*, errW_none, errW_some] <;> rfl), by (with_reducible repeat (first | apply Kd.R_alloc | apply Kd.R_drewN | apply Kd.R_drew)); exact HO141.out, by repeat (first | (with_reducible first | exact HB.out | apply below_alloc | apply pw_below_drewN | apply below_drew1) | exact HB.out)⟩

/-! ### spinnakerref03_Name: function 56 -/
def spinnakerref03_Name.f (a0 : Int) : Option (ByteArray) := if a0 < 1 then (some (⟨#[]⟩ : ByteArray)) else (if a0 > 87 then (some (⟨#[]⟩ : ByteArray)) else ((spinnakerref03_Names.f).bind fun t142 => (if 0 ≤ (wrap64 (a0 - 1)) then (if (wrap64 (a0 - 1)) < (t142.length : Int) then (some (rdOf ByteArray.empty t142 (wrap64 (a0 - 1)))) else (none)) else (none))))
set_option maxHeartbeats 8000000 in
set_option maxRecDepth 100000 in
theorem spinnakerref03_Name.calls (a0 : Int) (r : ByteArray) (w : World) (h : spinnakerref03_Name.f a0 = some r) :
    Calls Try.prog 56 #[.int .i64 a0] w fun e w' => e = .returned (.string r) ∧ Below w.heap.size w w' := by
  have HB := Aside0.mk (Below.refl w.heap.size w)
  have H : (if a0 < 1 then (some (⟨#[]⟩ : ByteArray)) else (if a0 > 87 then (some (⟨#[]⟩ : ByteArray)) else ((spinnakerref03_Names.f).bind fun t142 => (if 0 ≤ (wrap64 (a0 - 1)) then (if (wrap64 (a0 - 1)) < (t142.length : Int) then (some (rdOf ByteArray.empty t142 (wrap64 (a0 - 1)))) else (none)) else (none))))) = some r := h
  clear h
  by_cases c2 : a0 < 1
  · rw [if_pos c2] at H
    have c2b0 : decide (a0 < 1) = true := decide_eq_true c2
    clear c2
    obtain rfl := Option.some.inj H
    go_enter Try.func56, Try.ntmps56
    go_wp2
    go_ret
    exact ⟨by first | rfl | (simp [errW_none, errW_some] <;> rfl) | (simp [*, errW_none, errW_some] <;> rfl), by repeat (first | (with_reducible first | exact HB.out | apply below_alloc | apply pw_below_drewN | apply below_drew1) | exact HB.out)⟩
  · rw [if_neg c2] at H
    have c2b0 : decide (a0 < 1) = false := decide_eq_false c2
    clear c2
    by_cases c3 : a0 > 87
    · rw [if_pos c3] at H
      have c3b0 : decide (87 < a0) = true := decide_eq_true c3
      clear c3
      obtain rfl := Option.some.inj H
      go_enter Try.func56, Try.ntmps56
      go_wp2
      go_ret
      exact ⟨by first | rfl | (simp [errW_none, errW_some] <;> rfl) | (simp [*, errW_none, errW_some] <;> rfl), by repeat (first | (with_reducible first | exact HB.out | apply below_alloc | apply pw_below_drewN | apply below_drew1) | exact HB.out)⟩
    · rw [if_neg c3] at H
      have c3b0 : decide (87 < a0) = false := decide_eq_false c3
      clear c3
      replace H := Option.bind_eq_some_iff.mp H
      obtain ⟨t142, A40, H⟩ := H
      replace H : (if 0 ≤ (wrap64 (a0 - 1)) then (if (wrap64 (a0 - 1)) < (t142.length : Int) then (some (rdOf ByteArray.empty t142 (wrap64 (a0 - 1)))) else (none)) else (none)) = some r := H
      have A4 := Aside0.mk A40
      clear A40
      obtain ⟨ji5, hji5⟩ : ∃ j_ : Int, (wrap64 (a0 - 1)) = j_ := ⟨_, rfl⟩
      replace H : (if 0 ≤ (ji5) then (if (ji5) < (t142.length : Int) then (some (rdOf ByteArray.empty t142 (ji5))) else (none)) else (none)) = some r := by first | (rw [hji5] at H; exact H) | (simp only [hji5] at H ⊢; exact H)
      (try rw [hji5] at A4)
      have hji5w : (IntKind.i64.wrap (a0 - 1)) = ji5 := (i64_w _).trans hji5
      by_cases c6 : 0 ≤ (ji5)
      · rw [if_pos c6] at H
        have c6b0 : decide (0 ≤ (ji5)) = true := decide_eq_true c6
        clear c6
        by_cases c7 : (ji5) < (t142.length : Int)
        · rw [if_pos c7] at H
          have c7b0 : decide ((ji5) < (t142.length : Int)) = true := decide_eq_true c7
          clear c7
          obtain rfl := Option.some.inj H
          go_enter Try.func56, Try.ntmps56
          go_wp2_with (first | ((with_reducible refine gate_callee (f := 93) rfl ?_); refine goesL_ (some 9) rfl rfl Try.func93 (by kernel_rfl) rfl #[] rfl (by (try simp only [List.map_toArray, List.map_cons, List.map_nil]); first | done | rfl | (simp only [List.length_drop, List.length_take]; rfl)) ?_; (with_reducible refine (spinnakerref03_Names.calls  t142 _ A4.out).mono ?_); rintro e w8 ⟨v143, rfl, ho0, hb⟩; refine ⟨_, rfl, ?_⟩; have n0_ := Aside0.mk (Kd.R_lower ho0 (below_size (by repeat (first | (with_reducible first | exact HB.out | apply below_alloc | apply pw_below_drewN | apply below_drew1) | exact HB.out)))); have n1_ := Aside0.mk (below_step (by repeat (first | (with_reducible first | exact HB.out | apply below_alloc | apply pw_below_drewN | apply below_drew1) | exact HB.out)) hb); clear HB; have HO144 := n0_; have HB := n1_; clear n0_ n1_; (try clear hb); (try clear hb2); (try clear hk); (try clear hi); (try clear ho0); obtain ⟨Ao9, co9, eo9⟩ := Kd.R_slice HO144.out; subst eo9; have p145 : 0 ≤ ((ji5) : Int) := of_decide_eq_true (by first | (with_reducible assumption) | assumption); have q145 : (ji5) < (t142.length : Int) := of_decide_eq_true (by first | (with_reducible assumption) | assumption); obtain ⟨ad145, e145, hx145_0⟩ := Kd.at_string (Kd.R_reads' HO144.out).2.2 (ji5) p145 q145; cases e145; replace p145 := eq_true p145; replace q145 := eq_true q145))
          go_ret
          exact ⟨by first | rfl | (simp [errW_none, errW_some] <;> rfl) | (simp only [← hji5]; first | rfl | (simp [errW_none, errW_some] <;> rfl)) | (simp [*, errW_none, errW_some] <;> rfl), by repeat (first | (with_reducible first | exact HB.out | apply below_alloc | apply pw_below_drewN | apply below_drew1) | exact HB.out)⟩
        · rw [if_neg c7] at H
          exact absurd H (by simp)
      · rw [if_neg c6] at H
        exact absurd H (by simp)

/-! ### spinnakerref07_Taken: function 26 -/
def spinnakerref07_Taken.f (a0 : Int) (a1 : Int) (a2 : Int) : Option (Bool) := (spinnakerref03_Name.f a0).bind fun t146 => (if t146.toList = ([98, 101, 113] : List UInt8) then (some (a1 == a2)) else (if t146.toList = ([98, 110, 101] : List UInt8) then (some (a1 != a2)) else (if t146.toList = ([98, 108, 116] : List UInt8) then (some (decide (a1 < a2))) else (if t146.toList = ([98, 103, 101] : List UInt8) then (some (decide (a1 ≥ a2))) else (if t146.toList = ([98, 108, 116, 117] : List UInt8) then (some (decide ((IntKind.u64.wrap (a1)) < (IntKind.u64.wrap (a2))))) else (some (decide ((IntKind.u64.wrap (a1)) ≥ (IntKind.u64.wrap (a2))))))))))
set_option maxHeartbeats 8000000 in
set_option maxRecDepth 100000 in
theorem spinnakerref07_Taken.calls (a0 : Int) (a1 : Int) (a2 : Int) (r : Bool) (w : World) (h : spinnakerref07_Taken.f a0 a1 a2 = some r) :
    Calls Try.prog 26 #[.int .i64 a0, .int .i64 a1, .int .i64 a2] w fun e w' => e = .returned (.bool r) ∧ Below w.heap.size w w' := by
  have HB := Aside0.mk (Below.refl w.heap.size w)
  have H : ((spinnakerref03_Name.f a0).bind fun t146 => (if t146.toList = ([98, 101, 113] : List UInt8) then (some (a1 == a2)) else (if t146.toList = ([98, 110, 101] : List UInt8) then (some (a1 != a2)) else (if t146.toList = ([98, 108, 116] : List UInt8) then (some (decide (a1 < a2))) else (if t146.toList = ([98, 103, 101] : List UInt8) then (some (decide (a1 ≥ a2))) else (if t146.toList = ([98, 108, 116, 117] : List UInt8) then (some (decide ((IntKind.u64.wrap (a1)) < (IntKind.u64.wrap (a2))))) else (some (decide ((IntKind.u64.wrap (a1)) ≥ (IntKind.u64.wrap (a2))))))))))) = some r := h
  clear h
  replace H := Option.bind_eq_some_iff.mp H
  obtain ⟨t146, A40, H⟩ := H
  replace H : (if t146.toList = ([98, 101, 113] : List UInt8) then (some (a1 == a2)) else (if t146.toList = ([98, 110, 101] : List UInt8) then (some (a1 != a2)) else (if t146.toList = ([98, 108, 116] : List UInt8) then (some (decide (a1 < a2))) else (if t146.toList = ([98, 103, 101] : List UInt8) then (some (decide (a1 ≥ a2))) else (if t146.toList = ([98, 108, 116, 117] : List UInt8) then (some (decide ((IntKind.u64.wrap (a1)) < (IntKind.u64.wrap (a2))))) else (some (decide ((IntKind.u64.wrap (a1)) ≥ (IntKind.u64.wrap (a2)))))))))) = some r := H
  have A4 := Aside0.mk A40
  clear A40
  by_cases c5 : t146.toList = ([98, 101, 113] : List UInt8)
  · rw [if_pos c5] at H
    have c5b0 : (t146.toList == ([98, 101, 113] : List UInt8)) = true := beq_iff_eq.mpr c5
    have c5b1 : (t146.toList != ([98, 101, 113] : List UInt8)) = false := bne_eq_false_iff_eq.mpr c5
    clear c5
    obtain rfl := Option.some.inj H
    go_enter Try.func26, Try.ntmps26
    go_wp2_with (first | ((with_reducible refine gate_callee (f := 56) rfl ?_); refine goesL_ (some 8) rfl rfl Try.func56 (by kernel_rfl) rfl #[.int .i64 a0] rfl (by (try simp only [List.map_toArray, List.map_cons, List.map_nil]); first | done | rfl | (simp only [List.length_drop, List.length_take]; rfl)) ?_; (with_reducible refine (spinnakerref03_Name.calls a0 t146 _ A4.out).mono ?_); rintro e w6 ⟨rfl, hb⟩; refine ⟨_, rfl, ?_⟩; have n0_ := Aside0.mk (below_step (by repeat (first | (with_reducible first | exact HB.out | apply below_alloc | apply pw_below_drewN | apply below_drew1) | exact HB.out)) hb); clear HB; have HB := n0_; clear n0_; (try clear hb); (try clear hb2); (try clear hk); (try clear hi)))
    go_ret
    exact ⟨by first | rfl | (simp [errW_none, errW_some] <;> rfl) | (simp [*, errW_none, errW_some] <;> rfl), by repeat (first | (with_reducible first | exact HB.out | apply below_alloc | apply pw_below_drewN | apply below_drew1) | exact HB.out)⟩
  · rw [if_neg c5] at H
    have c5b0 : (t146.toList == ([98, 101, 113] : List UInt8)) = false := beq_eq_false_iff_ne.mpr c5
    have c5b1 : (t146.toList != ([98, 101, 113] : List UInt8)) = true := bne_iff_ne.mpr c5
    by_cases c7 : t146.toList = ([98, 110, 101] : List UInt8)
    · rw [if_pos c7] at H
      have c7b0 : (t146.toList == ([98, 110, 101] : List UInt8)) = true := beq_iff_eq.mpr c7
      have c7b1 : (t146.toList != ([98, 110, 101] : List UInt8)) = false := bne_eq_false_iff_eq.mpr c7
      clear c7
      obtain rfl := Option.some.inj H
      go_enter Try.func26, Try.ntmps26
      go_wp2_with (first | ((with_reducible refine gate_callee (f := 56) rfl ?_); refine goesL_ (some 8) rfl rfl Try.func56 (by kernel_rfl) rfl #[.int .i64 a0] rfl (by (try simp only [List.map_toArray, List.map_cons, List.map_nil]); first | done | rfl | (simp only [List.length_drop, List.length_take]; rfl)) ?_; (with_reducible refine (spinnakerref03_Name.calls a0 t146 _ A4.out).mono ?_); rintro e w8 ⟨rfl, hb⟩; refine ⟨_, rfl, ?_⟩; have n0_ := Aside0.mk (below_step (by repeat (first | (with_reducible first | exact HB.out | apply below_alloc | apply pw_below_drewN | apply below_drew1) | exact HB.out)) hb); clear HB; have HB := n0_; clear n0_; (try clear hb); (try clear hb2); (try clear hk); (try clear hi)))
      go_ret
      exact ⟨by first | rfl | (simp [errW_none, errW_some] <;> rfl) | (simp [*, errW_none, errW_some] <;> rfl), by repeat (first | (with_reducible first | exact HB.out | apply below_alloc | apply pw_below_drewN | apply below_drew1) | exact HB.out)⟩
    · rw [if_neg c7] at H
      have c7b0 : (t146.toList == ([98, 110, 101] : List UInt8)) = false := beq_eq_false_iff_ne.mpr c7
      have c7b1 : (t146.toList != ([98, 110, 101] : List UInt8)) = true := bne_iff_ne.mpr c7
      by_cases c9 : t146.toList = ([98, 108, 116] : List UInt8)
      · rw [if_pos c9] at H
        have c9b0 : (t146.toList == ([98, 108, 116] : List UInt8)) = true := beq_iff_eq.mpr c9
        have c9b1 : (t146.toList != ([98, 108, 116] : List UInt8)) = false := bne_eq_false_iff_eq.mpr c9
        clear c9
        obtain rfl := Option.some.inj H
        go_enter Try.func26, Try.ntmps26
        go_wp2_with (first | ((with_reducible refine gate_callee (f := 56) rfl ?_); refine goesL_ (some 8) rfl rfl Try.func56 (by kernel_rfl) rfl #[.int .i64 a0] rfl (by (try simp only [List.map_toArray, List.map_cons, List.map_nil]); first | done | rfl | (simp only [List.length_drop, List.length_take]; rfl)) ?_; (with_reducible refine (spinnakerref03_Name.calls a0 t146 _ A4.out).mono ?_); rintro e w10 ⟨rfl, hb⟩; refine ⟨_, rfl, ?_⟩; have n0_ := Aside0.mk (below_step (by repeat (first | (with_reducible first | exact HB.out | apply below_alloc | apply pw_below_drewN | apply below_drew1) | exact HB.out)) hb); clear HB; have HB := n0_; clear n0_; (try clear hb); (try clear hb2); (try clear hk); (try clear hi)))
        go_ret
        exact ⟨by first | rfl | (simp [errW_none, errW_some] <;> rfl) | (simp [*, errW_none, errW_some] <;> rfl), by repeat (first | (with_reducible first | exact HB.out | apply below_alloc | apply pw_below_drewN | apply below_drew1) | exact HB.out)⟩
      · rw [if_neg c9] at H
        have c9b0 : (t146.toList == ([98, 108, 116] : List UInt8)) = false := beq_eq_false_iff_ne.mpr c9
        have c9b1 : (t146.toList != ([98, 108, 116] : List UInt8)) = true := bne_iff_ne.mpr c9
        by_cases c11 : t146.toList = ([98, 103, 101] : List UInt8)
        · rw [if_pos c11] at H
          have c11b0 : (t146.toList == ([98, 103, 101] : List UInt8)) = true := beq_iff_eq.mpr c11
          have c11b1 : (t146.toList != ([98, 103, 101] : List UInt8)) = false := bne_eq_false_iff_eq.mpr c11
          clear c11
          obtain rfl := Option.some.inj H
          go_enter Try.func26, Try.ntmps26
          go_wp2_with (first | ((with_reducible refine gate_callee (f := 56) rfl ?_); refine goesL_ (some 8) rfl rfl Try.func56 (by kernel_rfl) rfl #[.int .i64 a0] rfl (by (try simp only [List.map_toArray, List.map_cons, List.map_nil]); first | done | rfl | (simp only [List.length_drop, List.length_take]; rfl)) ?_; (with_reducible refine (spinnakerref03_Name.calls a0 t146 _ A4.out).mono ?_); rintro e w12 ⟨rfl, hb⟩; refine ⟨_, rfl, ?_⟩; have n0_ := Aside0.mk (below_step (by repeat (first | (with_reducible first | exact HB.out | apply below_alloc | apply pw_below_drewN | apply below_drew1) | exact HB.out)) hb); clear HB; have HB := n0_; clear n0_; (try clear hb); (try clear hb2); (try clear hk); (try clear hi)))
          go_ret
          exact ⟨by first | rfl | (simp [errW_none, errW_some] <;> rfl) | (simp [*, errW_none, errW_some] <;> rfl), by repeat (first | (with_reducible first | exact HB.out | apply below_alloc | apply pw_below_drewN | apply below_drew1) | exact HB.out)⟩
        · rw [if_neg c11] at H
          have c11b0 : (t146.toList == ([98, 103, 101] : List UInt8)) = false := beq_eq_false_iff_ne.mpr c11
          have c11b1 : (t146.toList != ([98, 103, 101] : List UInt8)) = true := bne_iff_ne.mpr c11
          by_cases c13 : t146.toList = ([98, 108, 116, 117] : List UInt8)
          · rw [if_pos c13] at H
            have c13b0 : (t146.toList == ([98, 108, 116, 117] : List UInt8)) = true := beq_iff_eq.mpr c13
            have c13b1 : (t146.toList != ([98, 108, 116, 117] : List UInt8)) = false := bne_eq_false_iff_eq.mpr c13
            clear c13
            obtain rfl := Option.some.inj H
            go_enter Try.func26, Try.ntmps26
            go_wp2_with (first | ((with_reducible refine gate_callee (f := 56) rfl ?_); refine goesL_ (some 8) rfl rfl Try.func56 (by kernel_rfl) rfl #[.int .i64 a0] rfl (by (try simp only [List.map_toArray, List.map_cons, List.map_nil]); first | done | rfl | (simp only [List.length_drop, List.length_take]; rfl)) ?_; (with_reducible refine (spinnakerref03_Name.calls a0 t146 _ A4.out).mono ?_); rintro e w14 ⟨rfl, hb⟩; refine ⟨_, rfl, ?_⟩; have n0_ := Aside0.mk (below_step (by repeat (first | (with_reducible first | exact HB.out | apply below_alloc | apply pw_below_drewN | apply below_drew1) | exact HB.out)) hb); clear HB; have HB := n0_; clear n0_; (try clear hb); (try clear hb2); (try clear hk); (try clear hi)))
            go_ret
            exact ⟨by first | rfl | (simp [errW_none, errW_some] <;> rfl) | (simp [*, errW_none, errW_some] <;> rfl), by repeat (first | (with_reducible first | exact HB.out | apply below_alloc | apply pw_below_drewN | apply below_drew1) | exact HB.out)⟩
          · rw [if_neg c13] at H
            have c13b0 : (t146.toList == ([98, 108, 116, 117] : List UInt8)) = false := beq_eq_false_iff_ne.mpr c13
            have c13b1 : (t146.toList != ([98, 108, 116, 117] : List UInt8)) = true := bne_iff_ne.mpr c13
            obtain rfl := Option.some.inj H
            go_enter Try.func26, Try.ntmps26
            go_wp2_with (first | ((with_reducible refine gate_callee (f := 56) rfl ?_); refine goesL_ (some 8) rfl rfl Try.func56 (by kernel_rfl) rfl #[.int .i64 a0] rfl (by (try simp only [List.map_toArray, List.map_cons, List.map_nil]); first | done | rfl | (simp only [List.length_drop, List.length_take]; rfl)) ?_; (with_reducible refine (spinnakerref03_Name.calls a0 t146 _ A4.out).mono ?_); rintro e w15 ⟨rfl, hb⟩; refine ⟨_, rfl, ?_⟩; have n0_ := Aside0.mk (below_step (by repeat (first | (with_reducible first | exact HB.out | apply below_alloc | apply pw_below_drewN | apply below_drew1) | exact HB.out)) hb); clear HB; have HB := n0_; clear n0_; (try clear hb); (try clear hb2); (try clear hk); (try clear hi)))
            go_ret
            exact ⟨by first | rfl | (simp [errW_none, errW_some] <;> rfl) | (simp [*, errW_none, errW_some] <;> rfl), by repeat (first | (with_reducible first | exact HB.out | apply below_alloc | apply pw_below_drewN | apply below_drew1) | exact HB.out)⟩

/-! ### spinnakerlaw07_AluTaken: function 7 -/
def spinnakerlaw07_AluTaken.j0 : Nat → Int → Int → Int → Bool → Bool → Bool → Option (Bool)
  | 0, _, _, _, _, _, _ => none
  | k + 1, x0, x1, x2, x7, x8, x21 => if x21 = true then (if x7 = true then (some false) else (if x8 = true then (some false) else ((spinnakerlaw07_awake.f k).bind fun t149 => (some t149)))) else ((spinnakerref07_Taken.f x0 x1 x2).bind fun t150 => (if (x7 == t150) = true then (if x8 = true then ((spinnakerlaw07_awake.f k).bind fun t151 => (some t151)) else (some false)) else (some false)))
def spinnakerlaw07_AluTaken.f (k : Nat) (a0 : Int) (a1 : Int) (a2 : Int) : Option (Bool) := (alu_Taken.f a0 a1 a2).bind fun bt147 => (if a0 < 5 then (spinnakerlaw07_AluTaken.j0 k a0 a1 a2 bt147.1 bt147.2 true) else (spinnakerlaw07_AluTaken.j0 k a0 a1 a2 bt147.1 bt147.2 (decide (a0 > 10))))
theorem spinnakerlaw07_AluTaken.mono_l : ∀ k, (∀ y0 y1 y2 y3 y4 y5, LeO (spinnakerlaw07_AluTaken.j0 k y0 y1 y2 y3 y4 y5) (spinnakerlaw07_AluTaken.j0 (k + 1) y0 y1 y2 y3 y4 y5))
  | 0 => fun _ _ _ _ _ _ r h => by simp [spinnakerlaw07_AluTaken.j0] at h
  | k + 1 => by
    have ih0 := spinnakerlaw07_AluTaken.mono_l k
    · intro y0 y1 y2 y3 y4 y5
      unfold spinnakerlaw07_AluTaken.j0
      repeat' first
      | (with_reducible exact ih0 _ _ _ _ _ _)
      | (with_reducible exact spinnakerlaw07_awake.mono _)
      | (with_reducible exact LeO.refl _)
      | (with_reducible exact LeO.none _)
      | (with_reducible refine LeO.ite ?_ ?_)
      | (with_reducible refine LeO.bind ?_ (fun _ => ?_))
      | exact ih0 _ _ _ _ _ _
      | exact spinnakerlaw07_awake.mono _
      | exact LeO.none _
      | refine LeO.ite ?_ ?_
      | refine LeO.bind ?_ (fun _ => ?_)
theorem spinnakerlaw07_AluTaken.mono : ∀ a0 a1 a2 k, LeO (spinnakerlaw07_AluTaken.f k a0 a1 a2) (spinnakerlaw07_AluTaken.f (k + 1) a0 a1 a2) := by
  intro a0 a1 a2 k
  have ih0 := spinnakerlaw07_AluTaken.mono_l k
  unfold spinnakerlaw07_AluTaken.f
  repeat' first
      | (with_reducible exact ih0 _ _ _ _ _ _)
      | (with_reducible exact spinnakerlaw07_awake.mono _)
      | (with_reducible exact LeO.refl _)
      | (with_reducible exact LeO.none _)
      | (with_reducible refine LeO.ite ?_ ?_)
      | (with_reducible refine LeO.bind ?_ (fun _ => ?_))
      | exact ih0 _ _ _ _ _ _
      | exact spinnakerlaw07_awake.mono _
      | exact LeO.none _
      | refine LeO.ite ?_ ?_
      | refine LeO.bind ?_ (fun _ => ?_)
set_option maxHeartbeats 8000000 in
set_option maxRecDepth 100000 in
theorem spinnakerlaw07_AluTaken.calls (k : Nat) (a0 : Int) (a1 : Int) (a2 : Int) (r : Bool) (w : World) (h : spinnakerlaw07_AluTaken.f k a0 a1 a2 = some r) :
    Calls Try.prog 7 #[.int .i64 a0, .int .i64 a1, .int .i64 a2] w fun e w' => e = .returned (.bool r) ∧ Below w.heap.size w w' := by
  have HB := Aside0.mk (Below.refl w.heap.size w)
  have H : ((alu_Taken.f a0 a1 a2).bind fun bt147 => (if a0 < 5 then (spinnakerlaw07_AluTaken.j0 k a0 a1 a2 bt147.1 bt147.2 true) else (spinnakerlaw07_AluTaken.j0 k a0 a1 a2 bt147.1 bt147.2 (decide (a0 > 10))))) = some r := h
  clear h
  replace H := Option.bind_eq_some_iff.mp H
  obtain ⟨⟨t147, t148⟩, A40, H⟩ := H
  replace H : (if a0 < 5 then (spinnakerlaw07_AluTaken.j0 k a0 a1 a2 t147 t148 true) else (spinnakerlaw07_AluTaken.j0 k a0 a1 a2 t147 t148 (decide (a0 > 10)))) = some r := H
  have A4 := Aside0.mk A40
  clear A40
  have HC5 := Aside0.mk H
  clear H
  go_enter Try.func7, Try.ntmps7
  go_upto_region 2 with (first | ((with_reducible refine gate_callee (f := 25) rfl ?_); refine goesL_ (some 13) rfl rfl Try.func25 (by kernel_rfl) rfl #[.int .i64 a0, .int .i64 a1, .int .i64 a2] rfl (by (try simp only [List.map_toArray, List.map_cons, List.map_nil]); first | done | rfl | (simp only [List.length_drop, List.length_take]; rfl)) ?_; (with_reducible refine (alu_Taken.calls a0 a1 a2 t147 t148 _ A4.out).mono ?_); rintro e w6 ⟨rfl, hb⟩; refine ⟨_, rfl, ?_⟩; have n0_ := Aside0.mk (below_step (by repeat (first | (with_reducible first | exact HB.out | apply below_alloc | apply pw_below_drewN | apply below_drew1) | exact HB.out)) hb); clear HB; have HB := n0_; clear n0_; (try clear hb); (try clear hb2); (try clear hk); (try clear hi)))
  (try simp only [Act.put, List.setIfInBounds_toArray, List.set_cons_zero, List.set_cons_succ])
  go_cut [21] (fun v21 wc => ∃ (kq : Nat) (x21_4 : Bool), v21 = .bool x21_4 ∧ Aside0 (spinnakerlaw07_AluTaken.j0 kq a0 a1 a2 t147 t148 x21_4 = some r) ∧ Aside0 (kq ≤ k) ∧ Aside0 (Below w.heap.size w wc))
  case first =>
    have H := HC5.out
    clear HC5
    by_cases c7 : a0 < 5
    · rw [if_pos c7] at H
      have c7b0 : decide (a0 < 5) = true := decide_eq_true c7
      clear c7
      (first | rw [c7b0] | (simp only [i64_w, i32_w]; rw [c7b0]) | skip)
      have H' := Aside0.mk H
      clear H
      go_wp2
      go_meet
      case rel => exact ⟨_, (true), (by first | rfl | (simp; done) | (simp [*]; done)), H', ⟨by first | omega | exact Nat.le_refl _⟩, ⟨by repeat (first | (with_reducible first | exact HB.out | apply below_alloc | apply pw_below_drewN | apply below_drew1) | exact HB.out)⟩⟩
    · rw [if_neg c7] at H
      have c7b0 : decide (a0 < 5) = false := decide_eq_false c7
      clear c7
      (first | rw [c7b0] | (simp only [i64_w, i32_w]; rw [c7b0]) | skip)
      have H' := Aside0.mk H
      clear H
      go_wp2
      go_meet
      case rel => exact ⟨_, (decide (a0 > 10)), (by first | rfl | (simp; done) | (simp [*]; done)), H', ⟨by first | omega | exact Nat.le_refl _⟩, ⟨by repeat (first | (with_reducible first | exact HB.out | apply below_alloc | apply pw_below_drewN | apply below_drew1) | exact HB.out)⟩⟩
  case rest =>
    clear HC5
    try clear c2
    try clear p2
    try clear c7
    try clear c7b0
    obtain ⟨kq, x21_4, rfl, HA, HJ4, HB⟩ := hcut
    cases kq with
    | zero => exact absurd HA.out (by simp [spinnakerlaw07_AluTaken.j0])
    | succ kj4 =>
      have H := HA.out
      clear HA
      simp only [spinnakerlaw07_AluTaken.j0] at H
      by_cases c8 : x21_4 = true
      · subst c8
        have H1 : (if t147 = true then (some false) else (if t148 = true then (some false) else ((spinnakerlaw07_awake.f kj4).bind fun t149 => (some t149)))) = some r := by rw [if_pos rfl] at H; exact H
        clear H
        have H := H1
        clear H1
        by_cases c9 : t147 = true
        · subst c9
          have H1 : (some false) = some r := by rw [if_pos rfl] at H; exact H
          clear H
          have H := H1
          clear H1
          obtain rfl := Option.some.inj H
          go_wp2
          go_ret
          exact ⟨by first | rfl | (simp [errW_none, errW_some] <;> rfl) | (simp [*, errW_none, errW_some] <;> rfl), by repeat (first | (with_reducible first | exact HB.out | apply below_alloc | apply pw_below_drewN | apply below_drew1) | exact HB.out)⟩
        · replace c9 := Bool.eq_false_iff.mpr c9
          subst c9
          have H1 : (if t148 = true then (some false) else ((spinnakerlaw07_awake.f kj4).bind fun t149 => (some t149))) = some r := by rw [if_neg (show ¬ (false = true) by decide)] at H; exact H
          clear H
          have H := H1
          clear H1
          by_cases c10 : t148 = true
          · subst c10
            have H1 : (some false) = some r := by rw [if_pos rfl] at H; exact H
            clear H
            have H := H1
            clear H1
            obtain rfl := Option.some.inj H
            go_wp2
            go_ret
            exact ⟨by first | rfl | (simp [errW_none, errW_some] <;> rfl) | (simp [*, errW_none, errW_some] <;> rfl), by repeat (first | (with_reducible first | exact HB.out | apply below_alloc | apply pw_below_drewN | apply below_drew1) | exact HB.out)⟩
          · replace c10 := Bool.eq_false_iff.mpr c10
            subst c10
            have H1 : ((spinnakerlaw07_awake.f kj4).bind fun t149 => (some t149)) = some r := by rw [if_neg (show ¬ (false = true) by decide)] at H; exact H
            clear H
            have H := H1
            clear H1
            replace H := Option.bind_eq_some_iff.mp H
            obtain ⟨t149, A110, H⟩ := H
            replace H : (some t149) = some r := H
            have A11 := Aside0.mk A110
            clear A110
            obtain rfl := Option.some.inj H
            go_wp2_with (first | (go_at_call 22; (with_reducible refine (spinnakerlaw07_awake.calls kj4  t149 _ A11.out).mono ?_); rintro e w' ⟨rfl, ⟨nd, rfl⟩⟩))
            go_ret
            exact ⟨by first | rfl | (simp [errW_none, errW_some] <;> rfl) | (simp [*, errW_none, errW_some] <;> rfl), by repeat (first | (with_reducible first | exact HB.out | apply below_alloc | apply pw_below_drewN | apply below_drew1) | exact HB.out)⟩
      · replace c8 := Bool.eq_false_iff.mpr c8
        subst c8
        have H1 : ((spinnakerref07_Taken.f a0 a1 a2).bind fun t150 => (if (t147 == t150) = true then (if t148 = true then ((spinnakerlaw07_awake.f kj4).bind fun t151 => (some t151)) else (some false)) else (some false))) = some r := by rw [if_neg (show ¬ (false = true) by decide)] at H; exact H
        clear H
        have H := H1
        clear H1
        replace H := Option.bind_eq_some_iff.mp H
        obtain ⟨t150, A120, H⟩ := H
        replace H : (if (t147 == t150) = true then (if t148 = true then ((spinnakerlaw07_awake.f kj4).bind fun t151 => (some t151)) else (some false)) else (some false)) = some r := H
        have A12 := Aside0.mk A120
        clear A120
        by_cases c13 : (t147 == t150) = true
        · rw [if_pos c13] at H
          have c13b0 : (t147 == t150) = true := c13
          (try (have c13b1 : decide (t147 = t150) = true := by simpa using c13))
          (try (have c13b2 : (t147 == t150) = true := by simpa using c13))
          clear c13
          by_cases c14 : t148 = true
          · subst c14
            have H1 : ((spinnakerlaw07_awake.f kj4).bind fun t151 => (some t151)) = some r := by rw [if_pos rfl] at H; exact H
            clear H
            have H := H1
            clear H1
            replace H := Option.bind_eq_some_iff.mp H
            obtain ⟨t151, A150, H⟩ := H
            replace H : (some t151) = some r := H
            have A15 := Aside0.mk A150
            clear A150
            obtain rfl := Option.some.inj H
            go_wp2_with (first | ((with_reducible refine gate_callee (f := 26) rfl ?_); refine goesL_ (some 35) rfl rfl Try.func26 (by kernel_rfl) rfl #[.int .i64 a0, .int .i64 a1, .int .i64 a2] rfl (by (try simp only [List.map_toArray, List.map_cons, List.map_nil]); first | done | rfl | (simp only [List.length_drop, List.length_take]; rfl)) ?_; (with_reducible refine (spinnakerref07_Taken.calls a0 a1 a2 t150 _ A12.out).mono ?_); rintro e w16 ⟨rfl, hb⟩; refine ⟨_, rfl, ?_⟩; have n0_ := Aside0.mk (below_step (by repeat (first | (with_reducible first | exact HB.out | apply below_alloc | apply pw_below_drewN | apply below_drew1) | exact HB.out)) hb); clear HB; have HB := n0_; clear n0_; (try clear hb); (try clear hb2); (try clear hk); (try clear hi)) | (go_at_call 22; (with_reducible refine (spinnakerlaw07_awake.calls kj4  t151 _ A15.out).mono ?_); rintro e w' ⟨rfl, ⟨nd, rfl⟩⟩))
            go_ret
            exact ⟨by first | rfl | (simp [errW_none, errW_some] <;> rfl) | (simp [*, errW_none, errW_some] <;> rfl), by repeat (first | (with_reducible first | exact HB.out | apply below_alloc | apply pw_below_drewN | apply below_drew1) | exact HB.out)⟩
          · replace c14 := Bool.eq_false_iff.mpr c14
            subst c14
            have H1 : (some false) = some r := by rw [if_neg (show ¬ (false = true) by decide)] at H; exact H
            clear H
            have H := H1
            clear H1
            obtain rfl := Option.some.inj H
            go_wp2_with (first | ((with_reducible refine gate_callee (f := 26) rfl ?_); refine goesL_ (some 35) rfl rfl Try.func26 (by kernel_rfl) rfl #[.int .i64 a0, .int .i64 a1, .int .i64 a2] rfl (by (try simp only [List.map_toArray, List.map_cons, List.map_nil]); first | done | rfl | (simp only [List.length_drop, List.length_take]; rfl)) ?_; (with_reducible refine (spinnakerref07_Taken.calls a0 a1 a2 t150 _ A12.out).mono ?_); rintro e w17 ⟨rfl, hb⟩; refine ⟨_, rfl, ?_⟩; have n0_ := Aside0.mk (below_step (by repeat (first | (with_reducible first | exact HB.out | apply below_alloc | apply pw_below_drewN | apply below_drew1) | exact HB.out)) hb); clear HB; have HB := n0_; clear n0_; (try clear hb); (try clear hb2); (try clear hk); (try clear hi)))
            go_ret
            exact ⟨by first | rfl | (simp [errW_none, errW_some] <;> rfl) | (simp [*, errW_none, errW_some] <;> rfl), by repeat (first | (with_reducible first | exact HB.out | apply below_alloc | apply pw_below_drewN | apply below_drew1) | exact HB.out)⟩
        · rw [if_neg c13] at H
          have c13b0 : (t147 == t150) = false := by simpa using c13
          (try (have c13b1 : decide (t147 = t150) = false := by simpa using c13))
          (try (have c13b2 : (t147 == t150) = false := by simpa using c13))
          (try (have c13b3 : ¬ (t147 = t150) := by simpa using c13))
          clear c13
          obtain rfl := Option.some.inj H
          go_wp2_with (first | ((with_reducible refine gate_callee (f := 26) rfl ?_); refine goesL_ (some 35) rfl rfl Try.func26 (by kernel_rfl) rfl #[.int .i64 a0, .int .i64 a1, .int .i64 a2] rfl (by (try simp only [List.map_toArray, List.map_cons, List.map_nil]); first | done | rfl | (simp only [List.length_drop, List.length_take]; rfl)) ?_; (with_reducible refine (spinnakerref07_Taken.calls a0 a1 a2 t150 _ A12.out).mono ?_); rintro e w18 ⟨rfl, hb⟩; refine ⟨_, rfl, ?_⟩; have n0_ := Aside0.mk (below_step (by repeat (first | (with_reducible first | exact HB.out | apply below_alloc | apply pw_below_drewN | apply below_drew1) | exact HB.out)) hb); clear HB; have HB := n0_; clear n0_; (try clear hb); (try clear hb2); (try clear hk); (try clear hi)))
          go_ret
          exact ⟨by first | rfl | (simp [errW_none, errW_some] <;> rfl) | (simp [*, errW_none, errW_some] <;> rfl), by repeat (first | (with_reducible first | exact HB.out | apply below_alloc | apply pw_below_drewN | apply below_drew1) | exact HB.out)⟩

/-- THE ONE PURE STATEMENT of spinnakerlaw07_AluTaken: yours. -/
def spinnakerlaw07_AluTaken.Pure : Prop := ∀ (a0 : Int) (a1 : Int) (a2 : Int), (Lit.int .i64 a0).wf = true → (Lit.int .i64 a1).wf = true → (Lit.int .i64 a2).wf = true → ∃ k, spinnakerlaw07_AluTaken.f k a0 a1 a2 = some true
theorem spinnakerlaw07_AluTaken.walk (P : spinnakerlaw07_AluTaken.Pure) (a0 : Int) (a1 : Int) (a2 : Int) (w : World) (w0 : (Lit.int .i64 a0).wf = true) (w1 : (Lit.int .i64 a1).wf = true) (w2 : (Lit.int .i64 a2).wf = true) :
    Calls Try.prog 7 #[.int .i64 a0, .int .i64 a1, .int .i64 a2] w fun e w' => e = .returned (.bool true) ∧ Below w.heap.size w w' := by
  obtain ⟨k, h⟩ := P a0 a1 a2 w0 w1 w2
  refine (spinnakerlaw07_AluTaken.calls k a0 a1 a2 true w h).mono ?_
  rintro e w' ⟨rfl, hd⟩
  exact ⟨rfl, hd⟩

end Go.Proofs.Ytcmdeplkdkpoaaa.GAluTaken
