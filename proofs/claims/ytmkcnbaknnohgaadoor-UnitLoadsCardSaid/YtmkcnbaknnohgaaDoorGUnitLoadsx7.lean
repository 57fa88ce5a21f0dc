-- Written by wip/stub.py of this repo.
import Derived.Test.YtmkcnbaknnohgaaDoorGUnitLoadsx0
import Derived.Test.YtmkcnbaknnohgaaDoorGUnitLoadsx3
import Derived.Test.YtmkcnbaknnohgaaDoorGUnitLoadsx6
namespace Go.Proofs.YtmkcnbaknnohgaaDoor.GUnitLoads
open Go.RowKit Go.Proofs.YtmkcnbaknnohgaaDoorW.PrintWords Go.Proofs.YtmkcnbaknnohgaaDoorW.PrintLast Go.Proofs.YtmkcnbaknnohgaaDoorW.PrintMore
attribute [local go_sem] max2_int min2_int max_two min_two max_three min_three max_four min_four   -- for this text's walks alone
set_option linter.unusedVariables false
set_option linter.unusedSimpArgs false

/-! ### spinnakerref07_abs: function 46 -/
def spinnakerref07_abs.f (a0 : Int) : Option (Int) := if a0 < 0 then (some (IntKind.u64.wrap (-(IntKind.u64.wrap (a0))))) else (some (IntKind.u64.wrap (a0)))
set_option maxHeartbeats 8000000 in
set_option maxRecDepth 100000 in
theorem spinnakerref07_abs.calls (a0 : Int) (r : Int) (w : World) (h : spinnakerref07_abs.f a0 = some r) :
  Calls Tryd.prog 46 #[.int .i64 a0] w fun e w' => e = .returned (.int .u64 r) ∧ Drawn0 w w' := by
 have H : (if a0 < 0 then (some (IntKind.u64.wrap (-(IntKind.u64.wrap (a0))))) else (some (IntKind.u64.wrap (a0)))) = some r := h
 clear h
 by_cases c2 : a0 < 0
 ·rw [if_pos c2] at H
  have c2b0 := decide_eq_true c2
  clear c2
  obtain rfl := Option.some.inj H
  go_enter Tryd.func46, Tryd.ntmps46
  go_wp2
  go_ret
  exact ⟨fj, fd⟩
 ·rw [if_neg c2] at H
  have c2b0 := decide_eq_false c2
  clear c2
  obtain rfl := Option.some.inj H
  go_enter Tryd.func46, Tryd.ntmps46
  go_wp2
  go_ret
  exact ⟨fj, fd⟩

/-! ### spinnakerref07_Div: function 39 -/
def spinnakerref07_Div.f (a0 : Int) (a1 : Int) : Option (Int × Int) := if a1 = 0 then (some ((-1), a0)) else ((spinnakerref07_abs.f a0).bind fun t227 => ((spinnakerref07_abs.f a1).bind fun t228 => (if t228 = 0 then (none) else ((spinnakerref07_abs.f a0).bind fun t229 => ((spinnakerref07_abs.f a1).bind fun t230 => (if t230 = 0 then (none) else (if ((decide (a0 < 0)) != (decide (a1 < 0))) = true then (if a0 < 0 then (some (wrap64 (IntKind.u64.wrap (-(IntKind.u64.wrap (Int.tdiv t227 t228)))), wrap64 (IntKind.u64.wrap (-(Int.tmod t229 t230))))) else (some (wrap64 (IntKind.u64.wrap (-(IntKind.u64.wrap (Int.tdiv t227 t228)))), wrap64 (Int.tmod t229 t230)))) else (if a0 < 0 then (some (wrap64 (IntKind.u64.wrap (Int.tdiv t227 t228)), wrap64 (IntKind.u64.wrap (-(Int.tmod t229 t230))))) else (some (wrap64 (IntKind.u64.wrap (Int.tdiv t227 t228)), wrap64 (Int.tmod t229 t230)))))))))))
set_option maxHeartbeats 8000000 in
set_option maxRecDepth 100000 in
theorem spinnakerref07_Div.calls (a0 : Int) (a1 : Int) (r1 : Int) (r2 : Int) (w : World) (h : spinnakerref07_Div.f a0 a1 = some (r1, r2)) :
  Calls Tryd.prog 39 #[.int .i64 a0, .int .i64 a1] w fun e w' => e = .returned (.tuple #[.int .i64 r1, .int .i64 r2]) ∧ Drawn0 w w' := by
 have H : (if a1 = 0 then (some ((-1), a0)) else ((spinnakerref07_abs.f a0).bind fun t227 => ((spinnakerref07_abs.f a1).bind fun t228 => (if t228 = 0 then (none) else ((spinnakerref07_abs.f a0).bind fun t229 => ((spinnakerref07_abs.f a1).bind fun t230 => (if t230 = 0 then (none) else (if ((decide (a0 < 0)) != (decide (a1 < 0))) = true then (if a0 < 0 then (some (wrap64 (IntKind.u64.wrap (-(IntKind.u64.wrap (Int.tdiv t227 t228)))), wrap64 (IntKind.u64.wrap (-(Int.tmod t229 t230))))) else (some (wrap64 (IntKind.u64.wrap (-(IntKind.u64.wrap (Int.tdiv t227 t228)))), wrap64 (Int.tmod t229 t230)))) else (if a0 < 0 then (some (wrap64 (IntKind.u64.wrap (Int.tdiv t227 t228)), wrap64 (IntKind.u64.wrap (-(Int.tmod t229 t230))))) else (some (wrap64 (IntKind.u64.wrap (Int.tdiv t227 t228)), wrap64 (Int.tmod t229 t230)))))))))))) = some (r1, r2) := h
 clear h
 by_cases c3 : a1 = 0
 ·rw [if_pos c3] at H
  obtain ⟨c3b0, c3b1⟩ := eqs c3
  clear c3
  simp only [Option.some.injEq, Prod.mk.injEq] at H
  obtain ⟨rfl, rfl⟩ := H
  go_enter Tryd.func39, Tryd.ntmps39
  go_wp2
  repeat (go_quiet (fail); try go_wp2)
  go_ret2
  exact ⟨fj, fd⟩
 ·rw [if_neg c3] at H
  have c3b0 : (a1 == 0) = false := beq_eq_false_iff_ne.mpr c3
  have c3b1 : (a1 != 0) = true := bne_iff_ne.mpr c3
  replace H := be H
  obtain ⟨t227, A4, H⟩ := H
  replace H := be H
  obtain ⟨t228, A5, H⟩ := H
  by_cases c6 : t228 = 0
  ·rw [if_pos c6] at H
   exact absurd H (by simp)
  ·rw [if_neg c6] at H
   have c6b0 : (t228 == 0) = false := beq_eq_false_iff_ne.mpr c6
   have c6b1 : (t228 != 0) = true := bne_iff_ne.mpr c6
   replace H := be H
   obtain ⟨t229, A7, H⟩ := H
   obtain rfl : t227 = t229 := Option.some.inj (A4.out.symm.trans A7.out)
   replace H := be H
   obtain ⟨t230, A8, H⟩ := H
   obtain rfl : t228 = t230 := Option.some.inj (A5.out.symm.trans A8.out)
   by_cases c9 : t228 = 0
   ·rw [if_pos c9] at H
    exact absurd H (by simp)
   ·rw [if_neg c9] at H
    have c9b0 : (t228 == 0) = false := beq_eq_false_iff_ne.mpr c9
    have c9b1 : (t228 != 0) = true := bne_iff_ne.mpr c9
    by_cases c10 : ((decide (a0 < 0)) != (decide (a1 < 0))) = true
    ·rw [if_pos c10] at H
     have c10b0 : ((decide (a0 < 0)) != (decide (a1 < 0))) = true := c10
     (try (have c10b1 : decide ((decide (a0 < 0)) = (decide (a1 < 0))) = false := by simpa using c10))
     (try (have c10b2 : ((decide (a0 < 0)) == (decide (a1 < 0))) = false := by simpa using c10))
     (try (have c10b3 : ¬ ((decide (a0 < 0)) = (decide (a1 < 0))) := by simpa using c10))
     clear c10
     by_cases c11 : a0 < 0
     ·rw [if_pos c11] at H
      have c11b0 := decide_eq_true c11
      have c11e : decide (a1 < 0) = false := by have h_ := c10b0; rw [c11b0] at h_; cases h2_ : decide (a1 < 0) <;> rw [h2_] at h_ <;> first | rfl | exact absurd h_ (by decide)
      clear c11
      simp only [Option.some.injEq, Prod.mk.injEq] at H
      obtain ⟨rfl, rfl⟩ := H
      go_enter Tryd.func39, Tryd.ntmps39
      go_wp2_with (first | (go_at_call 46; (with_reducible refine (spinnakerref07_abs.calls a0 t227 _ A4.out).mono ?_); rintro e w' ⟨rfl, ⟨nd, rfl⟩⟩; (try first | exact ⟨rfl, _, World.drewN_drewN _ _ _⟩ | exact ⟨rfl, _, Eq.trans (World.drewN_drewN _ _ _) (congrArg (World.drewN _) (Nat.add_assoc _ _ _))⟩)) | (go_at_call 46; (with_reducible refine (spinnakerref07_abs.calls a1 t228 _ A5.out).mono ?_); rintro e w' ⟨rfl, ⟨nd, rfl⟩⟩; (try first | exact ⟨rfl, _, World.drewN_drewN _ _ _⟩ | exact ⟨rfl, _, Eq.trans (World.drewN_drewN _ _ _) (congrArg (World.drewN _) (Nat.add_assoc _ _ _))⟩)) | (go_at_call 46; (with_reducible refine (spinnakerref07_abs.calls a0 t227 _ A7.out).mono ?_); rintro e w' ⟨rfl, ⟨nd, rfl⟩⟩; (try first | exact ⟨rfl, _, World.drewN_drewN _ _ _⟩ | exact ⟨rfl, _, Eq.trans (World.drewN_drewN _ _ _) (congrArg (World.drewN _) (Nat.add_assoc _ _ _))⟩)) | (go_at_call 46; (with_reducible refine (spinnakerref07_abs.calls a1 t228 _ A8.out).mono ?_); rintro e w' ⟨rfl, ⟨nd, rfl⟩⟩; (try first | exact ⟨rfl, _, World.drewN_drewN _ _ _⟩ | exact ⟨rfl, _, Eq.trans (World.drewN_drewN _ _ _) (congrArg (World.drewN _) (Nat.add_assoc _ _ _))⟩)))
      repeat (go_quiet (first | (go_at_call 46; (with_reducible refine (spinnakerref07_abs.calls a0 t227 _ A4.out).mono ?_); rintro e w' ⟨rfl, ⟨nd, rfl⟩⟩; (try first | exact ⟨rfl, _, World.drewN_drewN _ _ _⟩ | exact ⟨rfl, _, Eq.trans (World.drewN_drewN _ _ _) (congrArg (World.drewN _) (Nat.add_assoc _ _ _))⟩)) | (go_at_call 46; (with_reducible refine (spinnakerref07_abs.calls a1 t228 _ A5.out).mono ?_); rintro e w' ⟨rfl, ⟨nd, rfl⟩⟩; (try first | exact ⟨rfl, _, World.drewN_drewN _ _ _⟩ | exact ⟨rfl, _, Eq.trans (World.drewN_drewN _ _ _) (congrArg (World.drewN _) (Nat.add_assoc _ _ _))⟩)) | (go_at_call 46; (with_reducible refine (spinnakerref07_abs.calls a0 t227 _ A7.out).mono ?_); rintro e w' ⟨rfl, ⟨nd, rfl⟩⟩; (try first | exact ⟨rfl, _, World.drewN_drewN _ _ _⟩ | exact ⟨rfl, _, Eq.trans (World.drewN_drewN _ _ _) (congrArg (World.drewN _) (Nat.add_assoc _ _ _))⟩)) | (go_at_call 46; (with_reducible refine (spinnakerref07_abs.calls a1 t228 _ A8.out).mono ?_); rintro e w' ⟨rfl, ⟨nd, rfl⟩⟩; (try first | exact ⟨rfl, _, World.drewN_drewN _ _ _⟩ | exact ⟨rfl, _, Eq.trans (World.drewN_drewN _ _ _) (congrArg (World.drewN _) (Nat.add_assoc _ _ _))⟩))); try go_wp2_with (first | (go_at_call 46; (with_reducible refine (spinnakerref07_abs.calls a0 t227 _ A4.out).mono ?_); rintro e w' ⟨rfl, ⟨nd, rfl⟩⟩; (try first | exact ⟨rfl, _, World.drewN_drewN _ _ _⟩ | exact ⟨rfl, _, Eq.trans (World.drewN_drewN _ _ _) (congrArg (World.drewN _) (Nat.add_assoc _ _ _))⟩)) | (go_at_call 46; (with_reducible refine (spinnakerref07_abs.calls a1 t228 _ A5.out).mono ?_); rintro e w' ⟨rfl, ⟨nd, rfl⟩⟩; (try first | exact ⟨rfl, _, World.drewN_drewN _ _ _⟩ | exact ⟨rfl, _, Eq.trans (World.drewN_drewN _ _ _) (congrArg (World.drewN _) (Nat.add_assoc _ _ _))⟩)) | (go_at_call 46; (with_reducible refine (spinnakerref07_abs.calls a0 t227 _ A7.out).mono ?_); rintro e w' ⟨rfl, ⟨nd, rfl⟩⟩; (try first | exact ⟨rfl, _, World.drewN_drewN _ _ _⟩ | exact ⟨rfl, _, Eq.trans (World.drewN_drewN _ _ _) (congrArg (World.drewN _) (Nat.add_assoc _ _ _))⟩)) | (go_at_call 46; (with_reducible refine (spinnakerref07_abs.calls a1 t228 _ A8.out).mono ?_); rintro e w' ⟨rfl, ⟨nd, rfl⟩⟩; (try first | exact ⟨rfl, _, World.drewN_drewN _ _ _⟩ | exact ⟨rfl, _, Eq.trans (World.drewN_drewN _ _ _) (congrArg (World.drewN _) (Nat.add_assoc _ _ _))⟩))))
      go_ret2
      exact ⟨fj, fd⟩
     ·rw [if_neg c11] at H
      have c11b0 := decide_eq_false c11
      have c11e : decide (a1 < 0) = true := by have h_ := c10b0; rw [c11b0] at h_; cases h2_ : decide (a1 < 0) <;> rw [h2_] at h_ <;> first | rfl | exact absurd h_ (by decide)
      clear c11
      simp only [Option.some.injEq, Prod.mk.injEq] at H
      obtain ⟨rfl, rfl⟩ := H
      go_enter Tryd.func39, Tryd.ntmps39
      go_wp2_with (first | (go_at_call 46; (with_reducible refine (spinnakerref07_abs.calls a0 t227 _ A4.out).mono ?_); rintro e w' ⟨rfl, ⟨nd, rfl⟩⟩; (try first | exact ⟨rfl, _, World.drewN_drewN _ _ _⟩ | exact ⟨rfl, _, Eq.trans (World.drewN_drewN _ _ _) (congrArg (World.drewN _) (Nat.add_assoc _ _ _))⟩)) | (go_at_call 46; (with_reducible refine (spinnakerref07_abs.calls a1 t228 _ A5.out).mono ?_); rintro e w' ⟨rfl, ⟨nd, rfl⟩⟩; (try first | exact ⟨rfl, _, World.drewN_drewN _ _ _⟩ | exact ⟨rfl, _, Eq.trans (World.drewN_drewN _ _ _) (congrArg (World.drewN _) (Nat.add_assoc _ _ _))⟩)) | (go_at_call 46; (with_reducible refine (spinnakerref07_abs.calls a0 t227 _ A7.out).mono ?_); rintro e w' ⟨rfl, ⟨nd, rfl⟩⟩; (try first | exact ⟨rfl, _, World.drewN_drewN _ _ _⟩ | exact ⟨rfl, _, Eq.trans (World.drewN_drewN _ _ _) (congrArg (World.drewN _) (Nat.add_assoc _ _ _))⟩)) | (go_at_call 46; (with_reducible refine (spinnakerref07_abs.calls a1 t228 _ A8.out).mono ?_); rintro e w' ⟨rfl, ⟨nd, rfl⟩⟩; (try first | exact ⟨rfl, _, World.drewN_drewN _ _ _⟩ | exact ⟨rfl, _, Eq.trans (World.drewN_drewN _ _ _) (congrArg (World.drewN _) (Nat.add_assoc _ _ _))⟩)))
      repeat (go_quiet (first | (go_at_call 46; (with_reducible refine (spinnakerref07_abs.calls a0 t227 _ A4.out).mono ?_); rintro e w' ⟨rfl, ⟨nd, rfl⟩⟩; (try first | exact ⟨rfl, _, World.drewN_drewN _ _ _⟩ | exact ⟨rfl, _, Eq.trans (World.drewN_drewN _ _ _) (congrArg (World.drewN _) (Nat.add_assoc _ _ _))⟩)) | (go_at_call 46; (with_reducible refine (spinnakerref07_abs.calls a1 t228 _ A5.out).mono ?_); rintro e w' ⟨rfl, ⟨nd, rfl⟩⟩; (try first | exact ⟨rfl, _, World.drewN_drewN _ _ _⟩ | exact ⟨rfl, _, Eq.trans (World.drewN_drewN _ _ _) (congrArg (World.drewN _) (Nat.add_assoc _ _ _))⟩)) | (go_at_call 46; (with_reducible refine (spinnakerref07_abs.calls a0 t227 _ A7.out).mono ?_); rintro e w' ⟨rfl, ⟨nd, rfl⟩⟩; (try first | exact ⟨rfl, _, World.drewN_drewN _ _ _⟩ | exact ⟨rfl, _, Eq.trans (World.drewN_drewN _ _ _) (congrArg (World.drewN _) (Nat.add_assoc _ _ _))⟩)) | (go_at_call 46; (with_reducible refine (spinnakerref07_abs.calls a1 t228 _ A8.out).mono ?_); rintro e w' ⟨rfl, ⟨nd, rfl⟩⟩; (try first | exact ⟨rfl, _, World.drewN_drewN _ _ _⟩ | exact ⟨rfl, _, Eq.trans (World.drewN_drewN _ _ _) (congrArg (World.drewN _) (Nat.add_assoc _ _ _))⟩))); try go_wp2_with (first | (go_at_call 46; (with_reducible refine (spinnakerref07_abs.calls a0 t227 _ A4.out).mono ?_); rintro e w' ⟨rfl, ⟨nd, rfl⟩⟩; (try first | exact ⟨rfl, _, World.drewN_drewN _ _ _⟩ | exact ⟨rfl, _, Eq.trans (World.drewN_drewN _ _ _) (congrArg (World.drewN _) (Nat.add_assoc _ _ _))⟩)) | (go_at_call 46; (with_reducible refine (spinnakerref07_abs.calls a1 t228 _ A5.out).mono ?_); rintro e w' ⟨rfl, ⟨nd, rfl⟩⟩; (try first | exact ⟨rfl, _, World.drewN_drewN _ _ _⟩ | exact ⟨rfl, _, Eq.trans (World.drewN_drewN _ _ _) (congrArg (World.drewN _) (Nat.add_assoc _ _ _))⟩)) | (go_at_call 46; (with_reducible refine (spinnakerref07_abs.calls a0 t227 _ A7.out).mono ?_); rintro e w' ⟨rfl, ⟨nd, rfl⟩⟩; (try first | exact ⟨rfl, _, World.drewN_drewN _ _ _⟩ | exact ⟨rfl, _, Eq.trans (World.drewN_drewN _ _ _) (congrArg (World.drewN _) (Nat.add_assoc _ _ _))⟩)) | (go_at_call 46; (with_reducible refine (spinnakerref07_abs.calls a1 t228 _ A8.out).mono ?_); rintro e w' ⟨rfl, ⟨nd, rfl⟩⟩; (try first | exact ⟨rfl, _, World.drewN_drewN _ _ _⟩ | exact ⟨rfl, _, Eq.trans (World.drewN_drewN _ _ _) (congrArg (World.drewN _) (Nat.add_assoc _ _ _))⟩))))
      go_ret2
      exact ⟨fj, fd⟩
    ·rw [if_neg c10] at H
     have c10b0 : ((decide (a0 < 0)) != (decide (a1 < 0))) = false := by simpa using c10
     (try (have c10b1 : decide ((decide (a0 < 0)) = (decide (a1 < 0))) = true := by simpa using c10))
     (try (have c10b2 : ((decide (a0 < 0)) == (decide (a1 < 0))) = true := by simpa using c10))
     clear c10
     by_cases c12 : a0 < 0
     ·rw [if_pos c12] at H
      have c12b0 := decide_eq_true c12
      have c12e : decide (a1 < 0) = true := by have h_ := c10b0; rw [c12b0] at h_; cases h2_ : decide (a1 < 0) <;> rw [h2_] at h_ <;> first | rfl | exact absurd h_ (by decide)
      clear c12
      simp only [Option.some.injEq, Prod.mk.injEq] at H
      obtain ⟨rfl, rfl⟩ := H
      go_enter Tryd.func39, Tryd.ntmps39
      go_wp2_with (first | (go_at_call 46; (with_reducible refine (spinnakerref07_abs.calls a0 t227 _ A4.out).mono ?_); rintro e w' ⟨rfl, ⟨nd, rfl⟩⟩; (try first | exact ⟨rfl, _, World.drewN_drewN _ _ _⟩ | exact ⟨rfl, _, Eq.trans (World.drewN_drewN _ _ _) (congrArg (World.drewN _) (Nat.add_assoc _ _ _))⟩)) | (go_at_call 46; (with_reducible refine (spinnakerref07_abs.calls a1 t228 _ A5.out).mono ?_); rintro e w' ⟨rfl, ⟨nd, rfl⟩⟩; (try first | exact ⟨rfl, _, World.drewN_drewN _ _ _⟩ | exact ⟨rfl, _, Eq.trans (World.drewN_drewN _ _ _) (congrArg (World.drewN _) (Nat.add_assoc _ _ _))⟩)) | (go_at_call 46; (with_reducible refine (spinnakerref07_abs.calls a0 t227 _ A7.out).mono ?_); rintro e w' ⟨rfl, ⟨nd, rfl⟩⟩; (try first | exact ⟨rfl, _, World.drewN_drewN _ _ _⟩ | exact ⟨rfl, _, Eq.trans (World.drewN_drewN _ _ _) (congrArg (World.drewN _) (Nat.add_assoc _ _ _))⟩)) | (go_at_call 46; (with_reducible refine (spinnakerref07_abs.calls a1 t228 _ A8.out).mono ?_); rintro e w' ⟨rfl, ⟨nd, rfl⟩⟩; (try first | exact ⟨rfl, _, World.drewN_drewN _ _ _⟩ | exact ⟨rfl, _, Eq.trans (World.drewN_drewN _ _ _) (congrArg (World.drewN _) (Nat.add_assoc _ _ _))⟩)))
      repeat (go_quiet (first | (go_at_call 46; (with_reducible refine (spinnakerref07_abs.calls a0 t227 _ A4.out).mono ?_); rintro e w' ⟨rfl, ⟨nd, rfl⟩⟩; (try first | exact ⟨rfl, _, World.drewN_drewN _ _ _⟩ | exact ⟨rfl, _, Eq.trans (World.drewN_drewN _ _ _) (congrArg (World.drewN _) (Nat.add_assoc _ _ _))⟩)) | (go_at_call 46; (with_reducible refine (spinnakerref07_abs.calls a1 t228 _ A5.out).mono ?_); rintro e w' ⟨rfl, ⟨nd, rfl⟩⟩; (try first | exact ⟨rfl, _, World.drewN_drewN _ _ _⟩ | exact ⟨rfl, _, Eq.trans (World.drewN_drewN _ _ _) (congrArg (World.drewN _) (Nat.add_assoc _ _ _))⟩)) | (go_at_call 46; (with_reducible refine (spinnakerref07_abs.calls a0 t227 _ A7.out).mono ?_); rintro e w' ⟨rfl, ⟨nd, rfl⟩⟩; (try first | exact ⟨rfl, _, World.drewN_drewN _ _ _⟩ | exact ⟨rfl, _, Eq.trans (World.drewN_drewN _ _ _) (congrArg (World.drewN _) (Nat.add_assoc _ _ _))⟩)) | (go_at_call 46; (with_reducible refine (spinnakerref07_abs.calls a1 t228 _ A8.out).mono ?_); rintro e w' ⟨rfl, ⟨nd, rfl⟩⟩; (try first | exact ⟨rfl, _, World.drewN_drewN _ _ _⟩ | exact ⟨rfl, _, Eq.trans (World.drewN_drewN _ _ _) (congrArg (World.drewN _) (Nat.add_assoc _ _ _))⟩))); try go_wp2_with (first | (go_at_call 46; (with_reducible refine (spinnakerref07_abs.calls a0 t227 _ A4.out).mono ?_); rintro e w' ⟨rfl, ⟨nd, rfl⟩⟩; (try first | exact ⟨rfl, _, World.drewN_drewN _ _ _⟩ | exact ⟨rfl, _, Eq.trans (World.drewN_drewN _ _ _) (congrArg (World.drewN _) (Nat.add_assoc _ _ _))⟩)) | (go_at_call 46; (with_reducible refine (spinnakerref07_abs.calls a1 t228 _ A5.out).mono ?_); rintro e w' ⟨rfl, ⟨nd, rfl⟩⟩; (try first | exact ⟨rfl, _, World.drewN_drewN _ _ _⟩ | exact ⟨rfl, _, Eq.trans (World.drewN_drewN _ _ _) (congrArg (World.drewN _) (Nat.add_assoc _ _ _))⟩)) | (go_at_call 46; (with_reducible refine (spinnakerref07_abs.calls a0 t227 _ A7.out).mono ?_); rintro e w' ⟨rfl, ⟨nd, rfl⟩⟩; (try first | exact ⟨rfl, _, World.drewN_drewN _ _ _⟩ | exact ⟨rfl, _, Eq.trans (World.drewN_drewN _ _ _) (congrArg (World.drewN _) (Nat.add_assoc _ _ _))⟩)) | (go_at_call 46; (with_reducible refine (spinnakerref07_abs.calls a1 t228 _ A8.out).mono ?_); rintro e w' ⟨rfl, ⟨nd, rfl⟩⟩; (try first | exact ⟨rfl, _, World.drewN_drewN _ _ _⟩ | exact ⟨rfl, _, Eq.trans (World.drewN_drewN _ _ _) (congrArg (World.drewN _) (Nat.add_assoc _ _ _))⟩))))
      go_ret2
      exact ⟨fj, fd⟩
     ·rw [if_neg c12] at H
      have c12b0 := decide_eq_false c12
      have c12e : decide (a1 < 0) = false := by have h_ := c10b0; rw [c12b0] at h_; cases h2_ : decide (a1 < 0) <;> rw [h2_] at h_ <;> first | rfl | exact absurd h_ (by decide)
      clear c12
      simp only [Option.some.injEq, Prod.mk.injEq] at H
      obtain ⟨rfl, rfl⟩ := H
      go_enter Tryd.func39, Tryd.ntmps39
      go_wp2_with (first | (go_at_call 46; (with_reducible refine (spinnakerref07_abs.calls a0 t227 _ A4.out).mono ?_); rintro e w' ⟨rfl, ⟨nd, rfl⟩⟩; (try first | exact ⟨rfl, _, World.drewN_drewN _ _ _⟩ | exact ⟨rfl, _, Eq.trans (World.drewN_drewN _ _ _) (congrArg (World.drewN _) (Nat.add_assoc _ _ _))⟩)) | (go_at_call 46; (with_reducible refine (spinnakerref07_abs.calls a1 t228 _ A5.out).mono ?_); rintro e w' ⟨rfl, ⟨nd, rfl⟩⟩; (try first | exact ⟨rfl, _, World.drewN_drewN _ _ _⟩ | exact ⟨rfl, _, Eq.trans (World.drewN_drewN _ _ _) (congrArg (World.drewN _) (Nat.add_assoc _ _ _))⟩)) | (go_at_call 46; (with_reducible refine (spinnakerref07_abs.calls a0 t227 _ A7.out).mono ?_); rintro e w' ⟨rfl, ⟨nd, rfl⟩⟩; (try first | exact ⟨rfl, _, World.drewN_drewN _ _ _⟩ | exact ⟨rfl, _, Eq.trans (World.drewN_drewN _ _ _) (congrArg (World.drewN _) (Nat.add_assoc _ _ _))⟩)) | (go_at_call 46; (with_reducible refine (spinnakerref07_abs.calls a1 t228 _ A8.out).mono ?_); rintro e w' ⟨rfl, ⟨nd, rfl⟩⟩; (try first | exact ⟨rfl, _, World.drewN_drewN _ _ _⟩ | exact ⟨rfl, _, Eq.trans (World.drewN_drewN _ _ _) (congrArg (World.drewN _) (Nat.add_assoc _ _ _))⟩)))
      repeat (go_quiet (first | (go_at_call 46; (with_reducible refine (spinnakerref07_abs.calls a0 t227 _ A4.out).mono ?_); rintro e w' ⟨rfl, ⟨nd, rfl⟩⟩; (try first | exact ⟨rfl, _, World.drewN_drewN _ _ _⟩ | exact ⟨rfl, _, Eq.trans (World.drewN_drewN _ _ _) (congrArg (World.drewN _) (Nat.add_assoc _ _ _))⟩)) | (go_at_call 46; (with_reducible refine (spinnakerref07_abs.calls a1 t228 _ A5.out).mono ?_); rintro e w' ⟨rfl, ⟨nd, rfl⟩⟩; (try first | exact ⟨rfl, _, World.drewN_drewN _ _ _⟩ | exact ⟨rfl, _, Eq.trans (World.drewN_drewN _ _ _) (congrArg (World.drewN _) (Nat.add_assoc _ _ _))⟩)) | (go_at_call 46; (with_reducible refine (spinnakerref07_abs.calls a0 t227 _ A7.out).mono ?_); rintro e w' ⟨rfl, ⟨nd, rfl⟩⟩; (try first | exact ⟨rfl, _, World.drewN_drewN _ _ _⟩ | exact ⟨rfl, _, Eq.trans (World.drewN_drewN _ _ _) (congrArg (World.drewN _) (Nat.add_assoc _ _ _))⟩)) | (go_at_call 46; (with_reducible refine (spinnakerref07_abs.calls a1 t228 _ A8.out).mono ?_); rintro e w' ⟨rfl, ⟨nd, rfl⟩⟩; (try first | exact ⟨rfl, _, World.drewN_drewN _ _ _⟩ | exact ⟨rfl, _, Eq.trans (World.drewN_drewN _ _ _) (congrArg (World.drewN _) (Nat.add_assoc _ _ _))⟩))); try go_wp2_with (first | (go_at_call 46; (with_reducible refine (spinnakerref07_abs.calls a0 t227 _ A4.out).mono ?_); rintro e w' ⟨rfl, ⟨nd, rfl⟩⟩; (try first | exact ⟨rfl, _, World.drewN_drewN _ _ _⟩ | exact ⟨rfl, _, Eq.trans (World.drewN_drewN _ _ _) (congrArg (World.drewN _) (Nat.add_assoc _ _ _))⟩)) | (go_at_call 46; (with_reducible refine (spinnakerref07_abs.calls a1 t228 _ A5.out).mono ?_); rintro e w' ⟨rfl, ⟨nd, rfl⟩⟩; (try first | exact ⟨rfl, _, World.drewN_drewN _ _ _⟩ | exact ⟨rfl, _, Eq.trans (World.drewN_drewN _ _ _) (congrArg (World.drewN _) (Nat.add_assoc _ _ _))⟩)) | (go_at_call 46; (with_reducible refine (spinnakerref07_abs.calls a0 t227 _ A7.out).mono ?_); rintro e w' ⟨rfl, ⟨nd, rfl⟩⟩; (try first | exact ⟨rfl, _, World.drewN_drewN _ _ _⟩ | exact ⟨rfl, _, Eq.trans (World.drewN_drewN _ _ _) (congrArg (World.drewN _) (Nat.add_assoc _ _ _))⟩)) | (go_at_call 46; (with_reducible refine (spinnakerref07_abs.calls a1 t228 _ A8.out).mono ?_); rintro e w' ⟨rfl, ⟨nd, rfl⟩⟩; (try first | exact ⟨rfl, _, World.drewN_drewN _ _ _⟩ | exact ⟨rfl, _, Eq.trans (World.drewN_drewN _ _ _) (congrArg (World.drewN _) (Nat.add_assoc _ _ _))⟩))))
      go_ret2
      exact ⟨fj, fd⟩

/-! ### spinnakerref07_Half: function 40 -/
def spinnakerref07_Half.f (k : Nat) (a0 : Int) : Option (Int) := (spinnakerref01_Sign.f k (IntKind.u64.wrap (a0)) 32).bind fun t231 => (some t231)
theorem spinnakerref07_Half.mono : ∀ a0 k, LeO (spinnakerref07_Half.f k a0) (spinnakerref07_Half.f (k + 1) a0) := by
 intro a0 k
 unfold spinnakerref07_Half.f
 repeat' first | (with_reducible first | exact spinnakerref01_Sign.mono _ _ _ | exact LeO.refl _ | exact LeO.none _ | refine LeO.ite ?_ ?_ | refine LeO.bind ?_ (fun _ => ?_)) | exact spinnakerref01_Sign.mono _ _ _ | exact LeO.none _ | refine LeO.ite ?_ ?_ | refine LeO.bind ?_ (fun _ => ?_)
set_option maxHeartbeats 8000000 in
set_option maxRecDepth 100000 in
theorem spinnakerref07_Half.calls (k : Nat) (a0 : Int) (r : Int) (w : World) (h : spinnakerref07_Half.f k a0 = some r) :
  Calls Tryd.prog 40 #[.int .i64 a0] w fun e w' => e = .returned (.int .i64 r) ∧ Drawn0 w w' := by
 have H : ((spinnakerref01_Sign.f k (IntKind.u64.wrap (a0)) 32).bind fun t231 => (some t231)) = some r := h
 clear h
 replace H := be H
 obtain ⟨t231, A2, H⟩ := H
 obtain rfl := Option.some.inj H
 go_enter Tryd.func40, Tryd.ntmps40
 go_wp2_with (first | ((with_reducible refine gate_callee (f := 12) rfl ?_); refine goesL_ (some 5) rfl rfl Tryd.func12 (by kernel_rfl) rfl #[.int .u64 (IntKind.u64.wrap (a0)), .int .i64 32] rfl ga ?_; (with_reducible refine (spinnakerref01_Sign.calls k (IntKind.u64.wrap (a0)) 32 t231 _ A2.out).mono ?_); rintro e w' ⟨rfl, ⟨nd, rfl⟩⟩; refine ⟨_, rfl, ?_⟩))
 go_ret
 exact ⟨fj, fd⟩

/-! ### spinnakerref07_DivU: function 41 -/
def spinnakerref07_DivU.f (a0 : Int) (a1 : Int) : Option (Int × Int) := if a1 = 0 then (some ((-1), wrap64 (a0))) else (some (wrap64 (IntKind.u64.wrap (Int.tdiv a0 a1)), wrap64 (Int.tmod a0 a1)))
set_option maxHeartbeats 8000000 in
set_option maxRecDepth 100000 in
theorem spinnakerref07_DivU.calls (a0 : Int) (a1 : Int) (r1 : Int) (r2 : Int) (w : World) (h : spinnakerref07_DivU.f a0 a1 = some (r1, r2)) :
  Calls Tryd.prog 41 #[.int .u64 a0, .int .u64 a1] w fun e w' => e = .returned (.tuple #[.int .i64 r1, .int .i64 r2]) ∧ Drawn0 w w' := by
 have H : (if a1 = 0 then (some ((-1), wrap64 (a0))) else (some (wrap64 (IntKind.u64.wrap (Int.tdiv a0 a1)), wrap64 (Int.tmod a0 a1)))) = some (r1, r2) := h
 clear h
 by_cases c3 : a1 = 0
 ·rw [if_pos c3] at H
  obtain ⟨c3b0, c3b1⟩ := eqs c3
  clear c3
  simp only [Option.some.injEq, Prod.mk.injEq] at H
  obtain ⟨rfl, rfl⟩ := H
  go_enter Tryd.func41, Tryd.ntmps41
  go_wp2
  repeat (go_quiet (fail); try go_wp2)
  go_ret2
  exact ⟨fj, fd⟩
 ·rw [if_neg c3] at H
  have c3b0 : (a1 == 0) = false := beq_eq_false_iff_ne.mpr c3
  have c3b1 : (a1 != 0) = true := bne_iff_ne.mpr c3
  simp only [Option.some.injEq, Prod.mk.injEq] at H
  obtain ⟨rfl, rfl⟩ := H
  go_enter Tryd.func41, Tryd.ntmps41
  go_wp2
  repeat (go_quiet (fail); try go_wp2)
  go_ret2
  exact ⟨fj, fd⟩

/-! ### spinnakerref07_shorts: function 33 -/
def spinnakerref07_shorts.f (k : Nat) (a0 : ByteArray) (a1 : Int) (a2 : Int) : Option (Int) := (spinnakerref07_Half.f k a1).bind fun t232 => ((spinnakerref07_Half.f k a2).bind fun t233 => ((spinnakerref07_Div.f t232 t233).bind fun bt234 => ((spinnakerref07_DivU.f (Int.tmod (IntKind.u64.wrap (a1)) 4294967296) (Int.tmod (IntKind.u64.wrap (a2)) 4294967296)).bind fun bt236 => (if a0.toList = ([97, 100, 100, 119] : List UInt8) then ((spinnakerref07_Half.f k (wrap64 (a1 + a2))).bind fun t238 => (some t238)) else (if a0.toList = ([115, 117, 98, 119] : List UInt8) then ((spinnakerref07_Half.f k (wrap64 (a1 - a2))).bind fun t239 => (some t239)) else (if a0.toList = ([115, 108, 108, 119] : List UInt8) then ((spinnakerref07_moved.f k a1 (wrap64 (Int.tmod (IntKind.u64.wrap (a2)) 32)) true 0 32).bind fun t240 => ((spinnakerref07_Half.f k t240).bind fun t241 => (some t241))) else (if a0.toList = ([115, 114, 108, 119] : List UInt8) then ((spinnakerref07_moved.f k a1 (wrap64 (Int.tmod (IntKind.u64.wrap (a2)) 32)) false 0 32).bind fun t242 => ((spinnakerref07_Half.f k t242).bind fun t243 => (some t243))) else (if a0.toList = ([115, 114, 97, 119] : List UInt8) then ((spinnakerref01_Bit.f k (IntKind.u64.wrap (a1)) 31).bind fun t244 => ((spinnakerref07_moved.f k a1 (wrap64 (Int.tmod (IntKind.u64.wrap (a2)) 32)) false t244 32).bind fun t245 => ((spinnakerref07_Half.f k t245).bind fun t246 => (some t246)))) else (if a0.toList = ([109, 117, 108, 119] : List UInt8) then ((spinnakerref07_Half.f k (wrap64 (a1 * a2))).bind fun t247 => (some t247)) else (if a0.toList = ([100, 105, 118, 119] : List UInt8) then ((spinnakerref07_Half.f k bt234.1).bind fun t248 => (some t248)) else (if a0.toList = ([100, 105, 118, 117, 119] : List UInt8) then ((spinnakerref07_Half.f k bt236.1).bind fun t249 => (some t249)) else (if a0.toList = ([114, 101, 109, 119] : List UInt8) then ((spinnakerref07_Half.f k bt234.2).bind fun t250 => (some t250)) else ((spinnakerref07_Half.f k bt236.2).bind fun t251 => (some t251))))))))))))))
theorem spinnakerref07_shorts.mono : ∀ a0 a1 a2 k, LeO (spinnakerref07_shorts.f k a0 a1 a2) (spinnakerref07_shorts.f (k + 1) a0 a1 a2) := by
 intro a0 a1 a2 k
 unfold spinnakerref07_shorts.f
 repeat' first | (with_reducible first | exact spinnakerref01_Bit.mono _ _ _ | exact spinnakerref07_Half.mono _ _ | exact spinnakerref07_moved.mono _ _ _ _ _ _ | exact LeO.refl _ | exact LeO.none _ | refine LeO.ite ?_ ?_ | refine LeO.bind ?_ (fun _ => ?_)) | exact spinnakerref01_Bit.mono _ _ _ | exact spinnakerref07_Half.mono _ _ | exact spinnakerref07_moved.mono _ _ _ _ _ _ | exact LeO.none _ | refine LeO.ite ?_ ?_ | refine LeO.bind ?_ (fun _ => ?_)
set_option maxHeartbeats 8000000 in
set_option maxRecDepth 100000 in
theorem spinnakerref07_shorts.calls (k : Nat) (a0 : ByteArray) (a1 : Int) (a2 : Int) (r : Int) (w : World) (h : spinnakerref07_shorts.f k a0 a1 a2 = some r) :
  Calls Tryd.prog 33 #[.string a0, .int .i64 a1, .int .i64 a2] w fun e w' => e = .returned (.int .i64 r) ∧ Below w.heap.size w w' := by
 have HB := Aside0.mk (Below.refl w.heap.size w)
 have H : ((spinnakerref07_Half.f k a1).bind fun t232 => ((spinnakerref07_Half.f k a2).bind fun t233 => ((spinnakerref07_Div.f t232 t233).bind fun bt234 => ((spinnakerref07_DivU.f (Int.tmod (IntKind.u64.wrap (a1)) 4294967296) (Int.tmod (IntKind.u64.wrap (a2)) 4294967296)).bind fun bt236 => (if a0.toList = ([97, 100, 100, 119] : List UInt8) then ((spinnakerref07_Half.f k (wrap64 (a1 + a2))).bind fun t238 => (some t238)) else (if a0.toList = ([115, 117, 98, 119] : List UInt8) then ((spinnakerref07_Half.f k (wrap64 (a1 - a2))).bind fun t239 => (some t239)) else (if a0.toList = ([115, 108, 108, 119] : List UInt8) then ((spinnakerref07_moved.f k a1 (wrap64 (Int.tmod (IntKind.u64.wrap (a2)) 32)) true 0 32).bind fun t240 => ((spinnakerref07_Half.f k t240).bind fun t241 => (some t241))) else (if a0.toList = ([115, 114, 108, 119] : List UInt8) then ((spinnakerref07_moved.f k a1 (wrap64 (Int.tmod (IntKind.u64.wrap (a2)) 32)) false 0 32).bind fun t242 => ((spinnakerref07_Half.f k t242).bind fun t243 => (some t243))) else (if a0.toList = ([115, 114, 97, 119] : List UInt8) then ((spinnakerref01_Bit.f k (IntKind.u64.wrap (a1)) 31).bind fun t244 => ((spinnakerref07_moved.f k a1 (wrap64 (Int.tmod (IntKind.u64.wrap (a2)) 32)) false t244 32).bind fun t245 => ((spinnakerref07_Half.f k t245).bind fun t246 => (some t246)))) else (if a0.toList = ([109, 117, 108, 119] : List UInt8) then ((spinnakerref07_Half.f k (wrap64 (a1 * a2))).bind fun t247 => (some t247)) else (if a0.toList = ([100, 105, 118, 119] : List UInt8) then ((spinnakerref07_Half.f k bt234.1).bind fun t248 => (some t248)) else (if a0.toList = ([100, 105, 118, 117, 119] : List UInt8) then ((spinnakerref07_Half.f k bt236.1).bind fun t249 => (some t249)) else (if a0.toList = ([114, 101, 109, 119] : List UInt8) then ((spinnakerref07_Half.f k bt234.2).bind fun t250 => (some t250)) else ((spinnakerref07_Half.f k bt236.2).bind fun t251 => (some t251))))))))))))))) = some r := h
 clear h
 replace H := be H
 obtain ⟨t232, A4, H⟩ := H
 replace H := be H
 obtain ⟨t233, A5, H⟩ := H
 replace H := be H
 obtain ⟨⟨t234, t235⟩, A6, H⟩ := H
 dsimp only at H
 replace H := be H
 obtain ⟨⟨t236, t237⟩, A7, H⟩ := H
 dsimp only at H
 by_cases c8 : a0.toList = ([97, 100, 100, 119] : List UInt8)
 ·rw [if_pos c8] at H
  have c8b0 : (a0.toList == ([97, 100, 100, 119] : List UInt8)) = true := beq_iff_eq.mpr c8
  have c8b1 : (a0.toList != ([97, 100, 100, 119] : List UInt8)) = false := bne_eq_false_iff_eq.mpr c8
  clear c8
  replace H := be H
  obtain ⟨t238, A9, H⟩ := H
  obtain rfl := Option.some.inj H
  go_enter Tryd.func33, Tryd.ntmps33
  go_wp2_with (first | ((with_reducible refine gate_callee (f := 40) rfl ?_); refine goesL_ (some 18) rfl rfl Tryd.func40 (by kernel_rfl) rfl #[.int .i64 a1] rfl ga ?_; (with_reducible refine (spinnakerref07_Half.calls k a1 t232 _ A4.out).mono ?_); rintro e w' ⟨rfl, ⟨nd, rfl⟩⟩; refine ⟨_, rfl, ?_⟩) | ((with_reducible refine gate_callee (f := 40) rfl ?_); refine goesL_ (some 20) rfl rfl Tryd.func40 (by kernel_rfl) rfl #[.int .i64 a2] rfl ga ?_; (with_reducible refine (spinnakerref07_Half.calls k a2 t233 _ A5.out).mono ?_); rintro e w' ⟨rfl, ⟨nd, rfl⟩⟩; refine ⟨_, rfl, ?_⟩) | ((with_reducible refine gate_callee (f := 39) rfl ?_); refine goesL_ (some 21) rfl rfl Tryd.func39 (by kernel_rfl) rfl #[.int .i64 t232, .int .i64 t233] rfl ga ?_; (with_reducible refine (spinnakerref07_Div.calls t232 t233 t234 t235 _ A6.out).mono ?_); rintro e w' ⟨rfl, ⟨nd, rfl⟩⟩; refine ⟨_, rfl, ?_⟩) | ((with_reducible refine gate_callee (f := 41) rfl ?_); refine goesL_ (some 31) rfl rfl Tryd.func41 (by kernel_rfl) rfl #[.int .u64 (Int.tmod (IntKind.u64.wrap (a1)) 4294967296), .int .u64 (Int.tmod (IntKind.u64.wrap (a2)) 4294967296)] rfl ga ?_; (with_reducible refine (spinnakerref07_DivU.calls (Int.tmod (IntKind.u64.wrap (a1)) 4294967296) (Int.tmod (IntKind.u64.wrap (a2)) 4294967296) t236 t237 _ A7.out).mono ?_); rintro e w' ⟨rfl, ⟨nd, rfl⟩⟩; refine ⟨_, rfl, ?_⟩) | ((with_reducible refine gate_callee (f := 40) rfl ?_); refine goesL_ (some 40) rfl rfl Tryd.func40 (by kernel_rfl) rfl #[.int .i64 (wrap64 (a1 + a2))] rfl ga ?_; (with_reducible refine (spinnakerref07_Half.calls k (wrap64 (a1 + a2)) t238 _ A9.out).mono ?_); rintro e w' ⟨rfl, ⟨nd, rfl⟩⟩; refine ⟨_, rfl, ?_⟩))
  go_ret
  exact ⟨fi, bl⟩
 ·rw [if_neg c8] at H
  have c8b0 : (a0.toList == ([97, 100, 100, 119] : List UInt8)) = false := beq_eq_false_iff_ne.mpr c8
  have c8b1 : (a0.toList != ([97, 100, 100, 119] : List UInt8)) = true := bne_iff_ne.mpr c8
  by_cases c10 : a0.toList = ([115, 117, 98, 119] : List UInt8)
  ·rw [if_pos c10] at H
   have c10b0 : (a0.toList == ([115, 117, 98, 119] : List UInt8)) = true := beq_iff_eq.mpr c10
   have c10b1 : (a0.toList != ([115, 117, 98, 119] : List UInt8)) = false := bne_eq_false_iff_eq.mpr c10
   clear c10
   replace H := be H
   obtain ⟨t239, A11, H⟩ := H
   obtain rfl := Option.some.inj H
   go_enter Tryd.func33, Tryd.ntmps33
   go_wp2_with (first | ((with_reducible refine gate_callee (f := 40) rfl ?_); refine goesL_ (some 18) rfl rfl Tryd.func40 (by kernel_rfl) rfl #[.int .i64 a1] rfl ga ?_; (with_reducible refine (spinnakerref07_Half.calls k a1 t232 _ A4.out).mono ?_); rintro e w' ⟨rfl, ⟨nd, rfl⟩⟩; refine ⟨_, rfl, ?_⟩) | ((with_reducible refine gate_callee (f := 40) rfl ?_); refine goesL_ (some 20) rfl rfl Tryd.func40 (by kernel_rfl) rfl #[.int .i64 a2] rfl ga ?_; (with_reducible refine (spinnakerref07_Half.calls k a2 t233 _ A5.out).mono ?_); rintro e w' ⟨rfl, ⟨nd, rfl⟩⟩; refine ⟨_, rfl, ?_⟩) | ((with_reducible refine gate_callee (f := 39) rfl ?_); refine goesL_ (some 21) rfl rfl Tryd.func39 (by kernel_rfl) rfl #[.int .i64 t232, .int .i64 t233] rfl ga ?_; (with_reducible refine (spinnakerref07_Div.calls t232 t233 t234 t235 _ A6.out).mono ?_); rintro e w' ⟨rfl, ⟨nd, rfl⟩⟩; refine ⟨_, rfl, ?_⟩) | ((with_reducible refine gate_callee (f := 41) rfl ?_); refine goesL_ (some 31) rfl rfl Tryd.func41 (by kernel_rfl) rfl #[.int .u64 (Int.tmod (IntKind.u64.wrap (a1)) 4294967296), .int .u64 (Int.tmod (IntKind.u64.wrap (a2)) 4294967296)] rfl ga ?_; (with_reducible refine (spinnakerref07_DivU.calls (Int.tmod (IntKind.u64.wrap (a1)) 4294967296) (Int.tmod (IntKind.u64.wrap (a2)) 4294967296) t236 t237 _ A7.out).mono ?_); rintro e w' ⟨rfl, ⟨nd, rfl⟩⟩; refine ⟨_, rfl, ?_⟩) | ((with_reducible refine gate_callee (f := 40) rfl ?_); refine goesL_ (some 46) rfl rfl Tryd.func40 (by kernel_rfl) rfl #[.int .i64 (wrap64 (a1 - a2))] rfl ga ?_; (with_reducible refine (spinnakerref07_Half.calls k (wrap64 (a1 - a2)) t239 _ A11.out).mono ?_); rintro e w' ⟨rfl, ⟨nd, rfl⟩⟩; refine ⟨_, rfl, ?_⟩))
   go_ret
   exact ⟨fi, bl⟩
  ·rw [if_neg c10] at H
   have c10b0 : (a0.toList == ([115, 117, 98, 119] : List UInt8)) = false := beq_eq_false_iff_ne.mpr c10
   have c10b1 : (a0.toList != ([115, 117, 98, 119] : List UInt8)) = true := bne_iff_ne.mpr c10
   by_cases c12 : a0.toList = ([115, 108, 108, 119] : List UInt8)
   ·rw [if_pos c12] at H
    have c12b0 : (a0.toList == ([115, 108, 108, 119] : List UInt8)) = true := beq_iff_eq.mpr c12
    have c12b1 : (a0.toList != ([115, 108, 108, 119] : List UInt8)) = false := bne_eq_false_iff_eq.mpr c12
    clear c12
    replace H := be H
    obtain ⟨t240, A13, H⟩ := H
    replace H := be H
    obtain ⟨t241, A14, H⟩ := H
    obtain rfl := Option.some.inj H
    go_enter Tryd.func33, Tryd.ntmps33
    go_wp2_with (first | ((with_reducible refine gate_callee (f := 40) rfl ?_); refine goesL_ (some 18) rfl rfl Tryd.func40 (by kernel_rfl) rfl #[.int .i64 a1] rfl ga ?_; (with_reducible refine (spinnakerref07_Half.calls k a1 t232 _ A4.out).mono ?_); rintro e w' ⟨rfl, ⟨nd, rfl⟩⟩; refine ⟨_, rfl, ?_⟩) | ((with_reducible refine gate_callee (f := 40) rfl ?_); refine goesL_ (some 20) rfl rfl Tryd.func40 (by kernel_rfl) rfl #[.int .i64 a2] rfl ga ?_; (with_reducible refine (spinnakerref07_Half.calls k a2 t233 _ A5.out).mono ?_); rintro e w' ⟨rfl, ⟨nd, rfl⟩⟩; refine ⟨_, rfl, ?_⟩) | ((with_reducible refine gate_callee (f := 39) rfl ?_); refine goesL_ (some 21) rfl rfl Tryd.func39 (by kernel_rfl) rfl #[.int .i64 t232, .int .i64 t233] rfl ga ?_; (with_reducible refine (spinnakerref07_Div.calls t232 t233 t234 t235 _ A6.out).mono ?_); rintro e w' ⟨rfl, ⟨nd, rfl⟩⟩; refine ⟨_, rfl, ?_⟩) | ((with_reducible refine gate_callee (f := 41) rfl ?_); refine goesL_ (some 31) rfl rfl Tryd.func41 (by kernel_rfl) rfl #[.int .u64 (Int.tmod (IntKind.u64.wrap (a1)) 4294967296), .int .u64 (Int.tmod (IntKind.u64.wrap (a2)) 4294967296)] rfl ga ?_; (with_reducible refine (spinnakerref07_DivU.calls (Int.tmod (IntKind.u64.wrap (a1)) 4294967296) (Int.tmod (IntKind.u64.wrap (a2)) 4294967296) t236 t237 _ A7.out).mono ?_); rintro e w' ⟨rfl, ⟨nd, rfl⟩⟩; refine ⟨_, rfl, ?_⟩) | ((with_reducible refine gate_callee (f := 31) rfl ?_); refine goesL_ (some 51) rfl rfl Tryd.func31 (by kernel_rfl) rfl #[.int .i64 a1, .int .i64 (wrap64 (Int.tmod (IntKind.u64.wrap (a2)) 32)), .bool true, .int .i64 0, .int .i64 32] rfl ga ?_; (with_reducible refine (spinnakerref07_moved.calls k a1 (wrap64 (Int.tmod (IntKind.u64.wrap (a2)) 32)) true 0 32 t240 _ A13.out).mono ?_); rintro e w15 ⟨rfl, hb⟩; refine ⟨_, rfl, ?_⟩; have n0_ := Aside0.mk (below_step bl hb); clear HB; have HB := n0_; clear n0_; (try clear hb)) | ((with_reducible refine gate_callee (f := 40) rfl ?_); refine goesL_ (some 52) rfl rfl Tryd.func40 (by kernel_rfl) rfl #[.int .i64 t240] rfl ga ?_; (with_reducible refine (spinnakerref07_Half.calls k t240 t241 _ A14.out).mono ?_); rintro e w' ⟨rfl, ⟨nd, rfl⟩⟩; refine ⟨_, rfl, ?_⟩))
    go_ret
    exact ⟨fi, bl⟩
   ·rw [if_neg c12] at H
    have c12b0 : (a0.toList == ([115, 108, 108, 119] : List UInt8)) = false := beq_eq_false_iff_ne.mpr c12
    have c12b1 : (a0.toList != ([115, 108, 108, 119] : List UInt8)) = true := bne_iff_ne.mpr c12
    by_cases c16 : a0.toList = ([115, 114, 108, 119] : List UInt8)
    ·rw [if_pos c16] at H
     have c16b0 : (a0.toList == ([115, 114, 108, 119] : List UInt8)) = true := beq_iff_eq.mpr c16
     have c16b1 : (a0.toList != ([115, 114, 108, 119] : List UInt8)) = false := bne_eq_false_iff_eq.mpr c16
     clear c16
     replace H := be H
     obtain ⟨t242, A17, H⟩ := H
     replace H := be H
     obtain ⟨t243, A18, H⟩ := H
     obtain rfl := Option.some.inj H
     go_enter Tryd.func33, Tryd.ntmps33
     go_wp2_with (first | ((with_reducible refine gate_callee (f := 40) rfl ?_); refine goesL_ (some 18) rfl rfl Tryd.func40 (by kernel_rfl) rfl #[.int .i64 a1] rfl ga ?_; (with_reducible refine (spinnakerref07_Half.calls k a1 t232 _ A4.out).mono ?_); rintro e w' ⟨rfl, ⟨nd, rfl⟩⟩; refine ⟨_, rfl, ?_⟩) | ((with_reducible refine gate_callee (f := 40) rfl ?_); refine goesL_ (some 20) rfl rfl Tryd.func40 (by kernel_rfl) rfl #[.int .i64 a2] rfl ga ?_; (with_reducible refine (spinnakerref07_Half.calls k a2 t233 _ A5.out).mono ?_); rintro e w' ⟨rfl, ⟨nd, rfl⟩⟩; refine ⟨_, rfl, ?_⟩) | ((with_reducible refine gate_callee (f := 39) rfl ?_); refine goesL_ (some 21) rfl rfl Tryd.func39 (by kernel_rfl) rfl #[.int .i64 t232, .int .i64 t233] rfl ga ?_; (with_reducible refine (spinnakerref07_Div.calls t232 t233 t234 t235 _ A6.out).mono ?_); rintro e w' ⟨rfl, ⟨nd, rfl⟩⟩; refine ⟨_, rfl, ?_⟩) | ((with_reducible refine gate_callee (f := 41) rfl ?_); refine goesL_ (some 31) rfl rfl Tryd.func41 (by kernel_rfl) rfl #[.int .u64 (Int.tmod (IntKind.u64.wrap (a1)) 4294967296), .int .u64 (Int.tmod (IntKind.u64.wrap (a2)) 4294967296)] rfl ga ?_; (with_reducible refine (spinnakerref07_DivU.calls (Int.tmod (IntKind.u64.wrap (a1)) 4294967296) (Int.tmod (IntKind.u64.wrap (a2)) 4294967296) t236 t237 _ A7.out).mono ?_); rintro e w' ⟨rfl, ⟨nd, rfl⟩⟩; refine ⟨_, rfl, ?_⟩) | ((with_reducible refine gate_callee (f := 31) rfl ?_); refine goesL_ (some 57) rfl rfl Tryd.func31 (by kernel_rfl) rfl #[.int .i64 a1, .int .i64 (wrap64 (Int.tmod (IntKind.u64.wrap (a2)) 32)), .bool false, .int .i64 0, .int .i64 32] rfl ga ?_; (with_reducible refine (spinnakerref07_moved.calls k a1 (wrap64 (Int.tmod (IntKind.u64.wrap (a2)) 32)) false 0 32 t242 _ A17.out).mono ?_); rintro e w19 ⟨rfl, hb⟩; refine ⟨_, rfl, ?_⟩; have n0_ := Aside0.mk (below_step bl hb); clear HB; have HB := n0_; clear n0_; (try clear hb)) | ((with_reducible refine gate_callee (f := 40) rfl ?_); refine goesL_ (some 58) rfl rfl Tryd.func40 (by kernel_rfl) rfl #[.int .i64 t242] rfl ga ?_; (with_reducible refine (spinnakerref07_Half.calls k t242 t243 _ A18.out).mono ?_); rintro e w' ⟨rfl, ⟨nd, rfl⟩⟩; refine ⟨_, rfl, ?_⟩))
     go_ret
     exact ⟨fi, bl⟩
    ·rw [if_neg c16] at H
     have c16b0 : (a0.toList == ([115, 114, 108, 119] : List UInt8)) = false := beq_eq_false_iff_ne.mpr c16
     have c16b1 : (a0.toList != ([115, 114, 108, 119] : List UInt8)) = true := bne_iff_ne.mpr c16
     by_cases c20 : a0.toList = ([115, 114, 97, 119] : List UInt8)
     ·rw [if_pos c20] at H
      have c20b0 : (a0.toList == ([115, 114, 97, 119] : List UInt8)) = true := beq_iff_eq.mpr c20
      have c20b1 : (a0.toList != ([115, 114, 97, 119] : List UInt8)) = false := bne_eq_false_iff_eq.mpr c20
      clear c20
      replace H := be H
      obtain ⟨t244, A21, H⟩ := H
      replace H := be H
      obtain ⟨t245, A22, H⟩ := H
      replace H := be H
      obtain ⟨t246, A23, H⟩ := H
      obtain rfl := Option.some.inj H
      go_enter Tryd.func33, Tryd.ntmps33
      go_wp2_with (first | ((with_reducible refine gate_callee (f := 40) rfl ?_); refine goesL_ (some 18) rfl rfl Tryd.func40 (by kernel_rfl) rfl #[.int .i64 a1] rfl ga ?_; (with_reducible refine (spinnakerref07_Half.calls k a1 t232 _ A4.out).mono ?_); rintro e w' ⟨rfl, ⟨nd, rfl⟩⟩; refine ⟨_, rfl, ?_⟩) | ((with_reducible refine gate_callee (f := 40) rfl ?_); refine goesL_ (some 20) rfl rfl Tryd.func40 (by kernel_rfl) rfl #[.int .i64 a2] rfl ga ?_; (with_reducible refine (spinnakerref07_Half.calls k a2 t233 _ A5.out).mono ?_); rintro e w' ⟨rfl, ⟨nd, rfl⟩⟩; refine ⟨_, rfl, ?_⟩) | ((with_reducible refine gate_callee (f := 39) rfl ?_); refine goesL_ (some 21) rfl rfl Tryd.func39 (by kernel_rfl) rfl #[.int .i64 t232, .int .i64 t233] rfl ga ?_; (with_reducible refine (spinnakerref07_Div.calls t232 t233 t234 t235 _ A6.out).mono ?_); rintro e w' ⟨rfl, ⟨nd, rfl⟩⟩; refine ⟨_, rfl, ?_⟩) | ((with_reducible refine gate_callee (f := 41) rfl ?_); refine goesL_ (some 31) rfl rfl Tryd.func41 (by kernel_rfl) rfl #[.int .u64 (Int.tmod (IntKind.u64.wrap (a1)) 4294967296), .int .u64 (Int.tmod (IntKind.u64.wrap (a2)) 4294967296)] rfl ga ?_; (with_reducible refine (spinnakerref07_DivU.calls (Int.tmod (IntKind.u64.wrap (a1)) 4294967296) (Int.tmod (IntKind.u64.wrap (a2)) 4294967296) t236 t237 _ A7.out).mono ?_); rintro e w' ⟨rfl, ⟨nd, rfl⟩⟩; refine ⟨_, rfl, ?_⟩) | ((with_reducible refine gate_callee (f := 28) rfl ?_); refine goesL_ (some 65) rfl rfl Tryd.func28 (by kernel_rfl) rfl #[.int .u64 (IntKind.u64.wrap (a1)), .int .i64 31] rfl ga ?_; (with_reducible refine (spinnakerref01_Bit.calls k (IntKind.u64.wrap (a1)) 31 t244 _ A21.out).mono ?_); rintro e w' ⟨rfl, ⟨nd, rfl⟩⟩; refine ⟨_, rfl, ?_⟩) | ((with_reducible refine gate_callee (f := 31) rfl ?_); refine goesL_ (some 66) rfl rfl Tryd.func31 (by kernel_rfl) rfl #[.int .i64 a1, .int .i64 (wrap64 (Int.tmod (IntKind.u64.wrap (a2)) 32)), .bool false, .int .i64 t244, .int .i64 32] rfl ga ?_; (with_reducible refine (spinnakerref07_moved.calls k a1 (wrap64 (Int.tmod (IntKind.u64.wrap (a2)) 32)) false t244 32 t245 _ A22.out).mono ?_); rintro e w24 ⟨rfl, hb⟩; refine ⟨_, rfl, ?_⟩; have n0_ := Aside0.mk (below_step bl hb); clear HB; have HB := n0_; clear n0_; (try clear hb)) | ((with_reducible refine gate_callee (f := 40) rfl ?_); refine goesL_ (some 67) rfl rfl Tryd.func40 (by kernel_rfl) rfl #[.int .i64 t245] rfl ga ?_; (with_reducible refine (spinnakerref07_Half.calls k t245 t246 _ A23.out).mono ?_); rintro e w' ⟨rfl, ⟨nd, rfl⟩⟩; refine ⟨_, rfl, ?_⟩))
      go_ret
      exact ⟨fi, bl⟩
     ·rw [if_neg c20] at H
      have c20b0 : (a0.toList == ([115, 114, 97, 119] : List UInt8)) = false := beq_eq_false_iff_ne.mpr c20
      have c20b1 : (a0.toList != ([115, 114, 97, 119] : List UInt8)) = true := bne_iff_ne.mpr c20
      by_cases c25 : a0.toList = ([109, 117, 108, 119] : List UInt8)
      ·rw [if_pos c25] at H
       have c25b0 : (a0.toList == ([109, 117, 108, 119] : List UInt8)) = true := beq_iff_eq.mpr c25
       have c25b1 : (a0.toList != ([109, 117, 108, 119] : List UInt8)) = false := bne_eq_false_iff_eq.mpr c25
       clear c25
       replace H := be H
       obtain ⟨t247, A26, H⟩ := H
       obtain rfl := Option.some.inj H
       go_enter Tryd.func33, Tryd.ntmps33
       go_wp2_with (first | ((with_reducible refine gate_callee (f := 40) rfl ?_); refine goesL_ (some 18) rfl rfl Tryd.func40 (by kernel_rfl) rfl #[.int .i64 a1] rfl ga ?_; (with_reducible refine (spinnakerref07_Half.calls k a1 t232 _ A4.out).mono ?_); rintro e w' ⟨rfl, ⟨nd, rfl⟩⟩; refine ⟨_, rfl, ?_⟩) | ((with_reducible refine gate_callee (f := 40) rfl ?_); refine goesL_ (some 20) rfl rfl Tryd.func40 (by kernel_rfl) rfl #[.int .i64 a2] rfl ga ?_; (with_reducible refine (spinnakerref07_Half.calls k a2 t233 _ A5.out).mono ?_); rintro e w' ⟨rfl, ⟨nd, rfl⟩⟩; refine ⟨_, rfl, ?_⟩) | ((with_reducible refine gate_callee (f := 39) rfl ?_); refine goesL_ (some 21) rfl rfl Tryd.func39 (by kernel_rfl) rfl #[.int .i64 t232, .int .i64 t233] rfl ga ?_; (with_reducible refine (spinnakerref07_Div.calls t232 t233 t234 t235 _ A6.out).mono ?_); rintro e w' ⟨rfl, ⟨nd, rfl⟩⟩; refine ⟨_, rfl, ?_⟩) | ((with_reducible refine gate_callee (f := 41) rfl ?_); refine goesL_ (some 31) rfl rfl Tryd.func41 (by kernel_rfl) rfl #[.int .u64 (Int.tmod (IntKind.u64.wrap (a1)) 4294967296), .int .u64 (Int.tmod (IntKind.u64.wrap (a2)) 4294967296)] rfl ga ?_; (with_reducible refine (spinnakerref07_DivU.calls (Int.tmod (IntKind.u64.wrap (a1)) 4294967296) (Int.tmod (IntKind.u64.wrap (a2)) 4294967296) t236 t237 _ A7.out).mono ?_); rintro e w' ⟨rfl, ⟨nd, rfl⟩⟩; refine ⟨_, rfl, ?_⟩) | ((with_reducible refine gate_callee (f := 40) rfl ?_); refine goesL_ (some 73) rfl rfl Tryd.func40 (by kernel_rfl) rfl #[.int .i64 (wrap64 (a1 * a2))] rfl ga ?_; (with_reducible refine (spinnakerref07_Half.calls k (wrap64 (a1 * a2)) t247 _ A26.out).mono ?_); rintro e w' ⟨rfl, ⟨nd, rfl⟩⟩; refine ⟨_, rfl, ?_⟩))
       go_ret
       exact ⟨fi, bl⟩
      ·rw [if_neg c25] at H
       have c25b0 : (a0.toList == ([109, 117, 108, 119] : List UInt8)) = false := beq_eq_false_iff_ne.mpr c25
       have c25b1 : (a0.toList != ([109, 117, 108, 119] : List UInt8)) = true := bne_iff_ne.mpr c25
       by_cases c27 : a0.toList = ([100, 105, 118, 119] : List UInt8)
       ·rw [if_pos c27] at H
        have c27b0 : (a0.toList == ([100, 105, 118, 119] : List UInt8)) = true := beq_iff_eq.mpr c27
        have c27b1 : (a0.toList != ([100, 105, 118, 119] : List UInt8)) = false := bne_eq_false_iff_eq.mpr c27
        clear c27
        replace H := be H
        obtain ⟨t248, A28, H⟩ := H
        obtain rfl := Option.some.inj H
        go_enter Tryd.func33, Tryd.ntmps33
        go_wp2_with (first | ((with_reducible refine gate_callee (f := 40) rfl ?_); refine goesL_ (some 18) rfl rfl Tryd.func40 (by kernel_rfl) rfl #[.int .i64 a1] rfl ga ?_; (with_reducible refine (spinnakerref07_Half.calls k a1 t232 _ A4.out).mono ?_); rintro e w' ⟨rfl, ⟨nd, rfl⟩⟩; refine ⟨_, rfl, ?_⟩) | ((with_reducible refine gate_callee (f := 40) rfl ?_); refine goesL_ (some 20) rfl rfl Tryd.func40 (by kernel_rfl) rfl #[.int .i64 a2] rfl ga ?_; (with_reducible refine (spinnakerref07_Half.calls k a2 t233 _ A5.out).mono ?_); rintro e w' ⟨rfl, ⟨nd, rfl⟩⟩; refine ⟨_, rfl, ?_⟩) | ((with_reducible refine gate_callee (f := 39) rfl ?_); refine goesL_ (some 21) rfl rfl Tryd.func39 (by kernel_rfl) rfl #[.int .i64 t232, .int .i64 t233] rfl ga ?_; (with_reducible refine (spinnakerref07_Div.calls t232 t233 t234 t235 _ A6.out).mono ?_); rintro e w' ⟨rfl, ⟨nd, rfl⟩⟩; refine ⟨_, rfl, ?_⟩) | ((with_reducible refine gate_callee (f := 41) rfl ?_); refine goesL_ (some 31) rfl rfl Tryd.func41 (by kernel_rfl) rfl #[.int .u64 (Int.tmod (IntKind.u64.wrap (a1)) 4294967296), .int .u64 (Int.tmod (IntKind.u64.wrap (a2)) 4294967296)] rfl ga ?_; (with_reducible refine (spinnakerref07_DivU.calls (Int.tmod (IntKind.u64.wrap (a1)) 4294967296) (Int.tmod (IntKind.u64.wrap (a2)) 4294967296) t236 t237 _ A7.out).mono ?_); rintro e w' ⟨rfl, ⟨nd, rfl⟩⟩; refine ⟨_, rfl, ?_⟩) | ((with_reducible refine gate_callee (f := 40) rfl ?_); refine goesL_ (some 77) rfl rfl Tryd.func40 (by kernel_rfl) rfl #[.int .i64 t234] rfl ga ?_; (with_reducible refine (spinnakerref07_Half.calls k t234 t248 _ A28.out).mono ?_); rintro e w' ⟨rfl, ⟨nd, rfl⟩⟩; refine ⟨_, rfl, ?_⟩))
        go_ret
        exact ⟨fi, bl⟩
       ·rw [if_neg c27] at H
        have c27b0 : (a0.toList == ([100, 105, 118, 119] : List UInt8)) = false := beq_eq_false_iff_ne.mpr c27
        have c27b1 : (a0.toList != ([100, 105, 118, 119] : List UInt8)) = true := bne_iff_ne.mpr c27
        by_cases c29 : a0.toList = ([100, 105, 118, 117, 119] : List UInt8)
        ·rw [if_pos c29] at H
         have c29b0 : (a0.toList == ([100, 105, 118, 117, 119] : List UInt8)) = true := beq_iff_eq.mpr c29
         have c29b1 : (a0.toList != ([100, 105, 118, 117, 119] : List UInt8)) = false := bne_eq_false_iff_eq.mpr c29
         clear c29
         replace H := be H
         obtain ⟨t249, A30, H⟩ := H
         obtain rfl := Option.some.inj H
         go_enter Tryd.func33, Tryd.ntmps33
         go_wp2_with (first | ((with_reducible refine gate_callee (f := 40) rfl ?_); refine goesL_ (some 18) rfl rfl Tryd.func40 (by kernel_rfl) rfl #[.int .i64 a1] rfl ga ?_; (with_reducible refine (spinnakerref07_Half.calls k a1 t232 _ A4.out).mono ?_); rintro e w' ⟨rfl, ⟨nd, rfl⟩⟩; refine ⟨_, rfl, ?_⟩) | ((with_reducible refine gate_callee (f := 40) rfl ?_); refine goesL_ (some 20) rfl rfl Tryd.func40 (by kernel_rfl) rfl #[.int .i64 a2] rfl ga ?_; (with_reducible refine (spinnakerref07_Half.calls k a2 t233 _ A5.out).mono ?_); rintro e w' ⟨rfl, ⟨nd, rfl⟩⟩; refine ⟨_, rfl, ?_⟩) | ((with_reducible refine gate_callee (f := 39) rfl ?_); refine goesL_ (some 21) rfl rfl Tryd.func39 (by kernel_rfl) rfl #[.int .i64 t232, .int .i64 t233] rfl ga ?_; (with_reducible refine (spinnakerref07_Div.calls t232 t233 t234 t235 _ A6.out).mono ?_); rintro e w' ⟨rfl, ⟨nd, rfl⟩⟩; refine ⟨_, rfl, ?_⟩) | ((with_reducible refine gate_callee (f := 41) rfl ?_); refine goesL_ (some 31) rfl rfl Tryd.func41 (by kernel_rfl) rfl #[.int .u64 (Int.tmod (IntKind.u64.wrap (a1)) 4294967296), .int .u64 (Int.tmod (IntKind.u64.wrap (a2)) 4294967296)] rfl ga ?_; (with_reducible refine (spinnakerref07_DivU.calls (Int.tmod (IntKind.u64.wrap (a1)) 4294967296) (Int.tmod (IntKind.u64.wrap (a2)) 4294967296) t236 t237 _ A7.out).mono ?_); rintro e w' ⟨rfl, ⟨nd, rfl⟩⟩; refine ⟨_, rfl, ?_⟩) | ((with_reducible refine gate_callee (f := 40) rfl ?_); refine goesL_ (some 81) rfl rfl Tryd.func40 (by kernel_rfl) rfl #[.int .i64 t236] rfl ga ?_; (with_reducible refine (spinnakerref07_Half.calls k t236 t249 _ A30.out).mono ?_); rintro e w' ⟨rfl, ⟨nd, rfl⟩⟩; refine ⟨_, rfl, ?_⟩))
         go_ret
         exact ⟨fi, bl⟩
        ·rw [if_neg c29] at H
         have c29b0 : (a0.toList == ([100, 105, 118, 117, 119] : List UInt8)) = false := beq_eq_false_iff_ne.mpr c29
         have c29b1 : (a0.toList != ([100, 105, 118, 117, 119] : List UInt8)) = true := bne_iff_ne.mpr c29
         by_cases c31 : a0.toList = ([114, 101, 109, 119] : List UInt8)
         ·rw [if_pos c31] at H
          have c31b0 : (a0.toList == ([114, 101, 109, 119] : List UInt8)) = true := beq_iff_eq.mpr c31
          have c31b1 : (a0.toList != ([114, 101, 109, 119] : List UInt8)) = false := bne_eq_false_iff_eq.mpr c31
          clear c31
          replace H := be H
          obtain ⟨t250, A32, H⟩ := H
          obtain rfl := Option.some.inj H
          go_enter Tryd.func33, Tryd.ntmps33
          go_wp2_with (first | ((with_reducible refine gate_callee (f := 40) rfl ?_); refine goesL_ (some 18) rfl rfl Tryd.func40 (by kernel_rfl) rfl #[.int .i64 a1] rfl ga ?_; (with_reducible refine (spinnakerref07_Half.calls k a1 t232 _ A4.out).mono ?_); rintro e w' ⟨rfl, ⟨nd, rfl⟩⟩; refine ⟨_, rfl, ?_⟩) | ((with_reducible refine gate_callee (f := 40) rfl ?_); refine goesL_ (some 20) rfl rfl Tryd.func40 (by kernel_rfl) rfl #[.int .i64 a2] rfl ga ?_; (with_reducible refine (spinnakerref07_Half.calls k a2 t233 _ A5.out).mono ?_); rintro e w' ⟨rfl, ⟨nd, rfl⟩⟩; refine ⟨_, rfl, ?_⟩) | ((with_reducible refine gate_callee (f := 39) rfl ?_); refine goesL_ (some 21) rfl rfl Tryd.func39 (by kernel_rfl) rfl #[.int .i64 t232, .int .i64 t233] rfl ga ?_; (with_reducible refine (spinnakerref07_Div.calls t232 t233 t234 t235 _ A6.out).mono ?_); rintro e w' ⟨rfl, ⟨nd, rfl⟩⟩; refine ⟨_, rfl, ?_⟩) | ((with_reducible refine gate_callee (f := 41) rfl ?_); refine goesL_ (some 31) rfl rfl Tryd.func41 (by kernel_rfl) rfl #[.int .u64 (Int.tmod (IntKind.u64.wrap (a1)) 4294967296), .int .u64 (Int.tmod (IntKind.u64.wrap (a2)) 4294967296)] rfl ga ?_; (with_reducible refine (spinnakerref07_DivU.calls (Int.tmod (IntKind.u64.wrap (a1)) 4294967296) (Int.tmod (IntKind.u64.wrap (a2)) 4294967296) t236 t237 _ A7.out).mono ?_); rintro e w' ⟨rfl, ⟨nd, rfl⟩⟩; refine ⟨_, rfl, ?_⟩) | ((with_reducible refine gate_callee (f := 40) rfl ?_); refine goesL_ (some 85) rfl rfl Tryd.func40 (by kernel_rfl) rfl #[.int .i64 t235] rfl ga ?_; (with_reducible refine (spinnakerref07_Half.calls k t235 t250 _ A32.out).mono ?_); rintro e w' ⟨rfl, ⟨nd, rfl⟩⟩; refine ⟨_, rfl, ?_⟩))
          go_ret
          exact ⟨fi, bl⟩
         ·rw [if_neg c31] at H
          have c31b0 : (a0.toList == ([114, 101, 109, 119] : List UInt8)) = false := beq_eq_false_iff_ne.mpr c31
          have c31b1 : (a0.toList != ([114, 101, 109, 119] : List UInt8)) = true := bne_iff_ne.mpr c31
          replace H := be H
          obtain ⟨t251, A33, H⟩ := H
          obtain rfl := Option.some.inj H
          go_enter Tryd.func33, Tryd.ntmps33
          go_wp2_with (first | ((with_reducible refine gate_callee (f := 40) rfl ?_); refine goesL_ (some 18) rfl rfl Tryd.func40 (by kernel_rfl) rfl #[.int .i64 a1] rfl ga ?_; (with_reducible refine (spinnakerref07_Half.calls k a1 t232 _ A4.out).mono ?_); rintro e w' ⟨rfl, ⟨nd, rfl⟩⟩; refine ⟨_, rfl, ?_⟩) | ((with_reducible refine gate_callee (f := 40) rfl ?_); refine goesL_ (some 20) rfl rfl Tryd.func40 (by kernel_rfl) rfl #[.int .i64 a2] rfl ga ?_; (with_reducible refine (spinnakerref07_Half.calls k a2 t233 _ A5.out).mono ?_); rintro e w' ⟨rfl, ⟨nd, rfl⟩⟩; refine ⟨_, rfl, ?_⟩) | ((with_reducible refine gate_callee (f := 39) rfl ?_); refine goesL_ (some 21) rfl rfl Tryd.func39 (by kernel_rfl) rfl #[.int .i64 t232, .int .i64 t233] rfl ga ?_; (with_reducible refine (spinnakerref07_Div.calls t232 t233 t234 t235 _ A6.out).mono ?_); rintro e w' ⟨rfl, ⟨nd, rfl⟩⟩; refine ⟨_, rfl, ?_⟩) | ((with_reducible refine gate_callee (f := 41) rfl ?_); refine goesL_ (some 31) rfl rfl Tryd.func41 (by kernel_rfl) rfl #[.int .u64 (Int.tmod (IntKind.u64.wrap (a1)) 4294967296), .int .u64 (Int.tmod (IntKind.u64.wrap (a2)) 4294967296)] rfl ga ?_; (with_reducible refine (spinnakerref07_DivU.calls (Int.tmod (IntKind.u64.wrap (a1)) 4294967296) (Int.tmod (IntKind.u64.wrap (a2)) 4294967296) t236 t237 _ A7.out).mono ?_); rintro e w' ⟨rfl, ⟨nd, rfl⟩⟩; refine ⟨_, rfl, ?_⟩) | ((with_reducible refine gate_callee (f := 40) rfl ?_); refine goesL_ (some 87) rfl rfl Tryd.func40 (by kernel_rfl) rfl #[.int .i64 t237] rfl ga ?_; (with_reducible refine (spinnakerref07_Half.calls k t237 t251 _ A33.out).mono ?_); rintro e w' ⟨rfl, ⟨nd, rfl⟩⟩; refine ⟨_, rfl, ?_⟩))
          go_ret
          exact ⟨fi, bl⟩

end Go.Proofs.YtmkcnbaknnohgaaDoor.GUnitLoads
