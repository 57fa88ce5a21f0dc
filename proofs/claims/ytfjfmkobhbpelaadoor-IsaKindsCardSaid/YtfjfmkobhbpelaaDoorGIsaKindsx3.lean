-- Written by wip/stub.py of this repo.
import Derived.Test.YtfjfmkobhbpelaaDoorGIsaKindsx0
import Derived.Test.YtfjfmkobhbpelaaDoorGIsaKindsx1
import Derived.Test.YtfjfmkobhbpelaaDoorGIsaKindsx2
namespace Go.Proofs.YtfjfmkobhbpelaaDoor.GIsaKinds
open Go.RowKit Go.Proofs.YtfjfmkobhbpelaaDoorW.PrintWords Go.Proofs.YtfjfmkobhbpelaaDoorW.PrintLast Go.Proofs.YtfjfmkobhbpelaaDoorW.PrintMore
attribute [local go_sem] max2_int min2_int max_two min_two max_three min_three max_four min_four   -- for this text's walks alone
set_option linter.unusedVariables false
set_option linter.unusedSimpArgs false

/-! ### spinnakerlaw03_IsaKinds: function 5 -/
def spinnakerlaw03_IsaKinds.f (k : Nat) (a0 : Int) : Option (Bool) := (isa_Access.f k a0).bind fun bt126 => ((spinnakerref03_Reader.f k a0).bind fun t128 => (if (bt126.1 == t128) = true then ((spinnakerref03_Writer.f k a0).bind fun t129 => (if (bt126.2 == t129) = true then ((isa_Wide.f a0).bind fun t130 => ((spinnakerref03_Wide.f a0).bind fun t131 => (if (t130 == t131) = true then ((isa_Branch.f a0).bind fun t132 => ((spinnakerref03_Form.f a0).bind fun t133 => (if (t132 == (t133 == 4)) = true then ((spinnakerlaw03_awake.f k).bind fun t134 => (some t134)) else (some false)))) else (some false)))) else (some false))) else (some false)))
theorem spinnakerlaw03_IsaKinds.mono : ∀ a0 k, LeO (spinnakerlaw03_IsaKinds.f k a0) (spinnakerlaw03_IsaKinds.f (k + 1) a0) := by
  intro a0 k
  unfold spinnakerlaw03_IsaKinds.f
  repeat' first
      | (with_reducible exact isa_Access.mono _ _)
      | (with_reducible exact spinnakerlaw03_awake.mono _)
      | (with_reducible exact spinnakerref03_Reader.mono _ _)
      | (with_reducible exact spinnakerref03_Writer.mono _ _)
      | (with_reducible exact LeO.refl _)
      | (with_reducible exact LeO.none _)
      | (with_reducible refine LeO.ite ?_ ?_)
      | (with_reducible refine LeO.bind ?_ (fun _ => ?_))
      | exact isa_Access.mono _ _
      | exact spinnakerlaw03_awake.mono _
      | exact spinnakerref03_Reader.mono _ _
      | exact spinnakerref03_Writer.mono _ _
      | exact LeO.none _
      | refine LeO.ite ?_ ?_
      | refine LeO.bind ?_ (fun _ => ?_)
set_option maxHeartbeats 8000000 in
set_option maxRecDepth 100000 in
theorem spinnakerlaw03_IsaKinds.calls (k : Nat) (a0 : Int) (r : Bool) (w : World) (hL : Laid w) (h : spinnakerlaw03_IsaKinds.f k a0 = some r) :
    Calls Tryd.prog 5 #[.int .i64 a0] w fun e w' => e = .returned (.bool r) ∧ Below w.heap.size w w' := by
  have HL := Aside0.mk hL
  clear hL
  have HB := Aside0.mk (Below.refl w.heap.size w)
  have H : ((isa_Access.f k a0).bind fun bt126 => ((spinnakerref03_Reader.f k a0).bind fun t128 => (if (bt126.1 == t128) = true then ((spinnakerref03_Writer.f k a0).bind fun t129 => (if (bt126.2 == t129) = true then ((isa_Wide.f a0).bind fun t130 => ((spinnakerref03_Wide.f a0).bind fun t131 => (if (t130 == t131) = true then ((isa_Branch.f a0).bind fun t132 => ((spinnakerref03_Form.f a0).bind fun t133 => (if (t132 == (t133 == 4)) = true then ((spinnakerlaw03_awake.f k).bind fun t134 => (some t134)) else (some false)))) else (some false)))) else (some false))) else (some false)))) = some r := h
  clear h
  replace H := Option.bind_eq_some_iff.mp H
  obtain ⟨⟨t126, t127⟩, A20, H⟩ := H
  replace H : ((spinnakerref03_Reader.f k a0).bind fun t128 => (if (t126 == t128) = true then ((spinnakerref03_Writer.f k a0).bind fun t129 => (if (t127 == t129) = true then ((isa_Wide.f a0).bind fun t130 => ((spinnakerref03_Wide.f a0).bind fun t131 => (if (t130 == t131) = true then ((isa_Branch.f a0).bind fun t132 => ((spinnakerref03_Form.f a0).bind fun t133 => (if (t132 == (t133 == 4)) = true then ((spinnakerlaw03_awake.f k).bind fun t134 => (some t134)) else (some false)))) else (some false)))) else (some false))) else (some false))) = some r := H
  have A2 := Aside0.mk A20
  clear A20
  replace H := Option.bind_eq_some_iff.mp H
  obtain ⟨t128, A30, H⟩ := H
  replace H : (if (t126 == t128) = true then ((spinnakerref03_Writer.f k a0).bind fun t129 => (if (t127 == t129) = true then ((isa_Wide.f a0).bind fun t130 => ((spinnakerref03_Wide.f a0).bind fun t131 => (if (t130 == t131) = true then ((isa_Branch.f a0).bind fun t132 => ((spinnakerref03_Form.f a0).bind fun t133 => (if (t132 == (t133 == 4)) = true then ((spinnakerlaw03_awake.f k).bind fun t134 => (some t134)) else (some false)))) else (some false)))) else (some false))) else (some false)) = some r := H
  have A3 := Aside0.mk A30
  clear A30
  by_cases c4 : (t126 == t128) = true
  · rw [if_pos c4] at H
    have c4b0 : (t126 == t128) = true := c4
    (try (have c4b1 : decide (t126 = t128) = true := by simpa using c4))
    (try (have c4b2 : (t126 == t128) = true := by simpa using c4))
    clear c4
    replace H := Option.bind_eq_some_iff.mp H
    obtain ⟨t129, A50, H⟩ := H
    replace H : (if (t127 == t129) = true then ((isa_Wide.f a0).bind fun t130 => ((spinnakerref03_Wide.f a0).bind fun t131 => (if (t130 == t131) = true then ((isa_Branch.f a0).bind fun t132 => ((spinnakerref03_Form.f a0).bind fun t133 => (if (t132 == (t133 == 4)) = true then ((spinnakerlaw03_awake.f k).bind fun t134 => (some t134)) else (some false)))) else (some false)))) else (some false)) = some r := H
    have A5 := Aside0.mk A50
    clear A50
    by_cases c6 : (t127 == t129) = true
    · rw [if_pos c6] at H
      have c6b0 : (t127 == t129) = true := c6
      (try (have c6b1 : decide (t127 = t129) = true := by simpa using c6))
      (try (have c6b2 : (t127 == t129) = true := by simpa using c6))
      clear c6
      replace H := Option.bind_eq_some_iff.mp H
      obtain ⟨t130, A70, H⟩ := H
      replace H : ((spinnakerref03_Wide.f a0).bind fun t131 => (if (t130 == t131) = true then ((isa_Branch.f a0).bind fun t132 => ((spinnakerref03_Form.f a0).bind fun t133 => (if (t132 == (t133 == 4)) = true then ((spinnakerlaw03_awake.f k).bind fun t134 => (some t134)) else (some false)))) else (some false))) = some r := H
      have A7 := Aside0.mk A70
      clear A70
      replace H := Option.bind_eq_some_iff.mp H
      obtain ⟨t131, A80, H⟩ := H
      replace H : (if (t130 == t131) = true then ((isa_Branch.f a0).bind fun t132 => ((spinnakerref03_Form.f a0).bind fun t133 => (if (t132 == (t133 == 4)) = true then ((spinnakerlaw03_awake.f k).bind fun t134 => (some t134)) else (some false)))) else (some false)) = some r := H
      have A8 := Aside0.mk A80
      clear A80
      by_cases c9 : (t130 == t131) = true
      · rw [if_pos c9] at H
        have c9b0 : (t130 == t131) = true := c9
        (try (have c9b1 : decide (t130 = t131) = true := by simpa using c9))
        (try (have c9b2 : (t130 == t131) = true := by simpa using c9))
        clear c9
        replace H := Option.bind_eq_some_iff.mp H
        obtain ⟨t132, A100, H⟩ := H
        replace H : ((spinnakerref03_Form.f a0).bind fun t133 => (if (t132 == (t133 == 4)) = true then ((spinnakerlaw03_awake.f k).bind fun t134 => (some t134)) else (some false))) = some r := H
        have A10 := Aside0.mk A100
        clear A100
        replace H := Option.bind_eq_some_iff.mp H
        obtain ⟨t133, A110, H⟩ := H
        replace H : (if (t132 == (t133 == 4)) = true then ((spinnakerlaw03_awake.f k).bind fun t134 => (some t134)) else (some false)) = some r := H
        have A11 := Aside0.mk A110
        clear A110
        by_cases c12 : (t132 == (t133 == 4)) = true
        · rw [if_pos c12] at H
          have c12b0 : (t132 == (t133 == 4)) = true := c12
          (try (have c12b1 : decide (t132 = (t133 == 4)) = true := by simpa using c12))
          (try (have c12b2 : (t132 == (t133 == 4)) = true := by simpa using c12))
          clear c12
          replace H := Option.bind_eq_some_iff.mp H
          obtain ⟨t134, A130, H⟩ := H
          replace H : (some t134) = some r := H
          have A13 := Aside0.mk A130
          clear A130
          obtain rfl := Option.some.inj H
          go_enter Tryd.func5, Tryd.ntmps5
          go_wp2_with (first | ((with_reducible refine gate_callee (f := 15) rfl ?_); refine goesL_ (some 7) rfl rfl Tryd.func15 (by kernel_rfl) rfl #[.int .i64 a0] rfl (by (try simp only [List.map_toArray, List.map_cons, List.map_nil]); first | done | rfl | (simp only [List.length_drop, List.length_take]; rfl)) ?_; (with_reducible refine (isa_Access.calls k a0 t126 t127 _ (by first | exact HL.out | exact laid_drewN HL.out | exact laid_below HL.out (by repeat (first | (with_reducible first | exact HB.out | apply below_alloc | apply pw_below_drewN | apply below_drew1) | exact HB.out)) | exact laid_below HL.out HB.out | exact laid_belowd HL.out HB.out) A2.out).mono ?_); rintro e w' ⟨rfl, ⟨nd, rfl⟩⟩; refine ⟨_, rfl, ?_⟩) | ((with_reducible refine gate_callee (f := 16) rfl ?_); refine goesL_ (some 12) rfl rfl Tryd.func16 (by kernel_rfl) rfl #[.int .i64 a0] rfl (by (try simp only [List.map_toArray, List.map_cons, List.map_nil]); first | done | rfl | (simp only [List.length_drop, List.length_take]; rfl)) ?_; (with_reducible refine (spinnakerref03_Reader.calls k a0 t128 _ A3.out).mono ?_); rintro e w' ⟨rfl, ⟨nd, rfl⟩⟩; refine ⟨_, rfl, ?_⟩) | (go_at_call 17; (with_reducible refine (spinnakerref03_Writer.calls k a0 t129 _ A5.out).mono ?_); rintro e w' ⟨rfl, ⟨nd, rfl⟩⟩) | (go_at_call 18; (with_reducible refine (isa_Wide.calls a0 t130 _ A7.out).mono ?_); rintro e w' ⟨rfl, ⟨nd, rfl⟩⟩) | (go_at_call 19; (with_reducible refine (spinnakerref03_Wide.calls a0 t131 _ A8.out).mono ?_); rintro e w' ⟨rfl, ⟨nd, rfl⟩⟩) | (go_at_call 20; (with_reducible refine (isa_Branch.calls a0 t132 _ A10.out).mono ?_); rintro e w' ⟨rfl, ⟨nd, rfl⟩⟩) | (go_at_call 11; (with_reducible refine (spinnakerref03_Form.calls a0 t133 _ A11.out).mono ?_); rintro e w' ⟨rfl, ⟨nd, rfl⟩⟩) | (go_at_call 13; (with_reducible refine (spinnakerlaw03_awake.calls k  t134 _ (by first | exact HL.out | exact laid_drewN HL.out | exact laid_below HL.out (by repeat (first | (with_reducible first | exact HB.out | apply below_alloc | apply pw_below_drewN | apply below_drew1) | exact HB.out)) | exact laid_below HL.out HB.out | exact laid_belowd HL.out HB.out) A13.out).mono ?_); rintro e w14 ⟨rfl, hb⟩; have n0_ := Aside0.mk (below_step (by repeat (first | (with_reducible first | exact HB.out | apply below_alloc | apply pw_below_drewN | apply below_drew1) | exact HB.out)) hb); clear HB; have HB := n0_; clear n0_; (try clear hb); (try clear hb2); (try clear hk); (try clear hi)))
          go_ret
          exact ⟨by first | rfl | (simp [errW_none, errW_some] <;> rfl) | (simp [*, errW_none, errW_some] <;> rfl), by repeat (first | (with_reducible first | exact HB.out | apply below_alloc | apply pw_below_drewN | apply below_drew1) | exact HB.out)⟩
        · rw [if_neg c12] at H
          have c12b0 : (t132 == (t133 == 4)) = false := by simpa using c12
          (try (have c12b1 : decide (t132 = (t133 == 4)) = false := by simpa using c12))
          (try (have c12b2 : (t132 == (t133 == 4)) = false := by simpa using c12))
          (try (have c12b3 : ¬ (t132 = (t133 == 4)) := by simpa using c12))
          clear c12
          obtain rfl := Option.some.inj H
          go_enter Tryd.func5, Tryd.ntmps5
          go_wp2_with (first | ((with_reducible refine gate_callee (f := 15) rfl ?_); refine goesL_ (some 7) rfl rfl Tryd.func15 (by kernel_rfl) rfl #[.int .i64 a0] rfl (by (try simp only [List.map_toArray, List.map_cons, List.map_nil]); first | done | rfl | (simp only [List.length_drop, List.length_take]; rfl)) ?_; (with_reducible refine (isa_Access.calls k a0 t126 t127 _ (by first | exact HL.out | exact laid_drewN HL.out | exact laid_below HL.out (by repeat (first | (with_reducible first | exact HB.out | apply below_alloc | apply pw_below_drewN | apply below_drew1) | exact HB.out)) | exact laid_below HL.out HB.out | exact laid_belowd HL.out HB.out) A2.out).mono ?_); rintro e w' ⟨rfl, ⟨nd, rfl⟩⟩; refine ⟨_, rfl, ?_⟩) | ((with_reducible refine gate_callee (f := 16) rfl ?_); refine goesL_ (some 12) rfl rfl Tryd.func16 (by kernel_rfl) rfl #[.int .i64 a0] rfl (by (try simp only [List.map_toArray, List.map_cons, List.map_nil]); first | done | rfl | (simp only [List.length_drop, List.length_take]; rfl)) ?_; (with_reducible refine (spinnakerref03_Reader.calls k a0 t128 _ A3.out).mono ?_); rintro e w' ⟨rfl, ⟨nd, rfl⟩⟩; refine ⟨_, rfl, ?_⟩) | (go_at_call 17; (with_reducible refine (spinnakerref03_Writer.calls k a0 t129 _ A5.out).mono ?_); rintro e w' ⟨rfl, ⟨nd, rfl⟩⟩) | (go_at_call 18; (with_reducible refine (isa_Wide.calls a0 t130 _ A7.out).mono ?_); rintro e w' ⟨rfl, ⟨nd, rfl⟩⟩) | (go_at_call 19; (with_reducible refine (spinnakerref03_Wide.calls a0 t131 _ A8.out).mono ?_); rintro e w' ⟨rfl, ⟨nd, rfl⟩⟩) | (go_at_call 20; (with_reducible refine (isa_Branch.calls a0 t132 _ A10.out).mono ?_); rintro e w' ⟨rfl, ⟨nd, rfl⟩⟩) | (go_at_call 11; (with_reducible refine (spinnakerref03_Form.calls a0 t133 _ A11.out).mono ?_); rintro e w' ⟨rfl, ⟨nd, rfl⟩⟩))
          go_ret
          exact ⟨by first | rfl | (simp [errW_none, errW_some] <;> rfl) | (simp [*, errW_none, errW_some] <;> rfl), by repeat (first | (with_reducible first | exact HB.out | apply below_alloc | apply pw_below_drewN | apply below_drew1) | exact HB.out)⟩
      · rw [if_neg c9] at H
        have c9b0 : (t130 == t131) = false := by simpa using c9
        (try (have c9b1 : decide (t130 = t131) = false := by simpa using c9))
        (try (have c9b2 : (t130 == t131) = false := by simpa using c9))
        (try (have c9b3 : ¬ (t130 = t131) := by simpa using c9))
        clear c9
        obtain rfl := Option.some.inj H
        go_enter Tryd.func5, Tryd.ntmps5
        go_wp2_with (first | ((with_reducible refine gate_callee (f := 15) rfl ?_); refine goesL_ (some 7) rfl rfl Tryd.func15 (by kernel_rfl) rfl #[.int .i64 a0] rfl (by (try simp only [List.map_toArray, List.map_cons, List.map_nil]); first | done | rfl | (simp only [List.length_drop, List.length_take]; rfl)) ?_; (with_reducible refine (isa_Access.calls k a0 t126 t127 _ (by first | exact HL.out | exact laid_drewN HL.out | exact laid_below HL.out (by repeat (first | (with_reducible first | exact HB.out | apply below_alloc | apply pw_below_drewN | apply below_drew1) | exact HB.out)) | exact laid_below HL.out HB.out | exact laid_belowd HL.out HB.out) A2.out).mono ?_); rintro e w' ⟨rfl, ⟨nd, rfl⟩⟩; refine ⟨_, rfl, ?_⟩) | ((with_reducible refine gate_callee (f := 16) rfl ?_); refine goesL_ (some 12) rfl rfl Tryd.func16 (by kernel_rfl) rfl #[.int .i64 a0] rfl (by (try simp only [List.map_toArray, List.map_cons, List.map_nil]); first | done | rfl | (simp only [List.length_drop, List.length_take]; rfl)) ?_; (with_reducible refine (spinnakerref03_Reader.calls k a0 t128 _ A3.out).mono ?_); rintro e w' ⟨rfl, ⟨nd, rfl⟩⟩; refine ⟨_, rfl, ?_⟩) | (go_at_call 17; (with_reducible refine (spinnakerref03_Writer.calls k a0 t129 _ A5.out).mono ?_); rintro e w' ⟨rfl, ⟨nd, rfl⟩⟩) | (go_at_call 18; (with_reducible refine (isa_Wide.calls a0 t130 _ A7.out).mono ?_); rintro e w' ⟨rfl, ⟨nd, rfl⟩⟩) | (go_at_call 19; (with_reducible refine (spinnakerref03_Wide.calls a0 t131 _ A8.out).mono ?_); rintro e w' ⟨rfl, ⟨nd, rfl⟩⟩))
        go_ret
        exact ⟨by first | rfl | (simp [errW_none, errW_some] <;> rfl) | (simp [*, errW_none, errW_some] <;> rfl), by repeat (first | (with_reducible first | exact HB.out | apply below_alloc | apply pw_below_drewN | apply below_drew1) | exact HB.out)⟩
    · rw [if_neg c6] at H
      have c6b0 : (t127 == t129) = false := by simpa using c6
      (try (have c6b1 : decide (t127 = t129) = false := by simpa using c6))
      (try (have c6b2 : (t127 == t129) = false := by simpa using c6))
      (try (have c6b3 : ¬ (t127 = t129) := by simpa using c6))
      clear c6
      obtain rfl := Option.some.inj H
      go_enter Tryd.func5, Tryd.ntmps5
      go_wp2_with (first | ((with_reducible refine gate_callee (f := 15) rfl ?_); refine goesL_ (some 7) rfl rfl Tryd.func15 (by kernel_rfl) rfl #[.int .i64 a0] rfl (by (try simp only [List.map_toArray, List.map_cons, List.map_nil]); first | done | rfl | (simp only [List.length_drop, List.length_take]; rfl)) ?_; (with_reducible refine (isa_Access.calls k a0 t126 t127 _ (by first | exact HL.out | exact laid_drewN HL.out | exact laid_below HL.out (by repeat (first | (with_reducible first | exact HB.out | apply below_alloc | apply pw_below_drewN | apply below_drew1) | exact HB.out)) | exact laid_below HL.out HB.out | exact laid_belowd HL.out HB.out) A2.out).mono ?_); rintro e w' ⟨rfl, ⟨nd, rfl⟩⟩; refine ⟨_, rfl, ?_⟩) | ((with_reducible refine gate_callee (f := 16) rfl ?_); refine goesL_ (some 12) rfl rfl Tryd.func16 (by kernel_rfl) rfl #[.int .i64 a0] rfl (by (try simp only [List.map_toArray, List.map_cons, List.map_nil]); first | done | rfl | (simp only [List.length_drop, List.length_take]; rfl)) ?_; (with_reducible refine (spinnakerref03_Reader.calls k a0 t128 _ A3.out).mono ?_); rintro e w' ⟨rfl, ⟨nd, rfl⟩⟩; refine ⟨_, rfl, ?_⟩) | (go_at_call 17; (with_reducible refine (spinnakerref03_Writer.calls k a0 t129 _ A5.out).mono ?_); rintro e w' ⟨rfl, ⟨nd, rfl⟩⟩))
      go_ret
      exact ⟨by first | rfl | (simp [errW_none, errW_some] <;> rfl) | (simp [*, errW_none, errW_some] <;> rfl), by repeat (first | (with_reducible first | exact HB.out | apply below_alloc | apply pw_below_drewN | apply below_drew1) | exact HB.out)⟩
  · rw [if_neg c4] at H
    have c4b0 : (t126 == t128) = false := by simpa using c4
    (try (have c4b1 : decide (t126 = t128) = false := by simpa using c4))
    (try (have c4b2 : (t126 == t128) = false := by simpa using c4))
    (try (have c4b3 : ¬ (t126 = t128) := by simpa using c4))
    clear c4
    obtain rfl := Option.some.inj H
    go_enter Tryd.func5, Tryd.ntmps5
    go_wp2_with (first | ((with_reducible refine gate_callee (f := 15) rfl ?_); refine goesL_ (some 7) rfl rfl Tryd.func15 (by kernel_rfl) rfl #[.int .i64 a0] rfl (by (try simp only [List.map_toArray, List.map_cons, List.map_nil]); first | done | rfl | (simp only [List.length_drop, List.length_take]; rfl)) ?_; (with_reducible refine (isa_Access.calls k a0 t126 t127 _ (by first | exact HL.out | exact laid_drewN HL.out | exact laid_below HL.out (by repeat (first | (with_reducible first | exact HB.out | apply below_alloc | apply pw_below_drewN | apply below_drew1) | exact HB.out)) | exact laid_below HL.out HB.out | exact laid_belowd HL.out HB.out) A2.out).mono ?_); rintro e w' ⟨rfl, ⟨nd, rfl⟩⟩; refine ⟨_, rfl, ?_⟩) | ((with_reducible refine gate_callee (f := 16) rfl ?_); refine goesL_ (some 12) rfl rfl Tryd.func16 (by kernel_rfl) rfl #[.int .i64 a0] rfl (by (try simp only [List.map_toArray, List.map_cons, List.map_nil]); first | done | rfl | (simp only [List.length_drop, List.length_take]; rfl)) ?_; (with_reducible refine (spinnakerref03_Reader.calls k a0 t128 _ A3.out).mono ?_); rintro e w' ⟨rfl, ⟨nd, rfl⟩⟩; refine ⟨_, rfl, ?_⟩))
    go_ret
    exact ⟨by first | rfl | (simp [errW_none, errW_some] <;> rfl) | (simp [*, errW_none, errW_some] <;> rfl), by repeat (first | (with_reducible first | exact HB.out | apply below_alloc | apply pw_below_drewN | apply below_drew1) | exact HB.out)⟩

/-- THE ONE PURE STATEMENT of spinnakerlaw03_IsaKinds: yours. -/
def spinnakerlaw03_IsaKinds.Pure : Prop := ∀ (a0 : Int), (Lit.int .i64 a0).wf = true → ∃ k, spinnakerlaw03_IsaKinds.f k a0 = some true
theorem spinnakerlaw03_IsaKinds.walk (P : spinnakerlaw03_IsaKinds.Pure) (a0 : Int) (w : World) (hL : Laid w) (w0 : (Lit.int .i64 a0).wf = true) :
    Calls Tryd.prog 5 #[.int .i64 a0] w fun e w' => e = .returned (.bool true) ∧ Below w.heap.size w w' := by
  have HL := Aside0.mk hL
  clear hL
  obtain ⟨k, h⟩ := P a0 w0
  refine (spinnakerlaw03_IsaKinds.calls k a0 true w HL.out h).mono ?_
  rintro e w' ⟨rfl, hd⟩
  exact ⟨rfl, hd⟩

end Go.Proofs.YtfjfmkobhbpelaaDoor.GIsaKinds
