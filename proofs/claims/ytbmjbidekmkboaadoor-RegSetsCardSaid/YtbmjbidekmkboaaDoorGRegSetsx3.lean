-- Written by wip/stub.py of this repo.
import Derived.Test.YtbmjbidekmkboaaDoorGRegSetsx0
import Derived.Test.YtbmjbidekmkboaaDoorGRegSetsx1
import Derived.Test.YtbmjbidekmkboaaDoorGRegSetsx2
namespace Go.Proofs.YtbmjbidekmkboaaDoor.GRegSets
open Go.RowKit Go.Proofs.YtbmjbidekmkboaaDoorW.PrintWords Go.Proofs.YtbmjbidekmkboaaDoorW.PrintLast Go.Proofs.YtbmjbidekmkboaaDoorW.PrintMore
attribute [local go_sem] max2_int min2_int max_two min_two max_three min_three max_four min_four   -- for this text's walks alone
set_option linter.unusedVariables false
set_option linter.unusedSimpArgs false

/-! ### spinnakerlaw02_RegSets: function 8 -/
def spinnakerlaw02_RegSets.j0 : Nat → Int → List Int → Int → Bool → Bool → Option (Bool)
  | 0, _, _, _, _, _ => none
  | k + 1, x5, x6, x7, x8, x49 => if x49 = true then (some false) else (if x8 = true then (if 0 < (x6.length : Int) then (if x7 = (rd x6 0) then ((reg_Of.f k x6).bind fun t167 => (if t167 = x5 then ((spinnakerlaw02_awake.f k).bind fun t168 => (some t168)) else (some false))) else (some false)) else (none)) else (if x7 = 0 then ((reg_Of.f k x6).bind fun t169 => (if t169 = x5 then ((spinnakerlaw02_awake.f k).bind fun t170 => (some t170)) else (some false))) else (some false)))
def spinnakerlaw02_RegSets.f (k : Nat) (l0 : List Int) (a1 : Int) : Option (Bool) := if (l0.length : Int) > 100 then ((spinnakerlaw02_awake.f k).bind fun t152 => (some t152)) else ((reg_Of.f k l0).bind fun t153 => ((spinnakerref02_List.f k l0).bind fun t154 => ((reg_Set_First.f t153).bind fun bt157 => ((reg_Set_List.f k t153).bind fun t159 => ((spinnakerref01_Ints.f k t159 t154).bind fun t162 => (if t162 = true then ((reg_Set_Len.f t153).bind fun t163 => (if t163 = (t154.length : Int) then ((reg_Set_Has.f t153 a1).bind fun t164 => ((spinnakerref02_In.f k t154 a1).bind fun t165 => (if (t164 != t165) = true then (spinnakerlaw02_RegSets.j0 k t153 t154 bt157.1 bt157.2 true) else (spinnakerlaw02_RegSets.j0 k t153 t154 bt157.1 bt157.2 (bt157.2 != (decide ((t154.length : Int) > 0))))))) else (spinnakerlaw02_RegSets.j0 k t153 t154 bt157.1 bt157.2 true))) else (spinnakerlaw02_RegSets.j0 k t153 t154 bt157.1 bt157.2 true)))))))
theorem spinnakerlaw02_RegSets.mono_l : ∀ k, (∀ y0 y1 y2 y3 y4, LeO (spinnakerlaw02_RegSets.j0 k y0 y1 y2 y3 y4) (spinnakerlaw02_RegSets.j0 (k + 1) y0 y1 y2 y3 y4))
  | 0 => fun _ _ _ _ _ r h => by simp [spinnakerlaw02_RegSets.j0] at h
  | k + 1 => by
    have ih0 := spinnakerlaw02_RegSets.mono_l k
    · intro y0 y1 y2 y3 y4
      unfold spinnakerlaw02_RegSets.j0
      repeat' first
      | (with_reducible exact ih0 _ _ _ _ _)
      | (with_reducible exact reg_Of.mono _ _)
      | (with_reducible exact reg_Set_List.mono _ _)
      | (with_reducible exact spinnakerlaw02_awake.mono _)
      | (with_reducible exact spinnakerref01_Ints.mono _ _ _)
      | (with_reducible exact spinnakerref02_In.mono _ _ _)
      | (with_reducible exact spinnakerref02_List.mono _ _)
      | (with_reducible exact LeO.refl _)
      | (with_reducible exact LeO.none _)
      | (with_reducible refine LeO.ite ?_ ?_)
      | (with_reducible refine LeO.bind ?_ (fun _ => ?_))
      | exact ih0 _ _ _ _ _
      | exact reg_Of.mono _ _
      | exact reg_Set_List.mono _ _
      | exact spinnakerlaw02_awake.mono _
      | exact spinnakerref01_Ints.mono _ _ _
      | exact spinnakerref02_In.mono _ _ _
      | exact spinnakerref02_List.mono _ _
      | exact LeO.none _
      | refine LeO.ite ?_ ?_
      | refine LeO.bind ?_ (fun _ => ?_)
theorem spinnakerlaw02_RegSets.mono : ∀ a0 a1 k, LeO (spinnakerlaw02_RegSets.f k a0 a1) (spinnakerlaw02_RegSets.f (k + 1) a0 a1) := by
  intro a0 a1 k
  have ih0 := spinnakerlaw02_RegSets.mono_l k
  unfold spinnakerlaw02_RegSets.f
  repeat' first
      | (with_reducible exact ih0 _ _ _ _ _)
      | (with_reducible exact reg_Of.mono _ _)
      | (with_reducible exact reg_Set_List.mono _ _)
      | (with_reducible exact spinnakerlaw02_awake.mono _)
      | (with_reducible exact spinnakerref01_Ints.mono _ _ _)
      | (with_reducible exact spinnakerref02_In.mono _ _ _)
      | (with_reducible exact spinnakerref02_List.mono _ _)
      | (with_reducible exact LeO.refl _)
      | (with_reducible exact LeO.none _)
      | (with_reducible refine LeO.ite ?_ ?_)
      | (with_reducible refine LeO.bind ?_ (fun _ => ?_))
      | exact ih0 _ _ _ _ _
      | exact reg_Of.mono _ _
      | exact reg_Set_List.mono _ _
      | exact spinnakerlaw02_awake.mono _
      | exact spinnakerref01_Ints.mono _ _ _
      | exact spinnakerref02_In.mono _ _ _
      | exact spinnakerref02_List.mono _ _
      | exact LeO.none _
      | refine LeO.ite ?_ ?_
      | refine LeO.bind ?_ (fun _ => ?_)
set_option maxHeartbeats 8000000 in
set_option maxRecDepth 100000 in
theorem spinnakerlaw02_RegSets.calls (k : Nat) (A0 : Option Addr) (c0 : Nat) (l0 : List Int) (a1 : Int) (r : Bool) (w : World) (hL : Laid w) (hr0 : Kd.C (Kd.int .i64) w A0 l0.length l0) (hc0 : l0.length ≤ c0) (h : spinnakerlaw02_RegSets.f k l0 a1 = some r) :
    Calls Tryd.prog 8 #[.slice A0 l0.length c0, .int .i64 a1] w fun e w' => e = .returned (.bool r) ∧ Below w.heap.size w w' := by
  have HL := Aside0.mk hL
  clear hL
  have HR0 := Aside0.mk hr0
  have HC0 := Aside0.mk hc0
  clear hr0 hc0
  have HB := Aside0.mk (Below.refl w.heap.size w)
  have H : (if (l0.length : Int) > 100 then ((spinnakerlaw02_awake.f k).bind fun t152 => (some t152)) else ((reg_Of.f k l0).bind fun t153 => ((spinnakerref02_List.f k l0).bind fun t154 => ((reg_Set_First.f t153).bind fun bt157 => ((reg_Set_List.f k t153).bind fun t159 => ((spinnakerref01_Ints.f k t159 t154).bind fun t162 => (if t162 = true then ((reg_Set_Len.f t153).bind fun t163 => (if t163 = (t154.length : Int) then ((reg_Set_Has.f t153 a1).bind fun t164 => ((spinnakerref02_In.f k t154 a1).bind fun t165 => (if (t164 != t165) = true then (spinnakerlaw02_RegSets.j0 k t153 t154 bt157.1 bt157.2 true) else (spinnakerlaw02_RegSets.j0 k t153 t154 bt157.1 bt157.2 (bt157.2 != (decide ((t154.length : Int) > 0))))))) else (spinnakerlaw02_RegSets.j0 k t153 t154 bt157.1 bt157.2 true))) else (spinnakerlaw02_RegSets.j0 k t153 t154 bt157.1 bt157.2 true)))))))) = some r := h
  clear h
  by_cases c3 : (l0.length : Int) > 100
  · rw [if_pos c3] at H
    have c3b0 : decide (100 < (l0.length : Int)) = true := decide_eq_true c3
    have c3b1 : decide (100 < l0.length) = true := decide_eq_true (by omega)
    clear c3
    replace H := Option.bind_eq_some_iff.mp H
    obtain ⟨t152, A40, H⟩ := H
    replace H : (some t152) = some r := H
    have A4 := Aside0.mk A40
    clear A40
    obtain rfl := Option.some.inj H
    go_enter Tryd.func8, Tryd.ntmps8
    go_wp2_with (first | ((with_reducible refine gate_callee (f := 20) rfl ?_); refine goesL_ (some 12) rfl rfl Tryd.func20 (by kernel_rfl) rfl #[] rfl (by (try simp only [List.map_toArray, List.map_cons, List.map_nil]); first | done | rfl | (simp only [List.length_drop, List.length_take]; rfl)) ?_; (with_reducible refine (spinnakerlaw02_awake.calls k  t152 _ (by first | exact HL.out | exact laid_drewN HL.out | exact laid_below HL.out (by repeat (first | (with_reducible first | exact HB.out | apply below_alloc | apply pw_below_drewN | apply below_drew1) | exact HB.out)) | exact laid_below HL.out HB.out | exact laid_belowd HL.out HB.out) A4.out).mono ?_); rintro e w5 ⟨rfl, hb⟩; refine ⟨_, rfl, ?_⟩; have n0_ := Aside0.mk (below_step (by repeat (first | (with_reducible first | exact HB.out | apply below_alloc | apply pw_below_drewN | apply below_drew1) | exact HB.out)) hb); clear HB; have HB := n0_; clear n0_; (try clear hb); (try clear hb2); (try clear hk); (try clear hi)))
    go_ret
    exact ⟨by first | rfl | (simp [errW_none, errW_some] <;> rfl) | (simp [*, errW_none, errW_some] <;> rfl), by repeat (first | (with_reducible first | exact HB.out | apply below_alloc | apply pw_below_drewN | apply below_drew1) | exact HB.out)⟩
  · rw [if_neg c3] at H
    have c3b0 : decide (100 < (l0.length : Int)) = false := decide_eq_false c3
    have c3b1 : decide (100 < l0.length) = false := decide_eq_false (by omega)
    clear c3
    replace H := Option.bind_eq_some_iff.mp H
    obtain ⟨t153, A60, H⟩ := H
    replace H : ((spinnakerref02_List.f k l0).bind fun t154 => ((reg_Set_First.f t153).bind fun bt157 => ((reg_Set_List.f k t153).bind fun t159 => ((spinnakerref01_Ints.f k t159 t154).bind fun t162 => (if t162 = true then ((reg_Set_Len.f t153).bind fun t163 => (if t163 = (t154.length : Int) then ((reg_Set_Has.f t153 a1).bind fun t164 => ((spinnakerref02_In.f k t154 a1).bind fun t165 => (if (t164 != t165) = true then (spinnakerlaw02_RegSets.j0 k t153 t154 bt157.1 bt157.2 true) else (spinnakerlaw02_RegSets.j0 k t153 t154 bt157.1 bt157.2 (bt157.2 != (decide ((t154.length : Int) > 0))))))) else (spinnakerlaw02_RegSets.j0 k t153 t154 bt157.1 bt157.2 true))) else (spinnakerlaw02_RegSets.j0 k t153 t154 bt157.1 bt157.2 true)))))) = some r := H
    have A6 := Aside0.mk A60
    clear A60
    replace H := Option.bind_eq_some_iff.mp H
    obtain ⟨t154, A70, H⟩ := H
    replace H : ((reg_Set_First.f t153).bind fun bt157 => ((reg_Set_List.f k t153).bind fun t159 => ((spinnakerref01_Ints.f k t159 t154).bind fun t162 => (if t162 = true then ((reg_Set_Len.f t153).bind fun t163 => (if t163 = (t154.length : Int) then ((reg_Set_Has.f t153 a1).bind fun t164 => ((spinnakerref02_In.f k t154 a1).bind fun t165 => (if (t164 != t165) = true then (spinnakerlaw02_RegSets.j0 k t153 t154 bt157.1 bt157.2 true) else (spinnakerlaw02_RegSets.j0 k t153 t154 bt157.1 bt157.2 (bt157.2 != (decide ((t154.length : Int) > 0))))))) else (spinnakerlaw02_RegSets.j0 k t153 t154 bt157.1 bt157.2 true))) else (spinnakerlaw02_RegSets.j0 k t153 t154 bt157.1 bt157.2 true))))) = some r := H
    have A7 := Aside0.mk A70
    clear A70
    replace H := Option.bind_eq_some_iff.mp H
    obtain ⟨⟨t157, t158⟩, A80, H⟩ := H
    replace H : ((reg_Set_List.f k t153).bind fun t159 => ((spinnakerref01_Ints.f k t159 t154).bind fun t162 => (if t162 = true then ((reg_Set_Len.f t153).bind fun t163 => (if t163 = (t154.length : Int) then ((reg_Set_Has.f t153 a1).bind fun t164 => ((spinnakerref02_In.f k t154 a1).bind fun t165 => (if (t164 != t165) = true then (spinnakerlaw02_RegSets.j0 k t153 t154 t157 t158 true) else (spinnakerlaw02_RegSets.j0 k t153 t154 t157 t158 (t158 != (decide ((t154.length : Int) > 0))))))) else (spinnakerlaw02_RegSets.j0 k t153 t154 t157 t158 true))) else (spinnakerlaw02_RegSets.j0 k t153 t154 t157 t158 true)))) = some r := H
    have A8 := Aside0.mk A80
    clear A80
    have HC9 := Aside0.mk H
    clear H
    go_enter Tryd.func8, Tryd.ntmps8
    go_upto_region 6 with (first | ((with_reducible refine gate_callee (f := 27) rfl ?_); refine goesL_ (some 14) rfl rfl Tryd.func27 (by kernel_rfl) rfl #[.slice A0 l0.length c0] rfl (by (try simp only [List.map_toArray, List.map_cons, List.map_nil]); first | done | rfl | (simp only [List.length_drop, List.length_take]; rfl)) ?_; (with_reducible refine (reg_Of.calls k _ _ l0 t153 _ ?side1 ?side2 A6.out).mono ?_); (case side1 => repeat (first | exact HR0.out | (with_reducible refine Kd.C_alloc ?_ _) | (with_reducible refine Kd.C_drewN ?_ _) | (with_reducible refine Kd.C_drew ?_))); (case side2 => exact HC0.out); rintro e w' ⟨rfl, ⟨nd, rfl⟩⟩; refine ⟨_, rfl, ?_⟩) | ((with_reducible refine gate_callee (f := 28) rfl ?_); refine goesL_ (some 16) rfl rfl Tryd.func28 (by kernel_rfl) rfl #[.slice A0 l0.length c0] rfl (by (try simp only [List.map_toArray, List.map_cons, List.map_nil]); first | done | rfl | (simp only [List.length_drop, List.length_take]; rfl)) ?_; (with_reducible refine (spinnakerref02_List.calls k _ _ l0 t154 _ ?side1 ?side2 A7.out).mono ?_); (case side1 => repeat (first | exact HR0.out | (with_reducible refine Kd.C_alloc ?_ _) | (with_reducible refine Kd.C_drewN ?_ _) | (with_reducible refine Kd.C_drew ?_))); (case side2 => exact HC0.out); rintro e w10 ⟨v155, rfl, ho0, hb⟩; refine ⟨_, rfl, ?_⟩; have n0_ := Aside0.mk (Kd.R_lower ho0 (below_size (by repeat (first | (with_reducible first | exact HB.out | apply below_alloc | apply pw_below_drewN | apply below_drew1) | exact HB.out)))); have n1_ := Aside0.mk (below_step (by repeat (first | (with_reducible first | exact HB.out | apply below_alloc | apply pw_below_drewN | apply below_drew1) | exact HB.out)) hb); clear HB; have HO156 := n0_; have HB := n1_; clear n0_ n1_; (try clear hb); (try clear hb2); (try clear hk); (try clear hi); (try clear ho0)) | ((with_reducible refine gate_callee (f := 29) rfl ?_); refine goesL_ (some 19) rfl rfl Tryd.func29 (by kernel_rfl) rfl #[.int .u32 t153] rfl (by (try simp only [List.map_toArray, List.map_cons, List.map_nil]); first | done | rfl | (simp only [List.length_drop, List.length_take]; rfl)) ?_; (with_reducible refine (reg_Set_First.calls t153 t157 t158 _ (by first | exact HL.out | exact laid_drewN HL.out | exact laid_below HL.out (by repeat (first | (with_reducible first | exact HB.out | apply below_alloc | apply pw_below_drewN | apply below_drew1) | exact HB.out)) | exact laid_below HL.out HB.out | exact laid_belowd HL.out HB.out) A8.out).mono ?_); rintro e w' ⟨rfl, ⟨nd, rfl⟩⟩; refine ⟨_, rfl, ?_⟩))
    (try simp only [Act.put, List.setIfInBounds_toArray, List.set_cons_zero, List.set_cons_succ])
    go_cut [49] (fun v49 wc => ∃ (kq : Nat) (x49_8 : Bool), v49 = .bool x49_8 ∧ Aside0 (spinnakerlaw02_RegSets.j0 kq t153 t154 t157 t158 x49_8 = some r) ∧ Aside0 (kq ≤ k) ∧ Aside0 (Kd.R (Kd.int .i64) 3 wc w.heap.size (fun _ => True) v155 t154) ∧ Aside0 (Below w.heap.size w wc))
    case first =>
      have H := HC9.out
      clear HC9
      replace H := Option.bind_eq_some_iff.mp H
      obtain ⟨t159, A110, H⟩ := H
      replace H : ((spinnakerref01_Ints.f k t159 t154).bind fun t162 => (if t162 = true then ((reg_Set_Len.f t153).bind fun t163 => (if t163 = (t154.length : Int) then ((reg_Set_Has.f t153 a1).bind fun t164 => ((spinnakerref02_In.f k t154 a1).bind fun t165 => (if (t164 != t165) = true then (spinnakerlaw02_RegSets.j0 k t153 t154 t157 t158 true) else (spinnakerlaw02_RegSets.j0 k t153 t154 t157 t158 (t158 != (decide ((t154.length : Int) > 0))))))) else (spinnakerlaw02_RegSets.j0 k t153 t154 t157 t158 true))) else (spinnakerlaw02_RegSets.j0 k t153 t154 t157 t158 true))) = some r := H
      have A11 := Aside0.mk A110
      clear A110
      replace H := Option.bind_eq_some_iff.mp H
      obtain ⟨t162, A120, H⟩ := H
      replace H : (if t162 = true then ((reg_Set_Len.f t153).bind fun t163 => (if t163 = (t154.length : Int) then ((reg_Set_Has.f t153 a1).bind fun t164 => ((spinnakerref02_In.f k t154 a1).bind fun t165 => (if (t164 != t165) = true then (spinnakerlaw02_RegSets.j0 k t153 t154 t157 t158 true) else (spinnakerlaw02_RegSets.j0 k t153 t154 t157 t158 (t158 != (decide ((t154.length : Int) > 0))))))) else (spinnakerlaw02_RegSets.j0 k t153 t154 t157 t158 true))) else (spinnakerlaw02_RegSets.j0 k t153 t154 t157 t158 true)) = some r := H
      have A12 := Aside0.mk A120
      clear A120
      by_cases c13 : t162 = true
      · subst c13
        have H1 : ((reg_Set_Len.f t153).bind fun t163 => (if t163 = (t154.length : Int) then ((reg_Set_Has.f t153 a1).bind fun t164 => ((spinnakerref02_In.f k t154 a1).bind fun t165 => (if (t164 != t165) = true then (spinnakerlaw02_RegSets.j0 k t153 t154 t157 t158 true) else (spinnakerlaw02_RegSets.j0 k t153 t154 t157 t158 (t158 != (decide ((t154.length : Int) > 0))))))) else (spinnakerlaw02_RegSets.j0 k t153 t154 t157 t158 true))) = some r := by rw [if_pos rfl] at H; exact H
        clear H
        have H := H1
        clear H1
        replace H := Option.bind_eq_some_iff.mp H
        obtain ⟨t163, A140, H⟩ := H
        replace H : (if t163 = (t154.length : Int) then ((reg_Set_Has.f t153 a1).bind fun t164 => ((spinnakerref02_In.f k t154 a1).bind fun t165 => (if (t164 != t165) = true then (spinnakerlaw02_RegSets.j0 k t153 t154 t157 t158 true) else (spinnakerlaw02_RegSets.j0 k t153 t154 t157 t158 (t158 != (decide ((t154.length : Int) > 0))))))) else (spinnakerlaw02_RegSets.j0 k t153 t154 t157 t158 true)) = some r := H
        have A14 := Aside0.mk A140
        clear A140
        by_cases c15 : t163 = (t154.length : Int)
        · rw [if_pos c15] at H
          have c15b0 : (t163 == (t154.length : Int)) = true := beq_iff_eq.mpr c15
          have c15b1 : (t163 != (t154.length : Int)) = false := bne_eq_false_iff_eq.mpr c15
          clear c15
          (first | rw [c15b0] | (simp only [i64_w, i32_w]; rw [c15b0]) | skip)
          replace H := Option.bind_eq_some_iff.mp H
          obtain ⟨t164, A160, H⟩ := H
          replace H : ((spinnakerref02_In.f k t154 a1).bind fun t165 => (if (t164 != t165) = true then (spinnakerlaw02_RegSets.j0 k t153 t154 t157 t158 true) else (spinnakerlaw02_RegSets.j0 k t153 t154 t157 t158 (t158 != (decide ((t154.length : Int) > 0)))))) = some r := H
          have A16 := Aside0.mk A160
          clear A160
          replace H := Option.bind_eq_some_iff.mp H
          obtain ⟨t165, A170, H⟩ := H
          replace H : (if (t164 != t165) = true then (spinnakerlaw02_RegSets.j0 k t153 t154 t157 t158 true) else (spinnakerlaw02_RegSets.j0 k t153 t154 t157 t158 (t158 != (decide ((t154.length : Int) > 0))))) = some r := H
          have A17 := Aside0.mk A170
          clear A170
          by_cases c18 : (t164 != t165) = true
          · rw [if_pos c18] at H
            have c18b0 : (t164 != t165) = true := c18
            (try (have c18b1 : decide (t164 = t165) = false := by simpa using c18))
            (try (have c18b2 : (t164 == t165) = false := by simpa using c18))
            (try (have c18b3 : ¬ (t164 = t165) := by simpa using c18))
            clear c18
            have H' := Aside0.mk H
            clear H
            go_wp2_with (first | ((with_reducible refine gate_callee (f := 31) rfl ?_); refine goesL_ (some 23) rfl rfl Tryd.func31 (by kernel_rfl) rfl #[.int .u32 t153] rfl (by (try simp only [List.map_toArray, List.map_cons, List.map_nil]); first | done | rfl | (simp only [List.length_drop, List.length_take]; rfl)) ?_; (with_reducible refine (reg_Set_List.calls k t153 t159 _ (by first | exact HL.out | exact laid_drewN HL.out | exact laid_below HL.out (by repeat (first | (with_reducible first | exact HB.out | apply below_alloc | apply pw_below_drewN | apply below_drew1) | exact HB.out)) | exact laid_below HL.out HB.out | exact laid_belowd HL.out HB.out) A11.out).mono ?_); rintro e w19 ⟨v160, rfl, ho0, hb⟩; refine ⟨_, rfl, ?_⟩; have n0_ := Aside0.mk (Kd.R_elder' (by (with_reducible repeat (first | apply Kd.R_alloc | apply Kd.R_drewN | apply Kd.R_drew)); exact HO156.out) (Kd.R_base ho0) hb); have n1_ := Aside0.mk (Kd.R_lower (Kd.R_new' ho0 (Kd.R_lt (by (with_reducible repeat (first | apply Kd.R_alloc | apply Kd.R_drewN | apply Kd.R_drew)); exact HO156.out))) (below_size (by repeat (first | (with_reducible first | exact HB.out | apply below_alloc | apply pw_below_drewN | apply below_drew1) | exact HB.out)))); have n2_ := Aside0.mk (below_step (by repeat (first | (with_reducible first | exact HB.out | apply below_alloc | apply pw_below_drewN | apply below_drew1) | exact HB.out)) hb); clear HO156; clear HB; have HO156 := n0_; have HO161 := n1_; have HB := n2_; clear n0_ n1_ n2_; (try clear hb); (try clear hb2); (try clear hk); (try clear hi); (try clear ho0); obtain ⟨Ao20, co20, eo20⟩ := Kd.R_slice HO161.out; subst eo20; obtain ⟨Ao21, co21, eo21⟩ := Kd.R_slice HO156.out; subst eo21) | ((with_reducible refine gate_callee (f := 30) rfl ?_); refine goesL_ (some 25) rfl rfl Tryd.func30 (by kernel_rfl) rfl #[.slice Ao20 t159.length co20, .slice Ao21 t154.length co21] rfl (by (try simp only [List.map_toArray, List.map_cons, List.map_nil]); first | done | rfl | (simp only [List.length_drop, List.length_take]; rfl)) ?_; (with_reducible refine (spinnakerref01_Ints.calls k _ _ t159 _ _ t154 true _ ?side1 ?side2 ?side3 ?side4 A12.out).mono ?_); (case side1 => repeat (first | exact (Kd.R_reads' HO161.out).2.2 | (with_reducible refine Kd.C_alloc ?_ _) | (with_reducible refine Kd.C_drewN ?_ _) | (with_reducible refine Kd.C_drew ?_))); (case side2 => exact (Kd.R_reads' HO161.out).2.1); (case side3 => repeat (first | exact (Kd.R_reads' HO156.out).2.2 | (with_reducible refine Kd.C_alloc ?_ _) | (with_reducible refine Kd.C_drewN ?_ _) | (with_reducible refine Kd.C_drew ?_))); (case side4 => exact (Kd.R_reads' HO156.out).2.1); rintro e w' ⟨rfl, ⟨nd, rfl⟩⟩; refine ⟨_, rfl, ?_⟩) | (go_at_call 32; (with_reducible refine (reg_Set_Len.calls t153 t163 _ A14.out).mono ?_); rintro e w' ⟨rfl, ⟨nd, rfl⟩⟩) | (go_at_call 33; (with_reducible refine (reg_Set_Has.calls t153 a1 t164 _ A16.out).mono ?_); rintro e w' ⟨rfl, ⟨nd, rfl⟩⟩) | (go_at_call 34; (with_reducible refine (spinnakerref02_In.calls k _ _ t154 a1 t165 _ ?side1 ?side2 A17.out).mono ?_); (case side1 => repeat (first | exact (Kd.R_reads' HO156.out).2.2 | (with_reducible refine Kd.C_alloc ?_ _) | (with_reducible refine Kd.C_drewN ?_ _) | (with_reducible refine Kd.C_drew ?_))); (case side2 => exact (Kd.R_reads' HO156.out).2.1); rintro e w' ⟨rfl, ⟨nd, rfl⟩⟩))
            go_meet
            case rel => exact ⟨_, (true), (by first | rfl | (simp; done) | (simp [*]; done)), H', ⟨by first | omega | exact Nat.le_refl _⟩, ⟨by (with_reducible repeat (first | apply Kd.R_alloc | apply Kd.R_drewN | apply Kd.R_drew)); exact Kd.R_mono HO156.out (fun _ hk => trivial)⟩, ⟨by repeat (first | (with_reducible first | exact HB.out | apply below_alloc | apply pw_below_drewN | apply below_drew1) | exact HB.out)⟩⟩
          · rw [if_neg c18] at H
            have c18b0 : (t164 != t165) = false := by simpa using c18
            (try (have c18b1 : decide (t164 = t165) = true := by simpa using c18))
            (try (have c18b2 : (t164 == t165) = true := by simpa using c18))
            clear c18
            have H' := Aside0.mk H
            clear H
            go_wp2_with (first | ((with_reducible refine gate_callee (f := 31) rfl ?_); refine goesL_ (some 23) rfl rfl Tryd.func31 (by kernel_rfl) rfl #[.int .u32 t153] rfl (by (try simp only [List.map_toArray, List.map_cons, List.map_nil]); first | done | rfl | (simp only [List.length_drop, List.length_take]; rfl)) ?_; (with_reducible refine (reg_Set_List.calls k t153 t159 _ (by first | exact HL.out | exact laid_drewN HL.out | exact laid_below HL.out (by repeat (first | (with_reducible first | exact HB.out | apply below_alloc | apply pw_below_drewN | apply below_drew1) | exact HB.out)) | exact laid_below HL.out HB.out | exact laid_belowd HL.out HB.out) A11.out).mono ?_); rintro e w22 ⟨v160, rfl, ho0, hb⟩; refine ⟨_, rfl, ?_⟩; have n0_ := Aside0.mk (Kd.R_elder' (by (with_reducible repeat (first | apply Kd.R_alloc | apply Kd.R_drewN | apply Kd.R_drew)); exact HO156.out) (Kd.R_base ho0) hb); have n1_ := Aside0.mk (Kd.R_lower (Kd.R_new' ho0 (Kd.R_lt (by (with_reducible repeat (first | apply Kd.R_alloc | apply Kd.R_drewN | apply Kd.R_drew)); exact HO156.out))) (below_size (by repeat (first | (with_reducible first | exact HB.out | apply below_alloc | apply pw_below_drewN | apply below_drew1) | exact HB.out)))); have n2_ := Aside0.mk (below_step (by repeat (first | (with_reducible first | exact HB.out | apply below_alloc | apply pw_below_drewN | apply below_drew1) | exact HB.out)) hb); clear HO156; clear HB; have HO156 := n0_; have HO161 := n1_; have HB := n2_; clear n0_ n1_ n2_; (try clear hb); (try clear hb2); (try clear hk); (try clear hi); (try clear ho0); obtain ⟨Ao23, co23, eo23⟩ := Kd.R_slice HO161.out; subst eo23; obtain ⟨Ao24, co24, eo24⟩ := Kd.R_slice HO156.out; subst eo24) | ((with_reducible refine gate_callee (f := 30) rfl ?_); refine goesL_ (some 25) rfl rfl Tryd.func30 (by kernel_rfl) rfl #[.slice Ao23 t159.length co23, .slice Ao24 t154.length co24] rfl (by (try simp only [List.map_toArray, List.map_cons, List.map_nil]); first | done | rfl | (simp only [List.length_drop, List.length_take]; rfl)) ?_; (with_reducible refine (spinnakerref01_Ints.calls k _ _ t159 _ _ t154 true _ ?side1 ?side2 ?side3 ?side4 A12.out).mono ?_); (case side1 => repeat (first | exact (Kd.R_reads' HO161.out).2.2 | (with_reducible refine Kd.C_alloc ?_ _) | (with_reducible refine Kd.C_drewN ?_ _) | (with_reducible refine Kd.C_drew ?_))); (case side2 => exact (Kd.R_reads' HO161.out).2.1); (case side3 => repeat (first | exact (Kd.R_reads' HO156.out).2.2 | (with_reducible refine Kd.C_alloc ?_ _) | (with_reducible refine Kd.C_drewN ?_ _) | (with_reducible refine Kd.C_drew ?_))); (case side4 => exact (Kd.R_reads' HO156.out).2.1); rintro e w' ⟨rfl, ⟨nd, rfl⟩⟩; refine ⟨_, rfl, ?_⟩) | (go_at_call 32; (with_reducible refine (reg_Set_Len.calls t153 t163 _ A14.out).mono ?_); rintro e w' ⟨rfl, ⟨nd, rfl⟩⟩) | (go_at_call 33; (with_reducible refine (reg_Set_Has.calls t153 a1 t164 _ A16.out).mono ?_); rintro e w' ⟨rfl, ⟨nd, rfl⟩⟩) | (go_at_call 34; (with_reducible refine (spinnakerref02_In.calls k _ _ t154 a1 t165 _ ?side1 ?side2 A17.out).mono ?_); (case side1 => repeat (first | exact (Kd.R_reads' HO156.out).2.2 | (with_reducible refine Kd.C_alloc ?_ _) | (with_reducible refine Kd.C_drewN ?_ _) | (with_reducible refine Kd.C_drew ?_))); (case side2 => exact (Kd.R_reads' HO156.out).2.1); rintro e w' ⟨rfl, ⟨nd, rfl⟩⟩))
            go_meet
            case rel => exact ⟨_, ((t158 != (decide ((t154.length : Int) > 0)))), (by first | rfl | (simp; done) | (simp [*]; done) | (cases t158 <;> simp; done) | (cases t158 <;> cases hdx : decide ((t154.length : Int) > 0) <;> simp_all; done)), H', ⟨by first | omega | exact Nat.le_refl _⟩, ⟨by (with_reducible repeat (first | apply Kd.R_alloc | apply Kd.R_drewN | apply Kd.R_drew)); exact Kd.R_mono HO156.out (fun _ hk => trivial)⟩, ⟨by repeat (first | (with_reducible first | exact HB.out | apply below_alloc | apply pw_below_drewN | apply below_drew1) | exact HB.out)⟩⟩
        · rw [if_neg c15] at H
          have c15b0 : (t163 == (t154.length : Int)) = false := beq_eq_false_iff_ne.mpr c15
          have c15b1 : (t163 != (t154.length : Int)) = true := bne_iff_ne.mpr c15
          (first | rw [c15b0] | (simp only [i64_w, i32_w]; rw [c15b0]) | skip)
          have H' := Aside0.mk H
          clear H
          go_wp2_with (first | ((with_reducible refine gate_callee (f := 31) rfl ?_); refine goesL_ (some 23) rfl rfl Tryd.func31 (by kernel_rfl) rfl #[.int .u32 t153] rfl (by (try simp only [List.map_toArray, List.map_cons, List.map_nil]); first | done | rfl | (simp only [List.length_drop, List.length_take]; rfl)) ?_; (with_reducible refine (reg_Set_List.calls k t153 t159 _ (by first | exact HL.out | exact laid_drewN HL.out | exact laid_below HL.out (by repeat (first | (with_reducible first | exact HB.out | apply below_alloc | apply pw_below_drewN | apply below_drew1) | exact HB.out)) | exact laid_below HL.out HB.out | exact laid_belowd HL.out HB.out) A11.out).mono ?_); rintro e w25 ⟨v160, rfl, ho0, hb⟩; refine ⟨_, rfl, ?_⟩; have n0_ := Aside0.mk (Kd.R_elder' (by (with_reducible repeat (first | apply Kd.R_alloc | apply Kd.R_drewN | apply Kd.R_drew)); exact HO156.out) (Kd.R_base ho0) hb); have n1_ := Aside0.mk (Kd.R_lower (Kd.R_new' ho0 (Kd.R_lt (by (with_reducible repeat (first | apply Kd.R_alloc | apply Kd.R_drewN | apply Kd.R_drew)); exact HO156.out))) (below_size (by repeat (first | (with_reducible first | exact HB.out | apply below_alloc | apply pw_below_drewN | apply below_drew1) | exact HB.out)))); have n2_ := Aside0.mk (below_step (by repeat (first | (with_reducible first | exact HB.out | apply below_alloc | apply pw_below_drewN | apply below_drew1) | exact HB.out)) hb); clear HO156; clear HB; have HO156 := n0_; have HO161 := n1_; have HB := n2_; clear n0_ n1_ n2_; (try clear hb); (try clear hb2); (try clear hk); (try clear hi); (try clear ho0); obtain ⟨Ao26, co26, eo26⟩ := Kd.R_slice HO161.out; subst eo26; obtain ⟨Ao27, co27, eo27⟩ := Kd.R_slice HO156.out; subst eo27) | ((with_reducible refine gate_callee (f := 30) rfl ?_); refine goesL_ (some 25) rfl rfl Tryd.func30 (by kernel_rfl) rfl #[.slice Ao26 t159.length co26, .slice Ao27 t154.length co27] rfl (by (try simp only [List.map_toArray, List.map_cons, List.map_nil]); first | done | rfl | (simp only [List.length_drop, List.length_take]; rfl)) ?_; (with_reducible refine (spinnakerref01_Ints.calls k _ _ t159 _ _ t154 true _ ?side1 ?side2 ?side3 ?side4 A12.out).mono ?_); (case side1 => repeat (first | exact (Kd.R_reads' HO161.out).2.2 | (with_reducible refine Kd.C_alloc ?_ _) | (with_reducible refine Kd.C_drewN ?_ _) | (with_reducible refine Kd.C_drew ?_))); (case side2 => exact (Kd.R_reads' HO161.out).2.1); (case side3 => repeat (first | exact (Kd.R_reads' HO156.out).2.2 | (with_reducible refine Kd.C_alloc ?_ _) | (with_reducible refine Kd.C_drewN ?_ _) | (with_reducible refine Kd.C_drew ?_))); (case side4 => exact (Kd.R_reads' HO156.out).2.1); rintro e w' ⟨rfl, ⟨nd, rfl⟩⟩; refine ⟨_, rfl, ?_⟩) | (go_at_call 32; (with_reducible refine (reg_Set_Len.calls t153 t163 _ A14.out).mono ?_); rintro e w' ⟨rfl, ⟨nd, rfl⟩⟩))
          go_meet
          case rel => exact ⟨_, (true), (by first | rfl | (simp; done) | (simp [*]; done)), H', ⟨by first | omega | exact Nat.le_refl _⟩, ⟨by (with_reducible repeat (first | apply Kd.R_alloc | apply Kd.R_drewN | apply Kd.R_drew)); exact Kd.R_mono HO156.out (fun _ hk => trivial)⟩, ⟨by repeat (first | (with_reducible first | exact HB.out | apply below_alloc | apply pw_below_drewN | apply below_drew1) | exact HB.out)⟩⟩
      · replace c13 := Bool.eq_false_iff.mpr c13
        subst c13
        have H1 : (spinnakerlaw02_RegSets.j0 k t153 t154 t157 t158 true) = some r := by rw [if_neg (show ¬ (false = true) by decide)] at H; exact H
        clear H
        have H := H1
        clear H1
        have H' := Aside0.mk H
        clear H
        go_wp2_with (first | ((with_reducible refine gate_callee (f := 31) rfl ?_); refine goesL_ (some 23) rfl rfl Tryd.func31 (by kernel_rfl) rfl #[.int .u32 t153] rfl (by (try simp only [List.map_toArray, List.map_cons, List.map_nil]); first | done | rfl | (simp only [List.length_drop, List.length_take]; rfl)) ?_; (with_reducible refine (reg_Set_List.calls k t153 t159 _ (by first | exact HL.out | exact laid_drewN HL.out | exact laid_below HL.out (by repeat (first | (with_reducible first | exact HB.out | apply below_alloc | apply pw_below_drewN | apply below_drew1) | exact HB.out)) | exact laid_below HL.out HB.out | exact laid_belowd HL.out HB.out) A11.out).mono ?_); rintro e w28 ⟨v160, rfl, ho0, hb⟩; refine ⟨_, rfl, ?_⟩; have n0_ := Aside0.mk (Kd.R_elder' (by (with_reducible repeat (first | apply Kd.R_alloc | apply Kd.R_drewN | apply Kd.R_drew)); exact HO156.out) (Kd.R_base ho0) hb); have n1_ := Aside0.mk (Kd.R_lower (Kd.R_new' ho0 (Kd.R_lt (by (with_reducible repeat (first | apply Kd.R_alloc | apply Kd.R_drewN | apply Kd.R_drew)); exact HO156.out))) (below_size (by repeat (first | (with_reducible first | exact HB.out | apply below_alloc | apply pw_below_drewN | apply below_drew1) | exact HB.out)))); have n2_ := Aside0.mk (below_step (by repeat (first | (with_reducible first | exact HB.out | apply below_alloc | apply pw_below_drewN | apply below_drew1) | exact HB.out)) hb); clear HO156; clear HB; have HO156 := n0_; have HO161 := n1_; have HB := n2_; clear n0_ n1_ n2_; (try clear hb); (try clear hb2); (try clear hk); (try clear hi); (try clear ho0); obtain ⟨Ao29, co29, eo29⟩ := Kd.R_slice HO161.out; subst eo29; obtain ⟨Ao30, co30, eo30⟩ := Kd.R_slice HO156.out; subst eo30) | ((with_reducible refine gate_callee (f := 30) rfl ?_); refine goesL_ (some 25) rfl rfl Tryd.func30 (by kernel_rfl) rfl #[.slice Ao29 t159.length co29, .slice Ao30 t154.length co30] rfl (by (try simp only [List.map_toArray, List.map_cons, List.map_nil]); first | done | rfl | (simp only [List.length_drop, List.length_take]; rfl)) ?_; (with_reducible refine (spinnakerref01_Ints.calls k _ _ t159 _ _ t154 false _ ?side1 ?side2 ?side3 ?side4 A12.out).mono ?_); (case side1 => repeat (first | exact (Kd.R_reads' HO161.out).2.2 | (with_reducible refine Kd.C_alloc ?_ _) | (with_reducible refine Kd.C_drewN ?_ _) | (with_reducible refine Kd.C_drew ?_))); (case side2 => exact (Kd.R_reads' HO161.out).2.1); (case side3 => repeat (first | exact (Kd.R_reads' HO156.out).2.2 | (with_reducible refine Kd.C_alloc ?_ _) | (with_reducible refine Kd.C_drewN ?_ _) | (with_reducible refine Kd.C_drew ?_))); (case side4 => exact (Kd.R_reads' HO156.out).2.1); rintro e w' ⟨rfl, ⟨nd, rfl⟩⟩; refine ⟨_, rfl, ?_⟩))
        go_meet
        case rel => exact ⟨_, (true), (by first | rfl | (simp; done) | (simp [*]; done)), H', ⟨by first | omega | exact Nat.le_refl _⟩, ⟨by (with_reducible repeat (first | apply Kd.R_alloc | apply Kd.R_drewN | apply Kd.R_drew)); exact Kd.R_mono HO156.out (fun _ hk => trivial)⟩, ⟨by repeat (first | (with_reducible first | exact HB.out | apply below_alloc | apply pw_below_drewN | apply below_drew1) | exact HB.out)⟩⟩
    case rest =>
      clear HC9
      try clear c1
      try clear c2
      try clear p2
      try clear c3
      try clear c3b0
      try clear c3b1
      try clear c8
      try clear c13
      try clear c15
      try clear c15b0
      try clear c15b1
      try clear c18
      try clear c18b0
      try clear c18b1
      try clear c18b2
      try clear c20
      try clear c27
      try clear c28
      try clear c29
      try clear c30
      obtain ⟨kq, x49_8, rfl, HA, HJ8, HO_6, HB⟩ := hcut
      cases kq with
      | zero => exact absurd HA.out (by simp [spinnakerlaw02_RegSets.j0])
      | succ kj8 =>
        have H := HA.out
        clear HA
        simp only [spinnakerlaw02_RegSets.j0] at H
        by_cases c31 : x49_8 = true
        · subst c31
          have H1 : (some false) = some r := by rw [if_pos rfl] at H; exact H
          clear H
          have H := H1
          clear H1
          obtain rfl := Option.some.inj H
          go_wp2
          go_ret
          exact ⟨by first | rfl | (simp [errW_none, errW_some] <;> rfl) | (simp [*, errW_none, errW_some] <;> rfl), by repeat (first | (with_reducible first | exact HB.out | apply below_alloc | apply pw_below_drewN | apply below_drew1) | exact HB.out)⟩
        · replace c31 := Bool.eq_false_iff.mpr c31
          subst c31
          have H1 : (if t158 = true then (if 0 < (t154.length : Int) then (if t157 = (rd t154 0) then ((reg_Of.f kj8 t154).bind fun t167 => (if t167 = t153 then ((spinnakerlaw02_awake.f kj8).bind fun t168 => (some t168)) else (some false))) else (some false)) else (none)) else (if t157 = 0 then ((reg_Of.f kj8 t154).bind fun t169 => (if t169 = t153 then ((spinnakerlaw02_awake.f kj8).bind fun t170 => (some t170)) else (some false))) else (some false))) = some r := by rw [if_neg (show ¬ (false = true) by decide)] at H; exact H
          clear H
          have H := H1
          clear H1
          by_cases c32 : t158 = true
          · subst c32
            have H1 : (if 0 < (t154.length : Int) then (if t157 = (rd t154 0) then ((reg_Of.f kj8 t154).bind fun t167 => (if t167 = t153 then ((spinnakerlaw02_awake.f kj8).bind fun t168 => (some t168)) else (some false))) else (some false)) else (none)) = some r := by rw [if_pos rfl] at H; exact H
            clear H
            have H := H1
            clear H1
            by_cases c33 : 0 < (t154.length : Int)
            · rw [if_pos c33] at H
              have c33b0 : decide (0 < (t154.length : Int)) = true := decide_eq_true c33
              have c33b1 : decide (0 < t154.length) = true := decide_eq_true (by omega)
              clear c33
              by_cases c34 : t157 = (rd t154 0)
              · rw [if_pos c34] at H
                have c34b0 : (t157 == (rd t154 0)) = true := beq_iff_eq.mpr c34
                have c34b1 : (t157 != (rd t154 0)) = false := bne_eq_false_iff_eq.mpr c34
                clear c34
                replace H := Option.bind_eq_some_iff.mp H
                obtain ⟨t167, A350, H⟩ := H
                replace H : (if t167 = t153 then ((spinnakerlaw02_awake.f kj8).bind fun t168 => (some t168)) else (some false)) = some r := H
                have A35 := Aside0.mk A350
                clear A350
                by_cases c36 : t167 = t153
                · rw [if_pos c36] at H
                  have c36b0 : (t167 == t153) = true := beq_iff_eq.mpr c36
                  have c36b1 : (t167 != t153) = false := bne_eq_false_iff_eq.mpr c36
                  clear c36
                  replace H := Option.bind_eq_some_iff.mp H
                  obtain ⟨t168, A370, H⟩ := H
                  replace H : (some t168) = some r := H
                  have A37 := Aside0.mk A370
                  clear A370
                  obtain rfl := Option.some.inj H
                  obtain ⟨Ao38, co38, eo38⟩ := Kd.R_slice HO_6.out
                  subst eo38
                  have p166 : 0 ≤ (0 : Int) := (by omega)
                  have q166 : 0 < (t154.length : Int) := of_decide_eq_true (by first | (with_reducible assumption) | assumption)
                  obtain ⟨ad166, e166, hx166_0⟩ := Kd.at_int (Kd.R_reads' HO_6.out).2.2 0 p166 q166
                  cases e166
                  have qi166 : (0 < t154.length) = True := eq_true (by omega)
                  (try rw [show ((0 : Int)).toNat = 0 from rfl] at hx166_0)
                  (try rw [Addr.add_zero'] at hx166_0)
                  replace p166 := eq_true p166
                  replace q166 := eq_true q166
                  go_wp2_with (first | (go_at_call 27; (with_reducible refine (reg_Of.calls kj8 _ _ t154 t167 _ ?side1 ?side2 A35.out).mono ?_); (case side1 => repeat (first | exact (Kd.R_reads' HO_6.out).2.2 | (with_reducible refine Kd.C_alloc ?_ _) | (with_reducible refine Kd.C_drewN ?_ _) | (with_reducible refine Kd.C_drew ?_))); (case side2 => exact (Kd.R_reads' HO_6.out).2.1); rintro e w' ⟨rfl, ⟨nd, rfl⟩⟩) | (go_at_call 20; (with_reducible refine (spinnakerlaw02_awake.calls kj8  t168 _ (by first | exact HL.out | exact laid_drewN HL.out | exact laid_below HL.out (by repeat (first | (with_reducible first | exact HB.out | apply below_alloc | apply pw_below_drewN | apply below_drew1) | exact HB.out)) | exact laid_below HL.out HB.out | exact laid_belowd HL.out HB.out) A37.out).mono ?_); rintro e w39 ⟨rfl, hb⟩; have n0_ := Aside0.mk (Kd.R_below (by (with_reducible repeat (first | apply Kd.R_alloc | apply Kd.R_drewN | apply Kd.R_drew)); exact HO_6.out) hb); have n1_ := Aside0.mk (below_step (by repeat (first | (with_reducible first | exact HB.out | apply below_alloc | apply pw_below_drewN | apply below_drew1) | exact HB.out)) hb); clear HO_6; clear HB; have HO_6 := n0_; have HB := n1_; clear n0_ n1_; (try clear hb); (try clear hb2); (try clear hk); (try clear hi)))
                  go_ret
                  exact ⟨by first | rfl | (simp [errW_none, errW_some] <;> rfl) | (simp [*, errW_none, errW_some] <;> rfl), by repeat (first | (with_reducible first | exact HB.out | apply below_alloc | apply pw_below_drewN | apply below_drew1) | exact HB.out)⟩
                · rw [if_neg c36] at H
                  have c36b0 : (t167 == t153) = false := beq_eq_false_iff_ne.mpr c36
                  have c36b1 : (t167 != t153) = true := bne_iff_ne.mpr c36
                  obtain rfl := Option.some.inj H
                  obtain ⟨Ao40, co40, eo40⟩ := Kd.R_slice HO_6.out
                  subst eo40
                  have p166 : 0 ≤ (0 : Int) := (by omega)
                  have q166 : 0 < (t154.length : Int) := of_decide_eq_true (by first | (with_reducible assumption) | assumption)
                  obtain ⟨ad166, e166, hx166_0⟩ := Kd.at_int (Kd.R_reads' HO_6.out).2.2 0 p166 q166
                  cases e166
                  have qi166 : (0 < t154.length) = True := eq_true (by omega)
                  (try rw [show ((0 : Int)).toNat = 0 from rfl] at hx166_0)
                  (try rw [Addr.add_zero'] at hx166_0)
                  replace p166 := eq_true p166
                  replace q166 := eq_true q166
                  go_wp2_with (first | (go_at_call 27; (with_reducible refine (reg_Of.calls kj8 _ _ t154 t167 _ ?side1 ?side2 A35.out).mono ?_); (case side1 => repeat (first | exact (Kd.R_reads' HO_6.out).2.2 | (with_reducible refine Kd.C_alloc ?_ _) | (with_reducible refine Kd.C_drewN ?_ _) | (with_reducible refine Kd.C_drew ?_))); (case side2 => exact (Kd.R_reads' HO_6.out).2.1); rintro e w' ⟨rfl, ⟨nd, rfl⟩⟩))
                  go_ret
                  exact ⟨by first | rfl | (simp [errW_none, errW_some] <;> rfl) | (simp [*, errW_none, errW_some] <;> rfl), by repeat (first | (with_reducible first | exact HB.out | apply below_alloc | apply pw_below_drewN | apply below_drew1) | exact HB.out)⟩
              · rw [if_neg c34] at H
                have c34b0 : (t157 == (rd t154 0)) = false := beq_eq_false_iff_ne.mpr c34
                have c34b1 : (t157 != (rd t154 0)) = true := bne_iff_ne.mpr c34
                obtain rfl := Option.some.inj H
                obtain ⟨Ao41, co41, eo41⟩ := Kd.R_slice HO_6.out
                subst eo41
                have p166 : 0 ≤ (0 : Int) := (by omega)
                have q166 : 0 < (t154.length : Int) := of_decide_eq_true (by first | (with_reducible assumption) | assumption)
                obtain ⟨ad166, e166, hx166_0⟩ := Kd.at_int (Kd.R_reads' HO_6.out).2.2 0 p166 q166
                cases e166
                have qi166 : (0 < t154.length) = True := eq_true (by omega)
                (try rw [show ((0 : Int)).toNat = 0 from rfl] at hx166_0)
                (try rw [Addr.add_zero'] at hx166_0)
                replace p166 := eq_true p166
                replace q166 := eq_true q166
                go_wp2
                go_ret
                exact ⟨by first | rfl | (simp [errW_none, errW_some] <;> rfl) | (simp [*, errW_none, errW_some] <;> rfl), by repeat (first | (with_reducible first | exact HB.out | apply below_alloc | apply pw_below_drewN | apply below_drew1) | exact HB.out)⟩
            · rw [if_neg c33] at H
              exact absurd H (by simp)
          · replace c32 := Bool.eq_false_iff.mpr c32
            subst c32
            have H1 : (if t157 = 0 then ((reg_Of.f kj8 t154).bind fun t169 => (if t169 = t153 then ((spinnakerlaw02_awake.f kj8).bind fun t170 => (some t170)) else (some false))) else (some false)) = some r := by rw [if_neg (show ¬ (false = true) by decide)] at H; exact H
            clear H
            have H := H1
            clear H1
            by_cases c42 : t157 = 0
            · rw [if_pos c42] at H
              have c42b0 : (t157 == 0) = true := beq_iff_eq.mpr c42
              have c42b1 : (t157 != 0) = false := bne_eq_false_iff_eq.mpr c42
              clear c42
              replace H := Option.bind_eq_some_iff.mp H
              obtain ⟨t169, A430, H⟩ := H
              replace H : (if t169 = t153 then ((spinnakerlaw02_awake.f kj8).bind fun t170 => (some t170)) else (some false)) = some r := H
              have A43 := Aside0.mk A430
              clear A430
              by_cases c44 : t169 = t153
              · rw [if_pos c44] at H
                have c44b0 : (t169 == t153) = true := beq_iff_eq.mpr c44
                have c44b1 : (t169 != t153) = false := bne_eq_false_iff_eq.mpr c44
                clear c44
                replace H := Option.bind_eq_some_iff.mp H
                obtain ⟨t170, A450, H⟩ := H
                replace H : (some t170) = some r := H
                have A45 := Aside0.mk A450
                clear A450
                obtain rfl := Option.some.inj H
                obtain ⟨Ao46, co46, eo46⟩ := Kd.R_slice HO_6.out
                subst eo46
                go_wp2_with (first | (go_at_call 27; (with_reducible refine (reg_Of.calls kj8 _ _ t154 t169 _ ?side1 ?side2 A43.out).mono ?_); (case side1 => repeat (first | exact (Kd.R_reads' HO_6.out).2.2 | (with_reducible refine Kd.C_alloc ?_ _) | (with_reducible refine Kd.C_drewN ?_ _) | (with_reducible refine Kd.C_drew ?_))); (case side2 => exact (Kd.R_reads' HO_6.out).2.1); rintro e w' ⟨rfl, ⟨nd, rfl⟩⟩) | (go_at_call 20; (with_reducible refine (spinnakerlaw02_awake.calls kj8  t170 _ (by first | exact HL.out | exact laid_drewN HL.out | exact laid_below HL.out (by repeat (first | (with_reducible first | exact HB.out | apply below_alloc | apply pw_below_drewN | apply below_drew1) | exact HB.out)) | exact laid_below HL.out HB.out | exact laid_belowd HL.out HB.out) A45.out).mono ?_); rintro e w47 ⟨rfl, hb⟩; have n0_ := Aside0.mk (Kd.R_below (by (with_reducible repeat (first | apply Kd.R_alloc | apply Kd.R_drewN | apply Kd.R_drew)); exact HO_6.out) hb); have n1_ := Aside0.mk (below_step (by repeat (first | (with_reducible first | exact HB.out | apply below_alloc | apply pw_below_drewN | apply below_drew1) | exact HB.out)) hb); clear HO_6; clear HB; have HO_6 := n0_; have HB := n1_; clear n0_ n1_; (try clear hb); (try clear hb2); (try clear hk); (try clear hi)))
                go_ret
                exact ⟨by first | rfl | (simp [errW_none, errW_some] <;> rfl) | (simp [*, errW_none, errW_some] <;> rfl), by repeat (first | (with_reducible first | exact HB.out | apply below_alloc | apply pw_below_drewN | apply below_drew1) | exact HB.out)⟩
              · rw [if_neg c44] at H
                have c44b0 : (t169 == t153) = false := beq_eq_false_iff_ne.mpr c44
                have c44b1 : (t169 != t153) = true := bne_iff_ne.mpr c44
                obtain rfl := Option.some.inj H
                obtain ⟨Ao48, co48, eo48⟩ := Kd.R_slice HO_6.out
                subst eo48
                go_wp2_with (first | (go_at_call 27; (with_reducible refine (reg_Of.calls kj8 _ _ t154 t169 _ ?side1 ?side2 A43.out).mono ?_); (case side1 => repeat (first | exact (Kd.R_reads' HO_6.out).2.2 | (with_reducible refine Kd.C_alloc ?_ _) | (with_reducible refine Kd.C_drewN ?_ _) | (with_reducible refine Kd.C_drew ?_))); (case side2 => exact (Kd.R_reads' HO_6.out).2.1); rintro e w' ⟨rfl, ⟨nd, rfl⟩⟩))
                go_ret
                exact ⟨by first | rfl | (simp [errW_none, errW_some] <;> rfl) | (simp [*, errW_none, errW_some] <;> rfl), by repeat (first | (with_reducible first | exact HB.out | apply below_alloc | apply pw_below_drewN | apply below_drew1) | exact HB.out)⟩
            · rw [if_neg c42] at H
              have c42b0 : (t157 == 0) = false := beq_eq_false_iff_ne.mpr c42
              have c42b1 : (t157 != 0) = true := bne_iff_ne.mpr c42
              obtain rfl := Option.some.inj H
              go_wp2
              go_ret
              exact ⟨by first | rfl | (simp [errW_none, errW_some] <;> rfl) | (simp [*, errW_none, errW_some] <;> rfl), by repeat (first | (with_reducible first | exact HB.out | apply below_alloc | apply pw_below_drewN | apply below_drew1) | exact HB.out)⟩

/-- THE ONE PURE STATEMENT of spinnakerlaw02_RegSets: yours. -/
def spinnakerlaw02_RegSets.Pure : Prop := ∀ (l0 : List Int) (a1 : Int), l0.length ≤ maxLen → l0.length * 8 ≤ 140737488351232 → (∀ x ∈ l0, (Lit.int .i64 x).wf = true) → (Lit.int .i64 a1).wf = true → ∃ k, spinnakerlaw02_RegSets.f k l0 a1 = some true
theorem spinnakerlaw02_RegSets.walk (P : spinnakerlaw02_RegSets.Pure) (a0 : Option Addr) (len0 cap0 : Nat) (z0 : List Int) (a1 : Int) (w : World) (hL : Laid w) (w0 : (a0 = none ∧ len0 = 0 ∧ cap0 = 0 ∧ z0 = []) ∨ ∃ x, a0 = some x ∧ len0 ≤ cap0 ∧ cap0 ≤ maxLen ∧ z0.length = cap0 ∧ (∀ i, i < z0.length → w.cell? (x.add i) = some (.int .i64 (z0.getD i 0))) ∧ ∀ n ∈ z0, (Lit.int .i64 n).wf = true) (y0 : len0 * 8 ≤ 140737488351232) (w1 : (Lit.int .i64 a1).wf = true) :
    Calls Tryd.prog 8 #[.slice a0 len0 cap0, .int .i64 a1] w fun e w' => e = .returned (.bool true) ∧ Below w.heap.size w w' := by
  have HL := Aside0.mk hL
  clear hL
  obtain ⟨l0, rfl, hr0, hm0, hw0, hc0⟩ := ReadsInt.ofRowC w0
  obtain ⟨k, h⟩ := P l0 a1 hm0 y0 hw0 w1
  refine (spinnakerlaw02_RegSets.calls k _ _ l0 a1 true w HL.out (Kd.C_of_reads (d := (0 : Int)) (h1 := fun _ => rfl) hr0) hc0 h).mono ?_
  rintro e w' ⟨rfl, hd⟩
  exact ⟨rfl, hd⟩

end Go.Proofs.YtbmjbidekmkboaaDoor.GRegSets
