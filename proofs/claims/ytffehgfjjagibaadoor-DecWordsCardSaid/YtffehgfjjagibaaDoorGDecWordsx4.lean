-- Written by wip/stub.py of this repo.
import Derived.Test.YtffehgfjjagibaaDoorGDecWordsx0
import Derived.Test.YtffehgfjjagibaaDoorGDecWordsx2
import Derived.Test.YtffehgfjjagibaaDoorGDecWordsx3
namespace Go.Proofs.YtffehgfjjagibaaDoor.GDecWords
open Go.RowKit Go.Proofs.YtffehgfjjagibaaDoorW.PrintWords Go.Proofs.YtffehgfjjagibaaDoorW.PrintLast Go.Proofs.YtffehgfjjagibaaDoorW.PrintMore
attribute [local go_sem] max2_int min2_int max_two min_two max_three min_three max_four min_four   -- for this text's walks alone
set_option linter.unusedVariables false
set_option linter.unusedSimpArgs false

/-! ### isa_May: function 37 -/
def isa_May.j0 : Nat → Int → Bool → Bool → Bool → Bool → Int → Int → Int → Int → Int → Bool → Bool → Option (Bool)
  | 0, _, _, _, _, _, _, _, _, _, _, _, _ => none
  | k + 1, x3, x4, x5, x6, x7, x115000, x115001, x115002, x115003, x115004, x115005, x115006 => (isa_register.f x115001 x4).bind fun t119 => (if t119 = true then ((isa_register.f x115002 x5).bind fun t120 => (if t120 = true then ((isa_register.f x115003 x6).bind fun t121 => (if t121 = true then ((isa_immediate.f k x3 x115004).bind fun t122 => (if t122 = true then (if x7 = true then (some true) else (if x115005 = true then (some false) else (some (!x115006)))) else (some false))) else (some false))) else (some false))) else (some false))
def isa_May.f (k : Nat) (a0_0 : Int) (a0_1 : Int) (a0_2 : Int) (a0_3 : Int) (a0_4 : Int) (a0_5 : Bool) (a0_6 : Bool) : Option (Bool) := (isa_Form.f k a0_0).bind fun t115 => (if t115 < 0 then (some false) else ((isa_fields.f k t115).bind fun bt116 => (if t115 = 10 then (isa_May.j0 k t115 bt116.1 bt116.2.1 bt116.2.2 true a0_0 a0_1 a0_2 a0_3 a0_4 a0_5 a0_6) else (isa_May.j0 k t115 bt116.1 bt116.2.1 bt116.2.2 (t115 == 11) a0_0 a0_1 a0_2 a0_3 a0_4 a0_5 a0_6))))
theorem isa_May.mono_l : ∀ k, (∀ y0 y1 y2 y3 y4 y5 y6 y7 y8 y9 y10 y11, LeO (isa_May.j0 k y0 y1 y2 y3 y4 y5 y6 y7 y8 y9 y10 y11) (isa_May.j0 (k + 1) y0 y1 y2 y3 y4 y5 y6 y7 y8 y9 y10 y11))
 | 0 => fun _ _ _ _ _ _ _ _ _ _ _ _ r h => by simp [isa_May.j0] at h
 | k + 1 => by
  have ih0 := isa_May.mono_l k
  ·intro y0 y1 y2 y3 y4 y5 y6 y7 y8 y9 y10 y11
   unfold isa_May.j0
   repeat' first
   | (with_reducible exact ih0 _ _ _ _ _ _ _ _ _ _ _ _)
   | (with_reducible exact isa_Form.mono _ _)
   | (with_reducible exact isa_fields.mono _ _)
   | (with_reducible exact isa_immediate.mono _ _ _)
   | (with_reducible exact LeO.refl _)
   | (with_reducible exact LeO.none _)
   | (with_reducible refine LeO.ite ?_ ?_)
   | (with_reducible refine LeO.bind ?_ (fun _ => ?_))
   | exact ih0 _ _ _ _ _ _ _ _ _ _ _ _
   | exact isa_Form.mono _ _
   | exact isa_fields.mono _ _
   | exact isa_immediate.mono _ _ _
   | exact LeO.none _
   | refine LeO.ite ?_ ?_
   | refine LeO.bind ?_ (fun _ => ?_)
theorem isa_May.mono : ∀ a0 a1 a2 a3 a4 a5 a6 k, LeO (isa_May.f k a0 a1 a2 a3 a4 a5 a6) (isa_May.f (k + 1) a0 a1 a2 a3 a4 a5 a6) := by
 intro a0 a1 a2 a3 a4 a5 a6 k
 have ih0 := isa_May.mono_l k
 unfold isa_May.f
 repeat' first
   | (with_reducible exact ih0 _ _ _ _ _ _ _ _ _ _ _ _)
   | (with_reducible exact isa_Form.mono _ _)
   | (with_reducible exact isa_fields.mono _ _)
   | (with_reducible exact isa_immediate.mono _ _ _)
   | (with_reducible exact LeO.refl _)
   | (with_reducible exact LeO.none _)
   | (with_reducible refine LeO.ite ?_ ?_)
   | (with_reducible refine LeO.bind ?_ (fun _ => ?_))
   | exact ih0 _ _ _ _ _ _ _ _ _ _ _ _
   | exact isa_Form.mono _ _
   | exact isa_fields.mono _ _
   | exact isa_immediate.mono _ _ _
   | exact LeO.none _
   | refine LeO.ite ?_ ?_
   | refine LeO.bind ?_ (fun _ => ?_)
set_option maxHeartbeats 8000000 in
set_option maxRecDepth 100000 in
theorem isa_May.calls (k : Nat) (a0_0 : Int) (a0_1 : Int) (a0_2 : Int) (a0_3 : Int) (a0_4 : Int) (a0_5 : Bool) (a0_6 : Bool) (r : Bool) (w : World) (hL : Laid w) (h : isa_May.f k a0_0 a0_1 a0_2 a0_3 a0_4 a0_5 a0_6 = some r) :
  Calls Tryd.prog 37 #[.agg #[.int .i64 a0_0, .int .i64 a0_1, .int .i64 a0_2, .int .i64 a0_3, .int .i64 a0_4, .bool a0_5, .bool a0_6]] w fun e w' => e = .returned (.bool r) ∧ Below w.heap.size w w' := by
 have HL := Aside0.mk hL
 clear hL
 have hu24 := Tryd.underlying24
 have HB := Aside0.mk (Below.refl w.heap.size w)
 have H : ((isa_Form.f k a0_0).bind fun t115 => (if t115 < 0 then (some false) else ((isa_fields.f k t115).bind fun bt116 => (if t115 = 10 then (isa_May.j0 k t115 bt116.1 bt116.2.1 bt116.2.2 true a0_0 a0_1 a0_2 a0_3 a0_4 a0_5 a0_6) else (isa_May.j0 k t115 bt116.1 bt116.2.1 bt116.2.2 (t115 == 11) a0_0 a0_1 a0_2 a0_3 a0_4 a0_5 a0_6))))) = some r := h
 clear h
 replace H := be H
 obtain ⟨t115, A2, H⟩ := H
 by_cases c3 : t115 < 0
 ·rw [if_pos c3] at H
  have c3b0 : decide (t115 < 0) = true := decide_eq_true c3
  clear c3
  obtain rfl := Option.some.inj H
  go_enter Tryd.func37, Tryd.ntmps37
  go_wp2_with (first | ((with_reducible refine gate_dst (N := 1) rfl ?_); refine box_event ?hg (N := 1) ?hd (cs := #[.int .i64 a0_0, .int .i64 a0_1, .int .i64 a0_2, .int .i64 a0_3, .int .i64 a0_4, .bool a0_5, .bool a0_6]) (t := 24) ?hr ?_; (case hd => rfl); (case hg => rfl); (case hr => first | (go_simp; done) | (go_simp; rfl)); intro gb114 hg w4 hbox hb; obtain ⟨n0_, GW114⟩ := nb (w := w) hg hb; clear HB; have HB := n0_; have BK114 := Aside0.mk hbox; have GE114 := GW114; clear n0_ hb hbox hg; obtain ⟨hcz5_0, hcz5_1, hcz5_2, hcz5_3, hcz5_4, hcz5_5, hcz5_6, hfz5_0, hfz5_1, hfz5_2, hfz5_3, hfz5_4, hfz5_5, hfz5_6⟩ := cz7 (w := w4) BK114.out) | ((with_reducible refine gate_callee (f := 40) rfl ?_); refine goesL_ (some 10) rfl rfl Tryd.func40 (by kernel_rfl) rfl #[.int .i64 a0_0] rfl ga ?_; (with_reducible refine (isa_Form.calls k a0_0 t115 _ (by first | exact HL.out | exact laid_drewN HL.out | exact laid_below HL.out bl | exact laid_below HL.out HB.out | exact laid_belowd HL.out HB.out) A2.out).mono ?_); rintro e w' ⟨rfl, ⟨nd, rfl⟩⟩; refine ⟨_, rfl, ?_⟩))
  go_ret
  exact ⟨fi, bl⟩
 ·rw [if_neg c3] at H
  have c3b0 : decide (t115 < 0) = false := decide_eq_false c3
  clear c3
  replace H := be H
  obtain ⟨⟨t116, t117, t118⟩, A6, H⟩ := H
  dsimp only at H
  have HC7 := Aside0.mk H
  clear H
  go_enter Tryd.func37, Tryd.ntmps37
  go_upto_region 5 with (first | ((with_reducible refine gate_dst (N := 1) rfl ?_); refine box_event ?hg (N := 1) ?hd (cs := #[.int .i64 a0_0, .int .i64 a0_1, .int .i64 a0_2, .int .i64 a0_3, .int .i64 a0_4, .bool a0_5, .bool a0_6]) (t := 24) ?hr ?_; (case hd => rfl); (case hg => rfl); (case hr => first | (go_simp; done) | (go_simp; rfl)); intro gb114 hg w8 hbox hb; obtain ⟨n0_, GW114⟩ := nb (w := w) hg hb; clear HB; have HB := n0_; have BK114 := Aside0.mk hbox; have GE114 := GW114; clear n0_ hb hbox hg; obtain ⟨hcz9_0, hcz9_1, hcz9_2, hcz9_3, hcz9_4, hcz9_5, hcz9_6, hfz9_0, hfz9_1, hfz9_2, hfz9_3, hfz9_4, hfz9_5, hfz9_6⟩ := cz7 (w := w8) BK114.out) | ((with_reducible refine gate_callee (f := 40) rfl ?_); refine goesL_ (some 10) rfl rfl Tryd.func40 (by kernel_rfl) rfl #[.int .i64 a0_0] rfl ga ?_; (with_reducible refine (isa_Form.calls k a0_0 t115 _ (by first | exact HL.out | exact laid_drewN HL.out | exact laid_below HL.out bl | exact laid_below HL.out HB.out | exact laid_belowd HL.out HB.out) A2.out).mono ?_); rintro e w' ⟨rfl, ⟨nd, rfl⟩⟩; refine ⟨_, rfl, ?_⟩) | ((with_reducible refine gate_callee (f := 64) rfl ?_); refine goesL_ (some 15) rfl rfl Tryd.func64 (by kernel_rfl) rfl #[.int .i64 t115] rfl ga ?_; (with_reducible refine (isa_fields.calls k t115 t116 t117 t118 _ A6.out).mono ?_); rintro e w' ⟨rfl, ⟨nd, rfl⟩⟩; refine ⟨_, rfl, ?_⟩))
  (try simp only [Act.put, List.setIfInBounds_toArray, List.set_cons_zero, List.set_cons_succ])
  go_cut [7] (fun v7 wc => ∃ (kq : Nat) (x7_6 : Bool), v7 = .bool x7_6 ∧ Aside0 (isa_May.j0 kq t115 t116 t117 t118 x7_6 a0_0 a0_1 a0_2 a0_3 a0_4 a0_5 a0_6 = some r) ∧ Aside0 (kq ≤ k) ∧ Aside0 (wc.heap[gb114]? = some (.cells #[.int .i64 a0_0, .int .i64 a0_1, .int .i64 a0_2, .int .i64 a0_3, .int .i64 a0_4, .bool a0_5, .bool a0_6] 24 (0, 0))) ∧ Aside0 (Below w.heap.size w wc))
  case first =>
   have H := HC7.out
   clear HC7
   by_cases c10 : t115 = 10
   ·rw [if_pos c10] at H
    have c10b0 : (t115 == 10) = true := beq_iff_eq.mpr c10
    have c10b1 : (t115 != 10) = false := bne_eq_false_iff_eq.mpr c10
    clear c10
    (first | rw [c10b0] | (simp only [i64_w, i32_w]; rw [c10b0]) | skip)
    have H' := Aside0.mk H
    clear H
    go_wp2
    go_meet
    case rel => exact ⟨_, (true), fj, H', ⟨by first | omega | exact Nat.le_refl _⟩, ⟨by refine bx ?_; exact BK114.out⟩, ⟨bl⟩⟩
   ·rw [if_neg c10] at H
    have c10b0 : (t115 == 10) = false := beq_eq_false_iff_ne.mpr c10
    have c10b1 : (t115 != 10) = true := bne_iff_ne.mpr c10
    (first | rw [c10b0] | (simp only [i64_w, i32_w]; rw [c10b0]) | skip)
    have H' := Aside0.mk H
    clear H
    go_wp2
    go_meet
    case rel => exact ⟨_, ((t115 == 11)), fj, H', ⟨by first | omega | exact Nat.le_refl _⟩, ⟨by refine bx ?_; exact BK114.out⟩, ⟨bl⟩⟩
  case rest =>
   clear HC7
   try clear c1
   try clear p2
   try clear c3
   try clear c3b0
   try clear c4
   try clear c6
   try clear c10
   try clear c10b0
   try clear c10b1
   try clear hcz5_0 hcz5_1 hcz5_2 hcz5_3 hcz5_4 hcz5_5 hcz5_6
   try clear hcz9_0 hcz9_1 hcz9_2 hcz9_3 hcz9_4 hcz9_5 hcz9_6
   try clear hfz5_0 hfz5_1 hfz5_2 hfz5_3 hfz5_4 hfz5_5 hfz5_6
   try clear hfz9_0 hfz9_1 hfz9_2 hfz9_3 hfz9_4 hfz9_5 hfz9_6
   obtain ⟨kq, x7_6, rfl, HA, HJ6, BK114, HB⟩ := hcut
   cases kq with
   | zero => exact absurd HA.out (by simp [isa_May.j0])
   | succ kj6 =>
    have H := HA.out
    clear HA
    simp only [isa_May.j0] at H
    replace H := be H
    obtain ⟨t119, A11, H⟩ := H
    by_cases c12 : t119 = true
    ·subst c12
     have H1 : ((isa_register.f a0_2 t117).bind fun t120 => (if t120 = true then ((isa_register.f a0_3 t118).bind fun t121 => (if t121 = true then ((isa_immediate.f kj6 t115 a0_4).bind fun t122 => (if t122 = true then (if x7_6 = true then (some true) else (if a0_5 = true then (some false) else (some (!a0_6)))) else (some false))) else (some false))) else (some false))) = some r := by rw [if_pos rfl] at H; exact H
     clear H
     have H := H1
     clear H1
     replace H := be H
     obtain ⟨t120, A13, H⟩ := H
     by_cases c14 : t120 = true
     ·subst c14
      have H1 : ((isa_register.f a0_3 t118).bind fun t121 => (if t121 = true then ((isa_immediate.f kj6 t115 a0_4).bind fun t122 => (if t122 = true then (if x7_6 = true then (some true) else (if a0_5 = true then (some false) else (some (!a0_6)))) else (some false))) else (some false))) = some r := by rw [if_pos rfl] at H; exact H
      clear H
      have H := H1
      clear H1
      replace H := be H
      obtain ⟨t121, A15, H⟩ := H
      by_cases c16 : t121 = true
      ·subst c16
       have H1 : ((isa_immediate.f kj6 t115 a0_4).bind fun t122 => (if t122 = true then (if x7_6 = true then (some true) else (if a0_5 = true then (some false) else (some (!a0_6)))) else (some false))) = some r := by rw [if_pos rfl] at H; exact H
       clear H
       have H := H1
       clear H1
       replace H := be H
       obtain ⟨t122, A17, H⟩ := H
       by_cases c18 : t122 = true
       ·subst c18
        have H1 : (if x7_6 = true then (some true) else (if a0_5 = true then (some false) else (some (!a0_6)))) = some r := by rw [if_pos rfl] at H; exact H
        clear H
        have H := H1
        clear H1
        by_cases c19 : x7_6 = true
        ·subst c19
         have H1 : (some true) = some r := by rw [if_pos rfl] at H; exact H
         clear H
         have H := H1
         clear H1
         obtain rfl := Option.some.inj H
         obtain ⟨hcz20_0, hcz20_1, hcz20_2, hcz20_3, hcz20_4, hcz20_5, hcz20_6, hfz20_0, hfz20_1, hfz20_2, hfz20_3, hfz20_4, hfz20_5, hfz20_6⟩ := cz7 (w := wc) BK114.out
         go_wp2_with (first | ((with_reducible refine gate_callee (f := 65) rfl ?_); refine goesL_ (some 28) rfl rfl Tryd.func65 (by kernel_rfl) rfl #[.int .i64 a0_1, .bool t116] rfl ga ?_; (with_reducible refine (isa_register.calls a0_1 t116 true _ A11.out).mono ?_); rintro e w' ⟨rfl, ⟨nd, rfl⟩⟩; refine ⟨_, rfl, ?_⟩) | (go_at_call 65; (with_reducible refine (isa_register.calls a0_2 t117 true _ A13.out).mono ?_); rintro e w' ⟨rfl, ⟨nd, rfl⟩⟩) | (go_at_call 65; (with_reducible refine (isa_register.calls a0_3 t118 true _ A15.out).mono ?_); rintro e w' ⟨rfl, ⟨nd, rfl⟩⟩) | (go_at_call 66; (with_reducible refine (isa_immediate.calls kj6 t115 a0_4 true _ A17.out).mono ?_); rintro e w' ⟨rfl, ⟨nd, rfl⟩⟩))
         go_ret
         exact ⟨fi, bl⟩
        ·replace c19 := Bool.eq_false_iff.mpr c19
         subst c19
         have H1 : (if a0_5 = true then (some false) else (some (!a0_6))) = some r := by rw [if_neg (show ¬ (false = true) by decide)] at H; exact H
         clear H
         have H := H1
         clear H1
         by_cases c21 : a0_5 = true
         ·subst c21
          have H1 : (some false) = some r := by rw [if_pos rfl] at H; exact H
          clear H
          have H := H1
          clear H1
          obtain rfl := Option.some.inj H
          obtain ⟨hcz22_0, hcz22_1, hcz22_2, hcz22_3, hcz22_4, hcz22_5, hcz22_6, hfz22_0, hfz22_1, hfz22_2, hfz22_3, hfz22_4, hfz22_5, hfz22_6⟩ := cz7 (w := wc) BK114.out
          go_wp2_with (first | ((with_reducible refine gate_callee (f := 65) rfl ?_); refine goesL_ (some 28) rfl rfl Tryd.func65 (by kernel_rfl) rfl #[.int .i64 a0_1, .bool t116] rfl ga ?_; (with_reducible refine (isa_register.calls a0_1 t116 true _ A11.out).mono ?_); rintro e w' ⟨rfl, ⟨nd, rfl⟩⟩; refine ⟨_, rfl, ?_⟩) | (go_at_call 65; (with_reducible refine (isa_register.calls a0_2 t117 true _ A13.out).mono ?_); rintro e w' ⟨rfl, ⟨nd, rfl⟩⟩) | (go_at_call 65; (with_reducible refine (isa_register.calls a0_3 t118 true _ A15.out).mono ?_); rintro e w' ⟨rfl, ⟨nd, rfl⟩⟩) | (go_at_call 66; (with_reducible refine (isa_immediate.calls kj6 t115 a0_4 true _ A17.out).mono ?_); rintro e w' ⟨rfl, ⟨nd, rfl⟩⟩))
          go_ret
          exact ⟨fi, bl⟩
         ·replace c21 := Bool.eq_false_iff.mpr c21
          subst c21
          have H1 : (some (!a0_6)) = some r := by rw [if_neg (show ¬ (false = true) by decide)] at H; exact H
          clear H
          have H := H1
          clear H1
          obtain rfl := Option.some.inj H
          obtain ⟨hcz23_0, hcz23_1, hcz23_2, hcz23_3, hcz23_4, hcz23_5, hcz23_6, hfz23_0, hfz23_1, hfz23_2, hfz23_3, hfz23_4, hfz23_5, hfz23_6⟩ := cz7 (w := wc) BK114.out
          go_wp2_with (first | ((with_reducible refine gate_callee (f := 65) rfl ?_); refine goesL_ (some 28) rfl rfl Tryd.func65 (by kernel_rfl) rfl #[.int .i64 a0_1, .bool t116] rfl ga ?_; (with_reducible refine (isa_register.calls a0_1 t116 true _ A11.out).mono ?_); rintro e w' ⟨rfl, ⟨nd, rfl⟩⟩; refine ⟨_, rfl, ?_⟩) | (go_at_call 65; (with_reducible refine (isa_register.calls a0_2 t117 true _ A13.out).mono ?_); rintro e w' ⟨rfl, ⟨nd, rfl⟩⟩) | (go_at_call 65; (with_reducible refine (isa_register.calls a0_3 t118 true _ A15.out).mono ?_); rintro e w' ⟨rfl, ⟨nd, rfl⟩⟩) | (go_at_call 66; (with_reducible refine (isa_immediate.calls kj6 t115 a0_4 true _ A17.out).mono ?_); rintro e w' ⟨rfl, ⟨nd, rfl⟩⟩))
          go_ret
          exact ⟨fi, bl⟩
       ·replace c18 := Bool.eq_false_iff.mpr c18
        subst c18
        have H1 : (some false) = some r := by rw [if_neg (show ¬ (false = true) by decide)] at H; exact H
        clear H
        have H := H1
        clear H1
        obtain rfl := Option.some.inj H
        obtain ⟨hcz24_0, hcz24_1, hcz24_2, hcz24_3, hcz24_4, hcz24_5, hcz24_6, hfz24_0, hfz24_1, hfz24_2, hfz24_3, hfz24_4, hfz24_5, hfz24_6⟩ := cz7 (w := wc) BK114.out
        go_wp2_with (first | ((with_reducible refine gate_callee (f := 65) rfl ?_); refine goesL_ (some 28) rfl rfl Tryd.func65 (by kernel_rfl) rfl #[.int .i64 a0_1, .bool t116] rfl ga ?_; (with_reducible refine (isa_register.calls a0_1 t116 true _ A11.out).mono ?_); rintro e w' ⟨rfl, ⟨nd, rfl⟩⟩; refine ⟨_, rfl, ?_⟩) | (go_at_call 65; (with_reducible refine (isa_register.calls a0_2 t117 true _ A13.out).mono ?_); rintro e w' ⟨rfl, ⟨nd, rfl⟩⟩) | (go_at_call 65; (with_reducible refine (isa_register.calls a0_3 t118 true _ A15.out).mono ?_); rintro e w' ⟨rfl, ⟨nd, rfl⟩⟩) | (go_at_call 66; (with_reducible refine (isa_immediate.calls kj6 t115 a0_4 false _ A17.out).mono ?_); rintro e w' ⟨rfl, ⟨nd, rfl⟩⟩))
        go_ret
        exact ⟨fi, bl⟩
      ·replace c16 := Bool.eq_false_iff.mpr c16
       subst c16
       have H1 : (some false) = some r := by rw [if_neg (show ¬ (false = true) by decide)] at H; exact H
       clear H
       have H := H1
       clear H1
       obtain rfl := Option.some.inj H
       obtain ⟨hcz25_0, hcz25_1, hcz25_2, hcz25_3, hcz25_4, hcz25_5, hcz25_6, hfz25_0, hfz25_1, hfz25_2, hfz25_3, hfz25_4, hfz25_5, hfz25_6⟩ := cz7 (w := wc) BK114.out
       go_wp2_with (first | ((with_reducible refine gate_callee (f := 65) rfl ?_); refine goesL_ (some 28) rfl rfl Tryd.func65 (by kernel_rfl) rfl #[.int .i64 a0_1, .bool t116] rfl ga ?_; (with_reducible refine (isa_register.calls a0_1 t116 true _ A11.out).mono ?_); rintro e w' ⟨rfl, ⟨nd, rfl⟩⟩; refine ⟨_, rfl, ?_⟩) | (go_at_call 65; (with_reducible refine (isa_register.calls a0_2 t117 true _ A13.out).mono ?_); rintro e w' ⟨rfl, ⟨nd, rfl⟩⟩) | (go_at_call 65; (with_reducible refine (isa_register.calls a0_3 t118 false _ A15.out).mono ?_); rintro e w' ⟨rfl, ⟨nd, rfl⟩⟩))
       go_ret
       exact ⟨fi, bl⟩
     ·replace c14 := Bool.eq_false_iff.mpr c14
      subst c14
      have H1 : (some false) = some r := by rw [if_neg (show ¬ (false = true) by decide)] at H; exact H
      clear H
      have H := H1
      clear H1
      obtain rfl := Option.some.inj H
      obtain ⟨hcz26_0, hcz26_1, hcz26_2, hcz26_3, hcz26_4, hcz26_5, hcz26_6, hfz26_0, hfz26_1, hfz26_2, hfz26_3, hfz26_4, hfz26_5, hfz26_6⟩ := cz7 (w := wc) BK114.out
      go_wp2_with (first | ((with_reducible refine gate_callee (f := 65) rfl ?_); refine goesL_ (some 28) rfl rfl Tryd.func65 (by kernel_rfl) rfl #[.int .i64 a0_1, .bool t116] rfl ga ?_; (with_reducible refine (isa_register.calls a0_1 t116 true _ A11.out).mono ?_); rintro e w' ⟨rfl, ⟨nd, rfl⟩⟩; refine ⟨_, rfl, ?_⟩) | (go_at_call 65; (with_reducible refine (isa_register.calls a0_2 t117 false _ A13.out).mono ?_); rintro e w' ⟨rfl, ⟨nd, rfl⟩⟩))
      go_ret
      exact ⟨fi, bl⟩
    ·replace c12 := Bool.eq_false_iff.mpr c12
     subst c12
     have H1 : (some false) = some r := by rw [if_neg (show ¬ (false = true) by decide)] at H; exact H
     clear H
     have H := H1
     clear H1
     obtain rfl := Option.some.inj H
     obtain ⟨hcz27_0, hcz27_1, hcz27_2, hcz27_3, hcz27_4, hcz27_5, hcz27_6, hfz27_0, hfz27_1, hfz27_2, hfz27_3, hfz27_4, hfz27_5, hfz27_6⟩ := cz7 (w := wc) BK114.out
     go_wp2_with (first | ((with_reducible refine gate_callee (f := 65) rfl ?_); refine goesL_ (some 28) rfl rfl Tryd.func65 (by kernel_rfl) rfl #[.int .i64 a0_1, .bool t116] rfl ga ?_; (with_reducible refine (isa_register.calls a0_1 t116 false _ A11.out).mono ?_); rintro e w' ⟨rfl, ⟨nd, rfl⟩⟩; refine ⟨_, rfl, ?_⟩))
     go_ret
     exact ⟨fi, bl⟩

/-! ### isa_Branch: function 67 -/
def isa_Branch.f (a0 : Int) : Option (Bool) := (isa_in.f a0 5 10).bind fun t123 => (some t123)
set_option maxHeartbeats 8000000 in
set_option maxRecDepth 100000 in
theorem isa_Branch.calls (a0 : Int) (r : Bool) (w : World) (h : isa_Branch.f a0 = some r) :
  Calls Tryd.prog 67 #[.int .i64 a0] w fun e w' => e = .returned (.bool r) ∧ Drawn0 w w' := by
 have H : ((isa_in.f a0 5 10).bind fun t123 => (some t123)) = some r := h
 clear h
 replace H := be H
 obtain ⟨t123, A2, H⟩ := H
 obtain rfl := Option.some.inj H
 go_enter Tryd.func67, Tryd.ntmps67
 go_wp2_with (first | ((with_reducible refine gate_callee (f := 74) rfl ?_); refine goesL_ (some 4) rfl rfl Tryd.func74 (by kernel_rfl) rfl #[.int .i64 a0, .int .i64 5, .int .i64 10] rfl ga ?_; (with_reducible refine (isa_in.calls a0 5 10 t123 _ A2.out).mono ?_); rintro e w' ⟨rfl, ⟨nd, rfl⟩⟩; refine ⟨_, rfl, ?_⟩))
 go_ret
 exact ⟨fj, fd⟩

/-! ### enc_arith: function 68 (by hand) -/
def arithTab : List (Int × Int × Int) := [(0, 0, 0), (0, 2, 0), (0, 3, 0), (0, 4, 0), (0, 6, 0), (0, 7, 0), (0, 1, 0), (0, 5, 0), (0, 5, 32), (0, 0, 0), (0, 1, 0), (0, 5, 0), (0, 5, 32), (0, 0, 0), (0, 0, 32), (0, 1, 0), (0, 2, 0), (0, 3, 0), (0, 4, 0), (0, 5, 0), (0, 5, 32), (0, 6, 0), (0, 7, 0), (0, 0, 0), (0, 0, 32), (0, 1, 0), (0, 5, 0), (0, 5, 32)]
def enc_arith.f (k : Nat) (a0 : Int) : Option (Int × Int × Int) := if 22 ≤ a0 ∧ a0 < 50 then arithTab[a0.toNat - 22]? else none
theorem of_inj {a b c x y z : Int} (h : some (a, b, c) = some (x, y, z)) : a = x ∧ b = y ∧ c = z := by simpa using h
set_option maxHeartbeats 8000000 in
set_option maxRecDepth 100000 in
theorem arith_0 (a0 : Int) (h : a0 = 22 ∨ a0 = 31 ∨ a0 = 35 ∨ a0 = 45) (w : World) : Calls Tryd.prog 68 #[.int .i64 a0] w fun e w' => e = .returned (.agg #[.int .u32 0, .int .u32 0, .int .u32 0]) ∧ Below w.heap.size w w' := by
 have hu84 := Tryd.underlying61
 have HB := Aside0.mk (Below.refl w.heap.size w)
 rcases h with rfl | rfl | rfl | rfl
 all_goals
  go_enter Tryd.func68, Tryd.ntmps68
  go_wp2_with (first | ((with_reducible refine gate_dst (N := 2) rfl ?_); refine box_event ?hg (N := 2) ?hd (cs := #[.int .u32 0, .int .u32 0, .int .u32 0]) (t := 61) ?hr ?_; (case hd => rfl); (case hg => rfl); (case hr => first | (go_simp; done) | (go_simp; rfl)); intro gbp hg wbp hbox hb; have n0_ := Aside0.mk (below_step bl hb); have n1_ := Aside0.mk (hbox); have n2_ := Aside0.mk ((by rw [hg]; exact (below_size bl) : w.heap.size ≤ gbp)); clear HB; have HB := n0_; have BKp := n1_; have GEp := n2_; clear n0_ n1_ n2_; clear hb hbox hg; have hczp_0 : wbp.cell? ⟨gbp, 0, none⟩ = some (.int .u32 0) := (blk_cell BKp.out 0).trans rfl; have hfzp_0 := blk_frozen BKp.out 0; have hczp_1 : wbp.cell? ⟨gbp, 1, none⟩ = some (.int .u32 0) := (blk_cell BKp.out 1).trans rfl; have hfzp_1 := blk_frozen BKp.out 1; have hczp_2 : wbp.cell? ⟨gbp, 2, none⟩ = some (.int .u32 0) := (blk_cell BKp.out 2).trans rfl; have hfzp_2 := blk_frozen BKp.out 2))
  refine bodyPost_ret (results_cell_row rfl _ _ gbp 61 #[.int .u32 0, .int .u32 0, .int .u32 0] (0, 0) _ rfl (by refine bx ?_; refine blk_put (cs := #[.int .u32 0, .int .u32 0, .int .u32 0]) ?_ 2 _ rfl; refine bx ?_; refine blk_put (cs := #[.int .u32 0, .int .u32 0, .int .u32 0]) ?_ 1 _ rfl; refine bx ?_; refine blk_put (cs := #[.int .u32 0, .int .u32 0, .int .u32 0]) ?_ 0 _ rfl; refine bx ?_; exact BKp.out) Tryd.underlying61 rfl (by kernel_rfl)) rfl ?_
  exact ⟨by first | rfl | (simp; done), bl⟩
set_option maxHeartbeats 8000000 in
set_option maxRecDepth 100000 in
theorem arith_1 (a0 : Int) (h : a0 = 23 ∨ a0 = 38) (w : World) : Calls Tryd.prog 68 #[.int .i64 a0] w fun e w' => e = .returned (.agg #[.int .u32 0, .int .u32 2, .int .u32 0]) ∧ Below w.heap.size w w' := by
 have hu84 := Tryd.underlying61
 have HB := Aside0.mk (Below.refl w.heap.size w)
 rcases h with rfl | rfl
 all_goals
  go_enter Tryd.func68, Tryd.ntmps68
  go_wp2_with (first | ((with_reducible refine gate_dst (N := 2) rfl ?_); refine box_event ?hg (N := 2) ?hd (cs := #[.int .u32 0, .int .u32 0, .int .u32 0]) (t := 61) ?hr ?_; (case hd => rfl); (case hg => rfl); (case hr => first | (go_simp; done) | (go_simp; rfl)); intro gbp hg wbp hbox hb; have n0_ := Aside0.mk (below_step bl hb); have n1_ := Aside0.mk (hbox); have n2_ := Aside0.mk ((by rw [hg]; exact (below_size bl) : w.heap.size ≤ gbp)); clear HB; have HB := n0_; have BKp := n1_; have GEp := n2_; clear n0_ n1_ n2_; clear hb hbox hg; have hczp_0 : wbp.cell? ⟨gbp, 0, none⟩ = some (.int .u32 0) := (blk_cell BKp.out 0).trans rfl; have hfzp_0 := blk_frozen BKp.out 0; have hczp_1 : wbp.cell? ⟨gbp, 1, none⟩ = some (.int .u32 0) := (blk_cell BKp.out 1).trans rfl; have hfzp_1 := blk_frozen BKp.out 1; have hczp_2 : wbp.cell? ⟨gbp, 2, none⟩ = some (.int .u32 0) := (blk_cell BKp.out 2).trans rfl; have hfzp_2 := blk_frozen BKp.out 2))
  refine bodyPost_ret (results_cell_row rfl _ _ gbp 61 #[.int .u32 0, .int .u32 2, .int .u32 0] (0, 0) _ rfl (by refine bx ?_; refine blk_put (cs := #[.int .u32 0, .int .u32 2, .int .u32 0]) ?_ 2 _ rfl; refine bx ?_; refine blk_put (cs := #[.int .u32 0, .int .u32 0, .int .u32 0]) ?_ 1 _ rfl; refine bx ?_; refine blk_put (cs := #[.int .u32 0, .int .u32 0, .int .u32 0]) ?_ 0 _ rfl; refine bx ?_; exact BKp.out) Tryd.underlying61 rfl (by kernel_rfl)) rfl ?_
  exact ⟨by first | rfl | (simp; done), bl⟩
set_option maxHeartbeats 8000000 in
set_option maxRecDepth 100000 in
theorem arith_2 (a0 : Int) (h : a0 = 24 ∨ a0 = 39) (w : World) : Calls Tryd.prog 68 #[.int .i64 a0] w fun e w' => e = .returned (.agg #[.int .u32 0, .int .u32 3, .int .u32 0]) ∧ Below w.heap.size w w' := by
 have hu84 := Tryd.underlying61
 have HB := Aside0.mk (Below.refl w.heap.size w)
 rcases h with rfl | rfl
 all_goals
  go_enter Tryd.func68, Tryd.ntmps68
  go_wp2_with (first | ((with_reducible refine gate_dst (N := 2) rfl ?_); refine box_event ?hg (N := 2) ?hd (cs := #[.int .u32 0, .int .u32 0, .int .u32 0]) (t := 61) ?hr ?_; (case hd => rfl); (case hg => rfl); (case hr => first | (go_simp; done) | (go_simp; rfl)); intro gbp hg wbp hbox hb; have n0_ := Aside0.mk (below_step bl hb); have n1_ := Aside0.mk (hbox); have n2_ := Aside0.mk ((by rw [hg]; exact (below_size bl) : w.heap.size ≤ gbp)); clear HB; have HB := n0_; have BKp := n1_; have GEp := n2_; clear n0_ n1_ n2_; clear hb hbox hg; have hczp_0 : wbp.cell? ⟨gbp, 0, none⟩ = some (.int .u32 0) := (blk_cell BKp.out 0).trans rfl; have hfzp_0 := blk_frozen BKp.out 0; have hczp_1 : wbp.cell? ⟨gbp, 1, none⟩ = some (.int .u32 0) := (blk_cell BKp.out 1).trans rfl; have hfzp_1 := blk_frozen BKp.out 1; have hczp_2 : wbp.cell? ⟨gbp, 2, none⟩ = some (.int .u32 0) := (blk_cell BKp.out 2).trans rfl; have hfzp_2 := blk_frozen BKp.out 2))
  refine bodyPost_ret (results_cell_row rfl _ _ gbp 61 #[.int .u32 0, .int .u32 3, .int .u32 0] (0, 0) _ rfl (by refine bx ?_; refine blk_put (cs := #[.int .u32 0, .int .u32 3, .int .u32 0]) ?_ 2 _ rfl; refine bx ?_; refine blk_put (cs := #[.int .u32 0, .int .u32 0, .int .u32 0]) ?_ 1 _ rfl; refine bx ?_; refine blk_put (cs := #[.int .u32 0, .int .u32 0, .int .u32 0]) ?_ 0 _ rfl; refine bx ?_; exact BKp.out) Tryd.underlying61 rfl (by kernel_rfl)) rfl ?_
  exact ⟨by first | rfl | (simp; done), bl⟩
set_option maxHeartbeats 8000000 in
set_option maxRecDepth 100000 in
theorem arith_3 (a0 : Int) (h : a0 = 25 ∨ a0 = 40) (w : World) : Calls Tryd.prog 68 #[.int .i64 a0] w fun e w' => e = .returned (.agg #[.int .u32 0, .int .u32 4, .int .u32 0]) ∧ Below w.heap.size w w' := by
 have hu84 := Tryd.underlying61
 have HB := Aside0.mk (Below.refl w.heap.size w)
 rcases h with rfl | rfl
 all_goals
  go_enter Tryd.func68, Tryd.ntmps68
  go_wp2_with (first | ((with_reducible refine gate_dst (N := 2) rfl ?_); refine box_event ?hg (N := 2) ?hd (cs := #[.int .u32 0, .int .u32 0, .int .u32 0]) (t := 61) ?hr ?_; (case hd => rfl); (case hg => rfl); (case hr => first | (go_simp; done) | (go_simp; rfl)); intro gbp hg wbp hbox hb; have n0_ := Aside0.mk (below_step bl hb); have n1_ := Aside0.mk (hbox); have n2_ := Aside0.mk ((by rw [hg]; exact (below_size bl) : w.heap.size ≤ gbp)); clear HB; have HB := n0_; have BKp := n1_; have GEp := n2_; clear n0_ n1_ n2_; clear hb hbox hg; have hczp_0 : wbp.cell? ⟨gbp, 0, none⟩ = some (.int .u32 0) := (blk_cell BKp.out 0).trans rfl; have hfzp_0 := blk_frozen BKp.out 0; have hczp_1 : wbp.cell? ⟨gbp, 1, none⟩ = some (.int .u32 0) := (blk_cell BKp.out 1).trans rfl; have hfzp_1 := blk_frozen BKp.out 1; have hczp_2 : wbp.cell? ⟨gbp, 2, none⟩ = some (.int .u32 0) := (blk_cell BKp.out 2).trans rfl; have hfzp_2 := blk_frozen BKp.out 2))
  refine bodyPost_ret (results_cell_row rfl _ _ gbp 61 #[.int .u32 0, .int .u32 4, .int .u32 0] (0, 0) _ rfl (by refine bx ?_; refine blk_put (cs := #[.int .u32 0, .int .u32 4, .int .u32 0]) ?_ 2 _ rfl; refine bx ?_; refine blk_put (cs := #[.int .u32 0, .int .u32 0, .int .u32 0]) ?_ 1 _ rfl; refine bx ?_; refine blk_put (cs := #[.int .u32 0, .int .u32 0, .int .u32 0]) ?_ 0 _ rfl; refine bx ?_; exact BKp.out) Tryd.underlying61 rfl (by kernel_rfl)) rfl ?_
  exact ⟨by first | rfl | (simp; done), bl⟩
set_option maxHeartbeats 8000000 in
set_option maxRecDepth 100000 in
theorem arith_4 (a0 : Int) (h : a0 = 26 ∨ a0 = 43) (w : World) : Calls Tryd.prog 68 #[.int .i64 a0] w fun e w' => e = .returned (.agg #[.int .u32 0, .int .u32 6, .int .u32 0]) ∧ Below w.heap.size w w' := by
 have hu84 := Tryd.underlying61
 have HB := Aside0.mk (Below.refl w.heap.size w)
 rcases h with rfl | rfl
 all_goals
  go_enter Tryd.func68, Tryd.ntmps68
  go_wp2_with (first | ((with_reducible refine gate_dst (N := 2) rfl ?_); refine box_event ?hg (N := 2) ?hd (cs := #[.int .u32 0, .int .u32 0, .int .u32 0]) (t := 61) ?hr ?_; (case hd => rfl); (case hg => rfl); (case hr => first | (go_simp; done) | (go_simp; rfl)); intro gbp hg wbp hbox hb; have n0_ := Aside0.mk (below_step bl hb); have n1_ := Aside0.mk (hbox); have n2_ := Aside0.mk ((by rw [hg]; exact (below_size bl) : w.heap.size ≤ gbp)); clear HB; have HB := n0_; have BKp := n1_; have GEp := n2_; clear n0_ n1_ n2_; clear hb hbox hg; have hczp_0 : wbp.cell? ⟨gbp, 0, none⟩ = some (.int .u32 0) := (blk_cell BKp.out 0).trans rfl; have hfzp_0 := blk_frozen BKp.out 0; have hczp_1 : wbp.cell? ⟨gbp, 1, none⟩ = some (.int .u32 0) := (blk_cell BKp.out 1).trans rfl; have hfzp_1 := blk_frozen BKp.out 1; have hczp_2 : wbp.cell? ⟨gbp, 2, none⟩ = some (.int .u32 0) := (blk_cell BKp.out 2).trans rfl; have hfzp_2 := blk_frozen BKp.out 2))
  refine bodyPost_ret (results_cell_row rfl _ _ gbp 61 #[.int .u32 0, .int .u32 6, .int .u32 0] (0, 0) _ rfl (by refine bx ?_; refine blk_put (cs := #[.int .u32 0, .int .u32 6, .int .u32 0]) ?_ 2 _ rfl; refine bx ?_; refine blk_put (cs := #[.int .u32 0, .int .u32 0, .int .u32 0]) ?_ 1 _ rfl; refine bx ?_; refine blk_put (cs := #[.int .u32 0, .int .u32 0, .int .u32 0]) ?_ 0 _ rfl; refine bx ?_; exact BKp.out) Tryd.underlying61 rfl (by kernel_rfl)) rfl ?_
  exact ⟨by first | rfl | (simp; done), bl⟩
set_option maxHeartbeats 8000000 in
set_option maxRecDepth 100000 in
theorem arith_5 (a0 : Int) (h : a0 = 27 ∨ a0 = 44) (w : World) : Calls Tryd.prog 68 #[.int .i64 a0] w fun e w' => e = .returned (.agg #[.int .u32 0, .int .u32 7, .int .u32 0]) ∧ Below w.heap.size w w' := by
 have hu84 := Tryd.underlying61
 have HB := Aside0.mk (Below.refl w.heap.size w)
 rcases h with rfl | rfl
 all_goals
  go_enter Tryd.func68, Tryd.ntmps68
  go_wp2_with (first | ((with_reducible refine gate_dst (N := 2) rfl ?_); refine box_event ?hg (N := 2) ?hd (cs := #[.int .u32 0, .int .u32 0, .int .u32 0]) (t := 61) ?hr ?_; (case hd => rfl); (case hg => rfl); (case hr => first | (go_simp; done) | (go_simp; rfl)); intro gbp hg wbp hbox hb; have n0_ := Aside0.mk (below_step bl hb); have n1_ := Aside0.mk (hbox); have n2_ := Aside0.mk ((by rw [hg]; exact (below_size bl) : w.heap.size ≤ gbp)); clear HB; have HB := n0_; have BKp := n1_; have GEp := n2_; clear n0_ n1_ n2_; clear hb hbox hg; have hczp_0 : wbp.cell? ⟨gbp, 0, none⟩ = some (.int .u32 0) := (blk_cell BKp.out 0).trans rfl; have hfzp_0 := blk_frozen BKp.out 0; have hczp_1 : wbp.cell? ⟨gbp, 1, none⟩ = some (.int .u32 0) := (blk_cell BKp.out 1).trans rfl; have hfzp_1 := blk_frozen BKp.out 1; have hczp_2 : wbp.cell? ⟨gbp, 2, none⟩ = some (.int .u32 0) := (blk_cell BKp.out 2).trans rfl; have hfzp_2 := blk_frozen BKp.out 2))
  refine bodyPost_ret (results_cell_row rfl _ _ gbp 61 #[.int .u32 0, .int .u32 7, .int .u32 0] (0, 0) _ rfl (by refine bx ?_; refine blk_put (cs := #[.int .u32 0, .int .u32 7, .int .u32 0]) ?_ 2 _ rfl; refine bx ?_; refine blk_put (cs := #[.int .u32 0, .int .u32 0, .int .u32 0]) ?_ 1 _ rfl; refine bx ?_; refine blk_put (cs := #[.int .u32 0, .int .u32 0, .int .u32 0]) ?_ 0 _ rfl; refine bx ?_; exact BKp.out) Tryd.underlying61 rfl (by kernel_rfl)) rfl ?_
  exact ⟨by first | rfl | (simp; done), bl⟩
set_option maxHeartbeats 8000000 in
set_option maxRecDepth 100000 in
theorem arith_6 (a0 : Int) (h : a0 = 28 ∨ a0 = 32 ∨ a0 = 37 ∨ a0 = 47) (w : World) : Calls Tryd.prog 68 #[.int .i64 a0] w fun e w' => e = .returned (.agg #[.int .u32 0, .int .u32 1, .int .u32 0]) ∧ Below w.heap.size w w' := by
 have hu84 := Tryd.underlying61
 have HB := Aside0.mk (Below.refl w.heap.size w)
 rcases h with rfl | rfl | rfl | rfl
 all_goals
  go_enter Tryd.func68, Tryd.ntmps68
  go_wp2_with (first | ((with_reducible refine gate_dst (N := 2) rfl ?_); refine box_event ?hg (N := 2) ?hd (cs := #[.int .u32 0, .int .u32 0, .int .u32 0]) (t := 61) ?hr ?_; (case hd => rfl); (case hg => rfl); (case hr => first | (go_simp; done) | (go_simp; rfl)); intro gbp hg wbp hbox hb; have n0_ := Aside0.mk (below_step bl hb); have n1_ := Aside0.mk (hbox); have n2_ := Aside0.mk ((by rw [hg]; exact (below_size bl) : w.heap.size ≤ gbp)); clear HB; have HB := n0_; have BKp := n1_; have GEp := n2_; clear n0_ n1_ n2_; clear hb hbox hg; have hczp_0 : wbp.cell? ⟨gbp, 0, none⟩ = some (.int .u32 0) := (blk_cell BKp.out 0).trans rfl; have hfzp_0 := blk_frozen BKp.out 0; have hczp_1 : wbp.cell? ⟨gbp, 1, none⟩ = some (.int .u32 0) := (blk_cell BKp.out 1).trans rfl; have hfzp_1 := blk_frozen BKp.out 1; have hczp_2 : wbp.cell? ⟨gbp, 2, none⟩ = some (.int .u32 0) := (blk_cell BKp.out 2).trans rfl; have hfzp_2 := blk_frozen BKp.out 2))
  refine bodyPost_ret (results_cell_row rfl _ _ gbp 61 #[.int .u32 0, .int .u32 1, .int .u32 0] (0, 0) _ rfl (by refine bx ?_; refine blk_put (cs := #[.int .u32 0, .int .u32 1, .int .u32 0]) ?_ 2 _ rfl; refine bx ?_; refine blk_put (cs := #[.int .u32 0, .int .u32 0, .int .u32 0]) ?_ 1 _ rfl; refine bx ?_; refine blk_put (cs := #[.int .u32 0, .int .u32 0, .int .u32 0]) ?_ 0 _ rfl; refine bx ?_; exact BKp.out) Tryd.underlying61 rfl (by kernel_rfl)) rfl ?_
  exact ⟨by first | rfl | (simp; done), bl⟩
set_option maxHeartbeats 8000000 in
set_option maxRecDepth 100000 in
theorem arith_7 (a0 : Int) (h : a0 = 29 ∨ a0 = 33 ∨ a0 = 41 ∨ a0 = 48) (w : World) : Calls Tryd.prog 68 #[.int .i64 a0] w fun e w' => e = .returned (.agg #[.int .u32 0, .int .u32 5, .int .u32 0]) ∧ Below w.heap.size w w' := by
 have hu84 := Tryd.underlying61
 have HB := Aside0.mk (Below.refl w.heap.size w)
 rcases h with rfl | rfl | rfl | rfl
 all_goals
  go_enter Tryd.func68, Tryd.ntmps68
  go_wp2_with (first | ((with_reducible refine gate_dst (N := 2) rfl ?_); refine box_event ?hg (N := 2) ?hd (cs := #[.int .u32 0, .int .u32 0, .int .u32 0]) (t := 61) ?hr ?_; (case hd => rfl); (case hg => rfl); (case hr => first | (go_simp; done) | (go_simp; rfl)); intro gbp hg wbp hbox hb; have n0_ := Aside0.mk (below_step bl hb); have n1_ := Aside0.mk (hbox); have n2_ := Aside0.mk ((by rw [hg]; exact (below_size bl) : w.heap.size ≤ gbp)); clear HB; have HB := n0_; have BKp := n1_; have GEp := n2_; clear n0_ n1_ n2_; clear hb hbox hg; have hczp_0 : wbp.cell? ⟨gbp, 0, none⟩ = some (.int .u32 0) := (blk_cell BKp.out 0).trans rfl; have hfzp_0 := blk_frozen BKp.out 0; have hczp_1 : wbp.cell? ⟨gbp, 1, none⟩ = some (.int .u32 0) := (blk_cell BKp.out 1).trans rfl; have hfzp_1 := blk_frozen BKp.out 1; have hczp_2 : wbp.cell? ⟨gbp, 2, none⟩ = some (.int .u32 0) := (blk_cell BKp.out 2).trans rfl; have hfzp_2 := blk_frozen BKp.out 2))
  refine bodyPost_ret (results_cell_row rfl _ _ gbp 61 #[.int .u32 0, .int .u32 5, .int .u32 0] (0, 0) _ rfl (by refine bx ?_; refine blk_put (cs := #[.int .u32 0, .int .u32 5, .int .u32 0]) ?_ 2 _ rfl; refine bx ?_; refine blk_put (cs := #[.int .u32 0, .int .u32 0, .int .u32 0]) ?_ 1 _ rfl; refine bx ?_; refine blk_put (cs := #[.int .u32 0, .int .u32 0, .int .u32 0]) ?_ 0 _ rfl; refine bx ?_; exact BKp.out) Tryd.underlying61 rfl (by kernel_rfl)) rfl ?_
  exact ⟨by first | rfl | (simp; done), bl⟩
set_option maxHeartbeats 8000000 in
set_option maxRecDepth 100000 in
theorem arith_8 (a0 : Int) (h : a0 = 30 ∨ a0 = 34 ∨ a0 = 42 ∨ a0 = 49) (w : World) : Calls Tryd.prog 68 #[.int .i64 a0] w fun e w' => e = .returned (.agg #[.int .u32 0, .int .u32 5, .int .u32 32]) ∧ Below w.heap.size w w' := by
 have hu84 := Tryd.underlying61
 have HB := Aside0.mk (Below.refl w.heap.size w)
 rcases h with rfl | rfl | rfl | rfl
 all_goals
  go_enter Tryd.func68, Tryd.ntmps68
  go_wp2_with (first | ((with_reducible refine gate_dst (N := 2) rfl ?_); refine box_event ?hg (N := 2) ?hd (cs := #[.int .u32 0, .int .u32 0, .int .u32 0]) (t := 61) ?hr ?_; (case hd => rfl); (case hg => rfl); (case hr => first | (go_simp; done) | (go_simp; rfl)); intro gbp hg wbp hbox hb; have n0_ := Aside0.mk (below_step bl hb); have n1_ := Aside0.mk (hbox); have n2_ := Aside0.mk ((by rw [hg]; exact (below_size bl) : w.heap.size ≤ gbp)); clear HB; have HB := n0_; have BKp := n1_; have GEp := n2_; clear n0_ n1_ n2_; clear hb hbox hg; have hczp_0 : wbp.cell? ⟨gbp, 0, none⟩ = some (.int .u32 0) := (blk_cell BKp.out 0).trans rfl; have hfzp_0 := blk_frozen BKp.out 0; have hczp_1 : wbp.cell? ⟨gbp, 1, none⟩ = some (.int .u32 0) := (blk_cell BKp.out 1).trans rfl; have hfzp_1 := blk_frozen BKp.out 1; have hczp_2 : wbp.cell? ⟨gbp, 2, none⟩ = some (.int .u32 0) := (blk_cell BKp.out 2).trans rfl; have hfzp_2 := blk_frozen BKp.out 2))
  refine bodyPost_ret (results_cell_row rfl _ _ gbp 61 #[.int .u32 0, .int .u32 5, .int .u32 32] (0, 0) _ rfl (by refine bx ?_; refine blk_put (cs := #[.int .u32 0, .int .u32 5, .int .u32 0]) ?_ 2 _ rfl; refine bx ?_; refine blk_put (cs := #[.int .u32 0, .int .u32 0, .int .u32 0]) ?_ 1 _ rfl; refine bx ?_; refine blk_put (cs := #[.int .u32 0, .int .u32 0, .int .u32 0]) ?_ 0 _ rfl; refine bx ?_; exact BKp.out) Tryd.underlying61 rfl (by kernel_rfl)) rfl ?_
  exact ⟨by first | rfl | (simp; done), bl⟩
set_option maxHeartbeats 8000000 in
set_option maxRecDepth 100000 in
theorem arith_9 (a0 : Int) (h : a0 = 36 ∨ a0 = 46) (w : World) : Calls Tryd.prog 68 #[.int .i64 a0] w fun e w' => e = .returned (.agg #[.int .u32 0, .int .u32 0, .int .u32 32]) ∧ Below w.heap.size w w' := by
 have hu84 := Tryd.underlying61
 have HB := Aside0.mk (Below.refl w.heap.size w)
 rcases h with rfl | rfl
 all_goals
  go_enter Tryd.func68, Tryd.ntmps68
  go_wp2_with (first | ((with_reducible refine gate_dst (N := 2) rfl ?_); refine box_event ?hg (N := 2) ?hd (cs := #[.int .u32 0, .int .u32 0, .int .u32 0]) (t := 61) ?hr ?_; (case hd => rfl); (case hg => rfl); (case hr => first | (go_simp; done) | (go_simp; rfl)); intro gbp hg wbp hbox hb; have n0_ := Aside0.mk (below_step bl hb); have n1_ := Aside0.mk (hbox); have n2_ := Aside0.mk ((by rw [hg]; exact (below_size bl) : w.heap.size ≤ gbp)); clear HB; have HB := n0_; have BKp := n1_; have GEp := n2_; clear n0_ n1_ n2_; clear hb hbox hg; have hczp_0 : wbp.cell? ⟨gbp, 0, none⟩ = some (.int .u32 0) := (blk_cell BKp.out 0).trans rfl; have hfzp_0 := blk_frozen BKp.out 0; have hczp_1 : wbp.cell? ⟨gbp, 1, none⟩ = some (.int .u32 0) := (blk_cell BKp.out 1).trans rfl; have hfzp_1 := blk_frozen BKp.out 1; have hczp_2 : wbp.cell? ⟨gbp, 2, none⟩ = some (.int .u32 0) := (blk_cell BKp.out 2).trans rfl; have hfzp_2 := blk_frozen BKp.out 2))
  refine bodyPost_ret (results_cell_row rfl _ _ gbp 61 #[.int .u32 0, .int .u32 0, .int .u32 32] (0, 0) _ rfl (by refine bx ?_; refine blk_put (cs := #[.int .u32 0, .int .u32 0, .int .u32 0]) ?_ 2 _ rfl; refine bx ?_; refine blk_put (cs := #[.int .u32 0, .int .u32 0, .int .u32 0]) ?_ 1 _ rfl; refine bx ?_; refine blk_put (cs := #[.int .u32 0, .int .u32 0, .int .u32 0]) ?_ 0 _ rfl; refine bx ?_; exact BKp.out) Tryd.underlying61 rfl (by kernel_rfl)) rfl ?_
  exact ⟨by first | rfl | (simp; done), bl⟩
theorem enc_arith.calls (k : Nat) (a0 : Int) (r1 : Int) (r2 : Int) (r3 : Int) (w : World) (h : enc_arith.f k a0 = some (r1, r2, r3)) :
  Calls Tryd.prog 68 #[.int .i64 a0] w fun e w' => e = .returned (.agg #[.int .u32 r1, .int .u32 r2, .int .u32 r3]) ∧ Below w.heap.size w w' := by
 have hr : 22 ≤ a0 ∧ a0 < 50 := by
  unfold enc_arith.f at h
  by_cases h1 : 22 ≤ a0 ∧ a0 < 50
  ·exact h1
  ·rw [if_neg h1] at h
   exact absurd h (by simp)
 obtain ⟨n, rfl⟩ := Int.eq_ofNat_of_zero_le (show 0 ≤ a0 by omega)
 have h0 : 22 ≤ n := by omega
 have h1 : n < 50 := by omega
 clear hr
 match n, h0, h1, h with
 | 22, _, _, h => obtain ⟨rfl, rfl, rfl⟩ := of_inj ((show enc_arith.f k ((22 : Nat) : Int) = some (0, 0, 0) by kernel_rfl).symm.trans h); exact arith_0 22 (by decide) w
 | 23, _, _, h => obtain ⟨rfl, rfl, rfl⟩ := of_inj ((show enc_arith.f k ((23 : Nat) : Int) = some (0, 2, 0) by kernel_rfl).symm.trans h); exact arith_1 23 (by decide) w
 | 24, _, _, h => obtain ⟨rfl, rfl, rfl⟩ := of_inj ((show enc_arith.f k ((24 : Nat) : Int) = some (0, 3, 0) by kernel_rfl).symm.trans h); exact arith_2 24 (by decide) w
 | 25, _, _, h => obtain ⟨rfl, rfl, rfl⟩ := of_inj ((show enc_arith.f k ((25 : Nat) : Int) = some (0, 4, 0) by kernel_rfl).symm.trans h); exact arith_3 25 (by decide) w
 | 26, _, _, h => obtain ⟨rfl, rfl, rfl⟩ := of_inj ((show enc_arith.f k ((26 : Nat) : Int) = some (0, 6, 0) by kernel_rfl).symm.trans h); exact arith_4 26 (by decide) w
 | 27, _, _, h => obtain ⟨rfl, rfl, rfl⟩ := of_inj ((show enc_arith.f k ((27 : Nat) : Int) = some (0, 7, 0) by kernel_rfl).symm.trans h); exact arith_5 27 (by decide) w
 | 28, _, _, h => obtain ⟨rfl, rfl, rfl⟩ := of_inj ((show enc_arith.f k ((28 : Nat) : Int) = some (0, 1, 0) by kernel_rfl).symm.trans h); exact arith_6 28 (by decide) w
 | 29, _, _, h => obtain ⟨rfl, rfl, rfl⟩ := of_inj ((show enc_arith.f k ((29 : Nat) : Int) = some (0, 5, 0) by kernel_rfl).symm.trans h); exact arith_7 29 (by decide) w
 | 30, _, _, h => obtain ⟨rfl, rfl, rfl⟩ := of_inj ((show enc_arith.f k ((30 : Nat) : Int) = some (0, 5, 32) by kernel_rfl).symm.trans h); exact arith_8 30 (by decide) w
 | 31, _, _, h => obtain ⟨rfl, rfl, rfl⟩ := of_inj ((show enc_arith.f k ((31 : Nat) : Int) = some (0, 0, 0) by kernel_rfl).symm.trans h); exact arith_0 31 (by decide) w
 | 32, _, _, h => obtain ⟨rfl, rfl, rfl⟩ := of_inj ((show enc_arith.f k ((32 : Nat) : Int) = some (0, 1, 0) by kernel_rfl).symm.trans h); exact arith_6 32 (by decide) w
 | 33, _, _, h => obtain ⟨rfl, rfl, rfl⟩ := of_inj ((show enc_arith.f k ((33 : Nat) : Int) = some (0, 5, 0) by kernel_rfl).symm.trans h); exact arith_7 33 (by decide) w
 | 34, _, _, h => obtain ⟨rfl, rfl, rfl⟩ := of_inj ((show enc_arith.f k ((34 : Nat) : Int) = some (0, 5, 32) by kernel_rfl).symm.trans h); exact arith_8 34 (by decide) w
 | 35, _, _, h => obtain ⟨rfl, rfl, rfl⟩ := of_inj ((show enc_arith.f k ((35 : Nat) : Int) = some (0, 0, 0) by kernel_rfl).symm.trans h); exact arith_0 35 (by decide) w
 | 36, _, _, h => obtain ⟨rfl, rfl, rfl⟩ := of_inj ((show enc_arith.f k ((36 : Nat) : Int) = some (0, 0, 32) by kernel_rfl).symm.trans h); exact arith_9 36 (by decide) w
 | 37, _, _, h => obtain ⟨rfl, rfl, rfl⟩ := of_inj ((show enc_arith.f k ((37 : Nat) : Int) = some (0, 1, 0) by kernel_rfl).symm.trans h); exact arith_6 37 (by decide) w
 | 38, _, _, h => obtain ⟨rfl, rfl, rfl⟩ := of_inj ((show enc_arith.f k ((38 : Nat) : Int) = some (0, 2, 0) by kernel_rfl).symm.trans h); exact arith_1 38 (by decide) w
 | 39, _, _, h => obtain ⟨rfl, rfl, rfl⟩ := of_inj ((show enc_arith.f k ((39 : Nat) : Int) = some (0, 3, 0) by kernel_rfl).symm.trans h); exact arith_2 39 (by decide) w
 | 40, _, _, h => obtain ⟨rfl, rfl, rfl⟩ := of_inj ((show enc_arith.f k ((40 : Nat) : Int) = some (0, 4, 0) by kernel_rfl).symm.trans h); exact arith_3 40 (by decide) w
 | 41, _, _, h => obtain ⟨rfl, rfl, rfl⟩ := of_inj ((show enc_arith.f k ((41 : Nat) : Int) = some (0, 5, 0) by kernel_rfl).symm.trans h); exact arith_7 41 (by decide) w
 | 42, _, _, h => obtain ⟨rfl, rfl, rfl⟩ := of_inj ((show enc_arith.f k ((42 : Nat) : Int) = some (0, 5, 32) by kernel_rfl).symm.trans h); exact arith_8 42 (by decide) w
 | 43, _, _, h => obtain ⟨rfl, rfl, rfl⟩ := of_inj ((show enc_arith.f k ((43 : Nat) : Int) = some (0, 6, 0) by kernel_rfl).symm.trans h); exact arith_4 43 (by decide) w
 | 44, _, _, h => obtain ⟨rfl, rfl, rfl⟩ := of_inj ((show enc_arith.f k ((44 : Nat) : Int) = some (0, 7, 0) by kernel_rfl).symm.trans h); exact arith_5 44 (by decide) w
 | 45, _, _, h => obtain ⟨rfl, rfl, rfl⟩ := of_inj ((show enc_arith.f k ((45 : Nat) : Int) = some (0, 0, 0) by kernel_rfl).symm.trans h); exact arith_0 45 (by decide) w
 | 46, _, _, h => obtain ⟨rfl, rfl, rfl⟩ := of_inj ((show enc_arith.f k ((46 : Nat) : Int) = some (0, 0, 32) by kernel_rfl).symm.trans h); exact arith_9 46 (by decide) w
 | 47, _, _, h => obtain ⟨rfl, rfl, rfl⟩ := of_inj ((show enc_arith.f k ((47 : Nat) : Int) = some (0, 1, 0) by kernel_rfl).symm.trans h); exact arith_6 47 (by decide) w
 | 48, _, _, h => obtain ⟨rfl, rfl, rfl⟩ := of_inj ((show enc_arith.f k ((48 : Nat) : Int) = some (0, 5, 0) by kernel_rfl).symm.trans h); exact arith_7 48 (by decide) w
 | 49, _, _, h => obtain ⟨rfl, rfl, rfl⟩ := of_inj ((show enc_arith.f k ((49 : Nat) : Int) = some (0, 5, 32) by kernel_rfl).symm.trans h); exact arith_8 49 (by decide) w
 | n + 50, _, h1, _ => exact absurd h1 (by omega)

/-! ### enc_code_with: function 69 -/
def enc_code_with.f (a0_0 : Int) (a0_1 : Int) (a0_2 : Int) (a1 : Int) : Option (Int × Int × Int) := some (a1, a0_1, a0_2)
set_option maxHeartbeats 8000000 in
set_option maxRecDepth 100000 in
theorem enc_code_with.calls (a0_0 : Int) (a0_1 : Int) (a0_2 : Int) (a1 : Int) (r1 : Int) (r2 : Int) (r3 : Int) (w : World) (h : enc_code_with.f a0_0 a0_1 a0_2 a1 = some (r1, r2, r3)) :
  Calls Tryd.prog 69 #[.agg #[.int .u32 a0_0, .int .u32 a0_1, .int .u32 a0_2], .int .u32 a1] w fun e w' => e = .returned (.agg #[.int .u32 r1, .int .u32 r2, .int .u32 r3]) ∧ Below w.heap.size w w' := by
 have hu61 := Tryd.underlying61
 have HB := Aside0.mk (Below.refl w.heap.size w)
 have H : (some (a1, a0_1, a0_2)) = some (r1, r2, r3) := h
 clear h
 simp only [Option.some.injEq, Prod.mk.injEq] at H
 obtain ⟨rfl, rfl, rfl⟩ := H
 go_enter Tryd.func69, Tryd.ntmps69
 go_wp2_with (first | ((with_reducible refine gate_dst (N := 2) rfl ?_); refine box_event ?hg (N := 2) ?hd (cs := #[.int .u32 a0_0, .int .u32 a0_1, .int .u32 a0_2]) (t := 61) ?hr ?_; (case hd => rfl); (case hg => rfl); (case hr => first | (go_simp; done) | (go_simp; rfl)); intro gb125 hg w3 hbox hb; obtain ⟨n0_, GW125⟩ := nb (w := w) hg hb; clear HB; have HB := n0_; have BK125 := Aside0.mk hbox; have GE125 := GW125; clear n0_ hb hbox hg) | ((with_reducible refine gate_dst (N := 4) rfl ?_); refine box_event ?hg (N := 4) ?hd (cs := #[.int .u32 0, .int .u32 0, .int .u32 0]) (t := 61) ?hr ?_; (case hd => rfl); (case hg => rfl); (case hr => first | (go_simp; done) | (go_simp; rfl)); intro gb126 hg w4 hbox hb; have n0_ := Aside0.mk (blk_below (g := gb125) (o := .cells #[.int .u32 a0_0, .int .u32 a0_1, .int .u32 a0_2] 61 (0, 0)) (bk BK125.out) hb); have n1_ := Aside0.mk (below_step bl hb); have n2_ := Aside0.mk (hbox); have n3_ := Aside0.mk ((by rw [hg]; exact (below_size bl) : w.heap.size ≤ gb126)); have n4_ := Aside0.mk ((by rw [hg]; exact (below_size bl) : w.heap.size ≤ gb126)); have n5_ := Aside0.mk ((by rw [hg]; exact Nat.ne_of_lt (blk_lt (g := gb125) (o := .cells #[.int .u32 a0_0, .int .u32 a0_1, .int .u32 a0_2] 61 (0, 0)) (bk BK125.out)) : gb125 ≠ gb126)); have n6_ := Aside0.mk ((by rw [hg]; exact Nat.ne_of_gt (blk_lt (g := gb125) (o := .cells #[.int .u32 a0_0, .int .u32 a0_1, .int .u32 a0_2] 61 (0, 0)) (bk BK125.out)) : gb126 ≠ gb125)); clear BK125; clear HB; have BK125 := n0_; have HB := n1_; have BK126 := n2_; have GW126 := n3_; have GE126 := n4_; have NB125_126 := n5_; have NB126_125 := n6_; clear n0_ n1_ n2_ n3_ n4_ n5_ n6_; clear hb hbox hg; have hnb5 := NB125_126.out; have hnc5 := NB126_125.out; obtain ⟨hcz6_0, hcz6_1, hcz6_2, hfz6_0, hfz6_1, hfz6_2⟩ := cz3 (w := w4) BK125.out; obtain ⟨hcz7_0, hcz7_1, hcz7_2, hfz7_0, hfz7_1, hfz7_2⟩ := cz3 (w := w4) BK126.out))
 refine bodyPost_ret (results_cell_row rfl _ _ gb126 61 #[.int .u32 a1, .int .u32 a0_1, .int .u32 a0_2] (0, 0) _ rfl (by refine bx ?_; refine blk_put (cs := #[.int .u32 a1, .int .u32 a0_1, .int .u32 0]) ?_ 2 _ rfl; refine bx ?_; refine blk_put (cs := #[.int .u32 a1, .int .u32 0, .int .u32 0]) ?_ 1 _ rfl; refine bx ?_; refine blk_put (cs := #[.int .u32 0, .int .u32 0, .int .u32 0]) ?_ 0 _ rfl; refine bx ?_; exact BK126.out) Tryd.underlying61 rfl (by kernel_rfl)) rfl ?_
 exact ⟨fi, bl⟩

/-! ### enc_times: function 70 -/
def enc_times.f (a0 : Int) : Option (Int × Int × Int) := if a0 ≤ 57 then (some (0, (wrap64 (a0 - 50)) % 4294967296, 1)) else (if a0 > 58 then (some (0, (((wrap64 (a0 - 59)) % 4294967296) + 4) % 4294967296, 1)) else (some (0, 0, 1)))
set_option maxHeartbeats 8000000 in
set_option maxRecDepth 100000 in
theorem enc_times.calls (a0 : Int) (r1 : Int) (r2 : Int) (r3 : Int) (w : World) (h : enc_times.f a0 = some (r1, r2, r3)) :
  Calls Tryd.prog 70 #[.int .i64 a0] w fun e w' => e = .returned (.agg #[.int .u32 r1, .int .u32 r2, .int .u32 r3]) ∧ Below w.heap.size w w' := by
 have hu61 := Tryd.underlying61
 have HB := Aside0.mk (Below.refl w.heap.size w)
 have H : (if a0 ≤ 57 then (some (0, (wrap64 (a0 - 50)) % 4294967296, 1)) else (if a0 > 58 then (some (0, (((wrap64 (a0 - 59)) % 4294967296) + 4) % 4294967296, 1)) else (some (0, 0, 1)))) = some (r1, r2, r3) := h
 clear h
 by_cases c2 : a0 ≤ 57
 ·rw [if_pos c2] at H
  have c2b0 : decide (a0 ≤ 57) = true := decide_eq_true c2
  clear c2
  simp only [Option.some.injEq, Prod.mk.injEq] at H
  obtain ⟨rfl, rfl, rfl⟩ := H
  go_enter Tryd.func70, Tryd.ntmps70
  go_wp2_with (first | ((with_reducible refine gate_dst (N := 2) rfl ?_); refine box_event ?hg (N := 2) ?hd (cs := #[.int .u32 0, .int .u32 0, .int .u32 0]) (t := 61) ?hr ?_; (case hd => rfl); (case hg => rfl); (case hr => first | (go_simp; done) | (go_simp; rfl)); intro gb127 hg w3 hbox hb; obtain ⟨n0_, GW127⟩ := nb (w := w) hg hb; clear HB; have HB := n0_; have BK127 := Aside0.mk hbox; have GE127 := GW127; clear n0_ hb hbox hg; obtain ⟨hcz4_0, hcz4_1, hcz4_2, hfz4_0, hfz4_1, hfz4_2⟩ := cz3 (w := w3) BK127.out))
  refine bodyPost_ret (results_cell_row rfl _ _ gb127 61 #[.int .u32 0, .int .u32 ((wrap64 (a0 - 50)) % 4294967296), .int .u32 1] (0, 0) _ rfl (by refine bx ?_; refine blk_put (cs := #[.int .u32 0, .int .u32 ((wrap64 (a0 - 50)) % 4294967296), .int .u32 0]) ?_ 2 _ rfl; refine bx ?_; refine blk_put (cs := #[.int .u32 0, .int .u32 0, .int .u32 0]) ?_ 1 _ (by first | rfl | simp); refine bx ?_; refine blk_put (cs := #[.int .u32 0, .int .u32 0, .int .u32 0]) ?_ 0 _ rfl; refine bx ?_; exact BK127.out) Tryd.underlying61 rfl (by kernel_rfl)) rfl ?_
  exact ⟨fi, bl⟩
 ·rw [if_neg c2] at H
  have c2b0 : decide (a0 ≤ 57) = false := decide_eq_false c2
  clear c2
  by_cases c5 : a0 > 58
  ·rw [if_pos c5] at H
   have c5b0 : decide (58 < a0) = true := decide_eq_true c5
   clear c5
   simp only [Option.some.injEq, Prod.mk.injEq] at H
   obtain ⟨rfl, rfl, rfl⟩ := H
   go_enter Tryd.func70, Tryd.ntmps70
   go_wp2_with (first | ((with_reducible refine gate_dst (N := 2) rfl ?_); refine box_event ?hg (N := 2) ?hd (cs := #[.int .u32 0, .int .u32 0, .int .u32 0]) (t := 61) ?hr ?_; (case hd => rfl); (case hg => rfl); (case hr => first | (go_simp; done) | (go_simp; rfl)); intro gb127 hg w6 hbox hb; obtain ⟨n0_, GW127⟩ := nb (w := w) hg hb; clear HB; have HB := n0_; have BK127 := Aside0.mk hbox; have GE127 := GW127; clear n0_ hb hbox hg; obtain ⟨hcz7_0, hcz7_1, hcz7_2, hfz7_0, hfz7_1, hfz7_2⟩ := cz3 (w := w6) BK127.out))
   refine bodyPost_ret (results_cell_row rfl _ _ gb127 61 #[.int .u32 0, .int .u32 ((((wrap64 (a0 - 59)) % 4294967296) + 4) % 4294967296), .int .u32 1] (0, 0) _ rfl (by refine bx ?_; refine blk_put (cs := #[.int .u32 0, .int .u32 ((((wrap64 (a0 - 59)) % 4294967296) + 4) % 4294967296), .int .u32 0]) ?_ 2 _ rfl; refine bx ?_; refine blk_put (cs := #[.int .u32 0, .int .u32 0, .int .u32 0]) ?_ 1 _ (by first | rfl | simp); refine bx ?_; refine blk_put (cs := #[.int .u32 0, .int .u32 0, .int .u32 0]) ?_ 0 _ rfl; refine bx ?_; exact BK127.out) Tryd.underlying61 rfl (by kernel_rfl)) rfl ?_
   exact ⟨fi, bl⟩
  ·rw [if_neg c5] at H
   have c5b0 : decide (58 < a0) = false := decide_eq_false c5
   clear c5
   simp only [Option.some.injEq, Prod.mk.injEq] at H
   obtain ⟨rfl, rfl, rfl⟩ := H
   go_enter Tryd.func70, Tryd.ntmps70
   go_wp2_with (first | ((with_reducible refine gate_dst (N := 2) rfl ?_); refine box_event ?hg (N := 2) ?hd (cs := #[.int .u32 0, .int .u32 0, .int .u32 0]) (t := 61) ?hr ?_; (case hd => rfl); (case hg => rfl); (case hr => first | (go_simp; done) | (go_simp; rfl)); intro gb127 hg w8 hbox hb; obtain ⟨n0_, GW127⟩ := nb (w := w) hg hb; clear HB; have HB := n0_; have BK127 := Aside0.mk hbox; have GE127 := GW127; clear n0_ hb hbox hg; obtain ⟨hcz9_0, hcz9_1, hcz9_2, hfz9_0, hfz9_1, hfz9_2⟩ := cz3 (w := w8) BK127.out))
   refine bodyPost_ret (results_cell_row rfl _ _ gb127 61 #[.int .u32 0, .int .u32 0, .int .u32 1] (0, 0) _ rfl (by refine bx ?_; refine blk_put (cs := #[.int .u32 0, .int .u32 0, .int .u32 0]) ?_ 2 _ rfl; refine bx ?_; refine blk_put (cs := #[.int .u32 0, .int .u32 0, .int .u32 0]) ?_ 1 _ (by first | rfl | simp); refine bx ?_; refine blk_put (cs := #[.int .u32 0, .int .u32 0, .int .u32 0]) ?_ 0 _ rfl; refine bx ?_; exact BK127.out) Tryd.underlying61 rfl (by kernel_rfl)) rfl ?_
   exact ⟨fi, bl⟩

/-! ### enc_atomic: function 71 (by hand) -/
def f5Tab : List Int := [2, 3, 1, 0, 4, 12, 8, 16, 20, 24, 28]
def f5Arr : Array Value := (f5Tab.map fun n => Value.int .u32 n).toArray
def f5Zero : Array Value := Array.replicate 11 (.int .u32 0)
theorem f5Arr_one : ∀ q ∈ f5Arr.toList, q.oneCell' = true := by
 intro q hq
 obtain ⟨n, _, rfl⟩ := List.mem_map.mp hq
 rfl
theorem f5Arr_at (i : Nat) (h : i < 11) : f5Arr[i]? = some (.int .u32 (rd f5Tab (i : Int))) := by
 have hl : f5Tab.length = 11 := by decide
 unfold f5Arr rd
 simp [hl, h]
def enc_atomic.f (a0 : Int) : Option (Int × Int × Int) := if 66 ≤ a0 ∧ a0 < 88 then some (47, if a0 < 77 then 2 else 3, (rd f5Tab (if a0 < 77 then a0 - 66 else a0 - 77) * 4) % 4294967296) else none
theorem fill_event {P : Program} {ops : Array Oper} {rest : List Oper} {o : Oper} {a : Act} {Q : Exit → Act → World → Prop} {W : World} (hgd : o.guard = none) {t : TypeId} {p : Tmp} {v : Operand} (ho : o.op = .store t (.tmp p) v) (hN : o.dst = none)
  {g : Nat} {e : TypeId} {cur cs : Array Value} (hp : a.eval (.tmp p) = .pointer (some ⟨g, 0, none⟩)) (hv : a.eval v = .agg cs) (hh : W.heap[g]? = some (.cells cur e (0, 0))) (hsz : cs.size = cur.size)
  (h1 : ∀ q ∈ cs.toList, q.oneCell' = true) (hc : (Value.agg cs).cells.toList = cs.toList) (ht : (P.info? t).map (·.size) = some cs.size)
  (h : ∀ w1, w1.heap[g]? = some (.cells cs e (0, 0)) → Below g W w1 → wpList P ops Q rest a w1) : wpList P ops Q (o :: rest) a W := by
 have hrun : (Instr.storeAt t (.pointer (some ⟨g, 0, none⟩)) (.agg cs)).run P W = .ok () (W.setCells g 0 cs.toList) :=
  run_store_run t (.agg cs) cs.toList hh hc (by rw [ht, Array.length_toList]) (by rw [Array.length_toList]; omega) h1
 refine wpList_plain hgd fun K hK => ?_
 unfold Oper.wp execOp
 simp only [ho, hp, hv, Sem.run_bind, Sem.run_pure, Result.andThen_ok, hrun]
 show K (a.put o.dst undef) _
 rw [hN]
 refine hK a _ (h _ ?_ ?_)
 ·obtain ⟨cur', h3, h4, h5⟩ := setCells_row cs.toList 0 W cur hh (by rw [Array.length_toList]; omega)
  have e : cur' = cs := by
   apply Array.ext'
   rw [h5, List.take_zero, List.nil_append, List.drop_of_length_le (by rw [Array.length_toList, Array.length_toList]; omega), List.append_nil]
  rw [e] at h3; exact h3
 ·obtain ⟨s1, s2, s3, s4⟩ := setCells_same g cs.toList 0 W
  exact ⟨s1, s2, s3, by rw [s4]; exact Nat.le_refl _, fun k hk => setCells_far _ _ k (Nat.ne_of_lt hk)⟩
theorem below_fill {b g : Nat} {w W w1 : World} (h : Below b w W) (h1 : Below g W w1) (hg : b ≤ g) : Below b w w1 :=
 h.trans ⟨h1.os, h1.tape, h1.output, h1.size, fun k hk => h1.block k (Nat.lt_of_lt_of_le hk hg)⟩
set_option maxHeartbeats 8000000 in
set_option maxRecDepth 100000 in
theorem atomic_lo (a0 : Int) (i : Nat) (hi : i < 11) (he : wrap64 (a0 - 66) = (i : Int)) (hb0 : decide (77 ≤ a0) = false) (w : World) : Calls Tryd.prog 71 #[.int .i64 a0] w fun e w' => e = .returned (.agg #[.int .u32 47, .int .u32 2, .int .u32 ((rd f5Tab (i : Int) * 4) % 4294967296)]) ∧ Below w.heap.size w w' := by
 have hi0 : (0 : Int) ≤ (i : Int) := by omega
 have hi1 : (i : Int) < 11 := by omega
 have hu84 := Tryd.underlying61
 have hu120 := Tryd.underlying105
 have HB := Aside0.mk (Below.refl w.heap.size w)
 go_enter Tryd.func71, Tryd.ntmps71
 go_wp2_with (first | ((with_reducible refine gate_dst (N := 2) rfl ?_); refine box_event ?hg (N := 2) ?hd (cs := #[.int .u32 0, .int .u32 0, .int .u32 0]) (t := 61) ?hr ?_; (case hd => rfl); (case hg => rfl); (case hr => first | (go_simp; done) | (go_simp; rfl)); intro gbp hg wbp hbox hb; have n0_ := Aside0.mk (below_step bl hb); have n1_ := Aside0.mk (hbox); have n2_ := Aside0.mk ((by rw [hg]; exact (below_size bl) : w.heap.size ≤ gbp)); clear HB; have HB := n0_; have BKp := n1_; have GEp := n2_; clear n0_ n1_ n2_; clear hb hbox hg; have hczp_0 : wbp.cell? ⟨gbp, 0, none⟩ = some (.int .u32 0) := (blk_cell BKp.out 0).trans rfl; have hfzp_0 := blk_frozen BKp.out 0; have hczp_1 : wbp.cell? ⟨gbp, 1, none⟩ = some (.int .u32 0) := (blk_cell BKp.out 1).trans rfl; have hfzp_1 := blk_frozen BKp.out 1; have hczp_2 : wbp.cell? ⟨gbp, 2, none⟩ = some (.int .u32 0) := (blk_cell BKp.out 2).trans rfl; have hfzp_2 := blk_frozen BKp.out 2) | ((with_reducible refine gate_dst (N := 3) rfl ?_); refine box_event ?hg (N := 3) ?hd (cs := f5Zero) (t := 105) ?hr ?_; (case hd => rfl); (case hg => rfl); (case hr => first | (go_simp; done) | (go_simp; rfl)); intro gbq hg wbq hbox hb; have n0_ := Aside0.mk (blk_below (g := gbp) (o := .cells #[.int .u32 0, .int .u32 0, .int .u32 0] 61 (0, 0)) (bk BKp.out) hb); have n1_ := Aside0.mk (below_step bl hb); have n2_ := Aside0.mk (hbox); have n3_ := Aside0.mk ((by rw [hg]; exact (below_size bl) : w.heap.size ≤ gbq)); have n4_ := Aside0.mk ((by rw [hg]; exact Nat.ne_of_lt (blk_lt (g := gbp) (o := .cells #[.int .u32 0, .int .u32 0, .int .u32 0] 61 (0, 0)) (bk BKp.out)) : gbp ≠ gbq)); have n5_ := Aside0.mk ((by rw [hg]; exact Nat.ne_of_gt (blk_lt (g := gbp) (o := .cells #[.int .u32 0, .int .u32 0, .int .u32 0] 61 (0, 0)) (bk BKp.out)) : gbq ≠ gbp)); have n6_ := Aside0.mk ((by rw [hg]; exact blk_lt (g := gbp) (o := .cells #[.int .u32 0, .int .u32 0, .int .u32 0] 61 (0, 0)) (bk BKp.out)) : gbp < gbq); clear BKp; clear HB; have BKp := n0_; have HB := n1_; have BKq := n2_; have GEq := n3_; have NBp_q := n4_; have NBq_p := n5_; have LTp_q := n6_; clear n0_ n1_ n2_ n3_ n4_ n5_ n6_; clear hb hbox hg; have hnbp := NBp_q.out; have hncp := NBq_p.out; have hczp_0 : wbq.cell? ⟨gbp, 0, none⟩ = some (.int .u32 0) := (blk_cell BKp.out 0).trans rfl; have hfzp_0 := blk_frozen BKp.out 0; have hczp_1 : wbq.cell? ⟨gbp, 1, none⟩ = some (.int .u32 0) := (blk_cell BKp.out 1).trans rfl; have hfzp_1 := blk_frozen BKp.out 1; have hczp_2 : wbq.cell? ⟨gbp, 2, none⟩ = some (.int .u32 0) := (blk_cell BKp.out 2).trans rfl; have hfzp_2 := blk_frozen BKp.out 2) | ((with_reducible refine gate_store (t := 105) (p := 3) rfl ?_); refine fill_event rfl (t := 105) (p := 3) rfl rfl (g := gbq) (e := 105) (cur := f5Zero) (cs := f5Arr) ?hp ?hv (bk BKq.out) rfl f5Arr_one rfl ?ht ?_; (case hp => first | rfl | (go_simp; done) | (go_simp; rfl)); (case hv => first | rfl | (go_simp; done) | (go_simp; rfl)); (case ht => kernel_rfl); intro wf hwf hb; have n0_ := Aside0.mk (below_fill bl hb GEq.out); have n1_ := Aside0.mk hwf; have n2_ := Aside0.mk ((hb.block gbp LTp_q.out).trans (bk BKp.out)); clear BKq BKp HB; have BKq := n1_; have HB := n0_; have BKp := n2_; clear n0_ n1_ n2_ hb hwf; have hczp_0 : wf.cell? ⟨gbp, 0, none⟩ = some (.int .u32 0) := (blk_cell BKp.out 0).trans rfl; have hfzp_0 := blk_frozen BKp.out 0; have hczp_1 : wf.cell? ⟨gbp, 1, none⟩ = some (.int .u32 0) := (blk_cell BKp.out 1).trans rfl; have hfzp_1 := blk_frozen BKp.out 1; have hczp_2 : wf.cell? ⟨gbp, 2, none⟩ = some (.int .u32 0) := (blk_cell BKp.out 2).trans rfl; have hfzp_2 := blk_frozen BKp.out 2; have hcz : wf.cell? ⟨gbq, i, none⟩ = some (.int .u32 (rd f5Tab (i : Int))) := (blk_cell BKq.out i).trans (f5Arr_at i hi); have hfz := blk_frozen BKq.out i))
 refine bodyPost_ret (results_cell_row rfl _ _ gbp 61 #[.int .u32 47, .int .u32 2, .int .u32 ((rd f5Tab (i : Int) * 4) % 4294967296)] (0, 0) _ rfl (by refine bx ?_; refine blk_put (cs := #[.int .u32 47, .int .u32 2, .int .u32 0]) ?_ 2 _ rfl; refine bx ?_; refine blk_put (cs := #[.int .u32 47, .int .u32 0, .int .u32 0]) ?_ 1 _ rfl; refine bx ?_; refine blk_put (cs := #[.int .u32 0, .int .u32 0, .int .u32 0]) ?_ 0 _ rfl; refine bx ?_; exact BKp.out) Tryd.underlying61 rfl (by kernel_rfl)) rfl ?_
 exact ⟨by first | rfl | (simp; done), bl⟩
set_option maxHeartbeats 8000000 in
set_option maxRecDepth 100000 in
theorem atomic_hi (a0 : Int) (i : Nat) (hi : i < 11) (he : wrap64 (a0 - 77) = (i : Int)) (hb0 : decide (77 ≤ a0) = true) (w : World) : Calls Tryd.prog 71 #[.int .i64 a0] w fun e w' => e = .returned (.agg #[.int .u32 47, .int .u32 3, .int .u32 ((rd f5Tab (i : Int) * 4) % 4294967296)]) ∧ Below w.heap.size w w' := by
 have hi0 : (0 : Int) ≤ (i : Int) := by omega
 have hi1 : (i : Int) < 11 := by omega
 have hu84 := Tryd.underlying61
 have hu120 := Tryd.underlying105
 have HB := Aside0.mk (Below.refl w.heap.size w)
 go_enter Tryd.func71, Tryd.ntmps71
 go_wp2_with (first | ((with_reducible refine gate_dst (N := 2) rfl ?_); refine box_event ?hg (N := 2) ?hd (cs := #[.int .u32 0, .int .u32 0, .int .u32 0]) (t := 61) ?hr ?_; (case hd => rfl); (case hg => rfl); (case hr => first | (go_simp; done) | (go_simp; rfl)); intro gbp hg wbp hbox hb; have n0_ := Aside0.mk (below_step bl hb); have n1_ := Aside0.mk (hbox); have n2_ := Aside0.mk ((by rw [hg]; exact (below_size bl) : w.heap.size ≤ gbp)); clear HB; have HB := n0_; have BKp := n1_; have GEp := n2_; clear n0_ n1_ n2_; clear hb hbox hg; have hczp_0 : wbp.cell? ⟨gbp, 0, none⟩ = some (.int .u32 0) := (blk_cell BKp.out 0).trans rfl; have hfzp_0 := blk_frozen BKp.out 0; have hczp_1 : wbp.cell? ⟨gbp, 1, none⟩ = some (.int .u32 0) := (blk_cell BKp.out 1).trans rfl; have hfzp_1 := blk_frozen BKp.out 1; have hczp_2 : wbp.cell? ⟨gbp, 2, none⟩ = some (.int .u32 0) := (blk_cell BKp.out 2).trans rfl; have hfzp_2 := blk_frozen BKp.out 2) | ((with_reducible refine gate_dst (N := 3) rfl ?_); refine box_event ?hg (N := 3) ?hd (cs := f5Zero) (t := 105) ?hr ?_; (case hd => rfl); (case hg => rfl); (case hr => first | (go_simp; done) | (go_simp; rfl)); intro gbq hg wbq hbox hb; have n0_ := Aside0.mk (blk_below (g := gbp) (o := .cells #[.int .u32 0, .int .u32 0, .int .u32 0] 61 (0, 0)) (bk BKp.out) hb); have n1_ := Aside0.mk (below_step bl hb); have n2_ := Aside0.mk (hbox); have n3_ := Aside0.mk ((by rw [hg]; exact (below_size bl) : w.heap.size ≤ gbq)); have n4_ := Aside0.mk ((by rw [hg]; exact Nat.ne_of_lt (blk_lt (g := gbp) (o := .cells #[.int .u32 0, .int .u32 0, .int .u32 0] 61 (0, 0)) (bk BKp.out)) : gbp ≠ gbq)); have n5_ := Aside0.mk ((by rw [hg]; exact Nat.ne_of_gt (blk_lt (g := gbp) (o := .cells #[.int .u32 0, .int .u32 0, .int .u32 0] 61 (0, 0)) (bk BKp.out)) : gbq ≠ gbp)); have n6_ := Aside0.mk ((by rw [hg]; exact blk_lt (g := gbp) (o := .cells #[.int .u32 0, .int .u32 0, .int .u32 0] 61 (0, 0)) (bk BKp.out)) : gbp < gbq); clear BKp; clear HB; have BKp := n0_; have HB := n1_; have BKq := n2_; have GEq := n3_; have NBp_q := n4_; have NBq_p := n5_; have LTp_q := n6_; clear n0_ n1_ n2_ n3_ n4_ n5_ n6_; clear hb hbox hg; have hnbp := NBp_q.out; have hncp := NBq_p.out; have hczp_0 : wbq.cell? ⟨gbp, 0, none⟩ = some (.int .u32 0) := (blk_cell BKp.out 0).trans rfl; have hfzp_0 := blk_frozen BKp.out 0; have hczp_1 : wbq.cell? ⟨gbp, 1, none⟩ = some (.int .u32 0) := (blk_cell BKp.out 1).trans rfl; have hfzp_1 := blk_frozen BKp.out 1; have hczp_2 : wbq.cell? ⟨gbp, 2, none⟩ = some (.int .u32 0) := (blk_cell BKp.out 2).trans rfl; have hfzp_2 := blk_frozen BKp.out 2) | ((with_reducible refine gate_store (t := 105) (p := 3) rfl ?_); refine fill_event rfl (t := 105) (p := 3) rfl rfl (g := gbq) (e := 105) (cur := f5Zero) (cs := f5Arr) ?hp ?hv (bk BKq.out) rfl f5Arr_one rfl ?ht ?_; (case hp => first | rfl | (go_simp; done) | (go_simp; rfl)); (case hv => first | rfl | (go_simp; done) | (go_simp; rfl)); (case ht => kernel_rfl); intro wf hwf hb; have n0_ := Aside0.mk (below_fill bl hb GEq.out); have n1_ := Aside0.mk hwf; have n2_ := Aside0.mk ((hb.block gbp LTp_q.out).trans (bk BKp.out)); clear BKq BKp HB; have BKq := n1_; have HB := n0_; have BKp := n2_; clear n0_ n1_ n2_ hb hwf; have hczp_0 : wf.cell? ⟨gbp, 0, none⟩ = some (.int .u32 0) := (blk_cell BKp.out 0).trans rfl; have hfzp_0 := blk_frozen BKp.out 0; have hczp_1 : wf.cell? ⟨gbp, 1, none⟩ = some (.int .u32 0) := (blk_cell BKp.out 1).trans rfl; have hfzp_1 := blk_frozen BKp.out 1; have hczp_2 : wf.cell? ⟨gbp, 2, none⟩ = some (.int .u32 0) := (blk_cell BKp.out 2).trans rfl; have hfzp_2 := blk_frozen BKp.out 2; have hcz : wf.cell? ⟨gbq, i, none⟩ = some (.int .u32 (rd f5Tab (i : Int))) := (blk_cell BKq.out i).trans (f5Arr_at i hi); have hfz := blk_frozen BKq.out i))
 refine bodyPost_ret (results_cell_row rfl _ _ gbp 61 #[.int .u32 47, .int .u32 3, .int .u32 ((rd f5Tab (i : Int) * 4) % 4294967296)] (0, 0) _ rfl (by refine bx ?_; refine blk_put (cs := #[.int .u32 47, .int .u32 3, .int .u32 0]) ?_ 2 _ rfl; refine bx ?_; refine blk_put (cs := #[.int .u32 47, .int .u32 0, .int .u32 0]) ?_ 1 _ rfl; refine bx ?_; refine blk_put (cs := #[.int .u32 0, .int .u32 0, .int .u32 0]) ?_ 0 _ rfl; refine bx ?_; exact BKp.out) Tryd.underlying61 rfl (by kernel_rfl)) rfl ?_
 exact ⟨by first | rfl | (simp; done), bl⟩
theorem enc_atomic.calls (a0 : Int) (r1 : Int) (r2 : Int) (r3 : Int) (w : World) (h : enc_atomic.f a0 = some (r1, r2, r3)) :
  Calls Tryd.prog 71 #[.int .i64 a0] w fun e w' => e = .returned (.agg #[.int .u32 r1, .int .u32 r2, .int .u32 r3]) ∧ Below w.heap.size w w' := by
 unfold enc_atomic.f at h
 by_cases h1 : 66 ≤ a0 ∧ a0 < 88
 ·rw [if_pos h1] at h
  by_cases h2 : a0 < 77
  ·rw [if_pos h2, if_pos h2] at h
   obtain ⟨rfl, rfl, rfl⟩ : 47 = r1 ∧ 2 = r2 ∧ (rd f5Tab (a0 - 66) * 4) % 4294967296 = r3 := by simpa using h
   have e : a0 - 66 = (((a0 - 66).toNat : Nat) : Int) := by omega
   have q := atomic_lo a0 (a0 - 66).toNat (by omega) (by unfold wrap64; omega) (decide_eq_false (by omega)) w
   rw [e]; exact q
  ·rw [if_neg h2, if_neg h2] at h
   obtain ⟨rfl, rfl, rfl⟩ : 47 = r1 ∧ 3 = r2 ∧ (rd f5Tab (a0 - 77) * 4) % 4294967296 = r3 := by simpa using h
   have e : a0 - 77 = (((a0 - 77).toNat : Nat) : Int) := by omega
   have q := atomic_hi a0 (a0 - 77).toNat (by omega) (by unfold wrap64; omega) (decide_eq_true (by omega)) w
   rw [e]; exact q
 ·rw [if_neg h1] at h
  exact absurd h (by simp)

/-! ### enc_of: function 38 (by hand) -/
def codeTab : List (Int × Int × Int) := [(55, 0, 0), (23, 0, 0), (111, 0, 0), (103, 0, 0), (99, 0, 0), (99, 1, 0), (99, 4, 0), (99, 5, 0), (99, 6, 0), (99, 7, 0), (3, 0, 0), (3, 1, 0), (3, 2, 0), (3, 3, 0), (3, 4, 0), (3, 5, 0), (3, 6, 0), (35, 0, 0), (35, 1, 0), (35, 2, 0), (35, 3, 0), (19, 0, 0), (19, 2, 0), (19, 3, 0), (19, 4, 0), (19, 6, 0), (19, 7, 0), (19, 1, 0), (19, 5, 0), (19, 5, 32), (27, 0, 0), (27, 1, 0), (27, 5, 0), (27, 5, 32), (51, 0, 0), (51, 0, 32), (51, 1, 0), (51, 2, 0), (51, 3, 0), (51, 4, 0), (51, 5, 0), (51, 5, 32), (51, 6, 0), (51, 7, 0), (59, 0, 0), (59, 0, 32), (59, 1, 0), (59, 5, 0), (59, 5, 32), (51, 0, 1), (51, 1, 1), (51, 2, 1), (51, 3, 1), (51, 4, 1), (51, 5, 1), (51, 6, 1), (51, 7, 1), (59, 0, 1), (59, 4, 1), (59, 5, 1), (59, 6, 1), (59, 7, 1), (15, 0, 0), (115, 0, 0), (115, 0, 0), (47, 2, 8), (47, 2, 12), (47, 2, 4), (47, 2, 0), (47, 2, 16), (47, 2, 48), (47, 2, 32), (47, 2, 64), (47, 2, 80), (47, 2, 96), (47, 2, 112), (47, 3, 8), (47, 3, 12), (47, 3, 4), (47, 3, 0), (47, 3, 16), (47, 3, 48), (47, 3, 32), (47, 3, 64), (47, 3, 80), (47, 3, 96), (47, 3, 112)]
def enc_of.f (a0 : Int) : Option (Int × Int × Int) := if 1 ≤ a0 ∧ a0 < 88 then codeTab[a0.toNat - 1]? else none
theorem ls_eq {a x c d z : Int} {w : World} (q : Calls Tryd.prog 38 #[.int .i64 a] w fun e w' => e = .returned (.agg #[.int .u32 c, .int .u32 x, .int .u32 z]) ∧ Below w.heap.size w w') (h : x = d) :
  Calls Tryd.prog 38 #[.int .i64 a] w fun e w' => e = .returned (.agg #[.int .u32 c, .int .u32 d, .int .u32 z]) ∧ Below w.heap.size w w' := h ▸ q
set_option maxHeartbeats 8000000 in
set_option maxRecDepth 100000 in
theorem of_1 (w : World) : Calls Tryd.prog 38 #[.int .i64 1] w fun e w' => e = .returned (.agg #[.int .u32 55, .int .u32 0, .int .u32 0]) ∧ Below w.heap.size w w' := by
 have hu84 := Tryd.underlying61
 have hu107 := Tryd.underlying85
 have hu108 := Tryd.underlying86
 have hix : ∀ W : World, Sem.run Tryd.prog (Instr.index 85 (.agg #[.int .u32 55, .int .u32 23, .int .u32 111, .int .u32 103]) (.int .i64 0)) W = Result.ok (.int .u32 55) W := fun W => by rfl
 have HB := Aside0.mk (Below.refl w.heap.size w)
 go_enter Tryd.func38, Tryd.ntmps38
 go_wp2_with (first | ((with_reducible refine gate_dst (N := 2) rfl ?_); refine box_event ?hg (N := 2) ?hd (cs := #[.int .u32 0, .int .u32 0, .int .u32 0]) (t := 61) ?hr ?_; (case hd => rfl); (case hg => rfl); (case hr => first | (go_simp; done) | (go_simp; rfl)); intro gbp hg wbp hbox hb; have n0_ := Aside0.mk (below_step bl hb); have n1_ := Aside0.mk (hbox); have n2_ := Aside0.mk ((by rw [hg]; exact (below_size bl) : w.heap.size ≤ gbp)); clear HB; have HB := n0_; have BKp := n1_; have GEp := n2_; clear n0_ n1_ n2_; clear hb hbox hg; have hczp_0 : wbp.cell? ⟨gbp, 0, none⟩ = some (.int .u32 0) := (blk_cell BKp.out 0).trans rfl; have hfzp_0 := blk_frozen BKp.out 0; have hczp_1 : wbp.cell? ⟨gbp, 1, none⟩ = some (.int .u32 0) := (blk_cell BKp.out 1).trans rfl; have hfzp_1 := blk_frozen BKp.out 1; have hczp_2 : wbp.cell? ⟨gbp, 2, none⟩ = some (.int .u32 0) := (blk_cell BKp.out 2).trans rfl; have hfzp_2 := blk_frozen BKp.out 2))
 refine bodyPost_ret (results_cell_row rfl _ _ gbp 61 #[.int .u32 55, .int .u32 0, .int .u32 0] (0, 0) _ rfl (by refine bx ?_; refine blk_put (cs := #[.int .u32 55, .int .u32 0, .int .u32 0]) ?_ 2 _ rfl; refine bx ?_; refine blk_put (cs := #[.int .u32 55, .int .u32 0, .int .u32 0]) ?_ 1 _ rfl; refine bx ?_; refine blk_put (cs := #[.int .u32 0, .int .u32 0, .int .u32 0]) ?_ 0 _ rfl; refine bx ?_; exact BKp.out) Tryd.underlying61 rfl (by kernel_rfl)) rfl ?_
 exact ⟨by first | rfl | (simp; done), bl⟩
set_option maxHeartbeats 8000000 in
set_option maxRecDepth 100000 in
theorem of_2 (w : World) : Calls Tryd.prog 38 #[.int .i64 2] w fun e w' => e = .returned (.agg #[.int .u32 23, .int .u32 0, .int .u32 0]) ∧ Below w.heap.size w w' := by
 have hu84 := Tryd.underlying61
 have hu107 := Tryd.underlying85
 have hu108 := Tryd.underlying86
 have hix : ∀ W : World, Sem.run Tryd.prog (Instr.index 85 (.agg #[.int .u32 55, .int .u32 23, .int .u32 111, .int .u32 103]) (.int .i64 1)) W = Result.ok (.int .u32 23) W := fun W => by rfl
 have HB := Aside0.mk (Below.refl w.heap.size w)
 go_enter Tryd.func38, Tryd.ntmps38
 go_wp2_with (first | ((with_reducible refine gate_dst (N := 2) rfl ?_); refine box_event ?hg (N := 2) ?hd (cs := #[.int .u32 0, .int .u32 0, .int .u32 0]) (t := 61) ?hr ?_; (case hd => rfl); (case hg => rfl); (case hr => first | (go_simp; done) | (go_simp; rfl)); intro gbp hg wbp hbox hb; have n0_ := Aside0.mk (below_step bl hb); have n1_ := Aside0.mk (hbox); have n2_ := Aside0.mk ((by rw [hg]; exact (below_size bl) : w.heap.size ≤ gbp)); clear HB; have HB := n0_; have BKp := n1_; have GEp := n2_; clear n0_ n1_ n2_; clear hb hbox hg; have hczp_0 : wbp.cell? ⟨gbp, 0, none⟩ = some (.int .u32 0) := (blk_cell BKp.out 0).trans rfl; have hfzp_0 := blk_frozen BKp.out 0; have hczp_1 : wbp.cell? ⟨gbp, 1, none⟩ = some (.int .u32 0) := (blk_cell BKp.out 1).trans rfl; have hfzp_1 := blk_frozen BKp.out 1; have hczp_2 : wbp.cell? ⟨gbp, 2, none⟩ = some (.int .u32 0) := (blk_cell BKp.out 2).trans rfl; have hfzp_2 := blk_frozen BKp.out 2))
 refine bodyPost_ret (results_cell_row rfl _ _ gbp 61 #[.int .u32 23, .int .u32 0, .int .u32 0] (0, 0) _ rfl (by refine bx ?_; refine blk_put (cs := #[.int .u32 23, .int .u32 0, .int .u32 0]) ?_ 2 _ rfl; refine bx ?_; refine blk_put (cs := #[.int .u32 23, .int .u32 0, .int .u32 0]) ?_ 1 _ rfl; refine bx ?_; refine blk_put (cs := #[.int .u32 0, .int .u32 0, .int .u32 0]) ?_ 0 _ rfl; refine bx ?_; exact BKp.out) Tryd.underlying61 rfl (by kernel_rfl)) rfl ?_
 exact ⟨by first | rfl | (simp; done), bl⟩
set_option maxHeartbeats 8000000 in
set_option maxRecDepth 100000 in
theorem of_3 (w : World) : Calls Tryd.prog 38 #[.int .i64 3] w fun e w' => e = .returned (.agg #[.int .u32 111, .int .u32 0, .int .u32 0]) ∧ Below w.heap.size w w' := by
 have hu84 := Tryd.underlying61
 have hu107 := Tryd.underlying85
 have hu108 := Tryd.underlying86
 have hix : ∀ W : World, Sem.run Tryd.prog (Instr.index 85 (.agg #[.int .u32 55, .int .u32 23, .int .u32 111, .int .u32 103]) (.int .i64 2)) W = Result.ok (.int .u32 111) W := fun W => by rfl
 have HB := Aside0.mk (Below.refl w.heap.size w)
 go_enter Tryd.func38, Tryd.ntmps38
 go_wp2_with (first | ((with_reducible refine gate_dst (N := 2) rfl ?_); refine box_event ?hg (N := 2) ?hd (cs := #[.int .u32 0, .int .u32 0, .int .u32 0]) (t := 61) ?hr ?_; (case hd => rfl); (case hg => rfl); (case hr => first | (go_simp; done) | (go_simp; rfl)); intro gbp hg wbp hbox hb; have n0_ := Aside0.mk (below_step bl hb); have n1_ := Aside0.mk (hbox); have n2_ := Aside0.mk ((by rw [hg]; exact (below_size bl) : w.heap.size ≤ gbp)); clear HB; have HB := n0_; have BKp := n1_; have GEp := n2_; clear n0_ n1_ n2_; clear hb hbox hg; have hczp_0 : wbp.cell? ⟨gbp, 0, none⟩ = some (.int .u32 0) := (blk_cell BKp.out 0).trans rfl; have hfzp_0 := blk_frozen BKp.out 0; have hczp_1 : wbp.cell? ⟨gbp, 1, none⟩ = some (.int .u32 0) := (blk_cell BKp.out 1).trans rfl; have hfzp_1 := blk_frozen BKp.out 1; have hczp_2 : wbp.cell? ⟨gbp, 2, none⟩ = some (.int .u32 0) := (blk_cell BKp.out 2).trans rfl; have hfzp_2 := blk_frozen BKp.out 2))
 refine bodyPost_ret (results_cell_row rfl _ _ gbp 61 #[.int .u32 111, .int .u32 0, .int .u32 0] (0, 0) _ rfl (by refine bx ?_; refine blk_put (cs := #[.int .u32 111, .int .u32 0, .int .u32 0]) ?_ 2 _ rfl; refine bx ?_; refine blk_put (cs := #[.int .u32 111, .int .u32 0, .int .u32 0]) ?_ 1 _ rfl; refine bx ?_; refine blk_put (cs := #[.int .u32 0, .int .u32 0, .int .u32 0]) ?_ 0 _ rfl; refine bx ?_; exact BKp.out) Tryd.underlying61 rfl (by kernel_rfl)) rfl ?_
 exact ⟨by first | rfl | (simp; done), bl⟩
set_option maxHeartbeats 8000000 in
set_option maxRecDepth 100000 in
theorem of_4 (w : World) : Calls Tryd.prog 38 #[.int .i64 4] w fun e w' => e = .returned (.agg #[.int .u32 103, .int .u32 0, .int .u32 0]) ∧ Below w.heap.size w w' := by
 have hu84 := Tryd.underlying61
 have hu107 := Tryd.underlying85
 have hu108 := Tryd.underlying86
 have hix : ∀ W : World, Sem.run Tryd.prog (Instr.index 85 (.agg #[.int .u32 55, .int .u32 23, .int .u32 111, .int .u32 103]) (.int .i64 3)) W = Result.ok (.int .u32 103) W := fun W => by rfl
 have HB := Aside0.mk (Below.refl w.heap.size w)
 go_enter Tryd.func38, Tryd.ntmps38
 go_wp2_with (first | ((with_reducible refine gate_dst (N := 2) rfl ?_); refine box_event ?hg (N := 2) ?hd (cs := #[.int .u32 0, .int .u32 0, .int .u32 0]) (t := 61) ?hr ?_; (case hd => rfl); (case hg => rfl); (case hr => first | (go_simp; done) | (go_simp; rfl)); intro gbp hg wbp hbox hb; have n0_ := Aside0.mk (below_step bl hb); have n1_ := Aside0.mk (hbox); have n2_ := Aside0.mk ((by rw [hg]; exact (below_size bl) : w.heap.size ≤ gbp)); clear HB; have HB := n0_; have BKp := n1_; have GEp := n2_; clear n0_ n1_ n2_; clear hb hbox hg; have hczp_0 : wbp.cell? ⟨gbp, 0, none⟩ = some (.int .u32 0) := (blk_cell BKp.out 0).trans rfl; have hfzp_0 := blk_frozen BKp.out 0; have hczp_1 : wbp.cell? ⟨gbp, 1, none⟩ = some (.int .u32 0) := (blk_cell BKp.out 1).trans rfl; have hfzp_1 := blk_frozen BKp.out 1; have hczp_2 : wbp.cell? ⟨gbp, 2, none⟩ = some (.int .u32 0) := (blk_cell BKp.out 2).trans rfl; have hfzp_2 := blk_frozen BKp.out 2))
 refine bodyPost_ret (results_cell_row rfl _ _ gbp 61 #[.int .u32 103, .int .u32 0, .int .u32 0] (0, 0) _ rfl (by refine bx ?_; refine blk_put (cs := #[.int .u32 103, .int .u32 0, .int .u32 0]) ?_ 2 _ rfl; refine bx ?_; refine blk_put (cs := #[.int .u32 103, .int .u32 0, .int .u32 0]) ?_ 1 _ rfl; refine bx ?_; refine blk_put (cs := #[.int .u32 0, .int .u32 0, .int .u32 0]) ?_ 0 _ rfl; refine bx ?_; exact BKp.out) Tryd.underlying61 rfl (by kernel_rfl)) rfl ?_
 exact ⟨by first | rfl | (simp; done), bl⟩
set_option maxHeartbeats 8000000 in
set_option maxRecDepth 100000 in
theorem of_5 (w : World) : Calls Tryd.prog 38 #[.int .i64 5] w fun e w' => e = .returned (.agg #[.int .u32 99, .int .u32 0, .int .u32 0]) ∧ Below w.heap.size w w' := by
 have hu84 := Tryd.underlying61
 have hu107 := Tryd.underlying85
 have hu108 := Tryd.underlying86
 have hix : ∀ W : World, Sem.run Tryd.prog (Instr.index 86 (.agg #[.int .u32 0, .int .u32 1, .int .u32 4, .int .u32 5, .int .u32 6, .int .u32 7]) (.int .i64 0)) W = Result.ok (.int .u32 0) W := fun W => by rfl
 have HB := Aside0.mk (Below.refl w.heap.size w)
 go_enter Tryd.func38, Tryd.ntmps38
 go_wp2_with (first | ((with_reducible refine gate_dst (N := 2) rfl ?_); refine box_event ?hg (N := 2) ?hd (cs := #[.int .u32 0, .int .u32 0, .int .u32 0]) (t := 61) ?hr ?_; (case hd => rfl); (case hg => rfl); (case hr => first | (go_simp; done) | (go_simp; rfl)); intro gbp hg wbp hbox hb; have n0_ := Aside0.mk (below_step bl hb); have n1_ := Aside0.mk (hbox); have n2_ := Aside0.mk ((by rw [hg]; exact (below_size bl) : w.heap.size ≤ gbp)); clear HB; have HB := n0_; have BKp := n1_; have GEp := n2_; clear n0_ n1_ n2_; clear hb hbox hg; have hczp_0 : wbp.cell? ⟨gbp, 0, none⟩ = some (.int .u32 0) := (blk_cell BKp.out 0).trans rfl; have hfzp_0 := blk_frozen BKp.out 0; have hczp_1 : wbp.cell? ⟨gbp, 1, none⟩ = some (.int .u32 0) := (blk_cell BKp.out 1).trans rfl; have hfzp_1 := blk_frozen BKp.out 1; have hczp_2 : wbp.cell? ⟨gbp, 2, none⟩ = some (.int .u32 0) := (blk_cell BKp.out 2).trans rfl; have hfzp_2 := blk_frozen BKp.out 2) | (go_at_call 67; (with_reducible refine (isa_Branch.calls 5 true _ (by kernel_rfl)).mono ?_); rintro e w' ⟨rfl, ⟨nd, rfl⟩⟩))
 refine bodyPost_ret (results_cell_row rfl _ _ gbp 61 #[.int .u32 99, .int .u32 0, .int .u32 0] (0, 0) _ rfl (by refine bx ?_; refine blk_put (cs := #[.int .u32 99, .int .u32 0, .int .u32 0]) ?_ 2 _ rfl; refine bx ?_; refine blk_put (cs := #[.int .u32 99, .int .u32 0, .int .u32 0]) ?_ 1 _ rfl; refine bx ?_; refine blk_put (cs := #[.int .u32 0, .int .u32 0, .int .u32 0]) ?_ 0 _ rfl; refine bx ?_; exact BKp.out) Tryd.underlying61 rfl (by kernel_rfl)) rfl ?_
 exact ⟨by first | rfl | (simp; done), bl⟩
set_option maxHeartbeats 8000000 in
set_option maxRecDepth 100000 in
theorem of_6 (w : World) : Calls Tryd.prog 38 #[.int .i64 6] w fun e w' => e = .returned (.agg #[.int .u32 99, .int .u32 1, .int .u32 0]) ∧ Below w.heap.size w w' := by
 have hu84 := Tryd.underlying61
 have hu107 := Tryd.underlying85
 have hu108 := Tryd.underlying86
 have hix : ∀ W : World, Sem.run Tryd.prog (Instr.index 86 (.agg #[.int .u32 0, .int .u32 1, .int .u32 4, .int .u32 5, .int .u32 6, .int .u32 7]) (.int .i64 1)) W = Result.ok (.int .u32 1) W := fun W => by rfl
 have HB := Aside0.mk (Below.refl w.heap.size w)
 go_enter Tryd.func38, Tryd.ntmps38
 go_wp2_with (first | ((with_reducible refine gate_dst (N := 2) rfl ?_); refine box_event ?hg (N := 2) ?hd (cs := #[.int .u32 0, .int .u32 0, .int .u32 0]) (t := 61) ?hr ?_; (case hd => rfl); (case hg => rfl); (case hr => first | (go_simp; done) | (go_simp; rfl)); intro gbp hg wbp hbox hb; have n0_ := Aside0.mk (below_step bl hb); have n1_ := Aside0.mk (hbox); have n2_ := Aside0.mk ((by rw [hg]; exact (below_size bl) : w.heap.size ≤ gbp)); clear HB; have HB := n0_; have BKp := n1_; have GEp := n2_; clear n0_ n1_ n2_; clear hb hbox hg; have hczp_0 : wbp.cell? ⟨gbp, 0, none⟩ = some (.int .u32 0) := (blk_cell BKp.out 0).trans rfl; have hfzp_0 := blk_frozen BKp.out 0; have hczp_1 : wbp.cell? ⟨gbp, 1, none⟩ = some (.int .u32 0) := (blk_cell BKp.out 1).trans rfl; have hfzp_1 := blk_frozen BKp.out 1; have hczp_2 : wbp.cell? ⟨gbp, 2, none⟩ = some (.int .u32 0) := (blk_cell BKp.out 2).trans rfl; have hfzp_2 := blk_frozen BKp.out 2) | (go_at_call 67; (with_reducible refine (isa_Branch.calls 6 true _ (by kernel_rfl)).mono ?_); rintro e w' ⟨rfl, ⟨nd, rfl⟩⟩))
 refine bodyPost_ret (results_cell_row rfl _ _ gbp 61 #[.int .u32 99, .int .u32 1, .int .u32 0] (0, 0) _ rfl (by refine bx ?_; refine blk_put (cs := #[.int .u32 99, .int .u32 1, .int .u32 0]) ?_ 2 _ rfl; refine bx ?_; refine blk_put (cs := #[.int .u32 99, .int .u32 0, .int .u32 0]) ?_ 1 _ rfl; refine bx ?_; refine blk_put (cs := #[.int .u32 0, .int .u32 0, .int .u32 0]) ?_ 0 _ rfl; refine bx ?_; exact BKp.out) Tryd.underlying61 rfl (by kernel_rfl)) rfl ?_
 exact ⟨by first | rfl | (simp; done), bl⟩
set_option maxHeartbeats 8000000 in
set_option maxRecDepth 100000 in
theorem of_7 (w : World) : Calls Tryd.prog 38 #[.int .i64 7] w fun e w' => e = .returned (.agg #[.int .u32 99, .int .u32 4, .int .u32 0]) ∧ Below w.heap.size w w' := by
 have hu84 := Tryd.underlying61
 have hu107 := Tryd.underlying85
 have hu108 := Tryd.underlying86
 have hix : ∀ W : World, Sem.run Tryd.prog (Instr.index 86 (.agg #[.int .u32 0, .int .u32 1, .int .u32 4, .int .u32 5, .int .u32 6, .int .u32 7]) (.int .i64 2)) W = Result.ok (.int .u32 4) W := fun W => by rfl
 have HB := Aside0.mk (Below.refl w.heap.size w)
 go_enter Tryd.func38, Tryd.ntmps38
 go_wp2_with (first | ((with_reducible refine gate_dst (N := 2) rfl ?_); refine box_event ?hg (N := 2) ?hd (cs := #[.int .u32 0, .int .u32 0, .int .u32 0]) (t := 61) ?hr ?_; (case hd => rfl); (case hg => rfl); (case hr => first | (go_simp; done) | (go_simp; rfl)); intro gbp hg wbp hbox hb; have n0_ := Aside0.mk (below_step bl hb); have n1_ := Aside0.mk (hbox); have n2_ := Aside0.mk ((by rw [hg]; exact (below_size bl) : w.heap.size ≤ gbp)); clear HB; have HB := n0_; have BKp := n1_; have GEp := n2_; clear n0_ n1_ n2_; clear hb hbox hg; have hczp_0 : wbp.cell? ⟨gbp, 0, none⟩ = some (.int .u32 0) := (blk_cell BKp.out 0).trans rfl; have hfzp_0 := blk_frozen BKp.out 0; have hczp_1 : wbp.cell? ⟨gbp, 1, none⟩ = some (.int .u32 0) := (blk_cell BKp.out 1).trans rfl; have hfzp_1 := blk_frozen BKp.out 1; have hczp_2 : wbp.cell? ⟨gbp, 2, none⟩ = some (.int .u32 0) := (blk_cell BKp.out 2).trans rfl; have hfzp_2 := blk_frozen BKp.out 2) | (go_at_call 67; (with_reducible refine (isa_Branch.calls 7 true _ (by kernel_rfl)).mono ?_); rintro e w' ⟨rfl, ⟨nd, rfl⟩⟩))
 refine bodyPost_ret (results_cell_row rfl _ _ gbp 61 #[.int .u32 99, .int .u32 4, .int .u32 0] (0, 0) _ rfl (by refine bx ?_; refine blk_put (cs := #[.int .u32 99, .int .u32 4, .int .u32 0]) ?_ 2 _ rfl; refine bx ?_; refine blk_put (cs := #[.int .u32 99, .int .u32 0, .int .u32 0]) ?_ 1 _ rfl; refine bx ?_; refine blk_put (cs := #[.int .u32 0, .int .u32 0, .int .u32 0]) ?_ 0 _ rfl; refine bx ?_; exact BKp.out) Tryd.underlying61 rfl (by kernel_rfl)) rfl ?_
 exact ⟨by first | rfl | (simp; done), bl⟩
set_option maxHeartbeats 8000000 in
set_option maxRecDepth 100000 in
theorem of_8 (w : World) : Calls Tryd.prog 38 #[.int .i64 8] w fun e w' => e = .returned (.agg #[.int .u32 99, .int .u32 5, .int .u32 0]) ∧ Below w.heap.size w w' := by
 have hu84 := Tryd.underlying61
 have hu107 := Tryd.underlying85
 have hu108 := Tryd.underlying86
 have hix : ∀ W : World, Sem.run Tryd.prog (Instr.index 86 (.agg #[.int .u32 0, .int .u32 1, .int .u32 4, .int .u32 5, .int .u32 6, .int .u32 7]) (.int .i64 3)) W = Result.ok (.int .u32 5) W := fun W => by rfl
 have HB := Aside0.mk (Below.refl w.heap.size w)
 go_enter Tryd.func38, Tryd.ntmps38
 go_wp2_with (first | ((with_reducible refine gate_dst (N := 2) rfl ?_); refine box_event ?hg (N := 2) ?hd (cs := #[.int .u32 0, .int .u32 0, .int .u32 0]) (t := 61) ?hr ?_; (case hd => rfl); (case hg => rfl); (case hr => first | (go_simp; done) | (go_simp; rfl)); intro gbp hg wbp hbox hb; have n0_ := Aside0.mk (below_step bl hb); have n1_ := Aside0.mk (hbox); have n2_ := Aside0.mk ((by rw [hg]; exact (below_size bl) : w.heap.size ≤ gbp)); clear HB; have HB := n0_; have BKp := n1_; have GEp := n2_; clear n0_ n1_ n2_; clear hb hbox hg; have hczp_0 : wbp.cell? ⟨gbp, 0, none⟩ = some (.int .u32 0) := (blk_cell BKp.out 0).trans rfl; have hfzp_0 := blk_frozen BKp.out 0; have hczp_1 : wbp.cell? ⟨gbp, 1, none⟩ = some (.int .u32 0) := (blk_cell BKp.out 1).trans rfl; have hfzp_1 := blk_frozen BKp.out 1; have hczp_2 : wbp.cell? ⟨gbp, 2, none⟩ = some (.int .u32 0) := (blk_cell BKp.out 2).trans rfl; have hfzp_2 := blk_frozen BKp.out 2) | (go_at_call 67; (with_reducible refine (isa_Branch.calls 8 true _ (by kernel_rfl)).mono ?_); rintro e w' ⟨rfl, ⟨nd, rfl⟩⟩))
 refine bodyPost_ret (results_cell_row rfl _ _ gbp 61 #[.int .u32 99, .int .u32 5, .int .u32 0] (0, 0) _ rfl (by refine bx ?_; refine blk_put (cs := #[.int .u32 99, .int .u32 5, .int .u32 0]) ?_ 2 _ rfl; refine bx ?_; refine blk_put (cs := #[.int .u32 99, .int .u32 0, .int .u32 0]) ?_ 1 _ rfl; refine bx ?_; refine blk_put (cs := #[.int .u32 0, .int .u32 0, .int .u32 0]) ?_ 0 _ rfl; refine bx ?_; exact BKp.out) Tryd.underlying61 rfl (by kernel_rfl)) rfl ?_
 exact ⟨by first | rfl | (simp; done), bl⟩
set_option maxHeartbeats 8000000 in
set_option maxRecDepth 100000 in
theorem of_9 (w : World) : Calls Tryd.prog 38 #[.int .i64 9] w fun e w' => e = .returned (.agg #[.int .u32 99, .int .u32 6, .int .u32 0]) ∧ Below w.heap.size w w' := by
 have hu84 := Tryd.underlying61
 have hu107 := Tryd.underlying85
 have hu108 := Tryd.underlying86
 have hix : ∀ W : World, Sem.run Tryd.prog (Instr.index 86 (.agg #[.int .u32 0, .int .u32 1, .int .u32 4, .int .u32 5, .int .u32 6, .int .u32 7]) (.int .i64 4)) W = Result.ok (.int .u32 6) W := fun W => by rfl
 have HB := Aside0.mk (Below.refl w.heap.size w)
 go_enter Tryd.func38, Tryd.ntmps38
 go_wp2_with (first | ((with_reducible refine gate_dst (N := 2) rfl ?_); refine box_event ?hg (N := 2) ?hd (cs := #[.int .u32 0, .int .u32 0, .int .u32 0]) (t := 61) ?hr ?_; (case hd => rfl); (case hg => rfl); (case hr => first | (go_simp; done) | (go_simp; rfl)); intro gbp hg wbp hbox hb; have n0_ := Aside0.mk (below_step bl hb); have n1_ := Aside0.mk (hbox); have n2_ := Aside0.mk ((by rw [hg]; exact (below_size bl) : w.heap.size ≤ gbp)); clear HB; have HB := n0_; have BKp := n1_; have GEp := n2_; clear n0_ n1_ n2_; clear hb hbox hg; have hczp_0 : wbp.cell? ⟨gbp, 0, none⟩ = some (.int .u32 0) := (blk_cell BKp.out 0).trans rfl; have hfzp_0 := blk_frozen BKp.out 0; have hczp_1 : wbp.cell? ⟨gbp, 1, none⟩ = some (.int .u32 0) := (blk_cell BKp.out 1).trans rfl; have hfzp_1 := blk_frozen BKp.out 1; have hczp_2 : wbp.cell? ⟨gbp, 2, none⟩ = some (.int .u32 0) := (blk_cell BKp.out 2).trans rfl; have hfzp_2 := blk_frozen BKp.out 2) | (go_at_call 67; (with_reducible refine (isa_Branch.calls 9 true _ (by kernel_rfl)).mono ?_); rintro e w' ⟨rfl, ⟨nd, rfl⟩⟩))
 refine bodyPost_ret (results_cell_row rfl _ _ gbp 61 #[.int .u32 99, .int .u32 6, .int .u32 0] (0, 0) _ rfl (by refine bx ?_; refine blk_put (cs := #[.int .u32 99, .int .u32 6, .int .u32 0]) ?_ 2 _ rfl; refine bx ?_; refine blk_put (cs := #[.int .u32 99, .int .u32 0, .int .u32 0]) ?_ 1 _ rfl; refine bx ?_; refine blk_put (cs := #[.int .u32 0, .int .u32 0, .int .u32 0]) ?_ 0 _ rfl; refine bx ?_; exact BKp.out) Tryd.underlying61 rfl (by kernel_rfl)) rfl ?_
 exact ⟨by first | rfl | (simp; done), bl⟩
set_option maxHeartbeats 8000000 in
set_option maxRecDepth 100000 in
theorem of_10 (w : World) : Calls Tryd.prog 38 #[.int .i64 10] w fun e w' => e = .returned (.agg #[.int .u32 99, .int .u32 7, .int .u32 0]) ∧ Below w.heap.size w w' := by
 have hu84 := Tryd.underlying61
 have hu107 := Tryd.underlying85
 have hu108 := Tryd.underlying86
 have hix : ∀ W : World, Sem.run Tryd.prog (Instr.index 86 (.agg #[.int .u32 0, .int .u32 1, .int .u32 4, .int .u32 5, .int .u32 6, .int .u32 7]) (.int .i64 5)) W = Result.ok (.int .u32 7) W := fun W => by rfl
 have HB := Aside0.mk (Below.refl w.heap.size w)
 go_enter Tryd.func38, Tryd.ntmps38
 go_wp2_with (first | ((with_reducible refine gate_dst (N := 2) rfl ?_); refine box_event ?hg (N := 2) ?hd (cs := #[.int .u32 0, .int .u32 0, .int .u32 0]) (t := 61) ?hr ?_; (case hd => rfl); (case hg => rfl); (case hr => first | (go_simp; done) | (go_simp; rfl)); intro gbp hg wbp hbox hb; have n0_ := Aside0.mk (below_step bl hb); have n1_ := Aside0.mk (hbox); have n2_ := Aside0.mk ((by rw [hg]; exact (below_size bl) : w.heap.size ≤ gbp)); clear HB; have HB := n0_; have BKp := n1_; have GEp := n2_; clear n0_ n1_ n2_; clear hb hbox hg; have hczp_0 : wbp.cell? ⟨gbp, 0, none⟩ = some (.int .u32 0) := (blk_cell BKp.out 0).trans rfl; have hfzp_0 := blk_frozen BKp.out 0; have hczp_1 : wbp.cell? ⟨gbp, 1, none⟩ = some (.int .u32 0) := (blk_cell BKp.out 1).trans rfl; have hfzp_1 := blk_frozen BKp.out 1; have hczp_2 : wbp.cell? ⟨gbp, 2, none⟩ = some (.int .u32 0) := (blk_cell BKp.out 2).trans rfl; have hfzp_2 := blk_frozen BKp.out 2) | (go_at_call 67; (with_reducible refine (isa_Branch.calls 10 true _ (by kernel_rfl)).mono ?_); rintro e w' ⟨rfl, ⟨nd, rfl⟩⟩))
 refine bodyPost_ret (results_cell_row rfl _ _ gbp 61 #[.int .u32 99, .int .u32 7, .int .u32 0] (0, 0) _ rfl (by refine bx ?_; refine blk_put (cs := #[.int .u32 99, .int .u32 7, .int .u32 0]) ?_ 2 _ rfl; refine bx ?_; refine blk_put (cs := #[.int .u32 99, .int .u32 0, .int .u32 0]) ?_ 1 _ rfl; refine bx ?_; refine blk_put (cs := #[.int .u32 0, .int .u32 0, .int .u32 0]) ?_ 0 _ rfl; refine bx ?_; exact BKp.out) Tryd.underlying61 rfl (by kernel_rfl)) rfl ?_
 exact ⟨by first | rfl | (simp; done), bl⟩
set_option maxHeartbeats 8000000 in
set_option maxRecDepth 100000 in
theorem of_load (a0 : Int) (hbr : isa_Branch.f a0 = some false) (hb0 : decide (a0 ≤ 4) = false) (hb2 : decide (a0 ≤ 17) = true) (w : World) : Calls Tryd.prog 38 #[.int .i64 a0] w fun e w' => e = .returned (.agg #[.int .u32 3, .int .u32 (wrap64 (a0 - 11) % 4294967296), .int .u32 0]) ∧ Below w.heap.size w w' := by
 have AB := Aside0.mk hbr
 clear hbr
 have hu84 := Tryd.underlying61
 have HB := Aside0.mk (Below.refl w.heap.size w)
 go_enter Tryd.func38, Tryd.ntmps38
 go_wp2_with (first | ((with_reducible refine gate_dst (N := 2) rfl ?_); refine box_event ?hg (N := 2) ?hd (cs := #[.int .u32 0, .int .u32 0, .int .u32 0]) (t := 61) ?hr ?_; (case hd => rfl); (case hg => rfl); (case hr => first | (go_simp; done) | (go_simp; rfl)); intro gbp hg wbp hbox hb; have n0_ := Aside0.mk (below_step bl hb); have n1_ := Aside0.mk (hbox); have n2_ := Aside0.mk ((by rw [hg]; exact (below_size bl) : w.heap.size ≤ gbp)); clear HB; have HB := n0_; have BKp := n1_; have GEp := n2_; clear n0_ n1_ n2_; clear hb hbox hg; have hczp_0 : wbp.cell? ⟨gbp, 0, none⟩ = some (.int .u32 0) := (blk_cell BKp.out 0).trans rfl; have hfzp_0 := blk_frozen BKp.out 0; have hczp_1 : wbp.cell? ⟨gbp, 1, none⟩ = some (.int .u32 0) := (blk_cell BKp.out 1).trans rfl; have hfzp_1 := blk_frozen BKp.out 1; have hczp_2 : wbp.cell? ⟨gbp, 2, none⟩ = some (.int .u32 0) := (blk_cell BKp.out 2).trans rfl; have hfzp_2 := blk_frozen BKp.out 2) | (go_at_call 67; (with_reducible refine (isa_Branch.calls a0 false _ AB.out).mono ?_); rintro e w' ⟨rfl, ⟨nd, rfl⟩⟩))
 refine bodyPost_ret (results_cell_row rfl _ _ gbp 61 #[.int .u32 3, .int .u32 (wrap64 (a0 - 11) % 4294967296), .int .u32 0] (0, 0) _ rfl (by refine bx ?_; refine blk_put (cs := #[.int .u32 3, .int .u32 (wrap64 (a0 - 11) % 4294967296), .int .u32 0]) ?_ 2 _ rfl; refine bx ?_; refine blk_put (cs := #[.int .u32 3, .int .u32 0, .int .u32 0]) ?_ 1 _ rfl; refine bx ?_; refine blk_put (cs := #[.int .u32 0, .int .u32 0, .int .u32 0]) ?_ 0 _ rfl; refine bx ?_; exact BKp.out) Tryd.underlying61 rfl (by kernel_rfl)) rfl ?_
 exact ⟨by first | rfl | (simp; done), bl⟩
set_option maxHeartbeats 8000000 in
set_option maxRecDepth 100000 in
theorem of_store (a0 : Int) (hbr : isa_Branch.f a0 = some false) (hb0 : decide (a0 ≤ 4) = false) (hb2 : decide (a0 ≤ 17) = false) (hb3 : decide (a0 ≤ 21) = true) (w : World) : Calls Tryd.prog 38 #[.int .i64 a0] w fun e w' => e = .returned (.agg #[.int .u32 35, .int .u32 (wrap64 (a0 - 18) % 4294967296), .int .u32 0]) ∧ Below w.heap.size w w' := by
 have AB := Aside0.mk hbr
 clear hbr
 have hu84 := Tryd.underlying61
 have HB := Aside0.mk (Below.refl w.heap.size w)
 go_enter Tryd.func38, Tryd.ntmps38
 go_wp2_with (first | ((with_reducible refine gate_dst (N := 2) rfl ?_); refine box_event ?hg (N := 2) ?hd (cs := #[.int .u32 0, .int .u32 0, .int .u32 0]) (t := 61) ?hr ?_; (case hd => rfl); (case hg => rfl); (case hr => first | (go_simp; done) | (go_simp; rfl)); intro gbp hg wbp hbox hb; have n0_ := Aside0.mk (below_step bl hb); have n1_ := Aside0.mk (hbox); have n2_ := Aside0.mk ((by rw [hg]; exact (below_size bl) : w.heap.size ≤ gbp)); clear HB; have HB := n0_; have BKp := n1_; have GEp := n2_; clear n0_ n1_ n2_; clear hb hbox hg; have hczp_0 : wbp.cell? ⟨gbp, 0, none⟩ = some (.int .u32 0) := (blk_cell BKp.out 0).trans rfl; have hfzp_0 := blk_frozen BKp.out 0; have hczp_1 : wbp.cell? ⟨gbp, 1, none⟩ = some (.int .u32 0) := (blk_cell BKp.out 1).trans rfl; have hfzp_1 := blk_frozen BKp.out 1; have hczp_2 : wbp.cell? ⟨gbp, 2, none⟩ = some (.int .u32 0) := (blk_cell BKp.out 2).trans rfl; have hfzp_2 := blk_frozen BKp.out 2) | (go_at_call 67; (with_reducible refine (isa_Branch.calls a0 false _ AB.out).mono ?_); rintro e w' ⟨rfl, ⟨nd, rfl⟩⟩))
 refine bodyPost_ret (results_cell_row rfl _ _ gbp 61 #[.int .u32 35, .int .u32 (wrap64 (a0 - 18) % 4294967296), .int .u32 0] (0, 0) _ rfl (by refine bx ?_; refine blk_put (cs := #[.int .u32 35, .int .u32 (wrap64 (a0 - 18) % 4294967296), .int .u32 0]) ?_ 2 _ rfl; refine bx ?_; refine blk_put (cs := #[.int .u32 35, .int .u32 0, .int .u32 0]) ?_ 1 _ rfl; refine bx ?_; refine blk_put (cs := #[.int .u32 0, .int .u32 0, .int .u32 0]) ?_ 0 _ rfl; refine bx ?_; exact BKp.out) Tryd.underlying61 rfl (by kernel_rfl)) rfl ?_
 exact ⟨by first | rfl | (simp; done), bl⟩
set_option maxHeartbeats 8000000 in
set_option maxRecDepth 100000 in
theorem of_imm (a0 : Int) (c1 c2 : Int) (hA : enc_arith.f 20 a0 = some (0, c1, c2)) (hbr : isa_Branch.f a0 = some false) (hb0 : decide (a0 ≤ 4) = false) (hb2 : decide (a0 ≤ 17) = false) (hb3 : decide (a0 ≤ 21) = false) (hb4 : decide (a0 ≤ 30) = true) (w : World) : Calls Tryd.prog 38 #[.int .i64 a0] w fun e w' => e = .returned (.agg #[.int .u32 19, .int .u32 c1, .int .u32 c2]) ∧ Below w.heap.size w w' := by
 have AB := Aside0.mk hbr
 clear hbr
 have AA := Aside0.mk hA
 clear hA
 have hu84 := Tryd.underlying61
 have HB := Aside0.mk (Below.refl w.heap.size w)
 go_enter Tryd.func38, Tryd.ntmps38
 go_wp2_with (first | ((with_reducible refine gate_dst (N := 2) rfl ?_); refine box_event ?hg (N := 2) ?hd (cs := #[.int .u32 0, .int .u32 0, .int .u32 0]) (t := 61) ?hr ?_; (case hd => rfl); (case hg => rfl); (case hr => first | (go_simp; done) | (go_simp; rfl)); intro gbp hg wbp hbox hb; have n0_ := Aside0.mk (below_step bl hb); have n1_ := Aside0.mk (hbox); have n2_ := Aside0.mk ((by rw [hg]; exact (below_size bl) : w.heap.size ≤ gbp)); clear HB; have HB := n0_; have BKp := n1_; have GEp := n2_; clear n0_ n1_ n2_; clear hb hbox hg; have hczp_0 : wbp.cell? ⟨gbp, 0, none⟩ = some (.int .u32 0) := (blk_cell BKp.out 0).trans rfl; have hfzp_0 := blk_frozen BKp.out 0; have hczp_1 : wbp.cell? ⟨gbp, 1, none⟩ = some (.int .u32 0) := (blk_cell BKp.out 1).trans rfl; have hfzp_1 := blk_frozen BKp.out 1; have hczp_2 : wbp.cell? ⟨gbp, 2, none⟩ = some (.int .u32 0) := (blk_cell BKp.out 2).trans rfl; have hfzp_2 := blk_frozen BKp.out 2) | (go_at_call 67; (with_reducible refine (isa_Branch.calls a0 false _ AB.out).mono ?_); rintro e w' ⟨rfl, ⟨nd, rfl⟩⟩) | (go_at_call 68; (with_reducible refine (enc_arith.calls 20 a0 0 c1 c2 _ AA.out).mono ?_); rintro e wa ⟨rfl, hb⟩; have n0_ := Aside0.mk (blk_below (g := gbp) (o := .cells #[.int .u32 0, .int .u32 0, .int .u32 0] 61 (0, 0)) (bk BKp.out) hb); have n1_ := Aside0.mk (below_step bl hb); clear BKp HB; have BKp := n0_; have HB := n1_; clear n0_ n1_; clear hb; have hczp_0 : wa.cell? ⟨gbp, 0, none⟩ = some (.int .u32 0) := (blk_cell BKp.out 0).trans rfl; have hfzp_0 := blk_frozen BKp.out 0; have hczp_1 : wa.cell? ⟨gbp, 1, none⟩ = some (.int .u32 0) := (blk_cell BKp.out 1).trans rfl; have hfzp_1 := blk_frozen BKp.out 1; have hczp_2 : wa.cell? ⟨gbp, 2, none⟩ = some (.int .u32 0) := (blk_cell BKp.out 2).trans rfl; have hfzp_2 := blk_frozen BKp.out 2) | (go_at_call 69; (with_reducible refine (enc_code_with.calls 0 c1 c2 19 19 c1 c2 _ rfl).mono ?_); rintro e wc ⟨rfl, hb⟩; have n0_ := Aside0.mk (blk_below (g := gbp) (o := .cells #[.int .u32 0, .int .u32 0, .int .u32 0] 61 (0, 0)) (bk BKp.out) hb); have n1_ := Aside0.mk (below_step bl hb); clear BKp HB; have BKp := n0_; have HB := n1_; clear n0_ n1_; clear hb; have hczp_0 : wc.cell? ⟨gbp, 0, none⟩ = some (.int .u32 0) := (blk_cell BKp.out 0).trans rfl; have hfzp_0 := blk_frozen BKp.out 0; have hczp_1 : wc.cell? ⟨gbp, 1, none⟩ = some (.int .u32 0) := (blk_cell BKp.out 1).trans rfl; have hfzp_1 := blk_frozen BKp.out 1; have hczp_2 : wc.cell? ⟨gbp, 2, none⟩ = some (.int .u32 0) := (blk_cell BKp.out 2).trans rfl; have hfzp_2 := blk_frozen BKp.out 2))
 refine bodyPost_ret (results_cell_row rfl _ _ gbp 61 #[.int .u32 19, .int .u32 c1, .int .u32 c2] (0, 0) _ rfl (by refine bx ?_; refine blk_put (cs := #[.int .u32 19, .int .u32 c1, .int .u32 0]) ?_ 2 _ rfl; refine bx ?_; refine blk_put (cs := #[.int .u32 19, .int .u32 0, .int .u32 0]) ?_ 1 _ rfl; refine bx ?_; refine blk_put (cs := #[.int .u32 0, .int .u32 0, .int .u32 0]) ?_ 0 _ rfl; refine bx ?_; exact BKp.out) Tryd.underlying61 rfl (by kernel_rfl)) rfl ?_
 exact ⟨by first | rfl | (simp; done), bl⟩
set_option maxHeartbeats 8000000 in
set_option maxRecDepth 100000 in
theorem of_immw (a0 : Int) (c1 c2 : Int) (hA : enc_arith.f 20 a0 = some (0, c1, c2)) (hbr : isa_Branch.f a0 = some false) (hb0 : decide (a0 ≤ 4) = false) (hb2 : decide (a0 ≤ 17) = false) (hb3 : decide (a0 ≤ 21) = false) (hb4 : decide (a0 ≤ 30) = false) (hb5 : decide (a0 ≤ 34) = true) (w : World) : Calls Tryd.prog 38 #[.int .i64 a0] w fun e w' => e = .returned (.agg #[.int .u32 27, .int .u32 c1, .int .u32 c2]) ∧ Below w.heap.size w w' := by
 have AB := Aside0.mk hbr
 clear hbr
 have AA := Aside0.mk hA
 clear hA
 have hu84 := Tryd.underlying61
 have HB := Aside0.mk (Below.refl w.heap.size w)
 go_enter Tryd.func38, Tryd.ntmps38
 go_wp2_with (first | ((with_reducible refine gate_dst (N := 2) rfl ?_); refine box_event ?hg (N := 2) ?hd (cs := #[.int .u32 0, .int .u32 0, .int .u32 0]) (t := 61) ?hr ?_; (case hd => rfl); (case hg => rfl); (case hr => first | (go_simp; done) | (go_simp; rfl)); intro gbp hg wbp hbox hb; have n0_ := Aside0.mk (below_step bl hb); have n1_ := Aside0.mk (hbox); have n2_ := Aside0.mk ((by rw [hg]; exact (below_size bl) : w.heap.size ≤ gbp)); clear HB; have HB := n0_; have BKp := n1_; have GEp := n2_; clear n0_ n1_ n2_; clear hb hbox hg; have hczp_0 : wbp.cell? ⟨gbp, 0, none⟩ = some (.int .u32 0) := (blk_cell BKp.out 0).trans rfl; have hfzp_0 := blk_frozen BKp.out 0; have hczp_1 : wbp.cell? ⟨gbp, 1, none⟩ = some (.int .u32 0) := (blk_cell BKp.out 1).trans rfl; have hfzp_1 := blk_frozen BKp.out 1; have hczp_2 : wbp.cell? ⟨gbp, 2, none⟩ = some (.int .u32 0) := (blk_cell BKp.out 2).trans rfl; have hfzp_2 := blk_frozen BKp.out 2) | (go_at_call 67; (with_reducible refine (isa_Branch.calls a0 false _ AB.out).mono ?_); rintro e w' ⟨rfl, ⟨nd, rfl⟩⟩) | (go_at_call 68; (with_reducible refine (enc_arith.calls 20 a0 0 c1 c2 _ AA.out).mono ?_); rintro e wa ⟨rfl, hb⟩; have n0_ := Aside0.mk (blk_below (g := gbp) (o := .cells #[.int .u32 0, .int .u32 0, .int .u32 0] 61 (0, 0)) (bk BKp.out) hb); have n1_ := Aside0.mk (below_step bl hb); clear BKp HB; have BKp := n0_; have HB := n1_; clear n0_ n1_; clear hb; have hczp_0 : wa.cell? ⟨gbp, 0, none⟩ = some (.int .u32 0) := (blk_cell BKp.out 0).trans rfl; have hfzp_0 := blk_frozen BKp.out 0; have hczp_1 : wa.cell? ⟨gbp, 1, none⟩ = some (.int .u32 0) := (blk_cell BKp.out 1).trans rfl; have hfzp_1 := blk_frozen BKp.out 1; have hczp_2 : wa.cell? ⟨gbp, 2, none⟩ = some (.int .u32 0) := (blk_cell BKp.out 2).trans rfl; have hfzp_2 := blk_frozen BKp.out 2) | (go_at_call 69; (with_reducible refine (enc_code_with.calls 0 c1 c2 27 27 c1 c2 _ rfl).mono ?_); rintro e wc ⟨rfl, hb⟩; have n0_ := Aside0.mk (blk_below (g := gbp) (o := .cells #[.int .u32 0, .int .u32 0, .int .u32 0] 61 (0, 0)) (bk BKp.out) hb); have n1_ := Aside0.mk (below_step bl hb); clear BKp HB; have BKp := n0_; have HB := n1_; clear n0_ n1_; clear hb; have hczp_0 : wc.cell? ⟨gbp, 0, none⟩ = some (.int .u32 0) := (blk_cell BKp.out 0).trans rfl; have hfzp_0 := blk_frozen BKp.out 0; have hczp_1 : wc.cell? ⟨gbp, 1, none⟩ = some (.int .u32 0) := (blk_cell BKp.out 1).trans rfl; have hfzp_1 := blk_frozen BKp.out 1; have hczp_2 : wc.cell? ⟨gbp, 2, none⟩ = some (.int .u32 0) := (blk_cell BKp.out 2).trans rfl; have hfzp_2 := blk_frozen BKp.out 2))
 refine bodyPost_ret (results_cell_row rfl _ _ gbp 61 #[.int .u32 27, .int .u32 c1, .int .u32 c2] (0, 0) _ rfl (by refine bx ?_; refine blk_put (cs := #[.int .u32 27, .int .u32 c1, .int .u32 0]) ?_ 2 _ rfl; refine bx ?_; refine blk_put (cs := #[.int .u32 27, .int .u32 0, .int .u32 0]) ?_ 1 _ rfl; refine bx ?_; refine blk_put (cs := #[.int .u32 0, .int .u32 0, .int .u32 0]) ?_ 0 _ rfl; refine bx ?_; exact BKp.out) Tryd.underlying61 rfl (by kernel_rfl)) rfl ?_
 exact ⟨by first | rfl | (simp; done), bl⟩
set_option maxHeartbeats 8000000 in
set_option maxRecDepth 100000 in
theorem of_op (a0 : Int) (c1 c2 : Int) (hA : enc_arith.f 20 a0 = some (0, c1, c2)) (hbr : isa_Branch.f a0 = some false) (hb0 : decide (a0 ≤ 4) = false) (hb2 : decide (a0 ≤ 17) = false) (hb3 : decide (a0 ≤ 21) = false) (hb4 : decide (a0 ≤ 30) = false) (hb5 : decide (a0 ≤ 34) = false) (hb6 : decide (a0 ≤ 44) = true) (w : World) : Calls Tryd.prog 38 #[.int .i64 a0] w fun e w' => e = .returned (.agg #[.int .u32 51, .int .u32 c1, .int .u32 c2]) ∧ Below w.heap.size w w' := by
 have AB := Aside0.mk hbr
 clear hbr
 have AA := Aside0.mk hA
 clear hA
 have hu84 := Tryd.underlying61
 have HB := Aside0.mk (Below.refl w.heap.size w)
 go_enter Tryd.func38, Tryd.ntmps38
 go_wp2_with (first | ((with_reducible refine gate_dst (N := 2) rfl ?_); refine box_event ?hg (N := 2) ?hd (cs := #[.int .u32 0, .int .u32 0, .int .u32 0]) (t := 61) ?hr ?_; (case hd => rfl); (case hg => rfl); (case hr => first | (go_simp; done) | (go_simp; rfl)); intro gbp hg wbp hbox hb; have n0_ := Aside0.mk (below_step bl hb); have n1_ := Aside0.mk (hbox); have n2_ := Aside0.mk ((by rw [hg]; exact (below_size bl) : w.heap.size ≤ gbp)); clear HB; have HB := n0_; have BKp := n1_; have GEp := n2_; clear n0_ n1_ n2_; clear hb hbox hg; have hczp_0 : wbp.cell? ⟨gbp, 0, none⟩ = some (.int .u32 0) := (blk_cell BKp.out 0).trans rfl; have hfzp_0 := blk_frozen BKp.out 0; have hczp_1 : wbp.cell? ⟨gbp, 1, none⟩ = some (.int .u32 0) := (blk_cell BKp.out 1).trans rfl; have hfzp_1 := blk_frozen BKp.out 1; have hczp_2 : wbp.cell? ⟨gbp, 2, none⟩ = some (.int .u32 0) := (blk_cell BKp.out 2).trans rfl; have hfzp_2 := blk_frozen BKp.out 2) | (go_at_call 67; (with_reducible refine (isa_Branch.calls a0 false _ AB.out).mono ?_); rintro e w' ⟨rfl, ⟨nd, rfl⟩⟩) | (go_at_call 68; (with_reducible refine (enc_arith.calls 20 a0 0 c1 c2 _ AA.out).mono ?_); rintro e wa ⟨rfl, hb⟩; have n0_ := Aside0.mk (blk_below (g := gbp) (o := .cells #[.int .u32 0, .int .u32 0, .int .u32 0] 61 (0, 0)) (bk BKp.out) hb); have n1_ := Aside0.mk (below_step bl hb); clear BKp HB; have BKp := n0_; have HB := n1_; clear n0_ n1_; clear hb; have hczp_0 : wa.cell? ⟨gbp, 0, none⟩ = some (.int .u32 0) := (blk_cell BKp.out 0).trans rfl; have hfzp_0 := blk_frozen BKp.out 0; have hczp_1 : wa.cell? ⟨gbp, 1, none⟩ = some (.int .u32 0) := (blk_cell BKp.out 1).trans rfl; have hfzp_1 := blk_frozen BKp.out 1; have hczp_2 : wa.cell? ⟨gbp, 2, none⟩ = some (.int .u32 0) := (blk_cell BKp.out 2).trans rfl; have hfzp_2 := blk_frozen BKp.out 2) | (go_at_call 69; (with_reducible refine (enc_code_with.calls 0 c1 c2 51 51 c1 c2 _ rfl).mono ?_); rintro e wc ⟨rfl, hb⟩; have n0_ := Aside0.mk (blk_below (g := gbp) (o := .cells #[.int .u32 0, .int .u32 0, .int .u32 0] 61 (0, 0)) (bk BKp.out) hb); have n1_ := Aside0.mk (below_step bl hb); clear BKp HB; have BKp := n0_; have HB := n1_; clear n0_ n1_; clear hb; have hczp_0 : wc.cell? ⟨gbp, 0, none⟩ = some (.int .u32 0) := (blk_cell BKp.out 0).trans rfl; have hfzp_0 := blk_frozen BKp.out 0; have hczp_1 : wc.cell? ⟨gbp, 1, none⟩ = some (.int .u32 0) := (blk_cell BKp.out 1).trans rfl; have hfzp_1 := blk_frozen BKp.out 1; have hczp_2 : wc.cell? ⟨gbp, 2, none⟩ = some (.int .u32 0) := (blk_cell BKp.out 2).trans rfl; have hfzp_2 := blk_frozen BKp.out 2))
 refine bodyPost_ret (results_cell_row rfl _ _ gbp 61 #[.int .u32 51, .int .u32 c1, .int .u32 c2] (0, 0) _ rfl (by refine bx ?_; refine blk_put (cs := #[.int .u32 51, .int .u32 c1, .int .u32 0]) ?_ 2 _ rfl; refine bx ?_; refine blk_put (cs := #[.int .u32 51, .int .u32 0, .int .u32 0]) ?_ 1 _ rfl; refine bx ?_; refine blk_put (cs := #[.int .u32 0, .int .u32 0, .int .u32 0]) ?_ 0 _ rfl; refine bx ?_; exact BKp.out) Tryd.underlying61 rfl (by kernel_rfl)) rfl ?_
 exact ⟨by first | rfl | (simp; done), bl⟩
set_option maxHeartbeats 8000000 in
set_option maxRecDepth 100000 in
theorem of_opw (a0 : Int) (c1 c2 : Int) (hA : enc_arith.f 20 a0 = some (0, c1, c2)) (hbr : isa_Branch.f a0 = some false) (hb0 : decide (a0 ≤ 4) = false) (hb2 : decide (a0 ≤ 17) = false) (hb3 : decide (a0 ≤ 21) = false) (hb4 : decide (a0 ≤ 30) = false) (hb5 : decide (a0 ≤ 34) = false) (hb6 : decide (a0 ≤ 44) = false) (hb7 : decide (a0 ≤ 49) = true) (w : World) : Calls Tryd.prog 38 #[.int .i64 a0] w fun e w' => e = .returned (.agg #[.int .u32 59, .int .u32 c1, .int .u32 c2]) ∧ Below w.heap.size w w' := by
 have AB := Aside0.mk hbr
 clear hbr
 have AA := Aside0.mk hA
 clear hA
 have hu84 := Tryd.underlying61
 have HB := Aside0.mk (Below.refl w.heap.size w)
 go_enter Tryd.func38, Tryd.ntmps38
 go_wp2_with (first | ((with_reducible refine gate_dst (N := 2) rfl ?_); refine box_event ?hg (N := 2) ?hd (cs := #[.int .u32 0, .int .u32 0, .int .u32 0]) (t := 61) ?hr ?_; (case hd => rfl); (case hg => rfl); (case hr => first | (go_simp; done) | (go_simp; rfl)); intro gbp hg wbp hbox hb; have n0_ := Aside0.mk (below_step bl hb); have n1_ := Aside0.mk (hbox); have n2_ := Aside0.mk ((by rw [hg]; exact (below_size bl) : w.heap.size ≤ gbp)); clear HB; have HB := n0_; have BKp := n1_; have GEp := n2_; clear n0_ n1_ n2_; clear hb hbox hg; have hczp_0 : wbp.cell? ⟨gbp, 0, none⟩ = some (.int .u32 0) := (blk_cell BKp.out 0).trans rfl; have hfzp_0 := blk_frozen BKp.out 0; have hczp_1 : wbp.cell? ⟨gbp, 1, none⟩ = some (.int .u32 0) := (blk_cell BKp.out 1).trans rfl; have hfzp_1 := blk_frozen BKp.out 1; have hczp_2 : wbp.cell? ⟨gbp, 2, none⟩ = some (.int .u32 0) := (blk_cell BKp.out 2).trans rfl; have hfzp_2 := blk_frozen BKp.out 2) | (go_at_call 67; (with_reducible refine (isa_Branch.calls a0 false _ AB.out).mono ?_); rintro e w' ⟨rfl, ⟨nd, rfl⟩⟩) | (go_at_call 68; (with_reducible refine (enc_arith.calls 20 a0 0 c1 c2 _ AA.out).mono ?_); rintro e wa ⟨rfl, hb⟩; have n0_ := Aside0.mk (blk_below (g := gbp) (o := .cells #[.int .u32 0, .int .u32 0, .int .u32 0] 61 (0, 0)) (bk BKp.out) hb); have n1_ := Aside0.mk (below_step bl hb); clear BKp HB; have BKp := n0_; have HB := n1_; clear n0_ n1_; clear hb; have hczp_0 : wa.cell? ⟨gbp, 0, none⟩ = some (.int .u32 0) := (blk_cell BKp.out 0).trans rfl; have hfzp_0 := blk_frozen BKp.out 0; have hczp_1 : wa.cell? ⟨gbp, 1, none⟩ = some (.int .u32 0) := (blk_cell BKp.out 1).trans rfl; have hfzp_1 := blk_frozen BKp.out 1; have hczp_2 : wa.cell? ⟨gbp, 2, none⟩ = some (.int .u32 0) := (blk_cell BKp.out 2).trans rfl; have hfzp_2 := blk_frozen BKp.out 2) | (go_at_call 69; (with_reducible refine (enc_code_with.calls 0 c1 c2 59 59 c1 c2 _ rfl).mono ?_); rintro e wc ⟨rfl, hb⟩; have n0_ := Aside0.mk (blk_below (g := gbp) (o := .cells #[.int .u32 0, .int .u32 0, .int .u32 0] 61 (0, 0)) (bk BKp.out) hb); have n1_ := Aside0.mk (below_step bl hb); clear BKp HB; have BKp := n0_; have HB := n1_; clear n0_ n1_; clear hb; have hczp_0 : wc.cell? ⟨gbp, 0, none⟩ = some (.int .u32 0) := (blk_cell BKp.out 0).trans rfl; have hfzp_0 := blk_frozen BKp.out 0; have hczp_1 : wc.cell? ⟨gbp, 1, none⟩ = some (.int .u32 0) := (blk_cell BKp.out 1).trans rfl; have hfzp_1 := blk_frozen BKp.out 1; have hczp_2 : wc.cell? ⟨gbp, 2, none⟩ = some (.int .u32 0) := (blk_cell BKp.out 2).trans rfl; have hfzp_2 := blk_frozen BKp.out 2))
 refine bodyPost_ret (results_cell_row rfl _ _ gbp 61 #[.int .u32 59, .int .u32 c1, .int .u32 c2] (0, 0) _ rfl (by refine bx ?_; refine blk_put (cs := #[.int .u32 59, .int .u32 c1, .int .u32 0]) ?_ 2 _ rfl; refine bx ?_; refine blk_put (cs := #[.int .u32 59, .int .u32 0, .int .u32 0]) ?_ 1 _ rfl; refine bx ?_; refine blk_put (cs := #[.int .u32 0, .int .u32 0, .int .u32 0]) ?_ 0 _ rfl; refine bx ?_; exact BKp.out) Tryd.underlying61 rfl (by kernel_rfl)) rfl ?_
 exact ⟨by first | rfl | (simp; done), bl⟩
set_option maxHeartbeats 8000000 in
set_option maxRecDepth 100000 in
theorem of_mul (a0 : Int) (c1 c2 : Int) (hA : enc_times.f a0 = some (0, c1, c2)) (hbr : isa_Branch.f a0 = some false) (hb0 : decide (a0 ≤ 4) = false) (hb2 : decide (a0 ≤ 17) = false) (hb3 : decide (a0 ≤ 21) = false) (hb4 : decide (a0 ≤ 30) = false) (hb5 : decide (a0 ≤ 34) = false) (hb6 : decide (a0 ≤ 44) = false) (hb7 : decide (a0 ≤ 49) = false) (hb8 : decide (a0 ≤ 57) = true) (w : World) : Calls Tryd.prog 38 #[.int .i64 a0] w fun e w' => e = .returned (.agg #[.int .u32 51, .int .u32 c1, .int .u32 c2]) ∧ Below w.heap.size w w' := by
 have AB := Aside0.mk hbr
 clear hbr
 have AA := Aside0.mk hA
 clear hA
 have hu84 := Tryd.underlying61
 have HB := Aside0.mk (Below.refl w.heap.size w)
 go_enter Tryd.func38, Tryd.ntmps38
 go_wp2_with (first | ((with_reducible refine gate_dst (N := 2) rfl ?_); refine box_event ?hg (N := 2) ?hd (cs := #[.int .u32 0, .int .u32 0, .int .u32 0]) (t := 61) ?hr ?_; (case hd => rfl); (case hg => rfl); (case hr => first | (go_simp; done) | (go_simp; rfl)); intro gbp hg wbp hbox hb; have n0_ := Aside0.mk (below_step bl hb); have n1_ := Aside0.mk (hbox); have n2_ := Aside0.mk ((by rw [hg]; exact (below_size bl) : w.heap.size ≤ gbp)); clear HB; have HB := n0_; have BKp := n1_; have GEp := n2_; clear n0_ n1_ n2_; clear hb hbox hg; have hczp_0 : wbp.cell? ⟨gbp, 0, none⟩ = some (.int .u32 0) := (blk_cell BKp.out 0).trans rfl; have hfzp_0 := blk_frozen BKp.out 0; have hczp_1 : wbp.cell? ⟨gbp, 1, none⟩ = some (.int .u32 0) := (blk_cell BKp.out 1).trans rfl; have hfzp_1 := blk_frozen BKp.out 1; have hczp_2 : wbp.cell? ⟨gbp, 2, none⟩ = some (.int .u32 0) := (blk_cell BKp.out 2).trans rfl; have hfzp_2 := blk_frozen BKp.out 2) | (go_at_call 67; (with_reducible refine (isa_Branch.calls a0 false _ AB.out).mono ?_); rintro e w' ⟨rfl, ⟨nd, rfl⟩⟩) | (go_at_call 70; (with_reducible refine (enc_times.calls a0 0 c1 c2 _ AA.out).mono ?_); rintro e wa ⟨rfl, hb⟩; have n0_ := Aside0.mk (blk_below (g := gbp) (o := .cells #[.int .u32 0, .int .u32 0, .int .u32 0] 61 (0, 0)) (bk BKp.out) hb); have n1_ := Aside0.mk (below_step bl hb); clear BKp HB; have BKp := n0_; have HB := n1_; clear n0_ n1_; clear hb; have hczp_0 : wa.cell? ⟨gbp, 0, none⟩ = some (.int .u32 0) := (blk_cell BKp.out 0).trans rfl; have hfzp_0 := blk_frozen BKp.out 0; have hczp_1 : wa.cell? ⟨gbp, 1, none⟩ = some (.int .u32 0) := (blk_cell BKp.out 1).trans rfl; have hfzp_1 := blk_frozen BKp.out 1; have hczp_2 : wa.cell? ⟨gbp, 2, none⟩ = some (.int .u32 0) := (blk_cell BKp.out 2).trans rfl; have hfzp_2 := blk_frozen BKp.out 2) | (go_at_call 69; (with_reducible refine (enc_code_with.calls 0 c1 c2 51 51 c1 c2 _ rfl).mono ?_); rintro e wc ⟨rfl, hb⟩; have n0_ := Aside0.mk (blk_below (g := gbp) (o := .cells #[.int .u32 0, .int .u32 0, .int .u32 0] 61 (0, 0)) (bk BKp.out) hb); have n1_ := Aside0.mk (below_step bl hb); clear BKp HB; have BKp := n0_; have HB := n1_; clear n0_ n1_; clear hb; have hczp_0 : wc.cell? ⟨gbp, 0, none⟩ = some (.int .u32 0) := (blk_cell BKp.out 0).trans rfl; have hfzp_0 := blk_frozen BKp.out 0; have hczp_1 : wc.cell? ⟨gbp, 1, none⟩ = some (.int .u32 0) := (blk_cell BKp.out 1).trans rfl; have hfzp_1 := blk_frozen BKp.out 1; have hczp_2 : wc.cell? ⟨gbp, 2, none⟩ = some (.int .u32 0) := (blk_cell BKp.out 2).trans rfl; have hfzp_2 := blk_frozen BKp.out 2))
 refine bodyPost_ret (results_cell_row rfl _ _ gbp 61 #[.int .u32 51, .int .u32 c1, .int .u32 c2] (0, 0) _ rfl (by refine bx ?_; refine blk_put (cs := #[.int .u32 51, .int .u32 c1, .int .u32 0]) ?_ 2 _ rfl; refine bx ?_; refine blk_put (cs := #[.int .u32 51, .int .u32 0, .int .u32 0]) ?_ 1 _ rfl; refine bx ?_; refine blk_put (cs := #[.int .u32 0, .int .u32 0, .int .u32 0]) ?_ 0 _ rfl; refine bx ?_; exact BKp.out) Tryd.underlying61 rfl (by kernel_rfl)) rfl ?_
 exact ⟨by first | rfl | (simp; done), bl⟩
set_option maxHeartbeats 8000000 in
set_option maxRecDepth 100000 in
theorem of_mulw (a0 : Int) (c1 c2 : Int) (hA : enc_times.f a0 = some (0, c1, c2)) (hbr : isa_Branch.f a0 = some false) (hb0 : decide (a0 ≤ 4) = false) (hb2 : decide (a0 ≤ 17) = false) (hb3 : decide (a0 ≤ 21) = false) (hb4 : decide (a0 ≤ 30) = false) (hb5 : decide (a0 ≤ 34) = false) (hb6 : decide (a0 ≤ 44) = false) (hb7 : decide (a0 ≤ 49) = false) (hb8 : decide (a0 ≤ 57) = false) (hb9 : decide (a0 ≤ 62) = true) (w : World) : Calls Tryd.prog 38 #[.int .i64 a0] w fun e w' => e = .returned (.agg #[.int .u32 59, .int .u32 c1, .int .u32 c2]) ∧ Below w.heap.size w w' := by
 have AB := Aside0.mk hbr
 clear hbr
 have AA := Aside0.mk hA
 clear hA
 have hu84 := Tryd.underlying61
 have HB := Aside0.mk (Below.refl w.heap.size w)
 go_enter Tryd.func38, Tryd.ntmps38
 go_wp2_with (first | ((with_reducible refine gate_dst (N := 2) rfl ?_); refine box_event ?hg (N := 2) ?hd (cs := #[.int .u32 0, .int .u32 0, .int .u32 0]) (t := 61) ?hr ?_; (case hd => rfl); (case hg => rfl); (case hr => first | (go_simp; done) | (go_simp; rfl)); intro gbp hg wbp hbox hb; have n0_ := Aside0.mk (below_step bl hb); have n1_ := Aside0.mk (hbox); have n2_ := Aside0.mk ((by rw [hg]; exact (below_size bl) : w.heap.size ≤ gbp)); clear HB; have HB := n0_; have BKp := n1_; have GEp := n2_; clear n0_ n1_ n2_; clear hb hbox hg; have hczp_0 : wbp.cell? ⟨gbp, 0, none⟩ = some (.int .u32 0) := (blk_cell BKp.out 0).trans rfl; have hfzp_0 := blk_frozen BKp.out 0; have hczp_1 : wbp.cell? ⟨gbp, 1, none⟩ = some (.int .u32 0) := (blk_cell BKp.out 1).trans rfl; have hfzp_1 := blk_frozen BKp.out 1; have hczp_2 : wbp.cell? ⟨gbp, 2, none⟩ = some (.int .u32 0) := (blk_cell BKp.out 2).trans rfl; have hfzp_2 := blk_frozen BKp.out 2) | (go_at_call 67; (with_reducible refine (isa_Branch.calls a0 false _ AB.out).mono ?_); rintro e w' ⟨rfl, ⟨nd, rfl⟩⟩) | (go_at_call 70; (with_reducible refine (enc_times.calls a0 0 c1 c2 _ AA.out).mono ?_); rintro e wa ⟨rfl, hb⟩; have n0_ := Aside0.mk (blk_below (g := gbp) (o := .cells #[.int .u32 0, .int .u32 0, .int .u32 0] 61 (0, 0)) (bk BKp.out) hb); have n1_ := Aside0.mk (below_step bl hb); clear BKp HB; have BKp := n0_; have HB := n1_; clear n0_ n1_; clear hb; have hczp_0 : wa.cell? ⟨gbp, 0, none⟩ = some (.int .u32 0) := (blk_cell BKp.out 0).trans rfl; have hfzp_0 := blk_frozen BKp.out 0; have hczp_1 : wa.cell? ⟨gbp, 1, none⟩ = some (.int .u32 0) := (blk_cell BKp.out 1).trans rfl; have hfzp_1 := blk_frozen BKp.out 1; have hczp_2 : wa.cell? ⟨gbp, 2, none⟩ = some (.int .u32 0) := (blk_cell BKp.out 2).trans rfl; have hfzp_2 := blk_frozen BKp.out 2) | (go_at_call 69; (with_reducible refine (enc_code_with.calls 0 c1 c2 59 59 c1 c2 _ rfl).mono ?_); rintro e wc ⟨rfl, hb⟩; have n0_ := Aside0.mk (blk_below (g := gbp) (o := .cells #[.int .u32 0, .int .u32 0, .int .u32 0] 61 (0, 0)) (bk BKp.out) hb); have n1_ := Aside0.mk (below_step bl hb); clear BKp HB; have BKp := n0_; have HB := n1_; clear n0_ n1_; clear hb; have hczp_0 : wc.cell? ⟨gbp, 0, none⟩ = some (.int .u32 0) := (blk_cell BKp.out 0).trans rfl; have hfzp_0 := blk_frozen BKp.out 0; have hczp_1 : wc.cell? ⟨gbp, 1, none⟩ = some (.int .u32 0) := (blk_cell BKp.out 1).trans rfl; have hfzp_1 := blk_frozen BKp.out 1; have hczp_2 : wc.cell? ⟨gbp, 2, none⟩ = some (.int .u32 0) := (blk_cell BKp.out 2).trans rfl; have hfzp_2 := blk_frozen BKp.out 2))
 refine bodyPost_ret (results_cell_row rfl _ _ gbp 61 #[.int .u32 59, .int .u32 c1, .int .u32 c2] (0, 0) _ rfl (by refine bx ?_; refine blk_put (cs := #[.int .u32 59, .int .u32 c1, .int .u32 0]) ?_ 2 _ rfl; refine bx ?_; refine blk_put (cs := #[.int .u32 59, .int .u32 0, .int .u32 0]) ?_ 1 _ rfl; refine bx ?_; refine blk_put (cs := #[.int .u32 0, .int .u32 0, .int .u32 0]) ?_ 0 _ rfl; refine bx ?_; exact BKp.out) Tryd.underlying61 rfl (by kernel_rfl)) rfl ?_
 exact ⟨by first | rfl | (simp; done), bl⟩
set_option maxHeartbeats 8000000 in
set_option maxRecDepth 100000 in
theorem of_fence (a0 : Int) (hbr : isa_Branch.f a0 = some false) (hb0 : decide (a0 ≤ 4) = false) (hb2 : decide (a0 ≤ 17) = false) (hb3 : decide (a0 ≤ 21) = false) (hb4 : decide (a0 ≤ 30) = false) (hb5 : decide (a0 ≤ 34) = false) (hb6 : decide (a0 ≤ 44) = false) (hb7 : decide (a0 ≤ 49) = false) (hb8 : decide (a0 ≤ 57) = false) (hb9 : decide (a0 ≤ 62) = false) (hb10 : (a0 == 63) = true) (w : World) : Calls Tryd.prog 38 #[.int .i64 a0] w fun e w' => e = .returned (.agg #[.int .u32 15, .int .u32 0, .int .u32 0]) ∧ Below w.heap.size w w' := by
 have AB := Aside0.mk hbr
 clear hbr
 have hu84 := Tryd.underlying61
 have HB := Aside0.mk (Below.refl w.heap.size w)
 go_enter Tryd.func38, Tryd.ntmps38
 go_wp2_with (first | ((with_reducible refine gate_dst (N := 2) rfl ?_); refine box_event ?hg (N := 2) ?hd (cs := #[.int .u32 0, .int .u32 0, .int .u32 0]) (t := 61) ?hr ?_; (case hd => rfl); (case hg => rfl); (case hr => first | (go_simp; done) | (go_simp; rfl)); intro gbp hg wbp hbox hb; have n0_ := Aside0.mk (below_step bl hb); have n1_ := Aside0.mk (hbox); have n2_ := Aside0.mk ((by rw [hg]; exact (below_size bl) : w.heap.size ≤ gbp)); clear HB; have HB := n0_; have BKp := n1_; have GEp := n2_; clear n0_ n1_ n2_; clear hb hbox hg; have hczp_0 : wbp.cell? ⟨gbp, 0, none⟩ = some (.int .u32 0) := (blk_cell BKp.out 0).trans rfl; have hfzp_0 := blk_frozen BKp.out 0; have hczp_1 : wbp.cell? ⟨gbp, 1, none⟩ = some (.int .u32 0) := (blk_cell BKp.out 1).trans rfl; have hfzp_1 := blk_frozen BKp.out 1; have hczp_2 : wbp.cell? ⟨gbp, 2, none⟩ = some (.int .u32 0) := (blk_cell BKp.out 2).trans rfl; have hfzp_2 := blk_frozen BKp.out 2) | (go_at_call 67; (with_reducible refine (isa_Branch.calls a0 false _ AB.out).mono ?_); rintro e w' ⟨rfl, ⟨nd, rfl⟩⟩))
 refine bodyPost_ret (results_cell_row rfl _ _ gbp 61 #[.int .u32 15, .int .u32 0, .int .u32 0] (0, 0) _ rfl (by refine bx ?_; refine blk_put (cs := #[.int .u32 15, .int .u32 0, .int .u32 0]) ?_ 2 _ rfl; refine bx ?_; refine blk_put (cs := #[.int .u32 15, .int .u32 0, .int .u32 0]) ?_ 1 _ rfl; refine bx ?_; refine blk_put (cs := #[.int .u32 0, .int .u32 0, .int .u32 0]) ?_ 0 _ rfl; refine bx ?_; exact BKp.out) Tryd.underlying61 rfl (by kernel_rfl)) rfl ?_
 exact ⟨by first | rfl | (simp; done), bl⟩
set_option maxHeartbeats 8000000 in
set_option maxRecDepth 100000 in
theorem of_sys (a0 : Int) (hbr : isa_Branch.f a0 = some false) (hb0 : decide (a0 ≤ 4) = false) (hb2 : decide (a0 ≤ 17) = false) (hb3 : decide (a0 ≤ 21) = false) (hb4 : decide (a0 ≤ 30) = false) (hb5 : decide (a0 ≤ 34) = false) (hb6 : decide (a0 ≤ 44) = false) (hb7 : decide (a0 ≤ 49) = false) (hb8 : decide (a0 ≤ 57) = false) (hb9 : decide (a0 ≤ 62) = false) (hb10 : (a0 == 63) = false) (hb11 : decide (a0 ≤ 65) = true) (w : World) : Calls Tryd.prog 38 #[.int .i64 a0] w fun e w' => e = .returned (.agg #[.int .u32 115, .int .u32 0, .int .u32 0]) ∧ Below w.heap.size w w' := by
 have AB := Aside0.mk hbr
 clear hbr
 have hu84 := Tryd.underlying61
 have HB := Aside0.mk (Below.refl w.heap.size w)
 go_enter Tryd.func38, Tryd.ntmps38
 go_wp2_with (first | ((with_reducible refine gate_dst (N := 2) rfl ?_); refine box_event ?hg (N := 2) ?hd (cs := #[.int .u32 0, .int .u32 0, .int .u32 0]) (t := 61) ?hr ?_; (case hd => rfl); (case hg => rfl); (case hr => first | (go_simp; done) | (go_simp; rfl)); intro gbp hg wbp hbox hb; have n0_ := Aside0.mk (below_step bl hb); have n1_ := Aside0.mk (hbox); have n2_ := Aside0.mk ((by rw [hg]; exact (below_size bl) : w.heap.size ≤ gbp)); clear HB; have HB := n0_; have BKp := n1_; have GEp := n2_; clear n0_ n1_ n2_; clear hb hbox hg; have hczp_0 : wbp.cell? ⟨gbp, 0, none⟩ = some (.int .u32 0) := (blk_cell BKp.out 0).trans rfl; have hfzp_0 := blk_frozen BKp.out 0; have hczp_1 : wbp.cell? ⟨gbp, 1, none⟩ = some (.int .u32 0) := (blk_cell BKp.out 1).trans rfl; have hfzp_1 := blk_frozen BKp.out 1; have hczp_2 : wbp.cell? ⟨gbp, 2, none⟩ = some (.int .u32 0) := (blk_cell BKp.out 2).trans rfl; have hfzp_2 := blk_frozen BKp.out 2) | (go_at_call 67; (with_reducible refine (isa_Branch.calls a0 false _ AB.out).mono ?_); rintro e w' ⟨rfl, ⟨nd, rfl⟩⟩))
 refine bodyPost_ret (results_cell_row rfl _ _ gbp 61 #[.int .u32 115, .int .u32 0, .int .u32 0] (0, 0) _ rfl (by refine bx ?_; refine blk_put (cs := #[.int .u32 115, .int .u32 0, .int .u32 0]) ?_ 2 _ rfl; refine bx ?_; refine blk_put (cs := #[.int .u32 115, .int .u32 0, .int .u32 0]) ?_ 1 _ rfl; refine bx ?_; refine blk_put (cs := #[.int .u32 0, .int .u32 0, .int .u32 0]) ?_ 0 _ rfl; refine bx ?_; exact BKp.out) Tryd.underlying61 rfl (by kernel_rfl)) rfl ?_
 exact ⟨by first | rfl | (simp; done), bl⟩
set_option maxHeartbeats 8000000 in
set_option maxRecDepth 100000 in
theorem of_amo (a0 : Int) (c1 c2 : Int) (hA : enc_atomic.f a0 = some (47, c1, c2)) (hbr : isa_Branch.f a0 = some false) (hb0 : decide (a0 ≤ 4) = false) (hb2 : decide (a0 ≤ 17) = false) (hb3 : decide (a0 ≤ 21) = false) (hb4 : decide (a0 ≤ 30) = false) (hb5 : decide (a0 ≤ 34) = false) (hb6 : decide (a0 ≤ 44) = false) (hb7 : decide (a0 ≤ 49) = false) (hb8 : decide (a0 ≤ 57) = false) (hb9 : decide (a0 ≤ 62) = false) (hb10 : (a0 == 63) = false) (hb11 : decide (a0 ≤ 65) = false) (w : World) : Calls Tryd.prog 38 #[.int .i64 a0] w fun e w' => e = .returned (.agg #[.int .u32 47, .int .u32 c1, .int .u32 c2]) ∧ Below w.heap.size w w' := by
 have AB := Aside0.mk hbr
 clear hbr
 have AA := Aside0.mk hA
 clear hA
 have hu84 := Tryd.underlying61
 have HB := Aside0.mk (Below.refl w.heap.size w)
 go_enter Tryd.func38, Tryd.ntmps38
 go_wp2_with (first | ((with_reducible refine gate_dst (N := 2) rfl ?_); refine box_event ?hg (N := 2) ?hd (cs := #[.int .u32 0, .int .u32 0, .int .u32 0]) (t := 61) ?hr ?_; (case hd => rfl); (case hg => rfl); (case hr => first | (go_simp; done) | (go_simp; rfl)); intro gbp hg wbp hbox hb; have n0_ := Aside0.mk (below_step bl hb); have n1_ := Aside0.mk (hbox); have n2_ := Aside0.mk ((by rw [hg]; exact (below_size bl) : w.heap.size ≤ gbp)); clear HB; have HB := n0_; have BKp := n1_; have GEp := n2_; clear n0_ n1_ n2_; clear hb hbox hg; have hczp_0 : wbp.cell? ⟨gbp, 0, none⟩ = some (.int .u32 0) := (blk_cell BKp.out 0).trans rfl; have hfzp_0 := blk_frozen BKp.out 0; have hczp_1 : wbp.cell? ⟨gbp, 1, none⟩ = some (.int .u32 0) := (blk_cell BKp.out 1).trans rfl; have hfzp_1 := blk_frozen BKp.out 1; have hczp_2 : wbp.cell? ⟨gbp, 2, none⟩ = some (.int .u32 0) := (blk_cell BKp.out 2).trans rfl; have hfzp_2 := blk_frozen BKp.out 2) | (go_at_call 67; (with_reducible refine (isa_Branch.calls a0 false _ AB.out).mono ?_); rintro e w' ⟨rfl, ⟨nd, rfl⟩⟩) | (go_at_call 71; (with_reducible refine (enc_atomic.calls a0 47 c1 c2 _ AA.out).mono ?_); rintro e wa ⟨rfl, hb⟩; have n0_ := Aside0.mk (blk_below (g := gbp) (o := .cells #[.int .u32 0, .int .u32 0, .int .u32 0] 61 (0, 0)) (bk BKp.out) hb); have n1_ := Aside0.mk (below_step bl hb); clear BKp HB; have BKp := n0_; have HB := n1_; clear n0_ n1_; clear hb; have hczp_0 : wa.cell? ⟨gbp, 0, none⟩ = some (.int .u32 0) := (blk_cell BKp.out 0).trans rfl; have hfzp_0 := blk_frozen BKp.out 0; have hczp_1 : wa.cell? ⟨gbp, 1, none⟩ = some (.int .u32 0) := (blk_cell BKp.out 1).trans rfl; have hfzp_1 := blk_frozen BKp.out 1; have hczp_2 : wa.cell? ⟨gbp, 2, none⟩ = some (.int .u32 0) := (blk_cell BKp.out 2).trans rfl; have hfzp_2 := blk_frozen BKp.out 2))
 refine bodyPost_ret (results_cell_row rfl _ _ gbp 61 #[.int .u32 47, .int .u32 c1, .int .u32 c2] (0, 0) _ rfl (by refine bx ?_; refine blk_put (cs := #[.int .u32 47, .int .u32 c1, .int .u32 0]) ?_ 2 _ rfl; refine bx ?_; refine blk_put (cs := #[.int .u32 47, .int .u32 0, .int .u32 0]) ?_ 1 _ rfl; refine bx ?_; refine blk_put (cs := #[.int .u32 0, .int .u32 0, .int .u32 0]) ?_ 0 _ rfl; refine bx ?_; exact BKp.out) Tryd.underlying61 rfl (by kernel_rfl)) rfl ?_
 exact ⟨by first | rfl | (simp; done), bl⟩
theorem enc_of.calls (a0 : Int) (r1 : Int) (r2 : Int) (r3 : Int) (w : World) (h : enc_of.f a0 = some (r1, r2, r3)) :
  Calls Tryd.prog 38 #[.int .i64 a0] w fun e w' => e = .returned (.agg #[.int .u32 r1, .int .u32 r2, .int .u32 r3]) ∧ Below w.heap.size w w' := by
 have hr : 1 ≤ a0 ∧ a0 < 88 := by
  unfold enc_of.f at h
  by_cases h1 : 1 ≤ a0 ∧ a0 < 88
  ·exact h1
  ·rw [if_neg h1] at h
   exact absurd h (by simp)
 obtain ⟨n, rfl⟩ := Int.eq_ofNat_of_zero_le (show 0 ≤ a0 by omega)
 have h0 : 1 ≤ n := by omega
 have h1 : n < 88 := by omega
 clear hr
 match n, h0, h1, h with
 | 1, _, _, h => obtain ⟨rfl, rfl, rfl⟩ := of_inj ((show enc_of.f ((1 : Nat) : Int) = some (55, 0, 0) by kernel_rfl).symm.trans h); exact of_1 w
 | 2, _, _, h => obtain ⟨rfl, rfl, rfl⟩ := of_inj ((show enc_of.f ((2 : Nat) : Int) = some (23, 0, 0) by kernel_rfl).symm.trans h); exact of_2 w
 | 3, _, _, h => obtain ⟨rfl, rfl, rfl⟩ := of_inj ((show enc_of.f ((3 : Nat) : Int) = some (111, 0, 0) by kernel_rfl).symm.trans h); exact of_3 w
 | 4, _, _, h => obtain ⟨rfl, rfl, rfl⟩ := of_inj ((show enc_of.f ((4 : Nat) : Int) = some (103, 0, 0) by kernel_rfl).symm.trans h); exact of_4 w
 | 5, _, _, h => obtain ⟨rfl, rfl, rfl⟩ := of_inj ((show enc_of.f ((5 : Nat) : Int) = some (99, 0, 0) by kernel_rfl).symm.trans h); exact of_5 w
 | 6, _, _, h => obtain ⟨rfl, rfl, rfl⟩ := of_inj ((show enc_of.f ((6 : Nat) : Int) = some (99, 1, 0) by kernel_rfl).symm.trans h); exact of_6 w
 | 7, _, _, h => obtain ⟨rfl, rfl, rfl⟩ := of_inj ((show enc_of.f ((7 : Nat) : Int) = some (99, 4, 0) by kernel_rfl).symm.trans h); exact of_7 w
 | 8, _, _, h => obtain ⟨rfl, rfl, rfl⟩ := of_inj ((show enc_of.f ((8 : Nat) : Int) = some (99, 5, 0) by kernel_rfl).symm.trans h); exact of_8 w
 | 9, _, _, h => obtain ⟨rfl, rfl, rfl⟩ := of_inj ((show enc_of.f ((9 : Nat) : Int) = some (99, 6, 0) by kernel_rfl).symm.trans h); exact of_9 w
 | 10, _, _, h => obtain ⟨rfl, rfl, rfl⟩ := of_inj ((show enc_of.f ((10 : Nat) : Int) = some (99, 7, 0) by kernel_rfl).symm.trans h); exact of_10 w
 | 11, _, _, h => obtain ⟨rfl, rfl, rfl⟩ := of_inj ((show enc_of.f ((11 : Nat) : Int) = some (3, 0, 0) by kernel_rfl).symm.trans h); exact ls_eq (of_load 11 (by kernel_rfl) (by decide) (by decide) w) (by kernel_rfl)
 | 12, _, _, h => obtain ⟨rfl, rfl, rfl⟩ := of_inj ((show enc_of.f ((12 : Nat) : Int) = some (3, 1, 0) by kernel_rfl).symm.trans h); exact ls_eq (of_load 12 (by kernel_rfl) (by decide) (by decide) w) (by kernel_rfl)
 | 13, _, _, h => obtain ⟨rfl, rfl, rfl⟩ := of_inj ((show enc_of.f ((13 : Nat) : Int) = some (3, 2, 0) by kernel_rfl).symm.trans h); exact ls_eq (of_load 13 (by kernel_rfl) (by decide) (by decide) w) (by kernel_rfl)
 | 14, _, _, h => obtain ⟨rfl, rfl, rfl⟩ := of_inj ((show enc_of.f ((14 : Nat) : Int) = some (3, 3, 0) by kernel_rfl).symm.trans h); exact ls_eq (of_load 14 (by kernel_rfl) (by decide) (by decide) w) (by kernel_rfl)
 | 15, _, _, h => obtain ⟨rfl, rfl, rfl⟩ := of_inj ((show enc_of.f ((15 : Nat) : Int) = some (3, 4, 0) by kernel_rfl).symm.trans h); exact ls_eq (of_load 15 (by kernel_rfl) (by decide) (by decide) w) (by kernel_rfl)
 | 16, _, _, h => obtain ⟨rfl, rfl, rfl⟩ := of_inj ((show enc_of.f ((16 : Nat) : Int) = some (3, 5, 0) by kernel_rfl).symm.trans h); exact ls_eq (of_load 16 (by kernel_rfl) (by decide) (by decide) w) (by kernel_rfl)
 | 17, _, _, h => obtain ⟨rfl, rfl, rfl⟩ := of_inj ((show enc_of.f ((17 : Nat) : Int) = some (3, 6, 0) by kernel_rfl).symm.trans h); exact ls_eq (of_load 17 (by kernel_rfl) (by decide) (by decide) w) (by kernel_rfl)
 | 18, _, _, h => obtain ⟨rfl, rfl, rfl⟩ := of_inj ((show enc_of.f ((18 : Nat) : Int) = some (35, 0, 0) by kernel_rfl).symm.trans h); exact ls_eq (of_store 18 (by kernel_rfl) (by decide) (by decide) (by decide) w) (by kernel_rfl)
 | 19, _, _, h => obtain ⟨rfl, rfl, rfl⟩ := of_inj ((show enc_of.f ((19 : Nat) : Int) = some (35, 1, 0) by kernel_rfl).symm.trans h); exact ls_eq (of_store 19 (by kernel_rfl) (by decide) (by decide) (by decide) w) (by kernel_rfl)
 | 20, _, _, h => obtain ⟨rfl, rfl, rfl⟩ := of_inj ((show enc_of.f ((20 : Nat) : Int) = some (35, 2, 0) by kernel_rfl).symm.trans h); exact ls_eq (of_store 20 (by kernel_rfl) (by decide) (by decide) (by decide) w) (by kernel_rfl)
 | 21, _, _, h => obtain ⟨rfl, rfl, rfl⟩ := of_inj ((show enc_of.f ((21 : Nat) : Int) = some (35, 3, 0) by kernel_rfl).symm.trans h); exact ls_eq (of_store 21 (by kernel_rfl) (by decide) (by decide) (by decide) w) (by kernel_rfl)
 | 22, _, _, h => obtain ⟨rfl, rfl, rfl⟩ := of_inj ((show enc_of.f ((22 : Nat) : Int) = some (19, 0, 0) by kernel_rfl).symm.trans h); exact of_imm 22 0 0 (by kernel_rfl) (by kernel_rfl) (by decide) (by decide) (by decide) (by decide) w
 | 23, _, _, h => obtain ⟨rfl, rfl, rfl⟩ := of_inj ((show enc_of.f ((23 : Nat) : Int) = some (19, 2, 0) by kernel_rfl).symm.trans h); exact of_imm 23 2 0 (by kernel_rfl) (by kernel_rfl) (by decide) (by decide) (by decide) (by decide) w
 | 24, _, _, h => obtain ⟨rfl, rfl, rfl⟩ := of_inj ((show enc_of.f ((24 : Nat) : Int) = some (19, 3, 0) by kernel_rfl).symm.trans h); exact of_imm 24 3 0 (by kernel_rfl) (by kernel_rfl) (by decide) (by decide) (by decide) (by decide) w
 | 25, _, _, h => obtain ⟨rfl, rfl, rfl⟩ := of_inj ((show enc_of.f ((25 : Nat) : Int) = some (19, 4, 0) by kernel_rfl).symm.trans h); exact of_imm 25 4 0 (by kernel_rfl) (by kernel_rfl) (by decide) (by decide) (by decide) (by decide) w
 | 26, _, _, h => obtain ⟨rfl, rfl, rfl⟩ := of_inj ((show enc_of.f ((26 : Nat) : Int) = some (19, 6, 0) by kernel_rfl).symm.trans h); exact of_imm 26 6 0 (by kernel_rfl) (by kernel_rfl) (by decide) (by decide) (by decide) (by decide) w
 | 27, _, _, h => obtain ⟨rfl, rfl, rfl⟩ := of_inj ((show enc_of.f ((27 : Nat) : Int) = some (19, 7, 0) by kernel_rfl).symm.trans h); exact of_imm 27 7 0 (by kernel_rfl) (by kernel_rfl) (by decide) (by decide) (by decide) (by decide) w
 | 28, _, _, h => obtain ⟨rfl, rfl, rfl⟩ := of_inj ((show enc_of.f ((28 : Nat) : Int) = some (19, 1, 0) by kernel_rfl).symm.trans h); exact of_imm 28 1 0 (by kernel_rfl) (by kernel_rfl) (by decide) (by decide) (by decide) (by decide) w
 | 29, _, _, h => obtain ⟨rfl, rfl, rfl⟩ := of_inj ((show enc_of.f ((29 : Nat) : Int) = some (19, 5, 0) by kernel_rfl).symm.trans h); exact of_imm 29 5 0 (by kernel_rfl) (by kernel_rfl) (by decide) (by decide) (by decide) (by decide) w
 | 30, _, _, h => obtain ⟨rfl, rfl, rfl⟩ := of_inj ((show enc_of.f ((30 : Nat) : Int) = some (19, 5, 32) by kernel_rfl).symm.trans h); exact of_imm 30 5 32 (by kernel_rfl) (by kernel_rfl) (by decide) (by decide) (by decide) (by decide) w
 | 31, _, _, h => obtain ⟨rfl, rfl, rfl⟩ := of_inj ((show enc_of.f ((31 : Nat) : Int) = some (27, 0, 0) by kernel_rfl).symm.trans h); exact of_immw 31 0 0 (by kernel_rfl) (by kernel_rfl) (by decide) (by decide) (by decide) (by decide) (by decide) w
 | 32, _, _, h => obtain ⟨rfl, rfl, rfl⟩ := of_inj ((show enc_of.f ((32 : Nat) : Int) = some (27, 1, 0) by kernel_rfl).symm.trans h); exact of_immw 32 1 0 (by kernel_rfl) (by kernel_rfl) (by decide) (by decide) (by decide) (by decide) (by decide) w
 | 33, _, _, h => obtain ⟨rfl, rfl, rfl⟩ := of_inj ((show enc_of.f ((33 : Nat) : Int) = some (27, 5, 0) by kernel_rfl).symm.trans h); exact of_immw 33 5 0 (by kernel_rfl) (by kernel_rfl) (by decide) (by decide) (by decide) (by decide) (by decide) w
 | 34, _, _, h => obtain ⟨rfl, rfl, rfl⟩ := of_inj ((show enc_of.f ((34 : Nat) : Int) = some (27, 5, 32) by kernel_rfl).symm.trans h); exact of_immw 34 5 32 (by kernel_rfl) (by kernel_rfl) (by decide) (by decide) (by decide) (by decide) (by decide) w
 | 35, _, _, h => obtain ⟨rfl, rfl, rfl⟩ := of_inj ((show enc_of.f ((35 : Nat) : Int) = some (51, 0, 0) by kernel_rfl).symm.trans h); exact of_op 35 0 0 (by kernel_rfl) (by kernel_rfl) (by decide) (by decide) (by decide) (by decide) (by decide) (by decide) w
 | 36, _, _, h => obtain ⟨rfl, rfl, rfl⟩ := of_inj ((show enc_of.f ((36 : Nat) : Int) = some (51, 0, 32) by kernel_rfl).symm.trans h); exact of_op 36 0 32 (by kernel_rfl) (by kernel_rfl) (by decide) (by decide) (by decide) (by decide) (by decide) (by decide) w
 | 37, _, _, h => obtain ⟨rfl, rfl, rfl⟩ := of_inj ((show enc_of.f ((37 : Nat) : Int) = some (51, 1, 0) by kernel_rfl).symm.trans h); exact of_op 37 1 0 (by kernel_rfl) (by kernel_rfl) (by decide) (by decide) (by decide) (by decide) (by decide) (by decide) w
 | 38, _, _, h => obtain ⟨rfl, rfl, rfl⟩ := of_inj ((show enc_of.f ((38 : Nat) : Int) = some (51, 2, 0) by kernel_rfl).symm.trans h); exact of_op 38 2 0 (by kernel_rfl) (by kernel_rfl) (by decide) (by decide) (by decide) (by decide) (by decide) (by decide) w
 | 39, _, _, h => obtain ⟨rfl, rfl, rfl⟩ := of_inj ((show enc_of.f ((39 : Nat) : Int) = some (51, 3, 0) by kernel_rfl).symm.trans h); exact of_op 39 3 0 (by kernel_rfl) (by kernel_rfl) (by decide) (by decide) (by decide) (by decide) (by decide) (by decide) w
 | 40, _, _, h => obtain ⟨rfl, rfl, rfl⟩ := of_inj ((show enc_of.f ((40 : Nat) : Int) = some (51, 4, 0) by kernel_rfl).symm.trans h); exact of_op 40 4 0 (by kernel_rfl) (by kernel_rfl) (by decide) (by decide) (by decide) (by decide) (by decide) (by decide) w
 | 41, _, _, h => obtain ⟨rfl, rfl, rfl⟩ := of_inj ((show enc_of.f ((41 : Nat) : Int) = some (51, 5, 0) by kernel_rfl).symm.trans h); exact of_op 41 5 0 (by kernel_rfl) (by kernel_rfl) (by decide) (by decide) (by decide) (by decide) (by decide) (by decide) w
 | 42, _, _, h => obtain ⟨rfl, rfl, rfl⟩ := of_inj ((show enc_of.f ((42 : Nat) : Int) = some (51, 5, 32) by kernel_rfl).symm.trans h); exact of_op 42 5 32 (by kernel_rfl) (by kernel_rfl) (by decide) (by decide) (by decide) (by decide) (by decide) (by decide) w
 | 43, _, _, h => obtain ⟨rfl, rfl, rfl⟩ := of_inj ((show enc_of.f ((43 : Nat) : Int) = some (51, 6, 0) by kernel_rfl).symm.trans h); exact of_op 43 6 0 (by kernel_rfl) (by kernel_rfl) (by decide) (by decide) (by decide) (by decide) (by decide) (by decide) w
 | 44, _, _, h => obtain ⟨rfl, rfl, rfl⟩ := of_inj ((show enc_of.f ((44 : Nat) : Int) = some (51, 7, 0) by kernel_rfl).symm.trans h); exact of_op 44 7 0 (by kernel_rfl) (by kernel_rfl) (by decide) (by decide) (by decide) (by decide) (by decide) (by decide) w
 | 45, _, _, h => obtain ⟨rfl, rfl, rfl⟩ := of_inj ((show enc_of.f ((45 : Nat) : Int) = some (59, 0, 0) by kernel_rfl).symm.trans h); exact of_opw 45 0 0 (by kernel_rfl) (by kernel_rfl) (by decide) (by decide) (by decide) (by decide) (by decide) (by decide) (by decide) w
 | 46, _, _, h => obtain ⟨rfl, rfl, rfl⟩ := of_inj ((show enc_of.f ((46 : Nat) : Int) = some (59, 0, 32) by kernel_rfl).symm.trans h); exact of_opw 46 0 32 (by kernel_rfl) (by kernel_rfl) (by decide) (by decide) (by decide) (by decide) (by decide) (by decide) (by decide) w
 | 47, _, _, h => obtain ⟨rfl, rfl, rfl⟩ := of_inj ((show enc_of.f ((47 : Nat) : Int) = some (59, 1, 0) by kernel_rfl).symm.trans h); exact of_opw 47 1 0 (by kernel_rfl) (by kernel_rfl) (by decide) (by decide) (by decide) (by decide) (by decide) (by decide) (by decide) w
 | 48, _, _, h => obtain ⟨rfl, rfl, rfl⟩ := of_inj ((show enc_of.f ((48 : Nat) : Int) = some (59, 5, 0) by kernel_rfl).symm.trans h); exact of_opw 48 5 0 (by kernel_rfl) (by kernel_rfl) (by decide) (by decide) (by decide) (by decide) (by decide) (by decide) (by decide) w
 | 49, _, _, h => obtain ⟨rfl, rfl, rfl⟩ := of_inj ((show enc_of.f ((49 : Nat) : Int) = some (59, 5, 32) by kernel_rfl).symm.trans h); exact of_opw 49 5 32 (by kernel_rfl) (by kernel_rfl) (by decide) (by decide) (by decide) (by decide) (by decide) (by decide) (by decide) w
 | 50, _, _, h => obtain ⟨rfl, rfl, rfl⟩ := of_inj ((show enc_of.f ((50 : Nat) : Int) = some (51, 0, 1) by kernel_rfl).symm.trans h); exact of_mul 50 0 1 (by kernel_rfl) (by kernel_rfl) (by decide) (by decide) (by decide) (by decide) (by decide) (by decide) (by decide) (by decide) w
 | 51, _, _, h => obtain ⟨rfl, rfl, rfl⟩ := of_inj ((show enc_of.f ((51 : Nat) : Int) = some (51, 1, 1) by kernel_rfl).symm.trans h); exact of_mul 51 1 1 (by kernel_rfl) (by kernel_rfl) (by decide) (by decide) (by decide) (by decide) (by decide) (by decide) (by decide) (by decide) w
 | 52, _, _, h => obtain ⟨rfl, rfl, rfl⟩ := of_inj ((show enc_of.f ((52 : Nat) : Int) = some (51, 2, 1) by kernel_rfl).symm.trans h); exact of_mul 52 2 1 (by kernel_rfl) (by kernel_rfl) (by decide) (by decide) (by decide) (by decide) (by decide) (by decide) (by decide) (by decide) w
 | 53, _, _, h => obtain ⟨rfl, rfl, rfl⟩ := of_inj ((show enc_of.f ((53 : Nat) : Int) = some (51, 3, 1) by kernel_rfl).symm.trans h); exact of_mul 53 3 1 (by kernel_rfl) (by kernel_rfl) (by decide) (by decide) (by decide) (by decide) (by decide) (by decide) (by decide) (by decide) w
 | 54, _, _, h => obtain ⟨rfl, rfl, rfl⟩ := of_inj ((show enc_of.f ((54 : Nat) : Int) = some (51, 4, 1) by kernel_rfl).symm.trans h); exact of_mul 54 4 1 (by kernel_rfl) (by kernel_rfl) (by decide) (by decide) (by decide) (by decide) (by decide) (by decide) (by decide) (by decide) w
 | 55, _, _, h => obtain ⟨rfl, rfl, rfl⟩ := of_inj ((show enc_of.f ((55 : Nat) : Int) = some (51, 5, 1) by kernel_rfl).symm.trans h); exact of_mul 55 5 1 (by kernel_rfl) (by kernel_rfl) (by decide) (by decide) (by decide) (by decide) (by decide) (by decide) (by decide) (by decide) w
 | 56, _, _, h => obtain ⟨rfl, rfl, rfl⟩ := of_inj ((show enc_of.f ((56 : Nat) : Int) = some (51, 6, 1) by kernel_rfl).symm.trans h); exact of_mul 56 6 1 (by kernel_rfl) (by kernel_rfl) (by decide) (by decide) (by decide) (by decide) (by decide) (by decide) (by decide) (by decide) w
 | 57, _, _, h => obtain ⟨rfl, rfl, rfl⟩ := of_inj ((show enc_of.f ((57 : Nat) : Int) = some (51, 7, 1) by kernel_rfl).symm.trans h); exact of_mul 57 7 1 (by kernel_rfl) (by kernel_rfl) (by decide) (by decide) (by decide) (by decide) (by decide) (by decide) (by decide) (by decide) w
 | 58, _, _, h => obtain ⟨rfl, rfl, rfl⟩ := of_inj ((show enc_of.f ((58 : Nat) : Int) = some (59, 0, 1) by kernel_rfl).symm.trans h); exact of_mulw 58 0 1 (by kernel_rfl) (by kernel_rfl) (by decide) (by decide) (by decide) (by decide) (by decide) (by decide) (by decide) (by decide) (by decide) w
 | 59, _, _, h => obtain ⟨rfl, rfl, rfl⟩ := of_inj ((show enc_of.f ((59 : Nat) : Int) = some (59, 4, 1) by kernel_rfl).symm.trans h); exact of_mulw 59 4 1 (by kernel_rfl) (by kernel_rfl) (by decide) (by decide) (by decide) (by decide) (by decide) (by decide) (by decide) (by decide) (by decide) w
 | 60, _, _, h => obtain ⟨rfl, rfl, rfl⟩ := of_inj ((show enc_of.f ((60 : Nat) : Int) = some (59, 5, 1) by kernel_rfl).symm.trans h); exact of_mulw 60 5 1 (by kernel_rfl) (by kernel_rfl) (by decide) (by decide) (by decide) (by decide) (by decide) (by decide) (by decide) (by decide) (by decide) w
 | 61, _, _, h => obtain ⟨rfl, rfl, rfl⟩ := of_inj ((show enc_of.f ((61 : Nat) : Int) = some (59, 6, 1) by kernel_rfl).symm.trans h); exact of_mulw 61 6 1 (by kernel_rfl) (by kernel_rfl) (by decide) (by decide) (by decide) (by decide) (by decide) (by decide) (by decide) (by decide) (by decide) w
 | 62, _, _, h => obtain ⟨rfl, rfl, rfl⟩ := of_inj ((show enc_of.f ((62 : Nat) : Int) = some (59, 7, 1) by kernel_rfl).symm.trans h); exact of_mulw 62 7 1 (by kernel_rfl) (by kernel_rfl) (by decide) (by decide) (by decide) (by decide) (by decide) (by decide) (by decide) (by decide) (by decide) w
 | 63, _, _, h => obtain ⟨rfl, rfl, rfl⟩ := of_inj ((show enc_of.f ((63 : Nat) : Int) = some (15, 0, 0) by kernel_rfl).symm.trans h); exact of_fence 63 (by kernel_rfl) (by decide) (by decide) (by decide) (by decide) (by decide) (by decide) (by decide) (by decide) (by decide) (by decide) w
 | 64, _, _, h => obtain ⟨rfl, rfl, rfl⟩ := of_inj ((show enc_of.f ((64 : Nat) : Int) = some (115, 0, 0) by kernel_rfl).symm.trans h); exact of_sys 64 (by kernel_rfl) (by decide) (by decide) (by decide) (by decide) (by decide) (by decide) (by decide) (by decide) (by decide) (by decide) (by decide) w
 | 65, _, _, h => obtain ⟨rfl, rfl, rfl⟩ := of_inj ((show enc_of.f ((65 : Nat) : Int) = some (115, 0, 0) by kernel_rfl).symm.trans h); exact of_sys 65 (by kernel_rfl) (by decide) (by decide) (by decide) (by decide) (by decide) (by decide) (by decide) (by decide) (by decide) (by decide) (by decide) w
 | 66, _, _, h => obtain ⟨rfl, rfl, rfl⟩ := of_inj ((show enc_of.f ((66 : Nat) : Int) = some (47, 2, 8) by kernel_rfl).symm.trans h); exact of_amo 66 2 8 (by kernel_rfl) (by kernel_rfl) (by decide) (by decide) (by decide) (by decide) (by decide) (by decide) (by decide) (by decide) (by decide) (by decide) (by decide) w
 | 67, _, _, h => obtain ⟨rfl, rfl, rfl⟩ := of_inj ((show enc_of.f ((67 : Nat) : Int) = some (47, 2, 12) by kernel_rfl).symm.trans h); exact of_amo 67 2 12 (by kernel_rfl) (by kernel_rfl) (by decide) (by decide) (by decide) (by decide) (by decide) (by decide) (by decide) (by decide) (by decide) (by decide) (by decide) w
 | 68, _, _, h => obtain ⟨rfl, rfl, rfl⟩ := of_inj ((show enc_of.f ((68 : Nat) : Int) = some (47, 2, 4) by kernel_rfl).symm.trans h); exact of_amo 68 2 4 (by kernel_rfl) (by kernel_rfl) (by decide) (by decide) (by decide) (by decide) (by decide) (by decide) (by decide) (by decide) (by decide) (by decide) (by decide) w
 | 69, _, _, h => obtain ⟨rfl, rfl, rfl⟩ := of_inj ((show enc_of.f ((69 : Nat) : Int) = some (47, 2, 0) by kernel_rfl).symm.trans h); exact of_amo 69 2 0 (by kernel_rfl) (by kernel_rfl) (by decide) (by decide) (by decide) (by decide) (by decide) (by decide) (by decide) (by decide) (by decide) (by decide) (by decide) w
 | 70, _, _, h => obtain ⟨rfl, rfl, rfl⟩ := of_inj ((show enc_of.f ((70 : Nat) : Int) = some (47, 2, 16) by kernel_rfl).symm.trans h); exact of_amo 70 2 16 (by kernel_rfl) (by kernel_rfl) (by decide) (by decide) (by decide) (by decide) (by decide) (by decide) (by decide) (by decide) (by decide) (by decide) (by decide) w
 | 71, _, _, h => obtain ⟨rfl, rfl, rfl⟩ := of_inj ((show enc_of.f ((71 : Nat) : Int) = some (47, 2, 48) by kernel_rfl).symm.trans h); exact of_amo 71 2 48 (by kernel_rfl) (by kernel_rfl) (by decide) (by decide) (by decide) (by decide) (by decide) (by decide) (by decide) (by decide) (by decide) (by decide) (by decide) w
 | 72, _, _, h => obtain ⟨rfl, rfl, rfl⟩ := of_inj ((show enc_of.f ((72 : Nat) : Int) = some (47, 2, 32) by kernel_rfl).symm.trans h); exact of_amo 72 2 32 (by kernel_rfl) (by kernel_rfl) (by decide) (by decide) (by decide) (by decide) (by decide) (by decide) (by decide) (by decide) (by decide) (by decide) (by decide) w
 | 73, _, _, h => obtain ⟨rfl, rfl, rfl⟩ := of_inj ((show enc_of.f ((73 : Nat) : Int) = some (47, 2, 64) by kernel_rfl).symm.trans h); exact of_amo 73 2 64 (by kernel_rfl) (by kernel_rfl) (by decide) (by decide) (by decide) (by decide) (by decide) (by decide) (by decide) (by decide) (by decide) (by decide) (by decide) w
 | 74, _, _, h => obtain ⟨rfl, rfl, rfl⟩ := of_inj ((show enc_of.f ((74 : Nat) : Int) = some (47, 2, 80) by kernel_rfl).symm.trans h); exact of_amo 74 2 80 (by kernel_rfl) (by kernel_rfl) (by decide) (by decide) (by decide) (by decide) (by decide) (by decide) (by decide) (by decide) (by decide) (by decide) (by decide) w
 | 75, _, _, h => obtain ⟨rfl, rfl, rfl⟩ := of_inj ((show enc_of.f ((75 : Nat) : Int) = some (47, 2, 96) by kernel_rfl).symm.trans h); exact of_amo 75 2 96 (by kernel_rfl) (by kernel_rfl) (by decide) (by decide) (by decide) (by decide) (by decide) (by decide) (by decide) (by decide) (by decide) (by decide) (by decide) w
 | 76, _, _, h => obtain ⟨rfl, rfl, rfl⟩ := of_inj ((show enc_of.f ((76 : Nat) : Int) = some (47, 2, 112) by kernel_rfl).symm.trans h); exact of_amo 76 2 112 (by kernel_rfl) (by kernel_rfl) (by decide) (by decide) (by decide) (by decide) (by decide) (by decide) (by decide) (by decide) (by decide) (by decide) (by decide) w
 | 77, _, _, h => obtain ⟨rfl, rfl, rfl⟩ := of_inj ((show enc_of.f ((77 : Nat) : Int) = some (47, 3, 8) by kernel_rfl).symm.trans h); exact of_amo 77 3 8 (by kernel_rfl) (by kernel_rfl) (by decide) (by decide) (by decide) (by decide) (by decide) (by decide) (by decide) (by decide) (by decide) (by decide) (by decide) w
 | 78, _, _, h => obtain ⟨rfl, rfl, rfl⟩ := of_inj ((show enc_of.f ((78 : Nat) : Int) = some (47, 3, 12) by kernel_rfl).symm.trans h); exact of_amo 78 3 12 (by kernel_rfl) (by kernel_rfl) (by decide) (by decide) (by decide) (by decide) (by decide) (by decide) (by decide) (by decide) (by decide) (by decide) (by decide) w
 | 79, _, _, h => obtain ⟨rfl, rfl, rfl⟩ := of_inj ((show enc_of.f ((79 : Nat) : Int) = some (47, 3, 4) by kernel_rfl).symm.trans h); exact of_amo 79 3 4 (by kernel_rfl) (by kernel_rfl) (by decide) (by decide) (by decide) (by decide) (by decide) (by decide) (by decide) (by decide) (by decide) (by decide) (by decide) w
 | 80, _, _, h => obtain ⟨rfl, rfl, rfl⟩ := of_inj ((show enc_of.f ((80 : Nat) : Int) = some (47, 3, 0) by kernel_rfl).symm.trans h); exact of_amo 80 3 0 (by kernel_rfl) (by kernel_rfl) (by decide) (by decide) (by decide) (by decide) (by decide) (by decide) (by decide) (by decide) (by decide) (by decide) (by decide) w
 | 81, _, _, h => obtain ⟨rfl, rfl, rfl⟩ := of_inj ((show enc_of.f ((81 : Nat) : Int) = some (47, 3, 16) by kernel_rfl).symm.trans h); exact of_amo 81 3 16 (by kernel_rfl) (by kernel_rfl) (by decide) (by decide) (by decide) (by decide) (by decide) (by decide) (by decide) (by decide) (by decide) (by decide) (by decide) w
 | 82, _, _, h => obtain ⟨rfl, rfl, rfl⟩ := of_inj ((show enc_of.f ((82 : Nat) : Int) = some (47, 3, 48) by kernel_rfl).symm.trans h); exact of_amo 82 3 48 (by kernel_rfl) (by kernel_rfl) (by decide) (by decide) (by decide) (by decide) (by decide) (by decide) (by decide) (by decide) (by decide) (by decide) (by decide) w
 | 83, _, _, h => obtain ⟨rfl, rfl, rfl⟩ := of_inj ((show enc_of.f ((83 : Nat) : Int) = some (47, 3, 32) by kernel_rfl).symm.trans h); exact of_amo 83 3 32 (by kernel_rfl) (by kernel_rfl) (by decide) (by decide) (by decide) (by decide) (by decide) (by decide) (by decide) (by decide) (by decide) (by decide) (by decide) w
 | 84, _, _, h => obtain ⟨rfl, rfl, rfl⟩ := of_inj ((show enc_of.f ((84 : Nat) : Int) = some (47, 3, 64) by kernel_rfl).symm.trans h); exact of_amo 84 3 64 (by kernel_rfl) (by kernel_rfl) (by decide) (by decide) (by decide) (by decide) (by decide) (by decide) (by decide) (by decide) (by decide) (by decide) (by decide) w
 | 85, _, _, h => obtain ⟨rfl, rfl, rfl⟩ := of_inj ((show enc_of.f ((85 : Nat) : Int) = some (47, 3, 80) by kernel_rfl).symm.trans h); exact of_amo 85 3 80 (by kernel_rfl) (by kernel_rfl) (by decide) (by decide) (by decide) (by decide) (by decide) (by decide) (by decide) (by decide) (by decide) (by decide) (by decide) w
 | 86, _, _, h => obtain ⟨rfl, rfl, rfl⟩ := of_inj ((show enc_of.f ((86 : Nat) : Int) = some (47, 3, 96) by kernel_rfl).symm.trans h); exact of_amo 86 3 96 (by kernel_rfl) (by kernel_rfl) (by decide) (by decide) (by decide) (by decide) (by decide) (by decide) (by decide) (by decide) (by decide) (by decide) (by decide) w
 | 87, _, _, h => obtain ⟨rfl, rfl, rfl⟩ := of_inj ((show enc_of.f ((87 : Nat) : Int) = some (47, 3, 112) by kernel_rfl).symm.trans h); exact of_amo 87 3 112 (by kernel_rfl) (by kernel_rfl) (by decide) (by decide) (by decide) (by decide) (by decide) (by decide) (by decide) (by decide) (by decide) (by decide) (by decide) w
 | n + 88, _, h1, _ => exact absurd h1 (by omega)

/-! ### word_may: function 89 -/
def word_may.f (a0 : Int) (a1 : Int) : Option (Bool) := if a0 ≥ 0 then (if a1 ≥ 1 then (if a1 ≤ 32 then (some (decide (a0 ≤ (wrap64 (32 - a1))))) else (some false)) else (some false)) else (some false)
set_option maxHeartbeats 8000000 in
set_option maxRecDepth 100000 in
theorem word_may.calls (a0 : Int) (a1 : Int) (r : Bool) (w : World) (h : word_may.f a0 a1 = some r) :
  Calls Tryd.prog 89 #[.int .i64 a0, .int .i64 a1] w fun e w' => e = .returned (.bool r) ∧ Drawn0 w w' := by
 have H : (if a0 ≥ 0 then (if a1 ≥ 1 then (if a1 ≤ 32 then (some (decide (a0 ≤ (wrap64 (32 - a1))))) else (some false)) else (some false)) else (some false)) = some r := h
 clear h
 by_cases c3 : a0 ≥ 0
 ·rw [if_pos c3] at H
  have c3b0 : decide (0 ≤ a0) = true := decide_eq_true c3
  clear c3
  by_cases c4 : a1 ≥ 1
  ·rw [if_pos c4] at H
   have c4b0 : decide (1 ≤ a1) = true := decide_eq_true c4
   clear c4
   by_cases c5 : a1 ≤ 32
   ·rw [if_pos c5] at H
    have c5b0 : decide (a1 ≤ 32) = true := decide_eq_true c5
    clear c5
    obtain rfl := Option.some.inj H
    go_enter Tryd.func89, Tryd.ntmps89
    go_wp2
    go_ret
    exact ⟨fj, fd⟩
   ·rw [if_neg c5] at H
    have c5b0 : decide (a1 ≤ 32) = false := decide_eq_false c5
    clear c5
    obtain rfl := Option.some.inj H
    go_enter Tryd.func89, Tryd.ntmps89
    go_wp2
    go_ret
    exact ⟨fj, fd⟩
  ·rw [if_neg c4] at H
   have c4b0 : decide (1 ≤ a1) = false := decide_eq_false c4
   clear c4
   obtain rfl := Option.some.inj H
   go_enter Tryd.func89, Tryd.ntmps89
   go_wp2
   go_ret
   exact ⟨fj, fd⟩
 ·rw [if_neg c3] at H
  have c3b0 : decide (0 ≤ a0) = false := decide_eq_false c3
  clear c3
  obtain rfl := Option.some.inj H
  go_enter Tryd.func89, Tryd.ntmps89
  go_wp2
  go_ret
  exact ⟨fj, fd⟩

/-! ### word_mask: function 90 -/
def word_mask.f (a0 : Int) : Option (Int) := if 0 ≤ a0 then (some ((IntKind.u64.wrap ((shl .u64 1 a0) - 1)) % 4294967296)) else (none)
set_option maxHeartbeats 8000000 in
set_option maxRecDepth 100000 in
theorem word_mask.calls (a0 : Int) (r : Int) (w : World) (h : word_mask.f a0 = some r) :
  Calls Tryd.prog 90 #[.int .i64 a0] w fun e w' => e = .returned (.int .u32 r) ∧ Drawn0 w w' := by
 have H : (if 0 ≤ a0 then (some ((IntKind.u64.wrap ((shl .u64 1 a0) - 1)) % 4294967296)) else (none)) = some r := h
 clear h
 by_cases c2 : 0 ≤ a0
 ·rw [if_pos c2] at H
  have c2b0 := eq_true c2
  have c2b1 : decide (0 ≤ a0) = true := decide_eq_true c2
  clear c2
  obtain ⟨ji3, hji3⟩ : ∃ j_ : Int, (shl .u64 1 a0) = j_ := ⟨_, rfl⟩
  replace H : (some ((IntKind.u64.wrap ((ji3) - 1)) % 4294967296)) = some r := by first | (rw [hji3] at H; exact H) | (simp only [hji3] at H ⊢; exact H)
  have hji3_ : (IntKind.u64.wrap (1 * 2 ^ min a0.toNat 64)) = ji3 := hji3
  have hji3z : a0 ≤ 64 → (IntKind.u64.wrap (1 * 2 ^ a0.toNat)) = ji3 := shl_small hji3
  have hji3u : (IntKind.u64.wrap (2 ^ min a0.toNat 64)) = ji3 := by have h_ := hji3_; rw [Int.one_mul] at h_; exact h_
  have hji3v : a0 ≤ 64 → (IntKind.u64.wrap (2 ^ a0.toNat)) = ji3 := fun hle_ => by have h_ := hji3z hle_; rw [Int.one_mul] at h_; exact h_
  obtain rfl := Option.some.inj H
  go_enter Tryd.func90, Tryd.ntmps90
  go_wp2
  go_ret
  exact ⟨by first | rfl | (simp; done) | (simp only [← hji3] <;> (first | rfl | simp)) | (simp [*]; done), fd⟩
 ·rw [if_neg c2] at H
  exact absurd H (by simp)

/-! ### word_Put: function 72 -/
def word_Put.f (a0 : Int) (a1 : Int) (a2 : Int) (a3 : Int) : Option (Int × Int) := (word_may.f a1 a2).bind fun t130 => (if t130 = true then ((word_mask.f a2).bind fun t131 => (if 0 ≤ a1 then (some (Go.bits .or .u32 (Go.bits .andNot .u32 a0 (shl .u32 t131 a1)) (Go.bits .and .u32 (shl .u32 a3 a1) (shl .u32 t131 a1)), 0)) else (none))) else (some (0, 2)))
set_option maxHeartbeats 8000000 in
set_option maxRecDepth 100000 in
theorem word_Put.calls (a0 : Int) (a1 : Int) (a2 : Int) (a3 : Int) (r1 : Int) (r2 : Int) (w : World) (h : word_Put.f a0 a1 a2 a3 = some (r1, r2)) :
  Calls Tryd.prog 72 #[.int .u32 a0, .int .i64 a1, .int .i64 a2, .int .u32 a3] w fun e w' => e = .returned (.tuple #[.int .u32 r1, .int .i64 r2]) ∧ Drawn0 w w' := by
 have H : ((word_may.f a1 a2).bind fun t130 => (if t130 = true then ((word_mask.f a2).bind fun t131 => (if 0 ≤ a1 then (some (Go.bits .or .u32 (Go.bits .andNot .u32 a0 (shl .u32 t131 a1)) (Go.bits .and .u32 (shl .u32 a3 a1) (shl .u32 t131 a1)), 0)) else (none))) else (some (0, 2)))) = some (r1, r2) := h
 clear h
 replace H := be H
 obtain ⟨t130, A5, H⟩ := H
 by_cases c6 : t130 = true
 ·subst c6
  have H1 : ((word_mask.f a2).bind fun t131 => (if 0 ≤ a1 then (some (Go.bits .or .u32 (Go.bits .andNot .u32 a0 (shl .u32 t131 a1)) (Go.bits .and .u32 (shl .u32 a3 a1) (shl .u32 t131 a1)), 0)) else (none))) = some (r1, r2) := by rw [if_pos rfl] at H; exact H
  clear H
  have H := H1
  clear H1
  replace H := be H
  obtain ⟨t131, A7, H⟩ := H
  by_cases c8 : 0 ≤ a1
  ·rw [if_pos c8] at H
   have c8b0 := eq_true c8
   have c8b1 : decide (0 ≤ a1) = true := decide_eq_true c8
   clear c8
   obtain ⟨ji9, hji9⟩ : ∃ j_ : Int, (shl .u32 t131 a1) = j_ := ⟨_, rfl⟩
   replace H : (some (Go.bits .or .u32 (Go.bits .andNot .u32 a0 (ji9)) (Go.bits .and .u32 (shl .u32 a3 a1) (ji9)), 0)) = some (r1, r2) := by first | (rw [hji9] at H; exact H) | (simp only [hji9] at H ⊢; exact H)
   (try rw [hji9] at A5)
   (try rw [hji9] at A7)
   have hji9_ : (IntKind.u32.wrap (t131 * 2 ^ min a1.toNat 32)) = ji9 := hji9
   have hji9z : a1 ≤ 32 → (IntKind.u32.wrap (t131 * 2 ^ a1.toNat)) = ji9 := shl_small hji9
   have c10b0 := eq_true (of_decide_eq_true (by first | (with_reducible assumption) | assumption) : 0 ≤ a1)
   obtain ⟨ji11, hji11⟩ : ∃ j_ : Int, (shl .u32 a3 a1) = j_ := ⟨_, rfl⟩
   replace H : (some (Go.bits .or .u32 (Go.bits .andNot .u32 a0 (ji9)) (Go.bits .and .u32 (ji11) (ji9)), 0)) = some (r1, r2) := by first | (rw [hji11] at H; exact H) | (simp only [hji11] at H ⊢; exact H)
   (try rw [hji11] at A5)
   (try rw [hji11] at A7)
   have hji11_ : (IntKind.u32.wrap (a3 * 2 ^ min a1.toNat 32)) = ji11 := hji11
   have hji11z : a1 ≤ 32 → (IntKind.u32.wrap (a3 * 2 ^ a1.toNat)) = ji11 := shl_small hji11
   simp only [Option.some.injEq, Prod.mk.injEq] at H
   obtain ⟨rfl, rfl⟩ := H
   go_enter Tryd.func72, Tryd.ntmps72
   go_wp2_with (first | ((with_reducible refine gate_callee (f := 89) rfl ?_); refine goesL_ (some 13) rfl rfl Tryd.func89 (by kernel_rfl) rfl #[.int .i64 a1, .int .i64 a2] rfl ga ?_; (with_reducible refine (word_may.calls a1 a2 true _ A5.out).mono ?_); rintro e w' ⟨rfl, ⟨nd, rfl⟩⟩; refine ⟨_, rfl, ?_⟩) | ((with_reducible refine gate_callee (f := 90) rfl ?_); refine goesL_ (some 16) rfl rfl Tryd.func90 (by kernel_rfl) rfl #[.int .i64 a2] rfl ga ?_; (with_reducible refine (word_mask.calls a2 t131 _ A7.out).mono ?_); rintro e w' ⟨rfl, ⟨nd, rfl⟩⟩; refine ⟨_, rfl, ?_⟩))
   go_ret2
   exact ⟨by first | rfl | (simp; done) | (simp only [← hji9, ← hji11] <;> (first | rfl | simp)) | (simp [*]; done), fd⟩
  ·rw [if_neg c8] at H
   exact absurd H (by simp)
 ·replace c6 := Bool.eq_false_iff.mpr c6
  subst c6
  have H1 : (some (0, 2)) = some (r1, r2) := by rw [if_neg (show ¬ (false = true) by decide)] at H; exact H
  clear H
  have H := H1
  clear H1
  simp only [Option.some.injEq, Prod.mk.injEq] at H
  obtain ⟨rfl, rfl⟩ := H
  go_enter Tryd.func72, Tryd.ntmps72
  go_wp2_with (first | ((with_reducible refine gate_callee (f := 89) rfl ?_); refine goesL_ (some 13) rfl rfl Tryd.func89 (by kernel_rfl) rfl #[.int .i64 a1, .int .i64 a2] rfl ga ?_; (with_reducible refine (word_may.calls a1 a2 false _ A5.out).mono ?_); rintro e w' ⟨rfl, ⟨nd, rfl⟩⟩; refine ⟨_, rfl, ?_⟩))
  go_ret2
  exact ⟨fj, fd⟩

/-! ### enc_pack: function 39 -/
def enc_pack.l0 : Nat → Int → List (S65) → Int → Int → Option (Int)
  | 0, _, _, _, _ => none
  | k + 1, x3, x6, x7, x8 => if x8 < x7 then (if 0 ≤ x8 then (if x8 < (x6.length : Int) then ((word_Put.f x3 ((rd_T65 x6 x8).f1) ((rd_T65 x6 x8).f2) ((rd_T65 x6 x8).f0)).bind fun bt134 => (enc_pack.l0 k bt134.1 x6 x7 (wrap64 (x8 + 1)))) else (none)) else (none)) else (some x3)
def enc_pack.f (k : Nat) (l0 : List (S65)) : Option (Int) := enc_pack.l0 k 0 l0 (l0.length : Int) 0
theorem enc_pack.mono_l : ∀ k, (∀ y0 y1 y2 y3, LeO (enc_pack.l0 k y0 y1 y2 y3) (enc_pack.l0 (k + 1) y0 y1 y2 y3))
 | 0 => fun _ _ _ _ r h => by simp [enc_pack.l0] at h
 | k + 1 => by
  have ih0 := enc_pack.mono_l k
  ·intro y0 y1 y2 y3
   unfold enc_pack.l0
   repeat' first
   | (with_reducible exact ih0 _ _ _ _)
   | (with_reducible exact LeO.refl _)
   | (with_reducible exact LeO.none _)
   | (with_reducible refine LeO.ite ?_ ?_)
   | (with_reducible refine LeO.bind ?_ (fun _ => ?_))
   | exact ih0 _ _ _ _
   | exact LeO.none _
   | refine LeO.ite ?_ ?_
   | refine LeO.bind ?_ (fun _ => ?_)
theorem enc_pack.mono : ∀ a0 k, LeO (enc_pack.f k a0) (enc_pack.f (k + 1) a0) := by
 intro a0 k
 have ih0 := enc_pack.mono_l k
 unfold enc_pack.f
 repeat' first
   | (with_reducible exact ih0 _ _ _ _)
   | (with_reducible exact LeO.refl _)
   | (with_reducible exact LeO.none _)
   | (with_reducible refine LeO.ite ?_ ?_)
   | (with_reducible refine LeO.bind ?_ (fun _ => ?_))
   | exact ih0 _ _ _ _
   | exact LeO.none _
   | refine LeO.ite ?_ ?_
   | refine LeO.bind ?_ (fun _ => ?_)
set_option maxHeartbeats 8000000 in
set_option maxRecDepth 100000 in
theorem enc_pack.calls (k : Nat) (A0 : Option Addr) (c0 : Nat) (l0 : List (S65)) (r : Int) (w : World) (hr0 : Kd.C k65 w A0 l0.length l0) (hc0 : l0.length ≤ c0) (h : enc_pack.f k l0 = some r) :
  Calls Tryd.prog 39 #[.slice A0 l0.length c0] w fun e w' => e = .returned (.int .u32 r) ∧ Below w.heap.size w w' := by
 have hu65 := Tryd.underlying65
 have HR0 := Aside0.mk hr0
 have HC0 := Aside0.mk hc0
 clear hr0 hc0
 have HB := Aside0.mk (Below.refl w.heap.size w)
 have H : (enc_pack.l0 k 0 l0 (l0.length : Int) 0) = some r := h
 clear h
 have H' := Aside0.mk H
 clear H
 go_enter Tryd.func39, Tryd.ntmps39
 go_wp2
 go_loopg [3, 8] k (fun kq v3 v8 w' => ∃ (x3_1 : Int) (x8_1 : Int), v3 = .int .u32 x3_1 ∧ v8 = .int .i64 x8_1 ∧ Aside0 (enc_pack.l0 kq x3_1 l0 (l0.length : Int) x8_1 = some r) ∧ Aside0 (kq ≤ k) ∧ Aside0 (Below w.heap.size w w'))
 case atStart => exact ⟨(0), (0), fj, fj, H', ⟨Nat.le_refl _⟩, ⟨bl⟩⟩
 case round =>
  clear H'
  obtain ⟨x3_1, x8_1, rfl, rfl, HA, HK1, HB⟩ := hrel
  cases gk with
  | zero => exact absurd HA.out (by simp [enc_pack.l0])
  | succ k1 =>
   have H := HA.out
   clear HA
   simp only [enc_pack.l0] at H
   by_cases c2 : x8_1 < (l0.length : Int)
   ·rw [if_pos c2] at H
    have c2b0 : decide (x8_1 < (l0.length : Int)) = true := decide_eq_true c2
    clear c2
    by_cases c3 : 0 ≤ x8_1
    ·rw [if_pos c3] at H
     have c3b0 : decide (0 ≤ x8_1) = true := decide_eq_true c3
     clear c3
     by_cases c4 : x8_1 < (l0.length : Int)
     ·rw [if_pos c4] at H
      have c4b0 : decide (x8_1 < (l0.length : Int)) = true := decide_eq_true c4
      clear c4
      replace H := be H
      obtain ⟨⟨t134, t135⟩, A5, H⟩ := H
      dsimp only at H
      have H' := Aside0.mk H
      clear H
      have p132 : 0 ≤ (x8_1 : Int) := of_decide_eq_true (by first | (with_reducible assumption) | assumption)
      have q132 : x8_1 < (l0.length : Int) := of_decide_eq_true (by first | (with_reducible assumption) | assumption)
      obtain ⟨ad132, e132, hx132_0, hx132_1, hx132_2⟩ := at_T65 HR0.out x8_1 p132 q132
      cases e132
      replace hx132_0 := (HB.out.cell (World.block_lt_of_cell? w _ hx132_0)).trans hx132_0
      replace hx132_1 := (HB.out.cell (World.block_lt_of_cell? w _ hx132_1)).trans hx132_1
      replace hx132_2 := (HB.out.cell (World.block_lt_of_cell? w _ hx132_2)).trans hx132_2
      replace p132 := eq_true p132
      replace q132 := eq_true q132
      go_wp2_with (first | ((with_reducible refine gate_dst (N := 5) rfl ?_); refine box_event ?hg (N := 5) ?hd (cs := #[.int .u32 0, .int .i64 0, .int .i64 0]) (t := 65) ?hr ?_; (case hd => rfl); (case hg => rfl); (case hr => first | (go_simp; done) | (go_simp; rfl)); intro gb133 hg w6 hbox hb; obtain ⟨n0_, GW133⟩ := nb (w := w) hg hb; clear HB; have HB := n0_; have BK133 := Aside0.mk hbox; have GE133 := GW133; clear n0_ hb hbox hg; obtain ⟨hcz7_0, hcz7_1, hcz7_2, hfz7_0, hfz7_1, hfz7_2⟩ := cz3 (w := w6) BK133.out) | ((with_reducible refine gate_callee (f := 72) rfl ?_); refine goesL_ (some 20) rfl rfl Tryd.func72 (by kernel_rfl) rfl #[.int .u32 x3_1, .int .i64 ((rd_T65 l0 x8_1).f1), .int .i64 ((rd_T65 l0 x8_1).f2), .int .u32 ((rd_T65 l0 x8_1).f0)] rfl ga ?_; (with_reducible refine (word_Put.calls x3_1 ((rd_T65 l0 x8_1).f1) ((rd_T65 l0 x8_1).f2) ((rd_T65 l0 x8_1).f0) t134 t135 _ A5.out).mono ?_); rintro e w' ⟨rfl, ⟨nd, rfl⟩⟩; refine ⟨_, rfl, ?_⟩))
      go_roundg k1
      case measure => have := HK1.out; omega
      case rel => exact ⟨(t134), (wrap64 (x8_1 + 1)), fj, fj, H', ⟨by have := HK1.out; omega⟩, ⟨bl⟩⟩
     ·rw [if_neg c4] at H
      exact absurd H (by simp)
    ·rw [if_neg c3] at H
     exact absurd H (by simp)
   ·rw [if_neg c2] at H
    have c2b0 : decide (x8_1 < (l0.length : Int)) = false := decide_eq_false c2
    clear c2
    obtain rfl := Option.some.inj H
    go_wp2
    go_ret
    exact ⟨fi, bl⟩

/-! ### isa_Reads: function 76 -/
def isa_Reads.f (k : Nat) (a0_0 : Int) (a0_1 : Int) (a0_2 : Int) (a0_3 : Int) (a0_4 : Int) (a0_5 : Bool) (a0_6 : Bool) : Option (Bool × Bool) := (isa_May.f k a0_0 a0_1 a0_2 a0_3 a0_4 a0_5 a0_6).bind fun t137 => (if t137 = true then ((isa_Form.f k a0_0).bind fun t138 => ((isa_fields.f k t138).bind fun bt139 => (some (bt139.2.1, bt139.2.2)))) else (some (false, false)))
theorem isa_Reads.mono : ∀ a0 a1 a2 a3 a4 a5 a6 k, LeO (isa_Reads.f k a0 a1 a2 a3 a4 a5 a6) (isa_Reads.f (k + 1) a0 a1 a2 a3 a4 a5 a6) := by
 intro a0 a1 a2 a3 a4 a5 a6 k
 unfold isa_Reads.f
 repeat' first
   | (with_reducible exact isa_Form.mono _ _)
   | (with_reducible exact isa_May.mono _ _ _ _ _ _ _ _)
   | (with_reducible exact isa_fields.mono _ _)
   | (with_reducible exact LeO.refl _)
   | (with_reducible exact LeO.none _)
   | (with_reducible refine LeO.ite ?_ ?_)
   | (with_reducible refine LeO.bind ?_ (fun _ => ?_))
   | exact isa_Form.mono _ _
   | exact isa_May.mono _ _ _ _ _ _ _ _
   | exact isa_fields.mono _ _
   | exact LeO.none _
   | refine LeO.ite ?_ ?_
   | refine LeO.bind ?_ (fun _ => ?_)
set_option maxHeartbeats 8000000 in
set_option maxRecDepth 100000 in
theorem isa_Reads.calls (k : Nat) (a0_0 : Int) (a0_1 : Int) (a0_2 : Int) (a0_3 : Int) (a0_4 : Int) (a0_5 : Bool) (a0_6 : Bool) (r1 : Bool) (r2 : Bool) (w : World) (hL : Laid w) (h : isa_Reads.f k a0_0 a0_1 a0_2 a0_3 a0_4 a0_5 a0_6 = some (r1, r2)) :
  Calls Tryd.prog 76 #[.agg #[.int .i64 a0_0, .int .i64 a0_1, .int .i64 a0_2, .int .i64 a0_3, .int .i64 a0_4, .bool a0_5, .bool a0_6]] w fun e w' => e = .returned (.tuple #[.bool r1, .bool r2]) ∧ Below w.heap.size w w' := by
 have HL := Aside0.mk hL
 clear hL
 have hu24 := Tryd.underlying24
 have HB := Aside0.mk (Below.refl w.heap.size w)
 have H : ((isa_May.f k a0_0 a0_1 a0_2 a0_3 a0_4 a0_5 a0_6).bind fun t137 => (if t137 = true then ((isa_Form.f k a0_0).bind fun t138 => ((isa_fields.f k t138).bind fun bt139 => (some (bt139.2.1, bt139.2.2)))) else (some (false, false)))) = some (r1, r2) := h
 clear h
 replace H := be H
 obtain ⟨t137, A2, H⟩ := H
 by_cases c3 : t137 = true
 ·subst c3
  have H1 : ((isa_Form.f k a0_0).bind fun t138 => ((isa_fields.f k t138).bind fun bt139 => (some (bt139.2.1, bt139.2.2)))) = some (r1, r2) := by rw [if_pos rfl] at H; exact H
  clear H
  have H := H1
  clear H1
  replace H := be H
  obtain ⟨t138, A4, H⟩ := H
  replace H := be H
  obtain ⟨⟨t139, t140, t141⟩, A5, H⟩ := H
  dsimp only at H
  simp only [Option.some.injEq, Prod.mk.injEq] at H
  obtain ⟨rfl, rfl⟩ := H
  go_enter Tryd.func76, Tryd.ntmps76
  go_wp2_with (first | ((with_reducible refine gate_dst (N := 1) rfl ?_); refine box_event ?hg (N := 1) ?hd (cs := #[.int .i64 a0_0, .int .i64 a0_1, .int .i64 a0_2, .int .i64 a0_3, .int .i64 a0_4, .bool a0_5, .bool a0_6]) (t := 24) ?hr ?_; (case hd => rfl); (case hg => rfl); (case hr => first | (go_simp; done) | (go_simp; rfl)); intro gb136 hg w6 hbox hb; obtain ⟨n0_, GW136⟩ := nb (w := w) hg hb; clear HB; have HB := n0_; have BK136 := Aside0.mk hbox; have GE136 := GW136; clear n0_ hb hbox hg; obtain ⟨hcz7_0, hcz7_1, hcz7_2, hcz7_3, hcz7_4, hcz7_5, hcz7_6, hfz7_0, hfz7_1, hfz7_2, hfz7_3, hfz7_4, hfz7_5, hfz7_6⟩ := cz7 (w := w6) BK136.out) | ((with_reducible refine gate_callee (f := 37) rfl ?_); refine goesL_ (some 8) rfl rfl Tryd.func37 (by kernel_rfl) rfl #[.agg #[.int .i64 a0_0, .int .i64 a0_1, .int .i64 a0_2, .int .i64 a0_3, .int .i64 a0_4, .bool a0_5, .bool a0_6]] rfl ga ?_; (with_reducible refine (isa_May.calls k a0_0 a0_1 a0_2 a0_3 a0_4 a0_5 a0_6 true _ (by first | exact HL.out | exact laid_drewN HL.out | exact laid_below HL.out bl | exact laid_below HL.out HB.out | exact laid_belowd HL.out HB.out) A2.out).mono ?_); rintro e w8 ⟨rfl, hb⟩; refine ⟨_, rfl, ?_⟩; have n0_ := Aside0.mk (blk_below (g := gb136) (o := .cells #[.int .i64 a0_0, .int .i64 a0_1, .int .i64 a0_2, .int .i64 a0_3, .int .i64 a0_4, .bool a0_5, .bool a0_6] 24 (0, 0)) (bk BK136.out) hb); have n1_ := Aside0.mk (below_step bl hb); clear BK136; clear HB; have BK136 := n0_; have HB := n1_; clear n0_ n1_; (try clear hb); obtain ⟨hcz9_0, hcz9_1, hcz9_2, hcz9_3, hcz9_4, hcz9_5, hcz9_6, hfz9_0, hfz9_1, hfz9_2, hfz9_3, hfz9_4, hfz9_5, hfz9_6⟩ := cz7 (w := w8) BK136.out) | ((with_reducible refine gate_callee (f := 40) rfl ?_); refine goesL_ (some 13) rfl rfl Tryd.func40 (by kernel_rfl) rfl #[.int .i64 a0_0] rfl ga ?_; (with_reducible refine (isa_Form.calls k a0_0 t138 _ (by first | exact HL.out | exact laid_drewN HL.out | exact laid_below HL.out bl | exact laid_below HL.out HB.out | exact laid_belowd HL.out HB.out) A4.out).mono ?_); rintro e w' ⟨rfl, ⟨nd, rfl⟩⟩; refine ⟨_, rfl, ?_⟩) | ((with_reducible refine gate_callee (f := 64) rfl ?_); refine goesL_ (some 14) rfl rfl Tryd.func64 (by kernel_rfl) rfl #[.int .i64 t138] rfl ga ?_; (with_reducible refine (isa_fields.calls k t138 t139 t140 t141 _ A5.out).mono ?_); rintro e w' ⟨rfl, ⟨nd, rfl⟩⟩; refine ⟨_, rfl, ?_⟩))
  go_ret2
  exact ⟨fi, bl⟩
 ·replace c3 := Bool.eq_false_iff.mpr c3
  subst c3
  have H1 : (some (false, false)) = some (r1, r2) := by rw [if_neg (show ¬ (false = true) by decide)] at H; exact H
  clear H
  have H := H1
  clear H1
  simp only [Option.some.injEq, Prod.mk.injEq] at H
  obtain ⟨rfl, rfl⟩ := H
  go_enter Tryd.func76, Tryd.ntmps76
  go_wp2_with (first | ((with_reducible refine gate_dst (N := 1) rfl ?_); refine box_event ?hg (N := 1) ?hd (cs := #[.int .i64 a0_0, .int .i64 a0_1, .int .i64 a0_2, .int .i64 a0_3, .int .i64 a0_4, .bool a0_5, .bool a0_6]) (t := 24) ?hr ?_; (case hd => rfl); (case hg => rfl); (case hr => first | (go_simp; done) | (go_simp; rfl)); intro gb136 hg w10 hbox hb; obtain ⟨n0_, GW136⟩ := nb (w := w) hg hb; clear HB; have HB := n0_; have BK136 := Aside0.mk hbox; have GE136 := GW136; clear n0_ hb hbox hg; obtain ⟨hcz11_0, hcz11_1, hcz11_2, hcz11_3, hcz11_4, hcz11_5, hcz11_6, hfz11_0, hfz11_1, hfz11_2, hfz11_3, hfz11_4, hfz11_5, hfz11_6⟩ := cz7 (w := w10) BK136.out) | ((with_reducible refine gate_callee (f := 37) rfl ?_); refine goesL_ (some 8) rfl rfl Tryd.func37 (by kernel_rfl) rfl #[.agg #[.int .i64 a0_0, .int .i64 a0_1, .int .i64 a0_2, .int .i64 a0_3, .int .i64 a0_4, .bool a0_5, .bool a0_6]] rfl ga ?_; (with_reducible refine (isa_May.calls k a0_0 a0_1 a0_2 a0_3 a0_4 a0_5 a0_6 false _ (by first | exact HL.out | exact laid_drewN HL.out | exact laid_below HL.out bl | exact laid_below HL.out HB.out | exact laid_belowd HL.out HB.out) A2.out).mono ?_); rintro e w12 ⟨rfl, hb⟩; refine ⟨_, rfl, ?_⟩; have n0_ := Aside0.mk (blk_below (g := gb136) (o := .cells #[.int .i64 a0_0, .int .i64 a0_1, .int .i64 a0_2, .int .i64 a0_3, .int .i64 a0_4, .bool a0_5, .bool a0_6] 24 (0, 0)) (bk BK136.out) hb); have n1_ := Aside0.mk (below_step bl hb); clear BK136; clear HB; have BK136 := n0_; have HB := n1_; clear n0_ n1_; (try clear hb)))
  go_ret2
  exact ⟨fi, bl⟩

/-! ### isa_Writes: function 77 -/
def isa_Writes.f (k : Nat) (a0_0 : Int) (a0_1 : Int) (a0_2 : Int) (a0_3 : Int) (a0_4 : Int) (a0_5 : Bool) (a0_6 : Bool) : Option (Int × Bool) := (isa_May.f k a0_0 a0_1 a0_2 a0_3 a0_4 a0_5 a0_6).bind fun t143 => (if t143 = true then (if a0_1 = 0 then (some (0, false)) else (some (a0_1, true))) else (some (0, false)))
theorem isa_Writes.mono : ∀ a0 a1 a2 a3 a4 a5 a6 k, LeO (isa_Writes.f k a0 a1 a2 a3 a4 a5 a6) (isa_Writes.f (k + 1) a0 a1 a2 a3 a4 a5 a6) := by
 intro a0 a1 a2 a3 a4 a5 a6 k
 unfold isa_Writes.f
 repeat' first
   | (with_reducible exact isa_May.mono _ _ _ _ _ _ _ _)
   | (with_reducible exact LeO.refl _)
   | (with_reducible exact LeO.none _)
   | (with_reducible refine LeO.ite ?_ ?_)
   | (with_reducible refine LeO.bind ?_ (fun _ => ?_))
   | exact isa_May.mono _ _ _ _ _ _ _ _
   | exact LeO.none _
   | refine LeO.ite ?_ ?_
   | refine LeO.bind ?_ (fun _ => ?_)
set_option maxHeartbeats 8000000 in
set_option maxRecDepth 100000 in
theorem isa_Writes.calls (k : Nat) (a0_0 : Int) (a0_1 : Int) (a0_2 : Int) (a0_3 : Int) (a0_4 : Int) (a0_5 : Bool) (a0_6 : Bool) (r1 : Int) (r2 : Bool) (w : World) (hL : Laid w) (h : isa_Writes.f k a0_0 a0_1 a0_2 a0_3 a0_4 a0_5 a0_6 = some (r1, r2)) :
  Calls Tryd.prog 77 #[.agg #[.int .i64 a0_0, .int .i64 a0_1, .int .i64 a0_2, .int .i64 a0_3, .int .i64 a0_4, .bool a0_5, .bool a0_6]] w fun e w' => e = .returned (.tuple #[.int .i64 r1, .bool r2]) ∧ Below w.heap.size w w' := by
 have HL := Aside0.mk hL
 clear hL
 have hu24 := Tryd.underlying24
 have HB := Aside0.mk (Below.refl w.heap.size w)
 have H : ((isa_May.f k a0_0 a0_1 a0_2 a0_3 a0_4 a0_5 a0_6).bind fun t143 => (if t143 = true then (if a0_1 = 0 then (some (0, false)) else (some (a0_1, true))) else (some (0, false)))) = some (r1, r2) := h
 clear h
 replace H := be H
 obtain ⟨t143, A2, H⟩ := H
 by_cases c3 : t143 = true
 ·subst c3
  have H1 : (if a0_1 = 0 then (some (0, false)) else (some (a0_1, true))) = some (r1, r2) := by rw [if_pos rfl] at H; exact H
  clear H
  have H := H1
  clear H1
  by_cases c4 : a0_1 = 0
  ·rw [if_pos c4] at H
   have c4b0 : (a0_1 == 0) = true := beq_iff_eq.mpr c4
   have c4b1 : (a0_1 != 0) = false := bne_eq_false_iff_eq.mpr c4
   clear c4
   simp only [Option.some.injEq, Prod.mk.injEq] at H
   obtain ⟨rfl, rfl⟩ := H
   go_enter Tryd.func77, Tryd.ntmps77
   go_wp2_with (first | ((with_reducible refine gate_dst (N := 1) rfl ?_); refine box_event ?hg (N := 1) ?hd (cs := #[.int .i64 a0_0, .int .i64 a0_1, .int .i64 a0_2, .int .i64 a0_3, .int .i64 a0_4, .bool a0_5, .bool a0_6]) (t := 24) ?hr ?_; (case hd => rfl); (case hg => rfl); (case hr => first | (go_simp; done) | (go_simp; rfl)); intro gb142 hg w5 hbox hb; obtain ⟨n0_, GW142⟩ := nb (w := w) hg hb; clear HB; have HB := n0_; have BK142 := Aside0.mk hbox; have GE142 := GW142; clear n0_ hb hbox hg; obtain ⟨hcz6_0, hcz6_1, hcz6_2, hcz6_3, hcz6_4, hcz6_5, hcz6_6, hfz6_0, hfz6_1, hfz6_2, hfz6_3, hfz6_4, hfz6_5, hfz6_6⟩ := cz7 (w := w5) BK142.out) | ((with_reducible refine gate_callee (f := 37) rfl ?_); refine goesL_ (some 5) rfl rfl Tryd.func37 (by kernel_rfl) rfl #[.agg #[.int .i64 a0_0, .int .i64 a0_1, .int .i64 a0_2, .int .i64 a0_3, .int .i64 a0_4, .bool a0_5, .bool a0_6]] rfl ga ?_; (with_reducible refine (isa_May.calls k a0_0 a0_1 a0_2 a0_3 a0_4 a0_5 a0_6 true _ (by first | exact HL.out | exact laid_drewN HL.out | exact laid_below HL.out bl | exact laid_below HL.out HB.out | exact laid_belowd HL.out HB.out) A2.out).mono ?_); rintro e w7 ⟨rfl, hb⟩; refine ⟨_, rfl, ?_⟩; have n0_ := Aside0.mk (blk_below (g := gb142) (o := .cells #[.int .i64 a0_0, .int .i64 a0_1, .int .i64 a0_2, .int .i64 a0_3, .int .i64 a0_4, .bool a0_5, .bool a0_6] 24 (0, 0)) (bk BK142.out) hb); have n1_ := Aside0.mk (below_step bl hb); clear BK142; clear HB; have BK142 := n0_; have HB := n1_; clear n0_ n1_; (try clear hb); obtain ⟨hcz8_0, hcz8_1, hcz8_2, hcz8_3, hcz8_4, hcz8_5, hcz8_6, hfz8_0, hfz8_1, hfz8_2, hfz8_3, hfz8_4, hfz8_5, hfz8_6⟩ := cz7 (w := w7) BK142.out))
   go_ret2
   exact ⟨fi, bl⟩
  ·rw [if_neg c4] at H
   have c4b0 : (a0_1 == 0) = false := beq_eq_false_iff_ne.mpr c4
   have c4b1 : (a0_1 != 0) = true := bne_iff_ne.mpr c4
   simp only [Option.some.injEq, Prod.mk.injEq] at H
   obtain ⟨rfl, rfl⟩ := H
   go_enter Tryd.func77, Tryd.ntmps77
   go_wp2_with (first | ((with_reducible refine gate_dst (N := 1) rfl ?_); refine box_event ?hg (N := 1) ?hd (cs := #[.int .i64 a0_0, .int .i64 a0_1, .int .i64 a0_2, .int .i64 a0_3, .int .i64 a0_4, .bool a0_5, .bool a0_6]) (t := 24) ?hr ?_; (case hd => rfl); (case hg => rfl); (case hr => first | (go_simp; done) | (go_simp; rfl)); intro gb142 hg w9 hbox hb; obtain ⟨n0_, GW142⟩ := nb (w := w) hg hb; clear HB; have HB := n0_; have BK142 := Aside0.mk hbox; have GE142 := GW142; clear n0_ hb hbox hg; obtain ⟨hcz10_0, hcz10_1, hcz10_2, hcz10_3, hcz10_4, hcz10_5, hcz10_6, hfz10_0, hfz10_1, hfz10_2, hfz10_3, hfz10_4, hfz10_5, hfz10_6⟩ := cz7 (w := w9) BK142.out) | ((with_reducible refine gate_callee (f := 37) rfl ?_); refine goesL_ (some 5) rfl rfl Tryd.func37 (by kernel_rfl) rfl #[.agg #[.int .i64 a0_0, .int .i64 a0_1, .int .i64 a0_2, .int .i64 a0_3, .int .i64 a0_4, .bool a0_5, .bool a0_6]] rfl ga ?_; (with_reducible refine (isa_May.calls k a0_0 a0_1 a0_2 a0_3 a0_4 a0_5 a0_6 true _ (by first | exact HL.out | exact laid_drewN HL.out | exact laid_below HL.out bl | exact laid_below HL.out HB.out | exact laid_belowd HL.out HB.out) A2.out).mono ?_); rintro e w11 ⟨rfl, hb⟩; refine ⟨_, rfl, ?_⟩; have n0_ := Aside0.mk (blk_below (g := gb142) (o := .cells #[.int .i64 a0_0, .int .i64 a0_1, .int .i64 a0_2, .int .i64 a0_3, .int .i64 a0_4, .bool a0_5, .bool a0_6] 24 (0, 0)) (bk BK142.out) hb); have n1_ := Aside0.mk (below_step bl hb); clear BK142; clear HB; have BK142 := n0_; have HB := n1_; clear n0_ n1_; (try clear hb); obtain ⟨hcz12_0, hcz12_1, hcz12_2, hcz12_3, hcz12_4, hcz12_5, hcz12_6, hfz12_0, hfz12_1, hfz12_2, hfz12_3, hfz12_4, hfz12_5, hfz12_6⟩ := cz7 (w := w11) BK142.out))
   go_ret2
   exact ⟨fi, bl⟩
 ·replace c3 := Bool.eq_false_iff.mpr c3
  subst c3
  have H1 : (some (0, false)) = some (r1, r2) := by rw [if_neg (show ¬ (false = true) by decide)] at H; exact H
  clear H
  have H := H1
  clear H1
  simp only [Option.some.injEq, Prod.mk.injEq] at H
  obtain ⟨rfl, rfl⟩ := H
  go_enter Tryd.func77, Tryd.ntmps77
  go_wp2_with (first | ((with_reducible refine gate_dst (N := 1) rfl ?_); refine box_event ?hg (N := 1) ?hd (cs := #[.int .i64 a0_0, .int .i64 a0_1, .int .i64 a0_2, .int .i64 a0_3, .int .i64 a0_4, .bool a0_5, .bool a0_6]) (t := 24) ?hr ?_; (case hd => rfl); (case hg => rfl); (case hr => first | (go_simp; done) | (go_simp; rfl)); intro gb142 hg w13 hbox hb; obtain ⟨n0_, GW142⟩ := nb (w := w) hg hb; clear HB; have HB := n0_; have BK142 := Aside0.mk hbox; have GE142 := GW142; clear n0_ hb hbox hg; obtain ⟨hcz14_0, hcz14_1, hcz14_2, hcz14_3, hcz14_4, hcz14_5, hcz14_6, hfz14_0, hfz14_1, hfz14_2, hfz14_3, hfz14_4, hfz14_5, hfz14_6⟩ := cz7 (w := w13) BK142.out) | ((with_reducible refine gate_callee (f := 37) rfl ?_); refine goesL_ (some 5) rfl rfl Tryd.func37 (by kernel_rfl) rfl #[.agg #[.int .i64 a0_0, .int .i64 a0_1, .int .i64 a0_2, .int .i64 a0_3, .int .i64 a0_4, .bool a0_5, .bool a0_6]] rfl ga ?_; (with_reducible refine (isa_May.calls k a0_0 a0_1 a0_2 a0_3 a0_4 a0_5 a0_6 false _ (by first | exact HL.out | exact laid_drewN HL.out | exact laid_below HL.out bl | exact laid_below HL.out HB.out | exact laid_belowd HL.out HB.out) A2.out).mono ?_); rintro e w15 ⟨rfl, hb⟩; refine ⟨_, rfl, ?_⟩; have n0_ := Aside0.mk (blk_below (g := gb142) (o := .cells #[.int .i64 a0_0, .int .i64 a0_1, .int .i64 a0_2, .int .i64 a0_3, .int .i64 a0_4, .bool a0_5, .bool a0_6] 24 (0, 0)) (bk BK142.out) hb); have n1_ := Aside0.mk (below_step bl hb); clear BK142; clear HB; have BK142 := n0_; have HB := n1_; clear n0_ n1_; (try clear hb)))
  go_ret2
  exact ⟨fi, bl⟩

end Go.Proofs.YtffehgfjjagibaaDoor.GDecWords
