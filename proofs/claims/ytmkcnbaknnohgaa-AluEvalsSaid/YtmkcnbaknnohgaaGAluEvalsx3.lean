-- Written by wip/stub.py of this repo.
import Derived.Test.YtmkcnbaknnohgaaGAluEvalsx0
import Derived.Test.YtmkcnbaknnohgaaGAluEvalsx2
namespace Go.Proofs.Ytmkcnbaknnohgaa.GAluEvals
open Go.RowKit Go.Proofs.YtmkcnbaknnohgaaW.PrintWords Go.Proofs.YtmkcnbaknnohgaaW.PrintLast Go.Proofs.YtmkcnbaknnohgaaW.PrintMore
attribute [local go_sem] max2_int min2_int max_two min_two max_three min_three max_four min_four   -- for this text's walks alone
set_option linter.unusedVariables false
set_option linter.unusedSimpArgs false

/-! ### alu_short: function 8 -/
mutual
def alu_short.j0 : Nat → Int → Int → Int → Int → Bool → Option (Int)
  | 0, _, _, _, _, _ => none
  | k + 1, x1, x2, x7, x11, x12 => if x12 = true then ((alu_half.f (wrap64 (x1 + x2))).bind fun t103 => (some t103)) else (if x11 = 46 then ((alu_half.f (wrap64 (x1 - x2))).bind fun t104 => (some t104)) else (if x11 = 47 then (alu_short.j1 k x1 x7 x11 (x11 == 47)) else (alu_short.j1 k x1 x7 x11 (x11 == 32))))
def alu_short.j1 : Nat → Int → Int → Int → Bool → Option (Int)
  | 0, _, _, _, _ => none
  | k + 1, x1, x7, x11, x25 => if x25 = true then (if 0 ≤ x7 then ((alu_half.f (shl .i64 x1 x7)).bind fun t105 => (some t105)) else (none)) else (if x11 = 48 then (alu_short.j2 k x1 x7 (x11 == 48)) else (alu_short.j2 k x1 x7 (x11 == 33)))
def alu_short.j2 : Nat → Int → Int → Bool → Option (Int)
  | 0, _, _, _ => none
  | k + 1, x1, x7, x32 => if x32 = true then (if 0 ≤ x7 then ((alu_half.f (shr .u32 ((x1) % 4294967296) x7)).bind fun t106 => (some t106)) else (none)) else ((alu_half.f x1).bind fun t107 => (if 0 ≤ x7 then (some (shr .i64 t107 x7)) else (none)))
end
def alu_short.f (k : Nat) (a0 : Int) (a1 : Int) (a2 : Int) : Option (Int) := if a0 = 45 then (alu_short.j0 k a1 a2 (Go.bits .and .u64 (IntKind.u64.wrap (a2)) 31) a0 (a0 == 45)) else (alu_short.j0 k a1 a2 (Go.bits .and .u64 (IntKind.u64.wrap (a2)) 31) a0 (a0 == 31))
theorem alu_short.mono_l : ∀ k, (∀ y0 y1 y2 y3 y4, LeO (alu_short.j0 k y0 y1 y2 y3 y4) (alu_short.j0 (k + 1) y0 y1 y2 y3 y4)) ∧ (∀ y0 y1 y2 y3, LeO (alu_short.j1 k y0 y1 y2 y3) (alu_short.j1 (k + 1) y0 y1 y2 y3)) ∧ (∀ y0 y1 y2, LeO (alu_short.j2 k y0 y1 y2) (alu_short.j2 (k + 1) y0 y1 y2))
 | 0 => ⟨fun _ _ _ _ _ r h => by simp [alu_short.j0] at h, fun _ _ _ _ r h => by simp [alu_short.j1] at h, fun _ _ _ r h => by simp [alu_short.j2] at h⟩
 | k + 1 => by
  obtain ⟨ih0, ih1, ih2⟩ := alu_short.mono_l k
  refine ⟨?_, ?_, ?_⟩
  all_goals (intros; (first | unfold alu_short.j0 | unfold alu_short.j1 | unfold alu_short.j2); repeat' first | (with_reducible first | exact ih0 _ _ _ _ _ | exact ih1 _ _ _ _ | exact ih2 _ _ _ | exact LeO.refl _ | exact LeO.none _ | refine LeO.ite ?_ ?_ | refine LeO.bind ?_ (fun _ => ?_)) | exact ih0 _ _ _ _ _ | exact ih1 _ _ _ _ | exact ih2 _ _ _ | exact LeO.none _ | refine LeO.ite ?_ ?_ | refine LeO.bind ?_ (fun _ => ?_))
theorem alu_short.mono : ∀ a0 a1 a2 k, LeO (alu_short.f k a0 a1 a2) (alu_short.f (k + 1) a0 a1 a2) := by
 intro a0 a1 a2 k
 obtain ⟨ih0, ih1, ih2⟩ := alu_short.mono_l k
 unfold alu_short.f
 repeat' first | (with_reducible first | exact ih0 _ _ _ _ _ | exact ih1 _ _ _ _ | exact ih2 _ _ _ | exact LeO.refl _ | exact LeO.none _ | refine LeO.ite ?_ ?_ | refine LeO.bind ?_ (fun _ => ?_)) | exact ih0 _ _ _ _ _ | exact ih1 _ _ _ _ | exact ih2 _ _ _ | exact LeO.none _ | refine LeO.ite ?_ ?_ | refine LeO.bind ?_ (fun _ => ?_)
set_option maxHeartbeats 8000000 in
set_option maxRecDepth 100000 in
theorem alu_short.calls (k : Nat) (a0 : Int) (a1 : Int) (a2 : Int) (r : Int) (w : World) (h : alu_short.f k a0 a1 a2 = some r) :
  Calls Try.prog 8 #[.int .i64 a0, .int .i64 a1, .int .i64 a2] w fun e w' => e = .returned (.int .i64 r) ∧ Drawn0 w w' := by
 have H : (if a0 = 45 then (alu_short.j0 k a1 a2 (Go.bits .and .u64 (IntKind.u64.wrap (a2)) 31) a0 (a0 == 45)) else (alu_short.j0 k a1 a2 (Go.bits .and .u64 (IntKind.u64.wrap (a2)) 31) a0 (a0 == 31))) = some r := h
 clear h
 have HC4 := Aside0.mk H
 clear H
 go_enter Try.func8, Try.ntmps8
 go_upto_if 12 with (fail)
 go_cut [12] (fun v12 wc => ∃ (kq : Nat) (x12_3 : Bool), v12 = .bool x12_3 ∧ Aside0 (alu_short.j0 kq a1 a2 (Go.bits .and .u64 (IntKind.u64.wrap (a2)) 31) a0 x12_3 = some r) ∧ Aside0 (kq ≤ k) ∧ Drawn0 w wc)
 case first =>
  have H := HC4.out
  clear HC4
  by_cases c5 : a0 = 45
  ·rw [if_pos c5] at H
   obtain ⟨c5b0, c5b1⟩ := eqs c5
   clear c5
   (first | rw [c5b0] | (simp only [i64_w, i32_w]; rw [c5b0]) | skip)
   have H' := Aside0.mk H
   clear H
   go_wp2
   go_meet
   case rel => exact ⟨_, ((a0 == 45)), fj, H', ⟨by first | omega | exact Nat.le_refl _⟩, fd⟩
  ·rw [if_neg c5] at H
   have c5b0 : (a0 == 45) = false := beq_eq_false_iff_ne.mpr c5
   have c5b1 : (a0 != 45) = true := bne_iff_ne.mpr c5
   (first | rw [c5b0] | (simp only [i64_w, i32_w]; rw [c5b0]) | skip)
   have H' := Aside0.mk H
   clear H
   go_wp2
   go_meet
   case rel => exact ⟨_, ((a0 == 31)), fj, H', ⟨by first | omega | exact Nat.le_refl _⟩, fd⟩
 case rest =>
  clear HC4
  try clear p2
  try clear c5
  try clear c5b0
  try clear c5b1
  obtain ⟨kq, x12_3, rfl, HA, HJ3, ⟨mc3, rfl⟩⟩ := hcut
  cases kq with
  | zero => exact absurd HA.out (by simp [alu_short.j0])
  | succ kj3 =>
   have H := HA.out
   clear HA
   simp only [alu_short.j0] at H
   by_cases c6 : x12_3 = true
   ·subst c6
    have H1 : ((alu_half.f (wrap64 (a1 + a2))).bind fun t103 => (some t103)) = some r := by rw [if_pos rfl] at H; exact H
    clear H
    have H := H1
    clear H1
    replace H := be H
    obtain ⟨t103, A7, H⟩ := H
    obtain rfl := Option.some.inj H
    go_wp2_with (first | ((with_reducible refine gate_callee (f := 19) rfl ?_); refine goesL_ (some 18) rfl rfl Try.func19 (by kernel_rfl) rfl #[.int .i64 (wrap64 (a1 + a2))] rfl ga ?_; (with_reducible refine (alu_half.calls (wrap64 (a1 + a2)) t103 _ A7.out).mono ?_); rintro e w' ⟨rfl, ⟨nd, rfl⟩⟩; refine ⟨_, rfl, ?_⟩))
    go_ret
    exact ⟨fj, fd⟩
   ·replace c6 := Bool.eq_false_iff.mpr c6
    subst c6
    have H1 : (if a0 = 46 then ((alu_half.f (wrap64 (a1 - a2))).bind fun t104 => (some t104)) else (if a0 = 47 then (alu_short.j1 kj3 a1 (Go.bits .and .u64 (IntKind.u64.wrap (a2)) 31) a0 (a0 == 47)) else (alu_short.j1 kj3 a1 (Go.bits .and .u64 (IntKind.u64.wrap (a2)) 31) a0 (a0 == 32)))) = some r := by rw [if_neg (show ¬ (false = true) by decide)] at H; exact H
    clear H
    have H := H1
    clear H1
    by_cases c8 : a0 = 46
    ·rw [if_pos c8] at H
     obtain ⟨c8b0, c8b1⟩ := eqs c8
     clear c8
     replace H := be H
     obtain ⟨t104, A9, H⟩ := H
     obtain rfl := Option.some.inj H
     go_wp2_with (first | ((with_reducible refine gate_callee (f := 19) rfl ?_); refine goesL_ (some 24) rfl rfl Try.func19 (by kernel_rfl) rfl #[.int .i64 (wrap64 (a1 - a2))] rfl ga ?_; (with_reducible refine (alu_half.calls (wrap64 (a1 - a2)) t104 _ A9.out).mono ?_); rintro e w' ⟨rfl, ⟨nd, rfl⟩⟩; refine ⟨_, rfl, ?_⟩))
     go_ret
     exact ⟨fj, fd⟩
    ·rw [if_neg c8] at H
     have c8b0 : (a0 == 46) = false := beq_eq_false_iff_ne.mpr c8
     have c8b1 : (a0 != 46) = true := bne_iff_ne.mpr c8
     have HC10 := Aside0.mk H
     clear H
     go_upto_if 25 with (fail)
     go_cut [25] (fun v25 wc => ∃ (kq : Nat) (x25_9 : Bool), v25 = .bool x25_9 ∧ Aside0 (alu_short.j1 kq a1 (Go.bits .and .u64 (IntKind.u64.wrap (a2)) 31) a0 x25_9 = some r) ∧ Aside0 (kq ≤ kj3) ∧ Drawn0 w wc)
     case first =>
      have H := HC10.out
      clear HC10
      by_cases c11 : a0 = 47
      ·rw [if_pos c11] at H
       obtain ⟨c11b0, c11b1⟩ := eqs c11
       clear c11
       (first | rw [c11b0] | (simp only [i64_w, i32_w]; rw [c11b0]) | skip)
       have H' := Aside0.mk H
       clear H
       go_wp2
       go_meet
       case rel => exact ⟨_, ((a0 == 47)), fj, H', ⟨by have := HJ3.out; first | omega | exact Nat.le_refl _⟩, fd⟩
      ·rw [if_neg c11] at H
       have c11b0 : (a0 == 47) = false := beq_eq_false_iff_ne.mpr c11
       have c11b1 : (a0 != 47) = true := bne_iff_ne.mpr c11
       (first | rw [c11b0] | (simp only [i64_w, i32_w]; rw [c11b0]) | skip)
       have H' := Aside0.mk H
       clear H
       go_wp2
       go_meet
       case rel => exact ⟨_, ((a0 == 32)), fj, H', ⟨by have := HJ3.out; first | omega | exact Nat.le_refl _⟩, fd⟩
     case rest =>
      clear HC10
      try clear c1
      try clear p2
      try clear c3
      try clear c5
      try clear c5b0
      try clear c5b1
      try clear c6
      try clear p6
      try clear c8
      try clear c8b0
      try clear c8b1
      try clear c11
      try clear c11b0
      try clear c11b1
      try clear p2
      obtain ⟨kq, x25_9, rfl, HA, HJ9, ⟨mc9, rfl⟩⟩ := hcut
      cases kq with
      | zero => exact absurd HA.out (by simp [alu_short.j1])
      | succ kj9 =>
       have H := HA.out
       clear HA
       simp only [alu_short.j1] at H
       by_cases c12 : x25_9 = true
       ·subst c12
        have H1 : (if 0 ≤ (Go.bits .and .u64 (IntKind.u64.wrap (a2)) 31) then ((alu_half.f (shl .i64 a1 (Go.bits .and .u64 (IntKind.u64.wrap (a2)) 31))).bind fun t105 => (some t105)) else (none)) = some r := by rw [if_pos rfl] at H; exact H
        clear H
        have H := H1
        clear H1
        obtain ⟨ji13, hji13⟩ : ∃ j_ : Int, (Go.bits .and .u64 (IntKind.u64.wrap (a2)) 31) = j_ := ⟨_, rfl⟩
        replace H : (if 0 ≤ (ji13) then ((alu_half.f (shl .i64 a1 (ji13))).bind fun t105 => (some t105)) else (none)) = some r := by first | (rw [hji13] at H; exact H) | (simp only [hji13] at H ⊢; exact H)
        by_cases c14 : 0 ≤ (ji13)
        ·rw [if_pos c14] at H
         have c14b0 := eq_true c14
         have c14b1 : decide (0 ≤ (ji13)) = true := decide_eq_true c14
         clear c14
         obtain ⟨ji15, hji15⟩ : ∃ j_ : Int, (shl .i64 a1 (ji13)) = j_ := ⟨_, rfl⟩
         replace H : ((alu_half.f (ji15)).bind fun t105 => (some t105)) = some r := by first | (rw [hji15] at H; exact H) | (simp only [hji15] at H ⊢; exact H)
         have hji15_ : (IntKind.i64.wrap (a1 * 2 ^ min (ji13).toNat 64)) = ji15 := hji15
         have hji15z : (ji13) ≤ 64 → (IntKind.i64.wrap (a1 * 2 ^ (ji13).toNat)) = ji15 := shl_small hji15
         have hji15y : (wrap64 (a1 * 2 ^ min (ji13).toNat 64)) = ji15 := (i64_w _).symm.trans hji15_
         have hji15x : (ji13) ≤ 64 → (wrap64 (a1 * 2 ^ (ji13).toNat)) = ji15 := fun h_ => (i64_w _).symm.trans (hji15z h_)
         replace H := be H
         obtain ⟨t105, A16, H⟩ := H
         obtain rfl := Option.some.inj H
         go_wp2_with (first | ((with_reducible refine gate_callee (f := 19) rfl ?_); refine goesL_ (some 31) rfl rfl Try.func19 (by kernel_rfl) rfl #[.int .i64 ji15] rfl (by (try simp only [List.map_toArray, List.map_cons, List.map_nil]); first | done | (simp only [hji15]; rfl) | rfl | (simp only [List.length_drop, List.length_take]; rfl)) ?_; (with_reducible refine (alu_half.calls ji15 t105 _ A16.out).mono ?_); rintro e w' ⟨rfl, ⟨nd, rfl⟩⟩; refine ⟨_, rfl, ?_⟩))
         go_ret
         exact ⟨by first | rfl | (simp; done) | (simp only [← hji13, ← hji15] <;> (first | rfl | simp)) | (simp [*]; done), fd⟩
        ·rw [if_neg c14] at H
         exact absurd H (by simp)
       ·replace c12 := Bool.eq_false_iff.mpr c12
        subst c12
        have H1 : (if a0 = 48 then (alu_short.j2 kj9 a1 (Go.bits .and .u64 (IntKind.u64.wrap (a2)) 31) (a0 == 48)) else (alu_short.j2 kj9 a1 (Go.bits .and .u64 (IntKind.u64.wrap (a2)) 31) (a0 == 33))) = some r := by rw [if_neg (show ¬ (false = true) by decide)] at H; exact H
        clear H
        have H := H1
        clear H1
        have HC17 := Aside0.mk H
        clear H
        go_upto_if 32 with (fail)
        go_cut [32] (fun v32 wc => ∃ (kq : Nat) (x32_16 : Bool), v32 = .bool x32_16 ∧ Aside0 (alu_short.j2 kq a1 (Go.bits .and .u64 (IntKind.u64.wrap (a2)) 31) x32_16 = some r) ∧ Aside0 (kq ≤ kj9) ∧ Drawn0 w wc)
        case first =>
         have H := HC17.out
         clear HC17
         by_cases c18 : a0 = 48
         ·rw [if_pos c18] at H
          obtain ⟨c18b0, c18b1⟩ := eqs c18
          clear c18
          (first | rw [c18b0] | (simp only [i64_w, i32_w]; rw [c18b0]) | skip)
          have H' := Aside0.mk H
          clear H
          go_wp2
          go_meet
          case rel => exact ⟨_, ((a0 == 48)), fj, H', ⟨by have := HJ3.out; have := HJ9.out; first | omega | exact Nat.le_refl _⟩, fd⟩
         ·rw [if_neg c18] at H
          have c18b0 : (a0 == 48) = false := beq_eq_false_iff_ne.mpr c18
          have c18b1 : (a0 != 48) = true := bne_iff_ne.mpr c18
          (first | rw [c18b0] | (simp only [i64_w, i32_w]; rw [c18b0]) | skip)
          have H' := Aside0.mk H
          clear H
          go_wp2
          go_meet
          case rel => exact ⟨_, ((a0 == 33)), fj, H', ⟨by have := HJ3.out; have := HJ9.out; first | omega | exact Nat.le_refl _⟩, fd⟩
        case rest =>
         clear HC17
         try clear c1
         try clear p2
         try clear c3
         try clear c5
         try clear c5b0
         try clear c5b1
         try clear c6
         try clear p6
         try clear c8
         try clear c8b0
         try clear c8b1
         try clear c9
         try clear c11
         try clear c11b0
         try clear c11b1
         try clear c12
         try clear c14
         try clear c14b0
         try clear c14b1
         try clear c18
         try clear c18b0
         try clear c18b1
         try clear p2
         try clear p6
         obtain ⟨kq, x32_16, rfl, HA, HJ16, ⟨mc16, rfl⟩⟩ := hcut
         cases kq with
         | zero => exact absurd HA.out (by simp [alu_short.j2])
         | succ kj16 =>
          have H := HA.out
          clear HA
          simp only [alu_short.j2] at H
          by_cases c19 : x32_16 = true
          ·subst c19
           have H1 : (if 0 ≤ (Go.bits .and .u64 (IntKind.u64.wrap (a2)) 31) then ((alu_half.f (shr .u32 ((a1) % 4294967296) (Go.bits .and .u64 (IntKind.u64.wrap (a2)) 31))).bind fun t106 => (some t106)) else (none)) = some r := by rw [if_pos rfl] at H; exact H
           clear H
           have H := H1
           clear H1
           obtain ⟨ji20, hji20⟩ : ∃ j_ : Int, (Go.bits .and .u64 (IntKind.u64.wrap (a2)) 31) = j_ := ⟨_, rfl⟩
           replace H : (if 0 ≤ (ji20) then ((alu_half.f (shr .u32 ((a1) % 4294967296) (ji20))).bind fun t106 => (some t106)) else (none)) = some r := by first | (rw [hji20] at H; exact H) | (simp only [hji20] at H ⊢; exact H)
           by_cases c21 : 0 ≤ (ji20)
           ·rw [if_pos c21] at H
            have c21b0 := eq_true c21
            have c21b1 : decide (0 ≤ (ji20)) = true := decide_eq_true c21
            clear c21
            obtain ⟨ji22, hji22⟩ : ∃ j_ : Int, (shr .u32 ((a1) % 4294967296) (ji20)) = j_ := ⟨_, rfl⟩
            replace H : ((alu_half.f (ji22)).bind fun t106 => (some t106)) = some r := by first | (rw [hji22] at H; exact H) | (simp only [hji22] at H ⊢; exact H)
            have hji22_ : (((a1) % 4294967296) / 2 ^ min (ji20).toNat 32) = ji22 := hji22
            have hji22z : (ji20) ≤ 32 → (((a1) % 4294967296) / 2 ^ (ji20).toNat) = ji22 := shr_small hji22
            have hjl22 : 0 ≤ ji22 := by rw [← hji22_]; exact Int.ediv_nonneg (Int.emod_nonneg _ (by decide)) (Int.le_of_lt (Int.pow_pos (by decide)))
            have hju22 : ji22 < 4294967296 := by rw [← hji22_]; exact Int.lt_of_le_of_lt (Int.ediv_le_self _ (Int.emod_nonneg _ (by decide))) (Int.emod_lt_of_pos _ (by decide))
            replace H := be H
            obtain ⟨t106, A23, H⟩ := H
            obtain rfl := Option.some.inj H
            go_wp2_with (first | ((with_reducible refine gate_callee (f := 19) rfl ?_); refine goesL_ (some 40) rfl rfl Try.func19 (by kernel_rfl) rfl #[.int .i64 ji22] rfl (by (try simp only [List.map_toArray, List.map_cons, List.map_nil]); first | done | (simp only [hji22]; rfl) | rfl | (simp only [List.length_drop, List.length_take]; rfl)) ?_; (with_reducible refine (alu_half.calls ji22 t106 _ A23.out).mono ?_); rintro e w' ⟨rfl, ⟨nd, rfl⟩⟩; refine ⟨_, rfl, ?_⟩))
            go_ret
            exact ⟨by first | rfl | (simp; done) | (simp only [← hji20, ← hji22] <;> (first | rfl | simp)) | (simp [*]; done), fd⟩
           ·rw [if_neg c21] at H
            exact absurd H (by simp)
          ·replace c19 := Bool.eq_false_iff.mpr c19
           subst c19
           have H1 : ((alu_half.f a1).bind fun t107 => (if 0 ≤ (Go.bits .and .u64 (IntKind.u64.wrap (a2)) 31) then (some (shr .i64 t107 (Go.bits .and .u64 (IntKind.u64.wrap (a2)) 31))) else (none))) = some r := by rw [if_neg (show ¬ (false = true) by decide)] at H; exact H
           clear H
           have H := H1
           clear H1
           replace H := be H
           obtain ⟨t107, A24, H⟩ := H
           obtain ⟨ji25, hji25⟩ : ∃ j_ : Int, (Go.bits .and .u64 (IntKind.u64.wrap (a2)) 31) = j_ := ⟨_, rfl⟩
           replace H : (if 0 ≤ (ji25) then (some (shr .i64 t107 (ji25))) else (none)) = some r := by first | (rw [hji25] at H; exact H) | (simp only [hji25] at H ⊢; exact H)
           (try rw [hji25] at A24)
           by_cases c26 : 0 ≤ (ji25)
           ·rw [if_pos c26] at H
            have c26b0 := eq_true c26
            have c26b1 : decide (0 ≤ (ji25)) = true := decide_eq_true c26
            clear c26
            obtain ⟨ji27, hji27⟩ : ∃ j_ : Int, (shr .i64 t107 (ji25)) = j_ := ⟨_, rfl⟩
            replace H : (some ji27) = some r := by first | (rw [hji27] at H; exact H) | (simp only [hji27] at H ⊢; exact H)
            (try rw [hji27] at A24)
            have hji27_ : (t107 / 2 ^ min (ji25).toNat 64) = ji27 := hji27
            have hji27z : (ji25) ≤ 64 → (t107 / 2 ^ (ji25).toNat) = ji27 := shr_small hji27
            obtain rfl := Option.some.inj H
            go_wp2_with (first | ((with_reducible refine gate_callee (f := 19) rfl ?_); refine goesL_ (some 42) rfl rfl Try.func19 (by kernel_rfl) rfl #[.int .i64 a1] rfl ga ?_; (with_reducible refine (alu_half.calls a1 t107 _ A24.out).mono ?_); rintro e w' ⟨rfl, ⟨nd, rfl⟩⟩; refine ⟨_, rfl, ?_⟩))
            go_ret
            exact ⟨by first | rfl | (simp; done) | (simp only [← hji25, ← hji27] <;> (first | rfl | simp)) | (simp [*]; done), fd⟩
           ·rw [if_neg c26] at H
            exact absurd H (by simp)

/-! ### alu_quotient: function 20 -/
def alu_quotient.f (a0 : Int) (a1 : Int) : Option (Int × Int) := if a1 = 0 then (some ((-1), a0)) else (if a1 = (-1) then (some (wrap64 (-a0), 0)) else (some (wrap64 (Int.tdiv a0 a1), Int.tmod a0 a1)))
set_option maxHeartbeats 8000000 in
set_option maxRecDepth 100000 in
theorem alu_quotient.calls (a0 : Int) (a1 : Int) (r1 : Int) (r2 : Int) (w : World) (h : alu_quotient.f a0 a1 = some (r1, r2)) :
  Calls Try.prog 20 #[.int .i64 a0, .int .i64 a1] w fun e w' => e = .returned (.tuple #[.int .i64 r1, .int .i64 r2]) ∧ Drawn0 w w' := by
 have H : (if a1 = 0 then (some ((-1), a0)) else (if a1 = (-1) then (some (wrap64 (-a0), 0)) else (some (wrap64 (Int.tdiv a0 a1), Int.tmod a0 a1)))) = some (r1, r2) := h
 clear h
 by_cases c3 : a1 = 0
 ·rw [if_pos c3] at H
  obtain ⟨c3b0, c3b1⟩ := eqs c3
  clear c3
  simp only [Option.some.injEq, Prod.mk.injEq] at H
  obtain ⟨rfl, rfl⟩ := H
  go_enter Try.func20, Try.ntmps20
  go_wp2
  repeat (go_quiet (fail); try go_wp2)
  go_ret2
  exact ⟨fj, fd⟩
 ·rw [if_neg c3] at H
  have c3b0 : (a1 == 0) = false := beq_eq_false_iff_ne.mpr c3
  have c3b1 : (a1 != 0) = true := bne_iff_ne.mpr c3
  by_cases c4 : a1 = (-1)
  ·rw [if_pos c4] at H
   obtain ⟨c4b0, c4b1⟩ := eqs c4
   clear c4
   simp only [Option.some.injEq, Prod.mk.injEq] at H
   obtain ⟨rfl, rfl⟩ := H
   go_enter Try.func20, Try.ntmps20
   go_wp2
   repeat (go_quiet (fail); try go_wp2)
   go_ret2
   exact ⟨fj, fd⟩
  ·rw [if_neg c4] at H
   have c4b0 : (a1 == (-1)) = false := beq_eq_false_iff_ne.mpr c4
   have c4b1 : (a1 != (-1)) = true := bne_iff_ne.mpr c4
   simp only [Option.some.injEq, Prod.mk.injEq] at H
   obtain ⟨rfl, rfl⟩ := H
   go_enter Try.func20, Try.ntmps20
   go_wp2
   repeat (go_quiet (fail); try go_wp2)
   go_ret2
   exact ⟨fj, fd⟩

/-! ### alu_quotientU: function 21 -/
def alu_quotientU.f (a0 : Int) (a1 : Int) : Option (Int × Int) := if a1 = 0 then (some ((-1), wrap64 (a0))) else (some (wrap64 (IntKind.u64.wrap (Int.tdiv a0 a1)), wrap64 (Int.tmod a0 a1)))
set_option maxHeartbeats 8000000 in
set_option maxRecDepth 100000 in
theorem alu_quotientU.calls (a0 : Int) (a1 : Int) (r1 : Int) (r2 : Int) (w : World) (h : alu_quotientU.f a0 a1 = some (r1, r2)) :
  Calls Try.prog 21 #[.int .u64 a0, .int .u64 a1] w fun e w' => e = .returned (.tuple #[.int .i64 r1, .int .i64 r2]) ∧ Drawn0 w w' := by
 have H : (if a1 = 0 then (some ((-1), wrap64 (a0))) else (some (wrap64 (IntKind.u64.wrap (Int.tdiv a0 a1)), wrap64 (Int.tmod a0 a1)))) = some (r1, r2) := h
 clear h
 by_cases c3 : a1 = 0
 ·rw [if_pos c3] at H
  obtain ⟨c3b0, c3b1⟩ := eqs c3
  clear c3
  simp only [Option.some.injEq, Prod.mk.injEq] at H
  obtain ⟨rfl, rfl⟩ := H
  go_enter Try.func21, Try.ntmps21
  go_wp2
  repeat (go_quiet (fail); try go_wp2)
  go_ret2
  exact ⟨fj, fd⟩
 ·rw [if_neg c3] at H
  have c3b0 : (a1 == 0) = false := beq_eq_false_iff_ne.mpr c3
  have c3b1 : (a1 != 0) = true := bne_iff_ne.mpr c3
  simp only [Option.some.injEq, Prod.mk.injEq] at H
  obtain ⟨rfl, rfl⟩ := H
  go_enter Try.func21, Try.ntmps21
  go_wp2
  repeat (go_quiet (fail); try go_wp2)
  go_ret2
  exact ⟨fj, fd⟩

/-! ### bits_Mul64: function 30 -/
def bits_Mul64.f (a0 : Int) (a1 : Int) : Option (Int × Int) := some (IntKind.u64.wrap ((IntKind.u64.wrap ((IntKind.u64.wrap ((a0 / 4294967296) * (a1 / 4294967296))) + ((IntKind.u64.wrap ((IntKind.u64.wrap ((a0 / 4294967296) * (Go.bits .and .u64 a1 4294967295))) + ((IntKind.u64.wrap ((Go.bits .and .u64 a0 4294967295) * (Go.bits .and .u64 a1 4294967295))) / 4294967296))) / 4294967296))) + ((IntKind.u64.wrap ((Go.bits .and .u64 (IntKind.u64.wrap ((IntKind.u64.wrap ((a0 / 4294967296) * (Go.bits .and .u64 a1 4294967295))) + ((IntKind.u64.wrap ((Go.bits .and .u64 a0 4294967295) * (Go.bits .and .u64 a1 4294967295))) / 4294967296))) 4294967295) + (IntKind.u64.wrap ((Go.bits .and .u64 a0 4294967295) * (a1 / 4294967296))))) / 4294967296)), IntKind.u64.wrap (a0 * a1))
set_option maxHeartbeats 8000000 in
set_option maxRecDepth 100000 in
theorem bits_Mul64.calls (a0 : Int) (a1 : Int) (r1 : Int) (r2 : Int) (w : World) (h : bits_Mul64.f a0 a1 = some (r1, r2)) :
  Calls Try.prog 30 #[.int .u64 a0, .int .u64 a1] w fun e w' => e = .returned (.tuple #[.int .u64 r1, .int .u64 r2]) ∧ Drawn0 w w' := by
 have H : (some (IntKind.u64.wrap ((IntKind.u64.wrap ((IntKind.u64.wrap ((a0 / 4294967296) * (a1 / 4294967296))) + ((IntKind.u64.wrap ((IntKind.u64.wrap ((a0 / 4294967296) * (Go.bits .and .u64 a1 4294967295))) + ((IntKind.u64.wrap ((Go.bits .and .u64 a0 4294967295) * (Go.bits .and .u64 a1 4294967295))) / 4294967296))) / 4294967296))) + ((IntKind.u64.wrap ((Go.bits .and .u64 (IntKind.u64.wrap ((IntKind.u64.wrap ((a0 / 4294967296) * (Go.bits .and .u64 a1 4294967295))) + ((IntKind.u64.wrap ((Go.bits .and .u64 a0 4294967295) * (Go.bits .and .u64 a1 4294967295))) / 4294967296))) 4294967295) + (IntKind.u64.wrap ((Go.bits .and .u64 a0 4294967295) * (a1 / 4294967296))))) / 4294967296)), IntKind.u64.wrap (a0 * a1))) = some (r1, r2) := h
 clear h
 simp only [Option.some.injEq, Prod.mk.injEq] at H
 obtain ⟨rfl, rfl⟩ := H
 go_enter Try.func30, Try.ntmps30
 go_wp2
 go_ret2
 exact ⟨fj, fd⟩

/-! ### alu_high: function 22 -/
def alu_high.j0 : Nat → Int → Int → Bool → Int → Bool → Option (Int)
  | 0, _, _, _, _, _ => none
  | k + 1, x0, x1, x3, x11, x26 => if x26 = true then (if x3 = true then (if x1 < 0 then (some (wrap64 ((wrap64 (x11 - x1)) - x0))) else (some (wrap64 (x11 - x1)))) else (some (wrap64 (x11 - x1)))) else (if x3 = true then (if x1 < 0 then (some (wrap64 (x11 - x0))) else (some x11)) else (some x11))
def alu_high.f (k : Nat) (a0 : Int) (a1 : Int) (a2 : Bool) (a3 : Bool) : Option (Int) := (bits_Mul64.f (IntKind.u64.wrap (a0)) (IntKind.u64.wrap (a1))).bind fun bt108 => (if a2 = true then (alu_high.j0 k a0 a1 a3 (wrap64 (bt108.1)) (decide (a0 < 0))) else (alu_high.j0 k a0 a1 a3 (wrap64 (bt108.1)) false))
theorem alu_high.mono_l : ∀ k, (∀ y0 y1 y2 y3 y4, LeO (alu_high.j0 k y0 y1 y2 y3 y4) (alu_high.j0 (k + 1) y0 y1 y2 y3 y4))
 | 0 => fun _ _ _ _ _ r h => by simp [alu_high.j0] at h
 | k + 1 => by
  have ih0 := alu_high.mono_l k
  ·intro y0 y1 y2 y3 y4
   unfold alu_high.j0
   repeat' first | (with_reducible first | exact ih0 _ _ _ _ _ | exact LeO.refl _ | exact LeO.none _ | refine LeO.ite ?_ ?_ | refine LeO.bind ?_ (fun _ => ?_)) | exact ih0 _ _ _ _ _ | exact LeO.none _ | refine LeO.ite ?_ ?_ | refine LeO.bind ?_ (fun _ => ?_)
theorem alu_high.mono : ∀ a0 a1 a2 a3 k, LeO (alu_high.f k a0 a1 a2 a3) (alu_high.f (k + 1) a0 a1 a2 a3) := by
 intro a0 a1 a2 a3 k
 have ih0 := alu_high.mono_l k
 unfold alu_high.f
 repeat' first | (with_reducible first | exact ih0 _ _ _ _ _ | exact LeO.refl _ | exact LeO.none _ | refine LeO.ite ?_ ?_ | refine LeO.bind ?_ (fun _ => ?_)) | exact ih0 _ _ _ _ _ | exact LeO.none _ | refine LeO.ite ?_ ?_ | refine LeO.bind ?_ (fun _ => ?_)
set_option maxHeartbeats 8000000 in
set_option maxRecDepth 100000 in
theorem alu_high.calls (k : Nat) (a0 : Int) (a1 : Int) (a2 : Bool) (a3 : Bool) (r : Int) (w : World) (h : alu_high.f k a0 a1 a2 a3 = some r) :
  Calls Try.prog 22 #[.int .i64 a0, .int .i64 a1, .bool a2, .bool a3] w fun e w' => e = .returned (.int .i64 r) ∧ Drawn0 w w' := by
 have H : ((bits_Mul64.f (IntKind.u64.wrap (a0)) (IntKind.u64.wrap (a1))).bind fun bt108 => (if a2 = true then (alu_high.j0 k a0 a1 a3 (wrap64 (bt108.1)) (decide (a0 < 0))) else (alu_high.j0 k a0 a1 a3 (wrap64 (bt108.1)) false))) = some r := h
 clear h
 replace H := be H
 obtain ⟨⟨t108, t109⟩, A5, H⟩ := H
 dsimp only at H
 have HC6 := Aside0.mk H
 clear H
 go_enter Try.func22, Try.ntmps22
 go_upto_region 3 with (first | ((with_reducible refine gate_callee (f := 30) rfl ?_); refine goesL_ (some 17) rfl rfl Try.func30 (by kernel_rfl) rfl #[.int .u64 (IntKind.u64.wrap (a0)), .int .u64 (IntKind.u64.wrap (a1))] rfl ga ?_; (with_reducible refine (bits_Mul64.calls (IntKind.u64.wrap (a0)) (IntKind.u64.wrap (a1)) t108 t109 _ A5.out).mono ?_); rintro e w' ⟨rfl, ⟨nd, rfl⟩⟩; refine ⟨_, rfl, ?_⟩))
 (try simp only [Act.put, List.setIfInBounds_toArray, List.set_cons_zero, List.set_cons_succ])
 go_cut [26] (fun v26 wc => ∃ (kq : Nat) (x26_5 : Bool), v26 = .bool x26_5 ∧ Aside0 (alu_high.j0 kq a0 a1 a3 (wrap64 (t108)) x26_5 = some r) ∧ Aside0 (kq ≤ k) ∧ Drawn0 w wc)
 case first =>
  have H := HC6.out
  clear HC6
  by_cases c7 : a2 = true
  ·subst c7
   have H1 : (alu_high.j0 k a0 a1 a3 (wrap64 (t108)) (decide (a0 < 0))) = some r := by rw [if_pos rfl] at H; exact H
   clear H
   have H := H1
   clear H1
   have H' := Aside0.mk H
   clear H
   go_wp2
   go_meet
   case rel => exact ⟨_, (decide (a0 < 0)), fj, H', ⟨by first | omega | exact Nat.le_refl _⟩, fd⟩
  ·replace c7 := Bool.eq_false_iff.mpr c7
   subst c7
   have H1 : (alu_high.j0 k a0 a1 a3 (wrap64 (t108)) false) = some r := by rw [if_neg (show ¬ (false = true) by decide)] at H; exact H
   clear H
   have H := H1
   clear H1
   have H' := Aside0.mk H
   clear H
   go_wp2
   go_meet
   case rel => exact ⟨_, (false), fj, H', ⟨by first | omega | exact Nat.le_refl _⟩, fd⟩
 case rest =>
  clear HC6
  try clear c2
  try clear p2
  try clear c3
  try clear p6
  try clear c7
  obtain ⟨kq, x26_5, rfl, HA, HJ5, ⟨mc5, rfl⟩⟩ := hcut
  cases kq with
  | zero => exact absurd HA.out (by simp [alu_high.j0])
  | succ kj5 =>
   have H := HA.out
   clear HA
   simp only [alu_high.j0] at H
   by_cases c8 : x26_5 = true
   ·subst c8
    have H1 : (if a3 = true then (if a1 < 0 then (some (wrap64 ((wrap64 ((wrap64 (t108)) - a1)) - a0))) else (some (wrap64 ((wrap64 (t108)) - a1)))) else (some (wrap64 ((wrap64 (t108)) - a1)))) = some r := by rw [if_pos rfl] at H; exact H
    clear H
    have H := H1
    clear H1
    by_cases c9 : a3 = true
    ·subst c9
     have H1 : (if a1 < 0 then (some (wrap64 ((wrap64 ((wrap64 (t108)) - a1)) - a0))) else (some (wrap64 ((wrap64 (t108)) - a1)))) = some r := by rw [if_pos rfl] at H; exact H
     clear H
     have H := H1
     clear H1
     by_cases c10 : a1 < 0
     ·rw [if_pos c10] at H
      have c10b0 := decide_eq_true c10
      clear c10
      obtain rfl := Option.some.inj H
      go_wp2
      go_ret
      exact ⟨fj, fd⟩
     ·rw [if_neg c10] at H
      have c10b0 := decide_eq_false c10
      clear c10
      obtain rfl := Option.some.inj H
      go_wp2
      go_ret
      exact ⟨fj, fd⟩
    ·replace c9 := Bool.eq_false_iff.mpr c9
     subst c9
     have H1 : (some (wrap64 ((wrap64 (t108)) - a1))) = some r := by rw [if_neg (show ¬ (false = true) by decide)] at H; exact H
     clear H
     have H := H1
     clear H1
     obtain rfl := Option.some.inj H
     go_wp2
     go_ret
     exact ⟨fj, fd⟩
   ·replace c8 := Bool.eq_false_iff.mpr c8
    subst c8
    have H1 : (if a3 = true then (if a1 < 0 then (some (wrap64 ((wrap64 (t108)) - a0))) else (some (wrap64 (t108)))) else (some (wrap64 (t108)))) = some r := by rw [if_neg (show ¬ (false = true) by decide)] at H; exact H
    clear H
    have H := H1
    clear H1
    by_cases c11 : a3 = true
    ·subst c11
     have H1 : (if a1 < 0 then (some (wrap64 ((wrap64 (t108)) - a0))) else (some (wrap64 (t108)))) = some r := by rw [if_pos rfl] at H; exact H
     clear H
     have H := H1
     clear H1
     by_cases c12 : a1 < 0
     ·rw [if_pos c12] at H
      have c12b0 := decide_eq_true c12
      clear c12
      obtain rfl := Option.some.inj H
      go_wp2
      go_ret
      exact ⟨fj, fd⟩
     ·rw [if_neg c12] at H
      have c12b0 := decide_eq_false c12
      clear c12
      obtain rfl := Option.some.inj H
      go_wp2
      go_ret
      exact ⟨fj, fd⟩
    ·replace c11 := Bool.eq_false_iff.mpr c11
     subst c11
     have H1 : (some (wrap64 (t108))) = some r := by rw [if_neg (show ¬ (false = true) by decide)] at H; exact H
     clear H
     have H := H1
     clear H1
     obtain rfl := Option.some.inj H
     go_wp2
     go_ret
     exact ⟨fj, fd⟩

/-! ### alu_times: function 9 -/
def alu_times.f (k : Nat) (a0 : Int) (a1 : Int) (a2 : Int) : Option (Int) := (alu_quotient.f a1 a2).bind fun bt110 => ((alu_quotientU.f (IntKind.u64.wrap (a1)) (IntKind.u64.wrap (a2))).bind fun bt112 => (if a0 = 50 then (some (wrap64 (a1 * a2))) else (if a0 = 51 then ((alu_high.f k a1 a2 true true).bind fun t114 => (some t114)) else (if a0 = 52 then ((alu_high.f k a1 a2 true false).bind fun t115 => (some t115)) else (if a0 = 53 then ((alu_high.f k a1 a2 false false).bind fun t116 => (some t116)) else (if a0 = 54 then (some bt110.1) else (if a0 = 55 then (some bt112.1) else (if a0 = 56 then (some bt110.2) else (some bt112.2)))))))))
theorem alu_times.mono : ∀ a0 a1 a2 k, LeO (alu_times.f k a0 a1 a2) (alu_times.f (k + 1) a0 a1 a2) := by
 intro a0 a1 a2 k
 unfold alu_times.f
 repeat' first | (with_reducible first | exact alu_high.mono _ _ _ _ _ | exact LeO.refl _ | exact LeO.none _ | refine LeO.ite ?_ ?_ | refine LeO.bind ?_ (fun _ => ?_)) | exact alu_high.mono _ _ _ _ _ | exact LeO.none _ | refine LeO.ite ?_ ?_ | refine LeO.bind ?_ (fun _ => ?_)
set_option maxHeartbeats 8000000 in
set_option maxRecDepth 100000 in
theorem alu_times.calls (k : Nat) (a0 : Int) (a1 : Int) (a2 : Int) (r : Int) (w : World) (h : alu_times.f k a0 a1 a2 = some r) :
  Calls Try.prog 9 #[.int .i64 a0, .int .i64 a1, .int .i64 a2] w fun e w' => e = .returned (.int .i64 r) ∧ Drawn0 w w' := by
 have H : ((alu_quotient.f a1 a2).bind fun bt110 => ((alu_quotientU.f (IntKind.u64.wrap (a1)) (IntKind.u64.wrap (a2))).bind fun bt112 => (if a0 = 50 then (some (wrap64 (a1 * a2))) else (if a0 = 51 then ((alu_high.f k a1 a2 true true).bind fun t114 => (some t114)) else (if a0 = 52 then ((alu_high.f k a1 a2 true false).bind fun t115 => (some t115)) else (if a0 = 53 then ((alu_high.f k a1 a2 false false).bind fun t116 => (some t116)) else (if a0 = 54 then (some bt110.1) else (if a0 = 55 then (some bt112.1) else (if a0 = 56 then (some bt110.2) else (some bt112.2)))))))))) = some r := h
 clear h
 replace H := be H
 obtain ⟨⟨t110, t111⟩, A4, H⟩ := H
 dsimp only at H
 replace H := be H
 obtain ⟨⟨t112, t113⟩, A5, H⟩ := H
 dsimp only at H
 by_cases c6 : a0 = 50
 ·rw [if_pos c6] at H
  obtain ⟨c6b0, c6b1⟩ := eqs c6
  clear c6
  obtain rfl := Option.some.inj H
  go_enter Try.func9, Try.ntmps9
  go_wp2_with (first | ((with_reducible refine gate_callee (f := 20) rfl ?_); refine goesL_ (some 14) rfl rfl Try.func20 (by kernel_rfl) rfl #[.int .i64 a1, .int .i64 a2] rfl ga ?_; (with_reducible refine (alu_quotient.calls a1 a2 t110 t111 _ A4.out).mono ?_); rintro e w' ⟨rfl, ⟨nd, rfl⟩⟩; refine ⟨_, rfl, ?_⟩) | ((with_reducible refine gate_callee (f := 21) rfl ?_); refine goesL_ (some 22) rfl rfl Try.func21 (by kernel_rfl) rfl #[.int .u64 (IntKind.u64.wrap (a1)), .int .u64 (IntKind.u64.wrap (a2))] rfl ga ?_; (with_reducible refine (alu_quotientU.calls (IntKind.u64.wrap (a1)) (IntKind.u64.wrap (a2)) t112 t113 _ A5.out).mono ?_); rintro e w' ⟨rfl, ⟨nd, rfl⟩⟩; refine ⟨_, rfl, ?_⟩))
  go_ret
  exact ⟨fj, fd⟩
 ·rw [if_neg c6] at H
  have c6b0 : (a0 == 50) = false := beq_eq_false_iff_ne.mpr c6
  have c6b1 : (a0 != 50) = true := bne_iff_ne.mpr c6
  by_cases c7 : a0 = 51
  ·rw [if_pos c7] at H
   obtain ⟨c7b0, c7b1⟩ := eqs c7
   clear c7
   replace H := be H
   obtain ⟨t114, A8, H⟩ := H
   obtain rfl := Option.some.inj H
   go_enter Try.func9, Try.ntmps9
   go_wp2_with (first | ((with_reducible refine gate_callee (f := 20) rfl ?_); refine goesL_ (some 14) rfl rfl Try.func20 (by kernel_rfl) rfl #[.int .i64 a1, .int .i64 a2] rfl ga ?_; (with_reducible refine (alu_quotient.calls a1 a2 t110 t111 _ A4.out).mono ?_); rintro e w' ⟨rfl, ⟨nd, rfl⟩⟩; refine ⟨_, rfl, ?_⟩) | ((with_reducible refine gate_callee (f := 21) rfl ?_); refine goesL_ (some 22) rfl rfl Try.func21 (by kernel_rfl) rfl #[.int .u64 (IntKind.u64.wrap (a1)), .int .u64 (IntKind.u64.wrap (a2))] rfl ga ?_; (with_reducible refine (alu_quotientU.calls (IntKind.u64.wrap (a1)) (IntKind.u64.wrap (a2)) t112 t113 _ A5.out).mono ?_); rintro e w' ⟨rfl, ⟨nd, rfl⟩⟩; refine ⟨_, rfl, ?_⟩) | ((with_reducible refine gate_callee (f := 22) rfl ?_); refine goesL_ (some 35) rfl rfl Try.func22 (by kernel_rfl) rfl #[.int .i64 a1, .int .i64 a2, .bool true, .bool true] rfl ga ?_; (with_reducible refine (alu_high.calls k a1 a2 true true t114 _ A8.out).mono ?_); rintro e w' ⟨rfl, ⟨nd, rfl⟩⟩; refine ⟨_, rfl, ?_⟩))
   go_ret
   exact ⟨fj, fd⟩
  ·rw [if_neg c7] at H
   have c7b0 : (a0 == 51) = false := beq_eq_false_iff_ne.mpr c7
   have c7b1 : (a0 != 51) = true := bne_iff_ne.mpr c7
   by_cases c9 : a0 = 52
   ·rw [if_pos c9] at H
    obtain ⟨c9b0, c9b1⟩ := eqs c9
    clear c9
    replace H := be H
    obtain ⟨t115, A10, H⟩ := H
    obtain rfl := Option.some.inj H
    go_enter Try.func9, Try.ntmps9
    go_wp2_with (first | ((with_reducible refine gate_callee (f := 20) rfl ?_); refine goesL_ (some 14) rfl rfl Try.func20 (by kernel_rfl) rfl #[.int .i64 a1, .int .i64 a2] rfl ga ?_; (with_reducible refine (alu_quotient.calls a1 a2 t110 t111 _ A4.out).mono ?_); rintro e w' ⟨rfl, ⟨nd, rfl⟩⟩; refine ⟨_, rfl, ?_⟩) | ((with_reducible refine gate_callee (f := 21) rfl ?_); refine goesL_ (some 22) rfl rfl Try.func21 (by kernel_rfl) rfl #[.int .u64 (IntKind.u64.wrap (a1)), .int .u64 (IntKind.u64.wrap (a2))] rfl ga ?_; (with_reducible refine (alu_quotientU.calls (IntKind.u64.wrap (a1)) (IntKind.u64.wrap (a2)) t112 t113 _ A5.out).mono ?_); rintro e w' ⟨rfl, ⟨nd, rfl⟩⟩; refine ⟨_, rfl, ?_⟩) | ((with_reducible refine gate_callee (f := 22) rfl ?_); refine goesL_ (some 40) rfl rfl Try.func22 (by kernel_rfl) rfl #[.int .i64 a1, .int .i64 a2, .bool true, .bool false] rfl ga ?_; (with_reducible refine (alu_high.calls k a1 a2 true false t115 _ A10.out).mono ?_); rintro e w' ⟨rfl, ⟨nd, rfl⟩⟩; refine ⟨_, rfl, ?_⟩))
    go_ret
    exact ⟨fj, fd⟩
   ·rw [if_neg c9] at H
    have c9b0 : (a0 == 52) = false := beq_eq_false_iff_ne.mpr c9
    have c9b1 : (a0 != 52) = true := bne_iff_ne.mpr c9
    by_cases c11 : a0 = 53
    ·rw [if_pos c11] at H
     obtain ⟨c11b0, c11b1⟩ := eqs c11
     clear c11
     replace H := be H
     obtain ⟨t116, A12, H⟩ := H
     obtain rfl := Option.some.inj H
     go_enter Try.func9, Try.ntmps9
     go_wp2_with (first | ((with_reducible refine gate_callee (f := 20) rfl ?_); refine goesL_ (some 14) rfl rfl Try.func20 (by kernel_rfl) rfl #[.int .i64 a1, .int .i64 a2] rfl ga ?_; (with_reducible refine (alu_quotient.calls a1 a2 t110 t111 _ A4.out).mono ?_); rintro e w' ⟨rfl, ⟨nd, rfl⟩⟩; refine ⟨_, rfl, ?_⟩) | ((with_reducible refine gate_callee (f := 21) rfl ?_); refine goesL_ (some 22) rfl rfl Try.func21 (by kernel_rfl) rfl #[.int .u64 (IntKind.u64.wrap (a1)), .int .u64 (IntKind.u64.wrap (a2))] rfl ga ?_; (with_reducible refine (alu_quotientU.calls (IntKind.u64.wrap (a1)) (IntKind.u64.wrap (a2)) t112 t113 _ A5.out).mono ?_); rintro e w' ⟨rfl, ⟨nd, rfl⟩⟩; refine ⟨_, rfl, ?_⟩) | ((with_reducible refine gate_callee (f := 22) rfl ?_); refine goesL_ (some 45) rfl rfl Try.func22 (by kernel_rfl) rfl #[.int .i64 a1, .int .i64 a2, .bool false, .bool false] rfl ga ?_; (with_reducible refine (alu_high.calls k a1 a2 false false t116 _ A12.out).mono ?_); rintro e w' ⟨rfl, ⟨nd, rfl⟩⟩; refine ⟨_, rfl, ?_⟩))
     go_ret
     exact ⟨fj, fd⟩
    ·rw [if_neg c11] at H
     have c11b0 : (a0 == 53) = false := beq_eq_false_iff_ne.mpr c11
     have c11b1 : (a0 != 53) = true := bne_iff_ne.mpr c11
     by_cases c13 : a0 = 54
     ·rw [if_pos c13] at H
      obtain ⟨c13b0, c13b1⟩ := eqs c13
      clear c13
      obtain rfl := Option.some.inj H
      go_enter Try.func9, Try.ntmps9
      go_wp2_with (first | ((with_reducible refine gate_callee (f := 20) rfl ?_); refine goesL_ (some 14) rfl rfl Try.func20 (by kernel_rfl) rfl #[.int .i64 a1, .int .i64 a2] rfl ga ?_; (with_reducible refine (alu_quotient.calls a1 a2 t110 t111 _ A4.out).mono ?_); rintro e w' ⟨rfl, ⟨nd, rfl⟩⟩; refine ⟨_, rfl, ?_⟩) | ((with_reducible refine gate_callee (f := 21) rfl ?_); refine goesL_ (some 22) rfl rfl Try.func21 (by kernel_rfl) rfl #[.int .u64 (IntKind.u64.wrap (a1)), .int .u64 (IntKind.u64.wrap (a2))] rfl ga ?_; (with_reducible refine (alu_quotientU.calls (IntKind.u64.wrap (a1)) (IntKind.u64.wrap (a2)) t112 t113 _ A5.out).mono ?_); rintro e w' ⟨rfl, ⟨nd, rfl⟩⟩; refine ⟨_, rfl, ?_⟩))
      go_ret
      exact ⟨fj, fd⟩
     ·rw [if_neg c13] at H
      have c13b0 : (a0 == 54) = false := beq_eq_false_iff_ne.mpr c13
      have c13b1 : (a0 != 54) = true := bne_iff_ne.mpr c13
      by_cases c14 : a0 = 55
      ·rw [if_pos c14] at H
       obtain ⟨c14b0, c14b1⟩ := eqs c14
       clear c14
       obtain rfl := Option.some.inj H
       go_enter Try.func9, Try.ntmps9
       go_wp2_with (first | ((with_reducible refine gate_callee (f := 20) rfl ?_); refine goesL_ (some 14) rfl rfl Try.func20 (by kernel_rfl) rfl #[.int .i64 a1, .int .i64 a2] rfl ga ?_; (with_reducible refine (alu_quotient.calls a1 a2 t110 t111 _ A4.out).mono ?_); rintro e w' ⟨rfl, ⟨nd, rfl⟩⟩; refine ⟨_, rfl, ?_⟩) | ((with_reducible refine gate_callee (f := 21) rfl ?_); refine goesL_ (some 22) rfl rfl Try.func21 (by kernel_rfl) rfl #[.int .u64 (IntKind.u64.wrap (a1)), .int .u64 (IntKind.u64.wrap (a2))] rfl ga ?_; (with_reducible refine (alu_quotientU.calls (IntKind.u64.wrap (a1)) (IntKind.u64.wrap (a2)) t112 t113 _ A5.out).mono ?_); rintro e w' ⟨rfl, ⟨nd, rfl⟩⟩; refine ⟨_, rfl, ?_⟩))
       go_ret
       exact ⟨fj, fd⟩
      ·rw [if_neg c14] at H
       have c14b0 : (a0 == 55) = false := beq_eq_false_iff_ne.mpr c14
       have c14b1 : (a0 != 55) = true := bne_iff_ne.mpr c14
       by_cases c15 : a0 = 56
       ·rw [if_pos c15] at H
        obtain ⟨c15b0, c15b1⟩ := eqs c15
        clear c15
        obtain rfl := Option.some.inj H
        go_enter Try.func9, Try.ntmps9
        go_wp2_with (first | ((with_reducible refine gate_callee (f := 20) rfl ?_); refine goesL_ (some 14) rfl rfl Try.func20 (by kernel_rfl) rfl #[.int .i64 a1, .int .i64 a2] rfl ga ?_; (with_reducible refine (alu_quotient.calls a1 a2 t110 t111 _ A4.out).mono ?_); rintro e w' ⟨rfl, ⟨nd, rfl⟩⟩; refine ⟨_, rfl, ?_⟩) | ((with_reducible refine gate_callee (f := 21) rfl ?_); refine goesL_ (some 22) rfl rfl Try.func21 (by kernel_rfl) rfl #[.int .u64 (IntKind.u64.wrap (a1)), .int .u64 (IntKind.u64.wrap (a2))] rfl ga ?_; (with_reducible refine (alu_quotientU.calls (IntKind.u64.wrap (a1)) (IntKind.u64.wrap (a2)) t112 t113 _ A5.out).mono ?_); rintro e w' ⟨rfl, ⟨nd, rfl⟩⟩; refine ⟨_, rfl, ?_⟩))
        go_ret
        exact ⟨fj, fd⟩
       ·rw [if_neg c15] at H
        have c15b0 : (a0 == 56) = false := beq_eq_false_iff_ne.mpr c15
        have c15b1 : (a0 != 56) = true := bne_iff_ne.mpr c15
        obtain rfl := Option.some.inj H
        go_enter Try.func9, Try.ntmps9
        go_wp2_with (first | ((with_reducible refine gate_callee (f := 20) rfl ?_); refine goesL_ (some 14) rfl rfl Try.func20 (by kernel_rfl) rfl #[.int .i64 a1, .int .i64 a2] rfl ga ?_; (with_reducible refine (alu_quotient.calls a1 a2 t110 t111 _ A4.out).mono ?_); rintro e w' ⟨rfl, ⟨nd, rfl⟩⟩; refine ⟨_, rfl, ?_⟩) | ((with_reducible refine gate_callee (f := 21) rfl ?_); refine goesL_ (some 22) rfl rfl Try.func21 (by kernel_rfl) rfl #[.int .u64 (IntKind.u64.wrap (a1)), .int .u64 (IntKind.u64.wrap (a2))] rfl ga ?_; (with_reducible refine (alu_quotientU.calls (IntKind.u64.wrap (a1)) (IntKind.u64.wrap (a2)) t112 t113 _ A5.out).mono ?_); rintro e w' ⟨rfl, ⟨nd, rfl⟩⟩; refine ⟨_, rfl, ?_⟩))
        go_ret
        exact ⟨fj, fd⟩

/-! ### alu_shortTimes: function 10 -/
def alu_shortTimes.f (a0 : Int) (a1 : Int) (a2 : Int) : Option (Int) := (alu_half.f a1).bind fun t117 => ((alu_half.f a2).bind fun t118 => ((alu_quotient.f t117 t118).bind fun bt119 => ((alu_quotientU.f ((a1) % 4294967296) ((a2) % 4294967296)).bind fun bt121 => (if a0 = 58 then ((alu_half.f (wrap64 (a1 * a2))).bind fun t123 => (some t123)) else (if a0 = 59 then ((alu_half.f bt119.1).bind fun t124 => (some t124)) else (if a0 = 60 then ((alu_half.f bt121.1).bind fun t125 => (some t125)) else (if a0 = 61 then ((alu_half.f bt119.2).bind fun t126 => (some t126)) else ((alu_half.f bt121.2).bind fun t127 => (some t127)))))))))
set_option maxHeartbeats 8000000 in
set_option maxRecDepth 100000 in
theorem alu_shortTimes.calls (a0 : Int) (a1 : Int) (a2 : Int) (r : Int) (w : World) (h : alu_shortTimes.f a0 a1 a2 = some r) :
  Calls Try.prog 10 #[.int .i64 a0, .int .i64 a1, .int .i64 a2] w fun e w' => e = .returned (.int .i64 r) ∧ Drawn0 w w' := by
 have H : ((alu_half.f a1).bind fun t117 => ((alu_half.f a2).bind fun t118 => ((alu_quotient.f t117 t118).bind fun bt119 => ((alu_quotientU.f ((a1) % 4294967296) ((a2) % 4294967296)).bind fun bt121 => (if a0 = 58 then ((alu_half.f (wrap64 (a1 * a2))).bind fun t123 => (some t123)) else (if a0 = 59 then ((alu_half.f bt119.1).bind fun t124 => (some t124)) else (if a0 = 60 then ((alu_half.f bt121.1).bind fun t125 => (some t125)) else (if a0 = 61 then ((alu_half.f bt119.2).bind fun t126 => (some t126)) else ((alu_half.f bt121.2).bind fun t127 => (some t127)))))))))) = some r := h
 clear h
 replace H := be H
 obtain ⟨t117, A4, H⟩ := H
 replace H := be H
 obtain ⟨t118, A5, H⟩ := H
 replace H := be H
 obtain ⟨⟨t119, t120⟩, A6, H⟩ := H
 dsimp only at H
 replace H := be H
 obtain ⟨⟨t121, t122⟩, A7, H⟩ := H
 dsimp only at H
 by_cases c8 : a0 = 58
 ·rw [if_pos c8] at H
  obtain ⟨c8b0, c8b1⟩ := eqs c8
  clear c8
  replace H := be H
  obtain ⟨t123, A9, H⟩ := H
  obtain rfl := Option.some.inj H
  go_enter Try.func10, Try.ntmps10
  go_wp2_with (first | ((with_reducible refine gate_callee (f := 19) rfl ?_); refine goesL_ (some 13) rfl rfl Try.func19 (by kernel_rfl) rfl #[.int .i64 a1] rfl ga ?_; (with_reducible refine (alu_half.calls a1 t117 _ A4.out).mono ?_); rintro e w' ⟨rfl, ⟨nd, rfl⟩⟩; refine ⟨_, rfl, ?_⟩) | ((with_reducible refine gate_callee (f := 19) rfl ?_); refine goesL_ (some 15) rfl rfl Try.func19 (by kernel_rfl) rfl #[.int .i64 a2] rfl ga ?_; (with_reducible refine (alu_half.calls a2 t118 _ A5.out).mono ?_); rintro e w' ⟨rfl, ⟨nd, rfl⟩⟩; refine ⟨_, rfl, ?_⟩) | ((with_reducible refine gate_callee (f := 20) rfl ?_); refine goesL_ (some 16) rfl rfl Try.func20 (by kernel_rfl) rfl #[.int .i64 t117, .int .i64 t118] rfl ga ?_; (with_reducible refine (alu_quotient.calls t117 t118 t119 t120 _ A6.out).mono ?_); rintro e w' ⟨rfl, ⟨nd, rfl⟩⟩; refine ⟨_, rfl, ?_⟩) | ((with_reducible refine gate_callee (f := 21) rfl ?_); refine goesL_ (some 26) rfl rfl Try.func21 (by kernel_rfl) rfl #[.int .u64 ((a1) % 4294967296), .int .u64 ((a2) % 4294967296)] rfl ga ?_; (with_reducible refine (alu_quotientU.calls ((a1) % 4294967296) ((a2) % 4294967296) t121 t122 _ A7.out).mono ?_); rintro e w' ⟨rfl, ⟨nd, rfl⟩⟩; refine ⟨_, rfl, ?_⟩) | ((with_reducible refine gate_callee (f := 19) rfl ?_); refine goesL_ (some 35) rfl rfl Try.func19 (by kernel_rfl) rfl #[.int .i64 (wrap64 (a1 * a2))] rfl ga ?_; (with_reducible refine (alu_half.calls (wrap64 (a1 * a2)) t123 _ A9.out).mono ?_); rintro e w' ⟨rfl, ⟨nd, rfl⟩⟩; refine ⟨_, rfl, ?_⟩))
  go_ret
  exact ⟨fj, fd⟩
 ·rw [if_neg c8] at H
  have c8b0 : (a0 == 58) = false := beq_eq_false_iff_ne.mpr c8
  have c8b1 : (a0 != 58) = true := bne_iff_ne.mpr c8
  by_cases c10 : a0 = 59
  ·rw [if_pos c10] at H
   obtain ⟨c10b0, c10b1⟩ := eqs c10
   clear c10
   replace H := be H
   obtain ⟨t124, A11, H⟩ := H
   obtain rfl := Option.some.inj H
   go_enter Try.func10, Try.ntmps10
   go_wp2_with (first | ((with_reducible refine gate_callee (f := 19) rfl ?_); refine goesL_ (some 13) rfl rfl Try.func19 (by kernel_rfl) rfl #[.int .i64 a1] rfl ga ?_; (with_reducible refine (alu_half.calls a1 t117 _ A4.out).mono ?_); rintro e w' ⟨rfl, ⟨nd, rfl⟩⟩; refine ⟨_, rfl, ?_⟩) | ((with_reducible refine gate_callee (f := 19) rfl ?_); refine goesL_ (some 15) rfl rfl Try.func19 (by kernel_rfl) rfl #[.int .i64 a2] rfl ga ?_; (with_reducible refine (alu_half.calls a2 t118 _ A5.out).mono ?_); rintro e w' ⟨rfl, ⟨nd, rfl⟩⟩; refine ⟨_, rfl, ?_⟩) | ((with_reducible refine gate_callee (f := 20) rfl ?_); refine goesL_ (some 16) rfl rfl Try.func20 (by kernel_rfl) rfl #[.int .i64 t117, .int .i64 t118] rfl ga ?_; (with_reducible refine (alu_quotient.calls t117 t118 t119 t120 _ A6.out).mono ?_); rintro e w' ⟨rfl, ⟨nd, rfl⟩⟩; refine ⟨_, rfl, ?_⟩) | ((with_reducible refine gate_callee (f := 21) rfl ?_); refine goesL_ (some 26) rfl rfl Try.func21 (by kernel_rfl) rfl #[.int .u64 ((a1) % 4294967296), .int .u64 ((a2) % 4294967296)] rfl ga ?_; (with_reducible refine (alu_quotientU.calls ((a1) % 4294967296) ((a2) % 4294967296) t121 t122 _ A7.out).mono ?_); rintro e w' ⟨rfl, ⟨nd, rfl⟩⟩; refine ⟨_, rfl, ?_⟩) | ((with_reducible refine gate_callee (f := 19) rfl ?_); refine goesL_ (some 39) rfl rfl Try.func19 (by kernel_rfl) rfl #[.int .i64 t119] rfl ga ?_; (with_reducible refine (alu_half.calls t119 t124 _ A11.out).mono ?_); rintro e w' ⟨rfl, ⟨nd, rfl⟩⟩; refine ⟨_, rfl, ?_⟩))
   go_ret
   exact ⟨fj, fd⟩
  ·rw [if_neg c10] at H
   have c10b0 : (a0 == 59) = false := beq_eq_false_iff_ne.mpr c10
   have c10b1 : (a0 != 59) = true := bne_iff_ne.mpr c10
   by_cases c12 : a0 = 60
   ·rw [if_pos c12] at H
    obtain ⟨c12b0, c12b1⟩ := eqs c12
    clear c12
    replace H := be H
    obtain ⟨t125, A13, H⟩ := H
    obtain rfl := Option.some.inj H
    go_enter Try.func10, Try.ntmps10
    go_wp2_with (first | ((with_reducible refine gate_callee (f := 19) rfl ?_); refine goesL_ (some 13) rfl rfl Try.func19 (by kernel_rfl) rfl #[.int .i64 a1] rfl ga ?_; (with_reducible refine (alu_half.calls a1 t117 _ A4.out).mono ?_); rintro e w' ⟨rfl, ⟨nd, rfl⟩⟩; refine ⟨_, rfl, ?_⟩) | ((with_reducible refine gate_callee (f := 19) rfl ?_); refine goesL_ (some 15) rfl rfl Try.func19 (by kernel_rfl) rfl #[.int .i64 a2] rfl ga ?_; (with_reducible refine (alu_half.calls a2 t118 _ A5.out).mono ?_); rintro e w' ⟨rfl, ⟨nd, rfl⟩⟩; refine ⟨_, rfl, ?_⟩) | ((with_reducible refine gate_callee (f := 20) rfl ?_); refine goesL_ (some 16) rfl rfl Try.func20 (by kernel_rfl) rfl #[.int .i64 t117, .int .i64 t118] rfl ga ?_; (with_reducible refine (alu_quotient.calls t117 t118 t119 t120 _ A6.out).mono ?_); rintro e w' ⟨rfl, ⟨nd, rfl⟩⟩; refine ⟨_, rfl, ?_⟩) | ((with_reducible refine gate_callee (f := 21) rfl ?_); refine goesL_ (some 26) rfl rfl Try.func21 (by kernel_rfl) rfl #[.int .u64 ((a1) % 4294967296), .int .u64 ((a2) % 4294967296)] rfl ga ?_; (with_reducible refine (alu_quotientU.calls ((a1) % 4294967296) ((a2) % 4294967296) t121 t122 _ A7.out).mono ?_); rintro e w' ⟨rfl, ⟨nd, rfl⟩⟩; refine ⟨_, rfl, ?_⟩) | ((with_reducible refine gate_callee (f := 19) rfl ?_); refine goesL_ (some 43) rfl rfl Try.func19 (by kernel_rfl) rfl #[.int .i64 t121] rfl ga ?_; (with_reducible refine (alu_half.calls t121 t125 _ A13.out).mono ?_); rintro e w' ⟨rfl, ⟨nd, rfl⟩⟩; refine ⟨_, rfl, ?_⟩))
    go_ret
    exact ⟨fj, fd⟩
   ·rw [if_neg c12] at H
    have c12b0 : (a0 == 60) = false := beq_eq_false_iff_ne.mpr c12
    have c12b1 : (a0 != 60) = true := bne_iff_ne.mpr c12
    by_cases c14 : a0 = 61
    ·rw [if_pos c14] at H
     obtain ⟨c14b0, c14b1⟩ := eqs c14
     clear c14
     replace H := be H
     obtain ⟨t126, A15, H⟩ := H
     obtain rfl := Option.some.inj H
     go_enter Try.func10, Try.ntmps10
     go_wp2_with (first | ((with_reducible refine gate_callee (f := 19) rfl ?_); refine goesL_ (some 13) rfl rfl Try.func19 (by kernel_rfl) rfl #[.int .i64 a1] rfl ga ?_; (with_reducible refine (alu_half.calls a1 t117 _ A4.out).mono ?_); rintro e w' ⟨rfl, ⟨nd, rfl⟩⟩; refine ⟨_, rfl, ?_⟩) | ((with_reducible refine gate_callee (f := 19) rfl ?_); refine goesL_ (some 15) rfl rfl Try.func19 (by kernel_rfl) rfl #[.int .i64 a2] rfl ga ?_; (with_reducible refine (alu_half.calls a2 t118 _ A5.out).mono ?_); rintro e w' ⟨rfl, ⟨nd, rfl⟩⟩; refine ⟨_, rfl, ?_⟩) | ((with_reducible refine gate_callee (f := 20) rfl ?_); refine goesL_ (some 16) rfl rfl Try.func20 (by kernel_rfl) rfl #[.int .i64 t117, .int .i64 t118] rfl ga ?_; (with_reducible refine (alu_quotient.calls t117 t118 t119 t120 _ A6.out).mono ?_); rintro e w' ⟨rfl, ⟨nd, rfl⟩⟩; refine ⟨_, rfl, ?_⟩) | ((with_reducible refine gate_callee (f := 21) rfl ?_); refine goesL_ (some 26) rfl rfl Try.func21 (by kernel_rfl) rfl #[.int .u64 ((a1) % 4294967296), .int .u64 ((a2) % 4294967296)] rfl ga ?_; (with_reducible refine (alu_quotientU.calls ((a1) % 4294967296) ((a2) % 4294967296) t121 t122 _ A7.out).mono ?_); rintro e w' ⟨rfl, ⟨nd, rfl⟩⟩; refine ⟨_, rfl, ?_⟩) | ((with_reducible refine gate_callee (f := 19) rfl ?_); refine goesL_ (some 47) rfl rfl Try.func19 (by kernel_rfl) rfl #[.int .i64 t120] rfl ga ?_; (with_reducible refine (alu_half.calls t120 t126 _ A15.out).mono ?_); rintro e w' ⟨rfl, ⟨nd, rfl⟩⟩; refine ⟨_, rfl, ?_⟩))
     go_ret
     exact ⟨fj, fd⟩
    ·rw [if_neg c14] at H
     have c14b0 : (a0 == 61) = false := beq_eq_false_iff_ne.mpr c14
     have c14b1 : (a0 != 61) = true := bne_iff_ne.mpr c14
     replace H := be H
     obtain ⟨t127, A16, H⟩ := H
     obtain rfl := Option.some.inj H
     go_enter Try.func10, Try.ntmps10
     go_wp2_with (first | ((with_reducible refine gate_callee (f := 19) rfl ?_); refine goesL_ (some 13) rfl rfl Try.func19 (by kernel_rfl) rfl #[.int .i64 a1] rfl ga ?_; (with_reducible refine (alu_half.calls a1 t117 _ A4.out).mono ?_); rintro e w' ⟨rfl, ⟨nd, rfl⟩⟩; refine ⟨_, rfl, ?_⟩) | ((with_reducible refine gate_callee (f := 19) rfl ?_); refine goesL_ (some 15) rfl rfl Try.func19 (by kernel_rfl) rfl #[.int .i64 a2] rfl ga ?_; (with_reducible refine (alu_half.calls a2 t118 _ A5.out).mono ?_); rintro e w' ⟨rfl, ⟨nd, rfl⟩⟩; refine ⟨_, rfl, ?_⟩) | ((with_reducible refine gate_callee (f := 20) rfl ?_); refine goesL_ (some 16) rfl rfl Try.func20 (by kernel_rfl) rfl #[.int .i64 t117, .int .i64 t118] rfl ga ?_; (with_reducible refine (alu_quotient.calls t117 t118 t119 t120 _ A6.out).mono ?_); rintro e w' ⟨rfl, ⟨nd, rfl⟩⟩; refine ⟨_, rfl, ?_⟩) | ((with_reducible refine gate_callee (f := 21) rfl ?_); refine goesL_ (some 26) rfl rfl Try.func21 (by kernel_rfl) rfl #[.int .u64 ((a1) % 4294967296), .int .u64 ((a2) % 4294967296)] rfl ga ?_; (with_reducible refine (alu_quotientU.calls ((a1) % 4294967296) ((a2) % 4294967296) t121 t122 _ A7.out).mono ?_); rintro e w' ⟨rfl, ⟨nd, rfl⟩⟩; refine ⟨_, rfl, ?_⟩) | ((with_reducible refine gate_callee (f := 19) rfl ?_); refine goesL_ (some 49) rfl rfl Try.func19 (by kernel_rfl) rfl #[.int .i64 t122] rfl ga ?_; (with_reducible refine (alu_half.calls t122 t127 _ A16.out).mono ?_); rintro e w' ⟨rfl, ⟨nd, rfl⟩⟩; refine ⟨_, rfl, ?_⟩))
     go_ret
     exact ⟨fj, fd⟩

end Go.Proofs.Ytmkcnbaknnohgaa.GAluEvals
