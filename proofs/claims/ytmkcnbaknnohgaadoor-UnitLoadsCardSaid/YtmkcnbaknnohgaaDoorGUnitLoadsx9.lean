-- Written by wip/stub.py of this repo.
import Derived.Test.YtmkcnbaknnohgaaDoorGUnitLoadsx0
import Derived.Test.YtmkcnbaknnohgaaDoorGUnitLoadsx3
import Derived.Test.YtmkcnbaknnohgaaDoorGUnitLoadsx6
import Derived.Test.YtmkcnbaknnohgaaDoorGUnitLoadsx7
import Derived.Test.YtmkcnbaknnohgaaDoorGUnitLoadsx8
namespace Go.Proofs.YtmkcnbaknnohgaaDoor.GUnitLoads
open Go.RowKit Go.Proofs.YtmkcnbaknnohgaaDoorW.PrintWords Go.Proofs.YtmkcnbaknnohgaaDoorW.PrintLast Go.Proofs.YtmkcnbaknnohgaaDoorW.PrintMore
attribute [local go_sem] max2_int min2_int max_two min_two max_three min_three max_four min_four   -- for this text's walks alone
set_option linter.unusedVariables false
set_option linter.unusedSimpArgs false

/-! ### spinnakerref07_Upper: function 43 -/
mutual
def spinnakerref07_Upper.j0 : Nat → Int → Int → Bool → Int → Int → Bool → Bool → Option (Int)
  | 0, _, _, _, _, _, _, _ => none
  | k + 1, x0, x1, x3, x9, x10, x11, x22 => if x22 = true then ((spinnakerref07_abs.f x0).bind fun t284 => (spinnakerref07_Upper.j1 k x1 x3 t284 x10 (!x11))) else (spinnakerref07_Upper.j1 k x1 x3 x9 x10 x11)
def spinnakerref07_Upper.j1 : Nat → Int → Bool → Int → Int → Bool → Option (Int)
  | 0, _, _, _, _, _ => none
  | k + 1, x1, x3, x9, x10, x11 => if x3 = true then (spinnakerref07_Upper.j2 k x1 x9 x10 x11 (decide (x1 < 0))) else (spinnakerref07_Upper.j2 k x1 x9 x10 x11 false)
def spinnakerref07_Upper.j2 : Nat → Int → Int → Int → Bool → Bool → Option (Int)
  | 0, _, _, _, _, _ => none
  | k + 1, x1, x9, x10, x11, x31 => if x31 = true then ((spinnakerref07_abs.f x1).bind fun t285 => (spinnakerref07_Upper.j3 k x9 t285 (!x11))) else (spinnakerref07_Upper.j3 k x9 x10 x11)
def spinnakerref07_Upper.j3 : Nat → Int → Int → Bool → Option (Int)
  | 0, _, _, _ => none
  | k + 1, x9, x10, x11 => (spinnakerref07_Mul.f k x9 x10).bind fun bt286 => (if x11 = true then (if bt286.1 = 0 then (some (wrap64 (IntKind.u64.wrap ((Go.bits .xor .u64 18446744073709551615 bt286.2) + 1)))) else (some (wrap64 (Go.bits .xor .u64 18446744073709551615 bt286.2)))) else (some (wrap64 (bt286.2))))
end
def spinnakerref07_Upper.f (k : Nat) (a0 : Int) (a1 : Int) (a2 : Bool) (a3 : Bool) : Option (Int) := if a2 = true then (spinnakerref07_Upper.j0 k a0 a1 a3 (IntKind.u64.wrap (a0)) (IntKind.u64.wrap (a1)) false (decide (a0 < 0))) else (spinnakerref07_Upper.j0 k a0 a1 a3 (IntKind.u64.wrap (a0)) (IntKind.u64.wrap (a1)) false false)
theorem spinnakerref07_Upper.mono_l : ∀ k, (∀ y0 y1 y2 y3 y4 y5 y6, LeO (spinnakerref07_Upper.j0 k y0 y1 y2 y3 y4 y5 y6) (spinnakerref07_Upper.j0 (k + 1) y0 y1 y2 y3 y4 y5 y6)) ∧ (∀ y0 y1 y2 y3 y4, LeO (spinnakerref07_Upper.j1 k y0 y1 y2 y3 y4) (spinnakerref07_Upper.j1 (k + 1) y0 y1 y2 y3 y4)) ∧ (∀ y0 y1 y2 y3 y4, LeO (spinnakerref07_Upper.j2 k y0 y1 y2 y3 y4) (spinnakerref07_Upper.j2 (k + 1) y0 y1 y2 y3 y4)) ∧ (∀ y0 y1 y2, LeO (spinnakerref07_Upper.j3 k y0 y1 y2) (spinnakerref07_Upper.j3 (k + 1) y0 y1 y2))
 | 0 => ⟨fun _ _ _ _ _ _ _ r h => by simp [spinnakerref07_Upper.j0] at h, fun _ _ _ _ _ r h => by simp [spinnakerref07_Upper.j1] at h, fun _ _ _ _ _ r h => by simp [spinnakerref07_Upper.j2] at h, fun _ _ _ r h => by simp [spinnakerref07_Upper.j3] at h⟩
 | k + 1 => by
  obtain ⟨ih0, ih1, ih2, ih3⟩ := spinnakerref07_Upper.mono_l k
  refine ⟨?_, ?_, ?_, ?_⟩
  all_goals (intros; (first | unfold spinnakerref07_Upper.j0 | unfold spinnakerref07_Upper.j1 | unfold spinnakerref07_Upper.j2 | unfold spinnakerref07_Upper.j3); repeat' first | (with_reducible first | exact ih0 _ _ _ _ _ _ _ | exact ih1 _ _ _ _ _ | exact ih2 _ _ _ _ _ | exact ih3 _ _ _ | exact spinnakerref07_Mul.mono _ _ _ | exact LeO.refl _ | exact LeO.none _ | refine LeO.ite ?_ ?_ | refine LeO.bind ?_ (fun _ => ?_)) | exact ih0 _ _ _ _ _ _ _ | exact ih1 _ _ _ _ _ | exact ih2 _ _ _ _ _ | exact ih3 _ _ _ | exact spinnakerref07_Mul.mono _ _ _ | exact LeO.none _ | refine LeO.ite ?_ ?_ | refine LeO.bind ?_ (fun _ => ?_))
theorem spinnakerref07_Upper.mono : ∀ a0 a1 a2 a3 k, LeO (spinnakerref07_Upper.f k a0 a1 a2 a3) (spinnakerref07_Upper.f (k + 1) a0 a1 a2 a3) := by
 intro a0 a1 a2 a3 k
 obtain ⟨ih0, ih1, ih2, ih3⟩ := spinnakerref07_Upper.mono_l k
 unfold spinnakerref07_Upper.f
 repeat' first | (with_reducible first | exact ih0 _ _ _ _ _ _ _ | exact ih1 _ _ _ _ _ | exact ih2 _ _ _ _ _ | exact ih3 _ _ _ | exact spinnakerref07_Mul.mono _ _ _ | exact LeO.refl _ | exact LeO.none _ | refine LeO.ite ?_ ?_ | refine LeO.bind ?_ (fun _ => ?_)) | exact ih0 _ _ _ _ _ _ _ | exact ih1 _ _ _ _ _ | exact ih2 _ _ _ _ _ | exact ih3 _ _ _ | exact spinnakerref07_Mul.mono _ _ _ | exact LeO.none _ | refine LeO.ite ?_ ?_ | refine LeO.bind ?_ (fun _ => ?_)
set_option maxHeartbeats 8000000 in
set_option maxRecDepth 100000 in
theorem spinnakerref07_Upper.calls (k : Nat) (a0 : Int) (a1 : Int) (a2 : Bool) (a3 : Bool) (r : Int) (w : World) (h : spinnakerref07_Upper.f k a0 a1 a2 a3 = some r) :
  Calls Tryd.prog 43 #[.int .i64 a0, .int .i64 a1, .bool a2, .bool a3] w fun e w' => e = .returned (.int .i64 r) ∧ Below w.heap.size w w' := by
 have HB := Aside0.mk (Below.refl w.heap.size w)
 have H : (if a2 = true then (spinnakerref07_Upper.j0 k a0 a1 a3 (IntKind.u64.wrap (a0)) (IntKind.u64.wrap (a1)) false (decide (a0 < 0))) else (spinnakerref07_Upper.j0 k a0 a1 a3 (IntKind.u64.wrap (a0)) (IntKind.u64.wrap (a1)) false false)) = some r := h
 clear h
 have HC5 := Aside0.mk H
 clear H
 go_enter Tryd.func43, Tryd.ntmps43
 go_upto_region 2 with (fail)
 go_cut [22] (fun v22 wc => ∃ (kq : Nat) (x22_4 : Bool), v22 = .bool x22_4 ∧ Aside0 (spinnakerref07_Upper.j0 kq a0 a1 a3 (IntKind.u64.wrap (a0)) (IntKind.u64.wrap (a1)) false x22_4 = some r) ∧ Aside0 (kq ≤ k) ∧ Aside0 (Below w.heap.size w wc))
 case first =>
  have H := HC5.out
  clear HC5
  by_cases c6 : a2 = true
  ·subst c6
   have H1 : (spinnakerref07_Upper.j0 k a0 a1 a3 (IntKind.u64.wrap (a0)) (IntKind.u64.wrap (a1)) false (decide (a0 < 0))) = some r := by rw [if_pos rfl] at H; exact H
   clear H
   have H := H1
   clear H1
   have H' := Aside0.mk H
   clear H
   go_wp2
   go_meet
   case rel => exact ⟨_, (decide (a0 < 0)), fj, H', ⟨by first | omega | exact Nat.le_refl _⟩, ⟨bl⟩⟩
  ·replace c6 := Bool.eq_false_iff.mpr c6
   subst c6
   have H1 : (spinnakerref07_Upper.j0 k a0 a1 a3 (IntKind.u64.wrap (a0)) (IntKind.u64.wrap (a1)) false false) = some r := by rw [if_neg (show ¬ (false = true) by decide)] at H; exact H
   clear H
   have H := H1
   clear H1
   have H' := Aside0.mk H
   clear H
   go_wp2
   go_meet
   case rel => exact ⟨_, (false), fj, H', ⟨by first | omega | exact Nat.le_refl _⟩, ⟨bl⟩⟩
 case rest =>
  clear HC5
  try clear p2
  try clear c4
  try clear c6
  obtain ⟨kq, x22_4, rfl, HA, HJ4, HB⟩ := hcut
  cases kq with
  | zero => exact absurd HA.out (by simp [spinnakerref07_Upper.j0])
  | succ kj4 =>
   have H := HA.out
   clear HA
   simp only [spinnakerref07_Upper.j0] at H
   have HC7 := Aside0.mk H
   clear H
   go_upto_if 22 with (fail)
   go_cut [9, 11] (fun v9 v11 wc => ∃ (kq : Nat) (x9_6 : Int) (x11_6 : Bool), v9 = .int .u64 x9_6 ∧ v11 = .bool x11_6 ∧ Aside0 (spinnakerref07_Upper.j1 kq a1 a3 x9_6 (IntKind.u64.wrap (a1)) x11_6 = some r) ∧ Aside0 (kq ≤ kj4) ∧ Aside0 (Below w.heap.size w wc))
   case first =>
    have H := HC7.out
    clear HC7
    by_cases c8 : x22_4 = true
    ·subst c8
     have H1 : ((spinnakerref07_abs.f a0).bind fun t284 => (spinnakerref07_Upper.j1 kj4 a1 a3 t284 (IntKind.u64.wrap (a1)) (!false))) = some r := by rw [if_pos rfl] at H; exact H
     clear H
     have H := H1
     clear H1
     replace H := be H
     obtain ⟨t284, A9, H⟩ := H
     have H' := Aside0.mk H
     clear H
     go_wp2_with (first | ((with_reducible refine gate_callee (f := 46) rfl ?_); refine goesL_ (some 24) rfl rfl Tryd.func46 (by kernel_rfl) rfl #[.int .i64 a0] rfl ga ?_; (with_reducible refine (spinnakerref07_abs.calls a0 t284 _ A9.out).mono ?_); rintro e w' ⟨rfl, ⟨nd, rfl⟩⟩; refine ⟨_, rfl, ?_⟩))
     go_meet
     case rel => exact ⟨_, (t284), (!false), fj, fj, H', ⟨by have := HJ4.out; first | omega | exact Nat.le_refl _⟩, ⟨bl⟩⟩
    ·replace c8 := Bool.eq_false_iff.mpr c8
     subst c8
     have H1 : (spinnakerref07_Upper.j1 kj4 a1 a3 (IntKind.u64.wrap (a0)) (IntKind.u64.wrap (a1)) false) = some r := by rw [if_neg (show ¬ (false = true) by decide)] at H; exact H
     clear H
     have H := H1
     clear H1
     have H' := Aside0.mk H
     clear H
     go_wp2
     go_meet
     case rel => exact ⟨_, ((IntKind.u64.wrap (a0))), (false), fj, fj, H', ⟨by have := HJ4.out; first | omega | exact Nat.le_refl _⟩, ⟨bl⟩⟩
   case rest =>
    clear HC7
    try clear p2
    try clear c4
    try clear c6
    try clear c8
    try clear p2
    obtain ⟨kq, x9_6, x11_6, rfl, rfl, HA, HJ6, HB⟩ := hcut
    cases kq with
    | zero => exact absurd HA.out (by simp [spinnakerref07_Upper.j1])
    | succ kj6 =>
     have H := HA.out
     clear HA
     simp only [spinnakerref07_Upper.j1] at H
     have HC10 := Aside0.mk H
     clear H
     go_upto_region 4 with (fail)
     go_cut [31] (fun v31 wc => ∃ (kq : Nat) (x31_9 : Bool), v31 = .bool x31_9 ∧ Aside0 (spinnakerref07_Upper.j2 kq a1 x9_6 (IntKind.u64.wrap (a1)) x11_6 x31_9 = some r) ∧ Aside0 (kq ≤ kj6) ∧ Aside0 (Below w.heap.size w wc))
     case first =>
      have H := HC10.out
      clear HC10
      by_cases c11 : a3 = true
      ·subst c11
       have H1 : (spinnakerref07_Upper.j2 kj6 a1 x9_6 (IntKind.u64.wrap (a1)) x11_6 (decide (a1 < 0))) = some r := by rw [if_pos rfl] at H; exact H
       clear H
       have H := H1
       clear H1
       have H' := Aside0.mk H
       clear H
       go_wp2
       go_meet
       case rel => exact ⟨_, (decide (a1 < 0)), fj, H', ⟨by have := HJ4.out; have := HJ6.out; first | omega | exact Nat.le_refl _⟩, ⟨bl⟩⟩
      ·replace c11 := Bool.eq_false_iff.mpr c11
       subst c11
       have H1 : (spinnakerref07_Upper.j2 kj6 a1 x9_6 (IntKind.u64.wrap (a1)) x11_6 false) = some r := by rw [if_neg (show ¬ (false = true) by decide)] at H; exact H
       clear H
       have H := H1
       clear H1
       have H' := Aside0.mk H
       clear H
       go_wp2
       go_meet
       case rel => exact ⟨_, (false), fj, H', ⟨by have := HJ4.out; have := HJ6.out; first | omega | exact Nat.le_refl _⟩, ⟨bl⟩⟩
     case rest =>
      clear HC10
      try clear c1
      try clear p2
      try clear c4
      try clear c6
      try clear c8
      try clear c11
      try clear p2
      obtain ⟨kq, x31_9, rfl, HA, HJ9, HB⟩ := hcut
      cases kq with
      | zero => exact absurd HA.out (by simp [spinnakerref07_Upper.j2])
      | succ kj9 =>
       have H := HA.out
       clear HA
       simp only [spinnakerref07_Upper.j2] at H
       have HC12 := Aside0.mk H
       clear H
       go_upto_if 31 with (fail)
       go_cut [10, 11] (fun v10 v11 wc => ∃ (kq : Nat) (x10_11 : Int) (x11_11 : Bool), v10 = .int .u64 x10_11 ∧ v11 = .bool x11_11 ∧ Aside0 (spinnakerref07_Upper.j3 kq x9_6 x10_11 x11_11 = some r) ∧ Aside0 (kq ≤ kj9) ∧ Aside0 (Below w.heap.size w wc))
       case first =>
        have H := HC12.out
        clear HC12
        by_cases c13 : x31_9 = true
        ·subst c13
         have H1 : ((spinnakerref07_abs.f a1).bind fun t285 => (spinnakerref07_Upper.j3 kj9 x9_6 t285 (!x11_6))) = some r := by rw [if_pos rfl] at H; exact H
         clear H
         have H := H1
         clear H1
         replace H := be H
         obtain ⟨t285, A14, H⟩ := H
         have H' := Aside0.mk H
         clear H
         go_wp2_with (first | ((with_reducible refine gate_callee (f := 46) rfl ?_); refine goesL_ (some 33) rfl rfl Tryd.func46 (by kernel_rfl) rfl #[.int .i64 a1] rfl ga ?_; (with_reducible refine (spinnakerref07_abs.calls a1 t285 _ A14.out).mono ?_); rintro e w' ⟨rfl, ⟨nd, rfl⟩⟩; refine ⟨_, rfl, ?_⟩))
         go_meet
         case rel => exact ⟨_, (t285), (!x11_6), fj, fj, H', ⟨by have := HJ4.out; have := HJ6.out; have := HJ9.out; first | omega | exact Nat.le_refl _⟩, ⟨bl⟩⟩
        ·replace c13 := Bool.eq_false_iff.mpr c13
         subst c13
         have H1 : (spinnakerref07_Upper.j3 kj9 x9_6 (IntKind.u64.wrap (a1)) x11_6) = some r := by rw [if_neg (show ¬ (false = true) by decide)] at H; exact H
         clear H
         have H := H1
         clear H1
         have H' := Aside0.mk H
         clear H
         go_wp2
         go_meet
         case rel => exact ⟨_, ((IntKind.u64.wrap (a1))), (x11_6), fj, fj, H', ⟨by have := HJ4.out; have := HJ6.out; have := HJ9.out; first | omega | exact Nat.le_refl _⟩, ⟨bl⟩⟩
       case rest =>
        clear HC12
        try clear c1
        try clear p2
        try clear c4
        try clear c6
        try clear c8
        try clear c11
        try clear c13
        try clear p2
        obtain ⟨kq, x10_11, x11_11, rfl, rfl, HA, HJ11, HB⟩ := hcut
        cases kq with
        | zero => exact absurd HA.out (by simp [spinnakerref07_Upper.j3])
        | succ kj11 =>
         have H := HA.out
         clear HA
         simp only [spinnakerref07_Upper.j3] at H
         replace H := be H
         obtain ⟨⟨t286, t287⟩, A15, H⟩ := H
         dsimp only at H
         by_cases c16 : x11_11 = true
         ·subst c16
          have H1 : (if t286 = 0 then (some (wrap64 (IntKind.u64.wrap ((Go.bits .xor .u64 18446744073709551615 t287) + 1)))) else (some (wrap64 (Go.bits .xor .u64 18446744073709551615 t287)))) = some r := by rw [if_pos rfl] at H; exact H
          clear H
          have H := H1
          clear H1
          by_cases c17 : t286 = 0
          ·rw [if_pos c17] at H
           obtain ⟨c17b0, c17b1⟩ := eqs c17
           clear c17
           obtain rfl := Option.some.inj H
           go_wp2_with (first | ((with_reducible refine gate_callee (f := 42) rfl ?_); refine goesL_ (some 39) rfl rfl Tryd.func42 (by kernel_rfl) rfl #[.int .u64 x9_6, .int .u64 x10_11] rfl ga ?_; (with_reducible refine (spinnakerref07_Mul.calls kj11 x9_6 x10_11 t286 t287 _ A15.out).mono ?_); rintro e w18 ⟨rfl, hb⟩; refine ⟨_, rfl, ?_⟩; have n0_ := Aside0.mk (below_step bl hb); clear HB; have HB := n0_; clear n0_; (try clear hb)))
           go_ret
           exact ⟨fi, bl⟩
          ·rw [if_neg c17] at H
           have c17b0 : (t286 == 0) = false := beq_eq_false_iff_ne.mpr c17
           have c17b1 : (t286 != 0) = true := bne_iff_ne.mpr c17
           obtain rfl := Option.some.inj H
           go_wp2_with (first | ((with_reducible refine gate_callee (f := 42) rfl ?_); refine goesL_ (some 39) rfl rfl Tryd.func42 (by kernel_rfl) rfl #[.int .u64 x9_6, .int .u64 x10_11] rfl ga ?_; (with_reducible refine (spinnakerref07_Mul.calls kj11 x9_6 x10_11 t286 t287 _ A15.out).mono ?_); rintro e w19 ⟨rfl, hb⟩; refine ⟨_, rfl, ?_⟩; have n0_ := Aside0.mk (below_step bl hb); clear HB; have HB := n0_; clear n0_; (try clear hb)))
           go_ret
           exact ⟨fi, bl⟩
         ·replace c16 := Bool.eq_false_iff.mpr c16
          subst c16
          have H1 : (some (wrap64 (t287))) = some r := by rw [if_neg (show ¬ (false = true) by decide)] at H; exact H
          clear H
          have H := H1
          clear H1
          obtain rfl := Option.some.inj H
          go_wp2_with (first | ((with_reducible refine gate_callee (f := 42) rfl ?_); refine goesL_ (some 39) rfl rfl Tryd.func42 (by kernel_rfl) rfl #[.int .u64 x9_6, .int .u64 x10_11] rfl ga ?_; (with_reducible refine (spinnakerref07_Mul.calls kj11 x9_6 x10_11 t286 t287 _ A15.out).mono ?_); rintro e w20 ⟨rfl, hb⟩; refine ⟨_, rfl, ?_⟩; have n0_ := Aside0.mk (below_step bl hb); clear HB; have HB := n0_; clear n0_; (try clear hb)))
          go_ret
          exact ⟨fi, bl⟩

/-! ### spinnakerref07_products: function 34 -/
def spinnakerref07_products.f (k : Nat) (a0 : ByteArray) (a1 : Int) (a2 : Int) : Option (Int) := (spinnakerref07_Div.f a1 a2).bind fun bt288 => ((spinnakerref07_DivU.f (IntKind.u64.wrap (a1)) (IntKind.u64.wrap (a2))).bind fun bt290 => (if a0.toList = ([109, 117, 108] : List UInt8) then ((spinnakerref07_Mul.f k (IntKind.u64.wrap (a1)) (IntKind.u64.wrap (a2))).bind fun bt292 => (some (wrap64 (bt292.1)))) else (if a0.toList = ([109, 117, 108, 104] : List UInt8) then ((spinnakerref07_Upper.f k a1 a2 true true).bind fun t294 => (some t294)) else (if a0.toList = ([109, 117, 108, 104, 115, 117] : List UInt8) then ((spinnakerref07_Upper.f k a1 a2 true false).bind fun t295 => (some t295)) else (if a0.toList = ([109, 117, 108, 104, 117] : List UInt8) then ((spinnakerref07_Upper.f k a1 a2 false false).bind fun t296 => (some t296)) else (if a0.toList = ([100, 105, 118] : List UInt8) then (some bt288.1) else (if a0.toList = ([100, 105, 118, 117] : List UInt8) then (some bt290.1) else (if a0.toList = ([114, 101, 109] : List UInt8) then (some bt288.2) else (some bt290.2)))))))))
theorem spinnakerref07_products.mono : ∀ a0 a1 a2 k, LeO (spinnakerref07_products.f k a0 a1 a2) (spinnakerref07_products.f (k + 1) a0 a1 a2) := by
 intro a0 a1 a2 k
 unfold spinnakerref07_products.f
 repeat' first | (with_reducible first | exact spinnakerref07_Mul.mono _ _ _ | exact spinnakerref07_Upper.mono _ _ _ _ _ | exact LeO.refl _ | exact LeO.none _ | refine LeO.ite ?_ ?_ | refine LeO.bind ?_ (fun _ => ?_)) | exact spinnakerref07_Mul.mono _ _ _ | exact spinnakerref07_Upper.mono _ _ _ _ _ | exact LeO.none _ | refine LeO.ite ?_ ?_ | refine LeO.bind ?_ (fun _ => ?_)
set_option maxHeartbeats 8000000 in
set_option maxRecDepth 100000 in
theorem spinnakerref07_products.calls (k : Nat) (a0 : ByteArray) (a1 : Int) (a2 : Int) (r : Int) (w : World) (h : spinnakerref07_products.f k a0 a1 a2 = some r) :
  Calls Tryd.prog 34 #[.string a0, .int .i64 a1, .int .i64 a2] w fun e w' => e = .returned (.int .i64 r) ∧ Below w.heap.size w w' := by
 have HB := Aside0.mk (Below.refl w.heap.size w)
 have H : ((spinnakerref07_Div.f a1 a2).bind fun bt288 => ((spinnakerref07_DivU.f (IntKind.u64.wrap (a1)) (IntKind.u64.wrap (a2))).bind fun bt290 => (if a0.toList = ([109, 117, 108] : List UInt8) then ((spinnakerref07_Mul.f k (IntKind.u64.wrap (a1)) (IntKind.u64.wrap (a2))).bind fun bt292 => (some (wrap64 (bt292.1)))) else (if a0.toList = ([109, 117, 108, 104] : List UInt8) then ((spinnakerref07_Upper.f k a1 a2 true true).bind fun t294 => (some t294)) else (if a0.toList = ([109, 117, 108, 104, 115, 117] : List UInt8) then ((spinnakerref07_Upper.f k a1 a2 true false).bind fun t295 => (some t295)) else (if a0.toList = ([109, 117, 108, 104, 117] : List UInt8) then ((spinnakerref07_Upper.f k a1 a2 false false).bind fun t296 => (some t296)) else (if a0.toList = ([100, 105, 118] : List UInt8) then (some bt288.1) else (if a0.toList = ([100, 105, 118, 117] : List UInt8) then (some bt290.1) else (if a0.toList = ([114, 101, 109] : List UInt8) then (some bt288.2) else (some bt290.2)))))))))) = some r := h
 clear h
 replace H := be H
 obtain ⟨⟨t288, t289⟩, A4, H⟩ := H
 dsimp only at H
 replace H := be H
 obtain ⟨⟨t290, t291⟩, A5, H⟩ := H
 dsimp only at H
 by_cases c6 : a0.toList = ([109, 117, 108] : List UInt8)
 ·rw [if_pos c6] at H
  have c6b0 : (a0.toList == ([109, 117, 108] : List UInt8)) = true := beq_iff_eq.mpr c6
  have c6b1 : (a0.toList != ([109, 117, 108] : List UInt8)) = false := bne_eq_false_iff_eq.mpr c6
  clear c6
  replace H := be H
  obtain ⟨⟨t292, t293⟩, A7, H⟩ := H
  dsimp only at H
  obtain rfl := Option.some.inj H
  go_enter Tryd.func34, Tryd.ntmps34
  go_wp2_with (first | ((with_reducible refine gate_callee (f := 39) rfl ?_); refine goesL_ (some 16) rfl rfl Tryd.func39 (by kernel_rfl) rfl #[.int .i64 a1, .int .i64 a2] rfl ga ?_; (with_reducible refine (spinnakerref07_Div.calls a1 a2 t288 t289 _ A4.out).mono ?_); rintro e w' ⟨rfl, ⟨nd, rfl⟩⟩; refine ⟨_, rfl, ?_⟩) | ((with_reducible refine gate_callee (f := 41) rfl ?_); refine goesL_ (some 24) rfl rfl Tryd.func41 (by kernel_rfl) rfl #[.int .u64 (IntKind.u64.wrap (a1)), .int .u64 (IntKind.u64.wrap (a2))] rfl ga ?_; (with_reducible refine (spinnakerref07_DivU.calls (IntKind.u64.wrap (a1)) (IntKind.u64.wrap (a2)) t290 t291 _ A5.out).mono ?_); rintro e w' ⟨rfl, ⟨nd, rfl⟩⟩; refine ⟨_, rfl, ?_⟩) | ((with_reducible refine gate_callee (f := 42) rfl ?_); refine goesL_ (some 35) rfl rfl Tryd.func42 (by kernel_rfl) rfl #[.int .u64 (IntKind.u64.wrap (a1)), .int .u64 (IntKind.u64.wrap (a2))] rfl ga ?_; (with_reducible refine (spinnakerref07_Mul.calls k (IntKind.u64.wrap (a1)) (IntKind.u64.wrap (a2)) t292 t293 _ A7.out).mono ?_); rintro e w8 ⟨rfl, hb⟩; refine ⟨_, rfl, ?_⟩; have n0_ := Aside0.mk (below_step bl hb); clear HB; have HB := n0_; clear n0_; (try clear hb)))
  go_ret
  exact ⟨fi, bl⟩
 ·rw [if_neg c6] at H
  have c6b0 : (a0.toList == ([109, 117, 108] : List UInt8)) = false := beq_eq_false_iff_ne.mpr c6
  have c6b1 : (a0.toList != ([109, 117, 108] : List UInt8)) = true := bne_iff_ne.mpr c6
  by_cases c9 : a0.toList = ([109, 117, 108, 104] : List UInt8)
  ·rw [if_pos c9] at H
   have c9b0 : (a0.toList == ([109, 117, 108, 104] : List UInt8)) = true := beq_iff_eq.mpr c9
   have c9b1 : (a0.toList != ([109, 117, 108, 104] : List UInt8)) = false := bne_eq_false_iff_eq.mpr c9
   clear c9
   replace H := be H
   obtain ⟨t294, A10, H⟩ := H
   obtain rfl := Option.some.inj H
   go_enter Tryd.func34, Tryd.ntmps34
   go_wp2_with (first | ((with_reducible refine gate_callee (f := 39) rfl ?_); refine goesL_ (some 16) rfl rfl Tryd.func39 (by kernel_rfl) rfl #[.int .i64 a1, .int .i64 a2] rfl ga ?_; (with_reducible refine (spinnakerref07_Div.calls a1 a2 t288 t289 _ A4.out).mono ?_); rintro e w' ⟨rfl, ⟨nd, rfl⟩⟩; refine ⟨_, rfl, ?_⟩) | ((with_reducible refine gate_callee (f := 41) rfl ?_); refine goesL_ (some 24) rfl rfl Tryd.func41 (by kernel_rfl) rfl #[.int .u64 (IntKind.u64.wrap (a1)), .int .u64 (IntKind.u64.wrap (a2))] rfl ga ?_; (with_reducible refine (spinnakerref07_DivU.calls (IntKind.u64.wrap (a1)) (IntKind.u64.wrap (a2)) t290 t291 _ A5.out).mono ?_); rintro e w' ⟨rfl, ⟨nd, rfl⟩⟩; refine ⟨_, rfl, ?_⟩) | ((with_reducible refine gate_callee (f := 43) rfl ?_); refine goesL_ (some 44) rfl rfl Tryd.func43 (by kernel_rfl) rfl #[.int .i64 a1, .int .i64 a2, .bool true, .bool true] rfl ga ?_; (with_reducible refine (spinnakerref07_Upper.calls k a1 a2 true true t294 _ A10.out).mono ?_); rintro e w11 ⟨rfl, hb⟩; refine ⟨_, rfl, ?_⟩; have n0_ := Aside0.mk (below_step bl hb); clear HB; have HB := n0_; clear n0_; (try clear hb)))
   go_ret
   exact ⟨fi, bl⟩
  ·rw [if_neg c9] at H
   have c9b0 : (a0.toList == ([109, 117, 108, 104] : List UInt8)) = false := beq_eq_false_iff_ne.mpr c9
   have c9b1 : (a0.toList != ([109, 117, 108, 104] : List UInt8)) = true := bne_iff_ne.mpr c9
   by_cases c12 : a0.toList = ([109, 117, 108, 104, 115, 117] : List UInt8)
   ·rw [if_pos c12] at H
    have c12b0 : (a0.toList == ([109, 117, 108, 104, 115, 117] : List UInt8)) = true := beq_iff_eq.mpr c12
    have c12b1 : (a0.toList != ([109, 117, 108, 104, 115, 117] : List UInt8)) = false := bne_eq_false_iff_eq.mpr c12
    clear c12
    replace H := be H
    obtain ⟨t295, A13, H⟩ := H
    obtain rfl := Option.some.inj H
    go_enter Tryd.func34, Tryd.ntmps34
    go_wp2_with (first | ((with_reducible refine gate_callee (f := 39) rfl ?_); refine goesL_ (some 16) rfl rfl Tryd.func39 (by kernel_rfl) rfl #[.int .i64 a1, .int .i64 a2] rfl ga ?_; (with_reducible refine (spinnakerref07_Div.calls a1 a2 t288 t289 _ A4.out).mono ?_); rintro e w' ⟨rfl, ⟨nd, rfl⟩⟩; refine ⟨_, rfl, ?_⟩) | ((with_reducible refine gate_callee (f := 41) rfl ?_); refine goesL_ (some 24) rfl rfl Tryd.func41 (by kernel_rfl) rfl #[.int .u64 (IntKind.u64.wrap (a1)), .int .u64 (IntKind.u64.wrap (a2))] rfl ga ?_; (with_reducible refine (spinnakerref07_DivU.calls (IntKind.u64.wrap (a1)) (IntKind.u64.wrap (a2)) t290 t291 _ A5.out).mono ?_); rintro e w' ⟨rfl, ⟨nd, rfl⟩⟩; refine ⟨_, rfl, ?_⟩) | ((with_reducible refine gate_callee (f := 43) rfl ?_); refine goesL_ (some 49) rfl rfl Tryd.func43 (by kernel_rfl) rfl #[.int .i64 a1, .int .i64 a2, .bool true, .bool false] rfl ga ?_; (with_reducible refine (spinnakerref07_Upper.calls k a1 a2 true false t295 _ A13.out).mono ?_); rintro e w14 ⟨rfl, hb⟩; refine ⟨_, rfl, ?_⟩; have n0_ := Aside0.mk (below_step bl hb); clear HB; have HB := n0_; clear n0_; (try clear hb)))
    go_ret
    exact ⟨fi, bl⟩
   ·rw [if_neg c12] at H
    have c12b0 : (a0.toList == ([109, 117, 108, 104, 115, 117] : List UInt8)) = false := beq_eq_false_iff_ne.mpr c12
    have c12b1 : (a0.toList != ([109, 117, 108, 104, 115, 117] : List UInt8)) = true := bne_iff_ne.mpr c12
    by_cases c15 : a0.toList = ([109, 117, 108, 104, 117] : List UInt8)
    ·rw [if_pos c15] at H
     have c15b0 : (a0.toList == ([109, 117, 108, 104, 117] : List UInt8)) = true := beq_iff_eq.mpr c15
     have c15b1 : (a0.toList != ([109, 117, 108, 104, 117] : List UInt8)) = false := bne_eq_false_iff_eq.mpr c15
     clear c15
     replace H := be H
     obtain ⟨t296, A16, H⟩ := H
     obtain rfl := Option.some.inj H
     go_enter Tryd.func34, Tryd.ntmps34
     go_wp2_with (first | ((with_reducible refine gate_callee (f := 39) rfl ?_); refine goesL_ (some 16) rfl rfl Tryd.func39 (by kernel_rfl) rfl #[.int .i64 a1, .int .i64 a2] rfl ga ?_; (with_reducible refine (spinnakerref07_Div.calls a1 a2 t288 t289 _ A4.out).mono ?_); rintro e w' ⟨rfl, ⟨nd, rfl⟩⟩; refine ⟨_, rfl, ?_⟩) | ((with_reducible refine gate_callee (f := 41) rfl ?_); refine goesL_ (some 24) rfl rfl Tryd.func41 (by kernel_rfl) rfl #[.int .u64 (IntKind.u64.wrap (a1)), .int .u64 (IntKind.u64.wrap (a2))] rfl ga ?_; (with_reducible refine (spinnakerref07_DivU.calls (IntKind.u64.wrap (a1)) (IntKind.u64.wrap (a2)) t290 t291 _ A5.out).mono ?_); rintro e w' ⟨rfl, ⟨nd, rfl⟩⟩; refine ⟨_, rfl, ?_⟩) | ((with_reducible refine gate_callee (f := 43) rfl ?_); refine goesL_ (some 54) rfl rfl Tryd.func43 (by kernel_rfl) rfl #[.int .i64 a1, .int .i64 a2, .bool false, .bool false] rfl ga ?_; (with_reducible refine (spinnakerref07_Upper.calls k a1 a2 false false t296 _ A16.out).mono ?_); rintro e w17 ⟨rfl, hb⟩; refine ⟨_, rfl, ?_⟩; have n0_ := Aside0.mk (below_step bl hb); clear HB; have HB := n0_; clear n0_; (try clear hb)))
     go_ret
     exact ⟨fi, bl⟩
    ·rw [if_neg c15] at H
     have c15b0 : (a0.toList == ([109, 117, 108, 104, 117] : List UInt8)) = false := beq_eq_false_iff_ne.mpr c15
     have c15b1 : (a0.toList != ([109, 117, 108, 104, 117] : List UInt8)) = true := bne_iff_ne.mpr c15
     by_cases c18 : a0.toList = ([100, 105, 118] : List UInt8)
     ·rw [if_pos c18] at H
      have c18b0 : (a0.toList == ([100, 105, 118] : List UInt8)) = true := beq_iff_eq.mpr c18
      have c18b1 : (a0.toList != ([100, 105, 118] : List UInt8)) = false := bne_eq_false_iff_eq.mpr c18
      clear c18
      obtain rfl := Option.some.inj H
      go_enter Tryd.func34, Tryd.ntmps34
      go_wp2_with (first | ((with_reducible refine gate_callee (f := 39) rfl ?_); refine goesL_ (some 16) rfl rfl Tryd.func39 (by kernel_rfl) rfl #[.int .i64 a1, .int .i64 a2] rfl ga ?_; (with_reducible refine (spinnakerref07_Div.calls a1 a2 t288 t289 _ A4.out).mono ?_); rintro e w' ⟨rfl, ⟨nd, rfl⟩⟩; refine ⟨_, rfl, ?_⟩) | ((with_reducible refine gate_callee (f := 41) rfl ?_); refine goesL_ (some 24) rfl rfl Tryd.func41 (by kernel_rfl) rfl #[.int .u64 (IntKind.u64.wrap (a1)), .int .u64 (IntKind.u64.wrap (a2))] rfl ga ?_; (with_reducible refine (spinnakerref07_DivU.calls (IntKind.u64.wrap (a1)) (IntKind.u64.wrap (a2)) t290 t291 _ A5.out).mono ?_); rintro e w' ⟨rfl, ⟨nd, rfl⟩⟩; refine ⟨_, rfl, ?_⟩))
      go_ret
      exact ⟨fi, bl⟩
     ·rw [if_neg c18] at H
      have c18b0 : (a0.toList == ([100, 105, 118] : List UInt8)) = false := beq_eq_false_iff_ne.mpr c18
      have c18b1 : (a0.toList != ([100, 105, 118] : List UInt8)) = true := bne_iff_ne.mpr c18
      by_cases c19 : a0.toList = ([100, 105, 118, 117] : List UInt8)
      ·rw [if_pos c19] at H
       have c19b0 : (a0.toList == ([100, 105, 118, 117] : List UInt8)) = true := beq_iff_eq.mpr c19
       have c19b1 : (a0.toList != ([100, 105, 118, 117] : List UInt8)) = false := bne_eq_false_iff_eq.mpr c19
       clear c19
       obtain rfl := Option.some.inj H
       go_enter Tryd.func34, Tryd.ntmps34
       go_wp2_with (first | ((with_reducible refine gate_callee (f := 39) rfl ?_); refine goesL_ (some 16) rfl rfl Tryd.func39 (by kernel_rfl) rfl #[.int .i64 a1, .int .i64 a2] rfl ga ?_; (with_reducible refine (spinnakerref07_Div.calls a1 a2 t288 t289 _ A4.out).mono ?_); rintro e w' ⟨rfl, ⟨nd, rfl⟩⟩; refine ⟨_, rfl, ?_⟩) | ((with_reducible refine gate_callee (f := 41) rfl ?_); refine goesL_ (some 24) rfl rfl Tryd.func41 (by kernel_rfl) rfl #[.int .u64 (IntKind.u64.wrap (a1)), .int .u64 (IntKind.u64.wrap (a2))] rfl ga ?_; (with_reducible refine (spinnakerref07_DivU.calls (IntKind.u64.wrap (a1)) (IntKind.u64.wrap (a2)) t290 t291 _ A5.out).mono ?_); rintro e w' ⟨rfl, ⟨nd, rfl⟩⟩; refine ⟨_, rfl, ?_⟩))
       go_ret
       exact ⟨fi, bl⟩
      ·rw [if_neg c19] at H
       have c19b0 : (a0.toList == ([100, 105, 118, 117] : List UInt8)) = false := beq_eq_false_iff_ne.mpr c19
       have c19b1 : (a0.toList != ([100, 105, 118, 117] : List UInt8)) = true := bne_iff_ne.mpr c19
       by_cases c20 : a0.toList = ([114, 101, 109] : List UInt8)
       ·rw [if_pos c20] at H
        have c20b0 : (a0.toList == ([114, 101, 109] : List UInt8)) = true := beq_iff_eq.mpr c20
        have c20b1 : (a0.toList != ([114, 101, 109] : List UInt8)) = false := bne_eq_false_iff_eq.mpr c20
        clear c20
        obtain rfl := Option.some.inj H
        go_enter Tryd.func34, Tryd.ntmps34
        go_wp2_with (first | ((with_reducible refine gate_callee (f := 39) rfl ?_); refine goesL_ (some 16) rfl rfl Tryd.func39 (by kernel_rfl) rfl #[.int .i64 a1, .int .i64 a2] rfl ga ?_; (with_reducible refine (spinnakerref07_Div.calls a1 a2 t288 t289 _ A4.out).mono ?_); rintro e w' ⟨rfl, ⟨nd, rfl⟩⟩; refine ⟨_, rfl, ?_⟩) | ((with_reducible refine gate_callee (f := 41) rfl ?_); refine goesL_ (some 24) rfl rfl Tryd.func41 (by kernel_rfl) rfl #[.int .u64 (IntKind.u64.wrap (a1)), .int .u64 (IntKind.u64.wrap (a2))] rfl ga ?_; (with_reducible refine (spinnakerref07_DivU.calls (IntKind.u64.wrap (a1)) (IntKind.u64.wrap (a2)) t290 t291 _ A5.out).mono ?_); rintro e w' ⟨rfl, ⟨nd, rfl⟩⟩; refine ⟨_, rfl, ?_⟩))
        go_ret
        exact ⟨fi, bl⟩
       ·rw [if_neg c20] at H
        have c20b0 : (a0.toList == ([114, 101, 109] : List UInt8)) = false := beq_eq_false_iff_ne.mpr c20
        have c20b1 : (a0.toList != ([114, 101, 109] : List UInt8)) = true := bne_iff_ne.mpr c20
        obtain rfl := Option.some.inj H
        go_enter Tryd.func34, Tryd.ntmps34
        go_wp2_with (first | ((with_reducible refine gate_callee (f := 39) rfl ?_); refine goesL_ (some 16) rfl rfl Tryd.func39 (by kernel_rfl) rfl #[.int .i64 a1, .int .i64 a2] rfl ga ?_; (with_reducible refine (spinnakerref07_Div.calls a1 a2 t288 t289 _ A4.out).mono ?_); rintro e w' ⟨rfl, ⟨nd, rfl⟩⟩; refine ⟨_, rfl, ?_⟩) | ((with_reducible refine gate_callee (f := 41) rfl ?_); refine goesL_ (some 24) rfl rfl Tryd.func41 (by kernel_rfl) rfl #[.int .u64 (IntKind.u64.wrap (a1)), .int .u64 (IntKind.u64.wrap (a2))] rfl ga ?_; (with_reducible refine (spinnakerref07_DivU.calls (IntKind.u64.wrap (a1)) (IntKind.u64.wrap (a2)) t290 t291 _ A5.out).mono ?_); rintro e w' ⟨rfl, ⟨nd, rfl⟩⟩; refine ⟨_, rfl, ?_⟩))
        go_ret
        exact ⟨fi, bl⟩

/-! ### spinnakerref07_Eval: function 20 -/
def spinnakerref07_Eval.f (k : Nat) (a0 : Int) (a1 : Int) (a2 : Int) : Option (Int) := (spinnakerref03_Name.f a0).bind fun t297 => ((spinnakerref07_base.f k t297).bind fun t298 => (if t298.toList = ([97, 100, 100] : List UInt8) then (some (wrap64 (a1 + a2))) else (if t298.toList = ([115, 117, 98] : List UInt8) then (some (wrap64 (a1 - a2))) else (if t298.toList = ([115, 108, 108] : List UInt8) then ((spinnakerref07_moved.f k a1 (wrap64 (Int.tmod (IntKind.u64.wrap (a2)) 64)) true 0 64).bind fun t299 => (some t299)) else (if t298.toList = ([115, 108, 116] : List UInt8) then ((spinnakerref07_one.f (decide (a1 < a2))).bind fun t300 => (some t300)) else (if t298.toList = ([115, 108, 116, 117] : List UInt8) then ((spinnakerref07_one.f (decide ((IntKind.u64.wrap (a1)) < (IntKind.u64.wrap (a2))))).bind fun t301 => (some t301)) else (if t298.toList = ([120, 111, 114] : List UInt8) then (some (Go.bits .xor .i64 a1 a2)) else (if t298.toList = ([115, 114, 108] : List UInt8) then ((spinnakerref07_moved.f k a1 (wrap64 (Int.tmod (IntKind.u64.wrap (a2)) 64)) false 0 64).bind fun t302 => (some t302)) else (if t298.toList = ([115, 114, 97] : List UInt8) then ((spinnakerref01_Bit.f k (IntKind.u64.wrap (a1)) 63).bind fun t303 => ((spinnakerref07_moved.f k a1 (wrap64 (Int.tmod (IntKind.u64.wrap (a2)) 64)) false t303 64).bind fun t304 => (some t304))) else (if t298.toList = ([111, 114] : List UInt8) then (some (Go.bits .or .i64 a1 a2)) else (if t298.toList = ([97, 110, 100] : List UInt8) then (some (Go.bits .and .i64 a1 a2)) else (if 0 ≤ (wrap64 ((t298.size : Int) - 1)) then (if (wrap64 ((t298.size : Int) - 1)) < (t298.size : Int) then (if (bt t298 (wrap64 ((t298.size : Int) - 1))) = 119 then ((spinnakerref07_shorts.f k t298 a1 a2).bind fun t305 => (some t305)) else ((spinnakerref07_products.f k t298 a1 a2).bind fun t306 => (some t306))) else (none)) else (none)))))))))))))
theorem spinnakerref07_Eval.mono : ∀ a0 a1 a2 k, LeO (spinnakerref07_Eval.f k a0 a1 a2) (spinnakerref07_Eval.f (k + 1) a0 a1 a2) := by
 intro a0 a1 a2 k
 unfold spinnakerref07_Eval.f
 repeat' first | (with_reducible first | exact spinnakerref01_Bit.mono _ _ _ | exact spinnakerref07_base.mono _ _ | exact spinnakerref07_moved.mono _ _ _ _ _ _ | exact spinnakerref07_products.mono _ _ _ _ | exact spinnakerref07_shorts.mono _ _ _ _ | exact LeO.refl _ | exact LeO.none _ | refine LeO.ite ?_ ?_ | refine LeO.bind ?_ (fun _ => ?_)) | exact spinnakerref01_Bit.mono _ _ _ | exact spinnakerref07_base.mono _ _ | exact spinnakerref07_moved.mono _ _ _ _ _ _ | exact spinnakerref07_products.mono _ _ _ _ | exact spinnakerref07_shorts.mono _ _ _ _ | exact LeO.none _ | refine LeO.ite ?_ ?_ | refine LeO.bind ?_ (fun _ => ?_)
set_option maxHeartbeats 8000000 in
set_option maxRecDepth 100000 in
theorem spinnakerref07_Eval.calls (k : Nat) (a0 : Int) (a1 : Int) (a2 : Int) (r : Int) (w : World) (h : spinnakerref07_Eval.f k a0 a1 a2 = some r) :
  Calls Tryd.prog 20 #[.int .i64 a0, .int .i64 a1, .int .i64 a2] w fun e w' => e = .returned (.int .i64 r) ∧ Below w.heap.size w w' := by
 have HB := Aside0.mk (Below.refl w.heap.size w)
 have H : ((spinnakerref03_Name.f a0).bind fun t297 => ((spinnakerref07_base.f k t297).bind fun t298 => (if t298.toList = ([97, 100, 100] : List UInt8) then (some (wrap64 (a1 + a2))) else (if t298.toList = ([115, 117, 98] : List UInt8) then (some (wrap64 (a1 - a2))) else (if t298.toList = ([115, 108, 108] : List UInt8) then ((spinnakerref07_moved.f k a1 (wrap64 (Int.tmod (IntKind.u64.wrap (a2)) 64)) true 0 64).bind fun t299 => (some t299)) else (if t298.toList = ([115, 108, 116] : List UInt8) then ((spinnakerref07_one.f (decide (a1 < a2))).bind fun t300 => (some t300)) else (if t298.toList = ([115, 108, 116, 117] : List UInt8) then ((spinnakerref07_one.f (decide ((IntKind.u64.wrap (a1)) < (IntKind.u64.wrap (a2))))).bind fun t301 => (some t301)) else (if t298.toList = ([120, 111, 114] : List UInt8) then (some (Go.bits .xor .i64 a1 a2)) else (if t298.toList = ([115, 114, 108] : List UInt8) then ((spinnakerref07_moved.f k a1 (wrap64 (Int.tmod (IntKind.u64.wrap (a2)) 64)) false 0 64).bind fun t302 => (some t302)) else (if t298.toList = ([115, 114, 97] : List UInt8) then ((spinnakerref01_Bit.f k (IntKind.u64.wrap (a1)) 63).bind fun t303 => ((spinnakerref07_moved.f k a1 (wrap64 (Int.tmod (IntKind.u64.wrap (a2)) 64)) false t303 64).bind fun t304 => (some t304))) else (if t298.toList = ([111, 114] : List UInt8) then (some (Go.bits .or .i64 a1 a2)) else (if t298.toList = ([97, 110, 100] : List UInt8) then (some (Go.bits .and .i64 a1 a2)) else (if 0 ≤ (wrap64 ((t298.size : Int) - 1)) then (if (wrap64 ((t298.size : Int) - 1)) < (t298.size : Int) then (if (bt t298 (wrap64 ((t298.size : Int) - 1))) = 119 then ((spinnakerref07_shorts.f k t298 a1 a2).bind fun t305 => (some t305)) else ((spinnakerref07_products.f k t298 a1 a2).bind fun t306 => (some t306))) else (none)) else (none)))))))))))))) = some r := h
 clear h
 replace H := be H
 obtain ⟨t297, A4, H⟩ := H
 replace H := be H
 obtain ⟨t298, A5, H⟩ := H
 by_cases c6 : t298.toList = ([97, 100, 100] : List UInt8)
 ·rw [if_pos c6] at H
  have c6b0 : (t298.toList == ([97, 100, 100] : List UInt8)) = true := beq_iff_eq.mpr c6
  have c6b1 : (t298.toList != ([97, 100, 100] : List UInt8)) = false := bne_eq_false_iff_eq.mpr c6
  clear c6
  obtain rfl := Option.some.inj H
  go_enter Tryd.func20, Tryd.ntmps20
  go_wp2_with (first | ((with_reducible refine gate_callee (f := 30) rfl ?_); refine goesL_ (some 10) rfl rfl Tryd.func30 (by kernel_rfl) rfl #[.int .i64 a0] rfl ga ?_; (with_reducible refine (spinnakerref03_Name.calls a0 t297 _ A4.out).mono ?_); rintro e w7 ⟨rfl, hb⟩; refine ⟨_, rfl, ?_⟩; have n0_ := Aside0.mk (below_step bl hb); clear HB; have HB := n0_; clear n0_; (try clear hb)) | ((with_reducible refine gate_callee (f := 29) rfl ?_); refine goesL_ (some 11) rfl rfl Tryd.func29 (by kernel_rfl) rfl #[.string t297] rfl ga ?_; (with_reducible refine (spinnakerref07_base.calls k t297 t298 _ A5.out).mono ?_); rintro e w' ⟨rfl, ⟨nd, rfl⟩⟩; refine ⟨_, rfl, ?_⟩))
  go_ret
  exact ⟨fi, bl⟩
 ·rw [if_neg c6] at H
  have c6b0 : (t298.toList == ([97, 100, 100] : List UInt8)) = false := beq_eq_false_iff_ne.mpr c6
  have c6b1 : (t298.toList != ([97, 100, 100] : List UInt8)) = true := bne_iff_ne.mpr c6
  by_cases c8 : t298.toList = ([115, 117, 98] : List UInt8)
  ·rw [if_pos c8] at H
   have c8b0 : (t298.toList == ([115, 117, 98] : List UInt8)) = true := beq_iff_eq.mpr c8
   have c8b1 : (t298.toList != ([115, 117, 98] : List UInt8)) = false := bne_eq_false_iff_eq.mpr c8
   clear c8
   obtain rfl := Option.some.inj H
   go_enter Tryd.func20, Tryd.ntmps20
   go_wp2_with (first | ((with_reducible refine gate_callee (f := 30) rfl ?_); refine goesL_ (some 10) rfl rfl Tryd.func30 (by kernel_rfl) rfl #[.int .i64 a0] rfl ga ?_; (with_reducible refine (spinnakerref03_Name.calls a0 t297 _ A4.out).mono ?_); rintro e w9 ⟨rfl, hb⟩; refine ⟨_, rfl, ?_⟩; have n0_ := Aside0.mk (below_step bl hb); clear HB; have HB := n0_; clear n0_; (try clear hb)) | ((with_reducible refine gate_callee (f := 29) rfl ?_); refine goesL_ (some 11) rfl rfl Tryd.func29 (by kernel_rfl) rfl #[.string t297] rfl ga ?_; (with_reducible refine (spinnakerref07_base.calls k t297 t298 _ A5.out).mono ?_); rintro e w' ⟨rfl, ⟨nd, rfl⟩⟩; refine ⟨_, rfl, ?_⟩))
   go_ret
   exact ⟨fi, bl⟩
  ·rw [if_neg c8] at H
   have c8b0 : (t298.toList == ([115, 117, 98] : List UInt8)) = false := beq_eq_false_iff_ne.mpr c8
   have c8b1 : (t298.toList != ([115, 117, 98] : List UInt8)) = true := bne_iff_ne.mpr c8
   by_cases c10 : t298.toList = ([115, 108, 108] : List UInt8)
   ·rw [if_pos c10] at H
    have c10b0 : (t298.toList == ([115, 108, 108] : List UInt8)) = true := beq_iff_eq.mpr c10
    have c10b1 : (t298.toList != ([115, 108, 108] : List UInt8)) = false := bne_eq_false_iff_eq.mpr c10
    clear c10
    replace H := be H
    obtain ⟨t299, A11, H⟩ := H
    obtain rfl := Option.some.inj H
    go_enter Tryd.func20, Tryd.ntmps20
    go_wp2_with (first | ((with_reducible refine gate_callee (f := 30) rfl ?_); refine goesL_ (some 10) rfl rfl Tryd.func30 (by kernel_rfl) rfl #[.int .i64 a0] rfl ga ?_; (with_reducible refine (spinnakerref03_Name.calls a0 t297 _ A4.out).mono ?_); rintro e w12 ⟨rfl, hb⟩; refine ⟨_, rfl, ?_⟩; have n0_ := Aside0.mk (below_step bl hb); clear HB; have HB := n0_; clear n0_; (try clear hb)) | ((with_reducible refine gate_callee (f := 29) rfl ?_); refine goesL_ (some 11) rfl rfl Tryd.func29 (by kernel_rfl) rfl #[.string t297] rfl ga ?_; (with_reducible refine (spinnakerref07_base.calls k t297 t298 _ A5.out).mono ?_); rintro e w' ⟨rfl, ⟨nd, rfl⟩⟩; refine ⟨_, rfl, ?_⟩) | ((with_reducible refine gate_callee (f := 31) rfl ?_); refine goesL_ (some 31) rfl rfl Tryd.func31 (by kernel_rfl) rfl #[.int .i64 a1, .int .i64 (wrap64 (Int.tmod (IntKind.u64.wrap (a2)) 64)), .bool true, .int .i64 0, .int .i64 64] rfl ga ?_; (with_reducible refine (spinnakerref07_moved.calls k a1 (wrap64 (Int.tmod (IntKind.u64.wrap (a2)) 64)) true 0 64 t299 _ A11.out).mono ?_); rintro e w13 ⟨rfl, hb⟩; refine ⟨_, rfl, ?_⟩; have n0_ := Aside0.mk (below_step bl hb); clear HB; have HB := n0_; clear n0_; (try clear hb)))
    go_ret
    exact ⟨fi, bl⟩
   ·rw [if_neg c10] at H
    have c10b0 : (t298.toList == ([115, 108, 108] : List UInt8)) = false := beq_eq_false_iff_ne.mpr c10
    have c10b1 : (t298.toList != ([115, 108, 108] : List UInt8)) = true := bne_iff_ne.mpr c10
    by_cases c14 : t298.toList = ([115, 108, 116] : List UInt8)
    ·rw [if_pos c14] at H
     have c14b0 : (t298.toList == ([115, 108, 116] : List UInt8)) = true := beq_iff_eq.mpr c14
     have c14b1 : (t298.toList != ([115, 108, 116] : List UInt8)) = false := bne_eq_false_iff_eq.mpr c14
     clear c14
     replace H := be H
     obtain ⟨t300, A15, H⟩ := H
     obtain rfl := Option.some.inj H
     go_enter Tryd.func20, Tryd.ntmps20
     go_wp2_with (first | ((with_reducible refine gate_callee (f := 30) rfl ?_); refine goesL_ (some 10) rfl rfl Tryd.func30 (by kernel_rfl) rfl #[.int .i64 a0] rfl ga ?_; (with_reducible refine (spinnakerref03_Name.calls a0 t297 _ A4.out).mono ?_); rintro e w16 ⟨rfl, hb⟩; refine ⟨_, rfl, ?_⟩; have n0_ := Aside0.mk (below_step bl hb); clear HB; have HB := n0_; clear n0_; (try clear hb)) | ((with_reducible refine gate_callee (f := 29) rfl ?_); refine goesL_ (some 11) rfl rfl Tryd.func29 (by kernel_rfl) rfl #[.string t297] rfl ga ?_; (with_reducible refine (spinnakerref07_base.calls k t297 t298 _ A5.out).mono ?_); rintro e w' ⟨rfl, ⟨nd, rfl⟩⟩; refine ⟨_, rfl, ?_⟩) | ((with_reducible refine gate_callee (f := 32) rfl ?_); refine goesL_ (some 37) rfl rfl Tryd.func32 (by kernel_rfl) rfl #[.bool (decide (a1 < a2))] rfl ga ?_; (with_reducible refine (spinnakerref07_one.calls (decide (a1 < a2)) t300 _ A15.out).mono ?_); rintro e w' ⟨rfl, ⟨nd, rfl⟩⟩; refine ⟨_, rfl, ?_⟩))
     go_ret
     exact ⟨fi, bl⟩
    ·rw [if_neg c14] at H
     have c14b0 : (t298.toList == ([115, 108, 116] : List UInt8)) = false := beq_eq_false_iff_ne.mpr c14
     have c14b1 : (t298.toList != ([115, 108, 116] : List UInt8)) = true := bne_iff_ne.mpr c14
     by_cases c17 : t298.toList = ([115, 108, 116, 117] : List UInt8)
     ·rw [if_pos c17] at H
      have c17b0 : (t298.toList == ([115, 108, 116, 117] : List UInt8)) = true := beq_iff_eq.mpr c17
      have c17b1 : (t298.toList != ([115, 108, 116, 117] : List UInt8)) = false := bne_eq_false_iff_eq.mpr c17
      clear c17
      replace H := be H
      obtain ⟨t301, A18, H⟩ := H
      obtain rfl := Option.some.inj H
      go_enter Tryd.func20, Tryd.ntmps20
      go_wp2_with (first | ((with_reducible refine gate_callee (f := 30) rfl ?_); refine goesL_ (some 10) rfl rfl Tryd.func30 (by kernel_rfl) rfl #[.int .i64 a0] rfl ga ?_; (with_reducible refine (spinnakerref03_Name.calls a0 t297 _ A4.out).mono ?_); rintro e w19 ⟨rfl, hb⟩; refine ⟨_, rfl, ?_⟩; have n0_ := Aside0.mk (below_step bl hb); clear HB; have HB := n0_; clear n0_; (try clear hb)) | ((with_reducible refine gate_callee (f := 29) rfl ?_); refine goesL_ (some 11) rfl rfl Tryd.func29 (by kernel_rfl) rfl #[.string t297] rfl ga ?_; (with_reducible refine (spinnakerref07_base.calls k t297 t298 _ A5.out).mono ?_); rintro e w' ⟨rfl, ⟨nd, rfl⟩⟩; refine ⟨_, rfl, ?_⟩) | ((with_reducible refine gate_callee (f := 32) rfl ?_); refine goesL_ (some 45) rfl rfl Tryd.func32 (by kernel_rfl) rfl #[.bool (decide ((IntKind.u64.wrap (a1)) < (IntKind.u64.wrap (a2))))] rfl ga ?_; (with_reducible refine (spinnakerref07_one.calls (decide ((IntKind.u64.wrap (a1)) < (IntKind.u64.wrap (a2)))) t301 _ A18.out).mono ?_); rintro e w' ⟨rfl, ⟨nd, rfl⟩⟩; refine ⟨_, rfl, ?_⟩))
      go_ret
      exact ⟨fi, bl⟩
     ·rw [if_neg c17] at H
      have c17b0 : (t298.toList == ([115, 108, 116, 117] : List UInt8)) = false := beq_eq_false_iff_ne.mpr c17
      have c17b1 : (t298.toList != ([115, 108, 116, 117] : List UInt8)) = true := bne_iff_ne.mpr c17
      by_cases c20 : t298.toList = ([120, 111, 114] : List UInt8)
      ·rw [if_pos c20] at H
       have c20b0 : (t298.toList == ([120, 111, 114] : List UInt8)) = true := beq_iff_eq.mpr c20
       have c20b1 : (t298.toList != ([120, 111, 114] : List UInt8)) = false := bne_eq_false_iff_eq.mpr c20
       clear c20
       obtain rfl := Option.some.inj H
       go_enter Tryd.func20, Tryd.ntmps20
       go_wp2_with (first | ((with_reducible refine gate_callee (f := 30) rfl ?_); refine goesL_ (some 10) rfl rfl Tryd.func30 (by kernel_rfl) rfl #[.int .i64 a0] rfl ga ?_; (with_reducible refine (spinnakerref03_Name.calls a0 t297 _ A4.out).mono ?_); rintro e w21 ⟨rfl, hb⟩; refine ⟨_, rfl, ?_⟩; have n0_ := Aside0.mk (below_step bl hb); clear HB; have HB := n0_; clear n0_; (try clear hb)) | ((with_reducible refine gate_callee (f := 29) rfl ?_); refine goesL_ (some 11) rfl rfl Tryd.func29 (by kernel_rfl) rfl #[.string t297] rfl ga ?_; (with_reducible refine (spinnakerref07_base.calls k t297 t298 _ A5.out).mono ?_); rintro e w' ⟨rfl, ⟨nd, rfl⟩⟩; refine ⟨_, rfl, ?_⟩))
       go_ret
       exact ⟨fi, bl⟩
      ·rw [if_neg c20] at H
       have c20b0 : (t298.toList == ([120, 111, 114] : List UInt8)) = false := beq_eq_false_iff_ne.mpr c20
       have c20b1 : (t298.toList != ([120, 111, 114] : List UInt8)) = true := bne_iff_ne.mpr c20
       by_cases c22 : t298.toList = ([115, 114, 108] : List UInt8)
       ·rw [if_pos c22] at H
        have c22b0 : (t298.toList == ([115, 114, 108] : List UInt8)) = true := beq_iff_eq.mpr c22
        have c22b1 : (t298.toList != ([115, 114, 108] : List UInt8)) = false := bne_eq_false_iff_eq.mpr c22
        clear c22
        replace H := be H
        obtain ⟨t302, A23, H⟩ := H
        obtain rfl := Option.some.inj H
        go_enter Tryd.func20, Tryd.ntmps20
        go_wp2_with (first | ((with_reducible refine gate_callee (f := 30) rfl ?_); refine goesL_ (some 10) rfl rfl Tryd.func30 (by kernel_rfl) rfl #[.int .i64 a0] rfl ga ?_; (with_reducible refine (spinnakerref03_Name.calls a0 t297 _ A4.out).mono ?_); rintro e w24 ⟨rfl, hb⟩; refine ⟨_, rfl, ?_⟩; have n0_ := Aside0.mk (below_step bl hb); clear HB; have HB := n0_; clear n0_; (try clear hb)) | ((with_reducible refine gate_callee (f := 29) rfl ?_); refine goesL_ (some 11) rfl rfl Tryd.func29 (by kernel_rfl) rfl #[.string t297] rfl ga ?_; (with_reducible refine (spinnakerref07_base.calls k t297 t298 _ A5.out).mono ?_); rintro e w' ⟨rfl, ⟨nd, rfl⟩⟩; refine ⟨_, rfl, ?_⟩) | ((with_reducible refine gate_callee (f := 31) rfl ?_); refine goesL_ (some 55) rfl rfl Tryd.func31 (by kernel_rfl) rfl #[.int .i64 a1, .int .i64 (wrap64 (Int.tmod (IntKind.u64.wrap (a2)) 64)), .bool false, .int .i64 0, .int .i64 64] rfl ga ?_; (with_reducible refine (spinnakerref07_moved.calls k a1 (wrap64 (Int.tmod (IntKind.u64.wrap (a2)) 64)) false 0 64 t302 _ A23.out).mono ?_); rintro e w25 ⟨rfl, hb⟩; refine ⟨_, rfl, ?_⟩; have n0_ := Aside0.mk (below_step bl hb); clear HB; have HB := n0_; clear n0_; (try clear hb)))
        go_ret
        exact ⟨fi, bl⟩
       ·rw [if_neg c22] at H
        have c22b0 : (t298.toList == ([115, 114, 108] : List UInt8)) = false := beq_eq_false_iff_ne.mpr c22
        have c22b1 : (t298.toList != ([115, 114, 108] : List UInt8)) = true := bne_iff_ne.mpr c22
        by_cases c26 : t298.toList = ([115, 114, 97] : List UInt8)
        ·rw [if_pos c26] at H
         have c26b0 : (t298.toList == ([115, 114, 97] : List UInt8)) = true := beq_iff_eq.mpr c26
         have c26b1 : (t298.toList != ([115, 114, 97] : List UInt8)) = false := bne_eq_false_iff_eq.mpr c26
         clear c26
         replace H := be H
         obtain ⟨t303, A27, H⟩ := H
         replace H := be H
         obtain ⟨t304, A28, H⟩ := H
         obtain rfl := Option.some.inj H
         go_enter Tryd.func20, Tryd.ntmps20
         go_wp2_with (first | ((with_reducible refine gate_callee (f := 30) rfl ?_); refine goesL_ (some 10) rfl rfl Tryd.func30 (by kernel_rfl) rfl #[.int .i64 a0] rfl ga ?_; (with_reducible refine (spinnakerref03_Name.calls a0 t297 _ A4.out).mono ?_); rintro e w29 ⟨rfl, hb⟩; refine ⟨_, rfl, ?_⟩; have n0_ := Aside0.mk (below_step bl hb); clear HB; have HB := n0_; clear n0_; (try clear hb)) | ((with_reducible refine gate_callee (f := 29) rfl ?_); refine goesL_ (some 11) rfl rfl Tryd.func29 (by kernel_rfl) rfl #[.string t297] rfl ga ?_; (with_reducible refine (spinnakerref07_base.calls k t297 t298 _ A5.out).mono ?_); rintro e w' ⟨rfl, ⟨nd, rfl⟩⟩; refine ⟨_, rfl, ?_⟩) | ((with_reducible refine gate_callee (f := 28) rfl ?_); refine goesL_ (some 62) rfl rfl Tryd.func28 (by kernel_rfl) rfl #[.int .u64 (IntKind.u64.wrap (a1)), .int .i64 63] rfl ga ?_; (with_reducible refine (spinnakerref01_Bit.calls k (IntKind.u64.wrap (a1)) 63 t303 _ A27.out).mono ?_); rintro e w' ⟨rfl, ⟨nd, rfl⟩⟩; refine ⟨_, rfl, ?_⟩) | ((with_reducible refine gate_callee (f := 31) rfl ?_); refine goesL_ (some 63) rfl rfl Tryd.func31 (by kernel_rfl) rfl #[.int .i64 a1, .int .i64 (wrap64 (Int.tmod (IntKind.u64.wrap (a2)) 64)), .bool false, .int .i64 t303, .int .i64 64] rfl ga ?_; (with_reducible refine (spinnakerref07_moved.calls k a1 (wrap64 (Int.tmod (IntKind.u64.wrap (a2)) 64)) false t303 64 t304 _ A28.out).mono ?_); rintro e w30 ⟨rfl, hb⟩; refine ⟨_, rfl, ?_⟩; have n0_ := Aside0.mk (below_step bl hb); clear HB; have HB := n0_; clear n0_; (try clear hb)))
         go_ret
         exact ⟨fi, bl⟩
        ·rw [if_neg c26] at H
         have c26b0 : (t298.toList == ([115, 114, 97] : List UInt8)) = false := beq_eq_false_iff_ne.mpr c26
         have c26b1 : (t298.toList != ([115, 114, 97] : List UInt8)) = true := bne_iff_ne.mpr c26
         by_cases c31 : t298.toList = ([111, 114] : List UInt8)
         ·rw [if_pos c31] at H
          have c31b0 : (t298.toList == ([111, 114] : List UInt8)) = true := beq_iff_eq.mpr c31
          have c31b1 : (t298.toList != ([111, 114] : List UInt8)) = false := bne_eq_false_iff_eq.mpr c31
          clear c31
          obtain rfl := Option.some.inj H
          go_enter Tryd.func20, Tryd.ntmps20
          go_wp2_with (first | ((with_reducible refine gate_callee (f := 30) rfl ?_); refine goesL_ (some 10) rfl rfl Tryd.func30 (by kernel_rfl) rfl #[.int .i64 a0] rfl ga ?_; (with_reducible refine (spinnakerref03_Name.calls a0 t297 _ A4.out).mono ?_); rintro e w32 ⟨rfl, hb⟩; refine ⟨_, rfl, ?_⟩; have n0_ := Aside0.mk (below_step bl hb); clear HB; have HB := n0_; clear n0_; (try clear hb)) | ((with_reducible refine gate_callee (f := 29) rfl ?_); refine goesL_ (some 11) rfl rfl Tryd.func29 (by kernel_rfl) rfl #[.string t297] rfl ga ?_; (with_reducible refine (spinnakerref07_base.calls k t297 t298 _ A5.out).mono ?_); rintro e w' ⟨rfl, ⟨nd, rfl⟩⟩; refine ⟨_, rfl, ?_⟩))
          go_ret
          exact ⟨fi, bl⟩
         ·rw [if_neg c31] at H
          have c31b0 : (t298.toList == ([111, 114] : List UInt8)) = false := beq_eq_false_iff_ne.mpr c31
          have c31b1 : (t298.toList != ([111, 114] : List UInt8)) = true := bne_iff_ne.mpr c31
          by_cases c33 : t298.toList = ([97, 110, 100] : List UInt8)
          ·rw [if_pos c33] at H
           have c33b0 : (t298.toList == ([97, 110, 100] : List UInt8)) = true := beq_iff_eq.mpr c33
           have c33b1 : (t298.toList != ([97, 110, 100] : List UInt8)) = false := bne_eq_false_iff_eq.mpr c33
           clear c33
           obtain rfl := Option.some.inj H
           go_enter Tryd.func20, Tryd.ntmps20
           go_wp2_with (first | ((with_reducible refine gate_callee (f := 30) rfl ?_); refine goesL_ (some 10) rfl rfl Tryd.func30 (by kernel_rfl) rfl #[.int .i64 a0] rfl ga ?_; (with_reducible refine (spinnakerref03_Name.calls a0 t297 _ A4.out).mono ?_); rintro e w34 ⟨rfl, hb⟩; refine ⟨_, rfl, ?_⟩; have n0_ := Aside0.mk (below_step bl hb); clear HB; have HB := n0_; clear n0_; (try clear hb)) | ((with_reducible refine gate_callee (f := 29) rfl ?_); refine goesL_ (some 11) rfl rfl Tryd.func29 (by kernel_rfl) rfl #[.string t297] rfl ga ?_; (with_reducible refine (spinnakerref07_base.calls k t297 t298 _ A5.out).mono ?_); rintro e w' ⟨rfl, ⟨nd, rfl⟩⟩; refine ⟨_, rfl, ?_⟩))
           go_ret
           exact ⟨fi, bl⟩
          ·rw [if_neg c33] at H
           have c33b0 : (t298.toList == ([97, 110, 100] : List UInt8)) = false := beq_eq_false_iff_ne.mpr c33
           have c33b1 : (t298.toList != ([97, 110, 100] : List UInt8)) = true := bne_iff_ne.mpr c33
           obtain ⟨ji35, hji35⟩ : ∃ j_ : Int, (wrap64 ((t298.size : Int) - 1)) = j_ := ⟨_, rfl⟩
           replace H : (if 0 ≤ (ji35) then (if (ji35) < (t298.size : Int) then (if (bt t298 (ji35)) = 119 then ((spinnakerref07_shorts.f k t298 a1 a2).bind fun t305 => (some t305)) else ((spinnakerref07_products.f k t298 a1 a2).bind fun t306 => (some t306))) else (none)) else (none)) = some r := by first | (rw [hji35] at H; exact H) | (simp only [hji35] at H ⊢; exact H)
           (try rw [hji35] at A4)
           (try rw [hji35] at A5)
           have hji35w : (IntKind.i64.wrap ((t298.size : Int) - 1)) = ji35 := (i64_w _).trans hji35
           by_cases c36 : 0 ≤ (ji35)
           ·rw [if_pos c36] at H
            have c36b0 := decide_eq_true c36
            clear c36
            by_cases c37 : (ji35) < (t298.size : Int)
            ·rw [if_pos c37] at H
             have c37b0 := decide_eq_true c37
             clear c37
             by_cases c39 : (bt t298 (ji35)) = 119
             ·rw [if_pos c39] at H
              obtain ⟨c39b0, c39b1⟩ := eqs c39
              clear c39
              replace H := be H
              obtain ⟨t305, A40, H⟩ := H
              obtain rfl := Option.some.inj H
              go_enter Tryd.func20, Tryd.ntmps20
              go_wp2_with (first | ((with_reducible refine gate_callee (f := 30) rfl ?_); refine goesL_ (some 10) rfl rfl Tryd.func30 (by kernel_rfl) rfl #[.int .i64 a0] rfl ga ?_; (with_reducible refine (spinnakerref03_Name.calls a0 t297 _ A4.out).mono ?_); rintro e w41 ⟨rfl, hb⟩; refine ⟨_, rfl, ?_⟩; have n0_ := Aside0.mk (below_step bl hb); clear HB; have HB := n0_; clear n0_; (try clear hb)) | ((with_reducible refine gate_callee (f := 29) rfl ?_); refine goesL_ (some 11) rfl rfl Tryd.func29 (by kernel_rfl) rfl #[.string t297] rfl ga ?_; (with_reducible refine (spinnakerref07_base.calls k t297 t298 _ A5.out).mono ?_); rintro e w' ⟨rfl, ⟨nd, rfl⟩⟩; refine ⟨_, rfl, ?_⟩; have p38 : 0 ≤ ((ji35) : Int) := of_decide_eq_true (by first | (with_reducible assumption) | assumption); have q38 : (ji35) < (t298.size : Int) := of_decide_eq_true (by first | (with_reducible assumption) | assumption); have hx38 := bt_at t298 (ji35); replace p38 := eq_true p38; replace q38 := eq_true q38) | ((with_reducible refine gate_callee (f := 33) rfl ?_); refine goesL_ (some 83) rfl rfl Tryd.func33 (by kernel_rfl) rfl #[.string t298, .int .i64 a1, .int .i64 a2] rfl ga ?_; (with_reducible refine (spinnakerref07_shorts.calls k t298 a1 a2 t305 _ A40.out).mono ?_); rintro e w42 ⟨rfl, hb⟩; refine ⟨_, rfl, ?_⟩; have n0_ := Aside0.mk (below_step bl hb); clear HB; have HB := n0_; clear n0_; (try clear hb)))
              go_ret
              exact ⟨by first | rfl | (simp [errW_none, errW_some] <;> rfl) | (simp only [← hji35]; first | rfl | (simp [errW_none, errW_some] <;> rfl)) | (simp [*, errW_none, errW_some] <;> rfl), bl⟩
             ·rw [if_neg c39] at H
              have c39b0 : ((bt t298 (ji35)) == 119) = false := beq_eq_false_iff_ne.mpr c39
              have c39b1 : ((bt t298 (ji35)) != 119) = true := bne_iff_ne.mpr c39
              replace H := be H
              obtain ⟨t306, A43, H⟩ := H
              obtain rfl := Option.some.inj H
              go_enter Tryd.func20, Tryd.ntmps20
              go_wp2_with (first | ((with_reducible refine gate_callee (f := 30) rfl ?_); refine goesL_ (some 10) rfl rfl Tryd.func30 (by kernel_rfl) rfl #[.int .i64 a0] rfl ga ?_; (with_reducible refine (spinnakerref03_Name.calls a0 t297 _ A4.out).mono ?_); rintro e w44 ⟨rfl, hb⟩; refine ⟨_, rfl, ?_⟩; have n0_ := Aside0.mk (below_step bl hb); clear HB; have HB := n0_; clear n0_; (try clear hb)) | ((with_reducible refine gate_callee (f := 29) rfl ?_); refine goesL_ (some 11) rfl rfl Tryd.func29 (by kernel_rfl) rfl #[.string t297] rfl ga ?_; (with_reducible refine (spinnakerref07_base.calls k t297 t298 _ A5.out).mono ?_); rintro e w' ⟨rfl, ⟨nd, rfl⟩⟩; refine ⟨_, rfl, ?_⟩; have p38 : 0 ≤ ((ji35) : Int) := of_decide_eq_true (by first | (with_reducible assumption) | assumption); have q38 : (ji35) < (t298.size : Int) := of_decide_eq_true (by first | (with_reducible assumption) | assumption); have hx38 := bt_at t298 (ji35); replace p38 := eq_true p38; replace q38 := eq_true q38) | ((with_reducible refine gate_callee (f := 34) rfl ?_); refine goesL_ (some 87) rfl rfl Tryd.func34 (by kernel_rfl) rfl #[.string t298, .int .i64 a1, .int .i64 a2] rfl ga ?_; (with_reducible refine (spinnakerref07_products.calls k t298 a1 a2 t306 _ A43.out).mono ?_); rintro e w45 ⟨rfl, hb⟩; refine ⟨_, rfl, ?_⟩; have n0_ := Aside0.mk (below_step bl hb); clear HB; have HB := n0_; clear n0_; (try clear hb)))
              go_ret
              exact ⟨by first | rfl | (simp [errW_none, errW_some] <;> rfl) | (simp only [← hji35]; first | rfl | (simp [errW_none, errW_some] <;> rfl)) | (simp [*, errW_none, errW_some] <;> rfl), bl⟩
            ·rw [if_neg c37] at H
             exact absurd H (by simp)
           ·rw [if_neg c36] at H
            exact absurd H (by simp)

end Go.Proofs.YtmkcnbaknnohgaaDoor.GUnitLoads
