-- Written by wip/stub.py of this repo.
import Derived.Test.YtffehgfjjagibaaDoorGImagePlacesx0
import Derived.Test.YtffehgfjjagibaaDoorGImagePlacesx8
import Derived.Test.YtffehgfjjagibaaDoorGImagePlacesx9
import Derived.Test.YtffehgfjjagibaaDoorGImagePlacesx10
namespace Go.Proofs.YtffehgfjjagibaaDoor.GImagePlaces
open Go.RowKit Go.Proofs.YtffehgfjjagibaaDoorW.PrintWords Go.Proofs.YtffehgfjjagibaaDoorW.PrintLast Go.Proofs.YtffehgfjjagibaaDoorW.PrintMore
attribute [local go_sem] max2_int min2_int max_two min_two max_three min_three max_four min_four   -- for this text's walks alone
set_option linter.unusedVariables false
set_option linter.unusedSimpArgs false

/-! ### dec_operation: function 27 -/
def dec_operation.f (k : Nat) (a0 : Int) : Option (Int) := (dec_field.f a0 12 3).bind fun t333 => ((dec_field.f a0 25 7).bind fun t334 => ((dec_field.f a0 0 7).bind fun t335 => (if t335 = 55 then (some 1) else (if t335 = 23 then (some 2) else (if t335 = 111 then (some 3) else (if t335 = 103 then ((dec_pick.f k 4 t333 (([0] : List Int))).bind fun t339 => (some t339)) else (if t335 = 99 then ((dec_pick.f k 5 t333 (([0, 1, 4, 5, 6, 7] : List Int))).bind fun t343 => (some t343)) else (if t335 = 3 then ((dec_pick.f k 11 t333 (([0, 1, 2, 3, 4, 5, 6] : List Int))).bind fun t347 => (some t347)) else (if t335 = 35 then ((dec_pick.f k 18 t333 (([0, 1, 2, 3] : List Int))).bind fun t351 => (some t351)) else (if t335 = 19 then ((dec_immediates.f a0 t333).bind fun t352 => (some t352)) else (if t335 = 27 then ((dec_small.f t333 t334).bind fun t353 => (some t353)) else (if t335 = 51 then ((dec_whole.f k t333 t334).bind fun t354 => (some t354)) else (if t335 = 59 then ((dec_half.f k t333 t334).bind fun t355 => (some t355)) else (if t335 = 47 then ((dec_atomic.f k a0 t333).bind fun t356 => (some t356)) else (if t335 = 115 then ((dec_system.f k a0).bind fun t357 => (some t357)) else (if t335 = 15 then ((dec_pick.f k 63 t333 (([0] : List Int))).bind fun t361 => (some t361)) else (some 0)))))))))))))))))
theorem dec_operation.mono : ∀ a0 k, LeO (dec_operation.f k a0) (dec_operation.f (k + 1) a0) := by
 intro a0 k
 unfold dec_operation.f
 repeat' first | (with_reducible first | exact dec_atomic.mono _ _ _ | exact dec_half.mono _ _ _ | exact dec_pick.mono _ _ _ _ | exact dec_system.mono _ _ | exact dec_whole.mono _ _ _ | exact LeO.refl _ | exact LeO.none _ | refine LeO.ite ?_ ?_ | refine LeO.bind ?_ (fun _ => ?_)) | exact dec_atomic.mono _ _ _ | exact dec_half.mono _ _ _ | exact dec_pick.mono _ _ _ _ | exact dec_system.mono _ _ | exact dec_whole.mono _ _ _ | exact LeO.none _ | refine LeO.ite ?_ ?_ | refine LeO.bind ?_ (fun _ => ?_)
set_option maxHeartbeats 8000000 in
set_option maxRecDepth 100000 in
theorem dec_operation.calls (k : Nat) (a0 : Int) (r : Int) (w : World) (h : dec_operation.f k a0 = some r) :
  Calls Tryd.prog 27 #[.int .u32 a0] w fun e w' => e = .returned (.int .i64 r) ∧ Below w.heap.size w w' := by
 have HB := Aside0.mk (Below.refl w.heap.size w)
 have H : ((dec_field.f a0 12 3).bind fun t333 => ((dec_field.f a0 25 7).bind fun t334 => ((dec_field.f a0 0 7).bind fun t335 => (if t335 = 55 then (some 1) else (if t335 = 23 then (some 2) else (if t335 = 111 then (some 3) else (if t335 = 103 then ((dec_pick.f k 4 t333 (([0] : List Int))).bind fun t339 => (some t339)) else (if t335 = 99 then ((dec_pick.f k 5 t333 (([0, 1, 4, 5, 6, 7] : List Int))).bind fun t343 => (some t343)) else (if t335 = 3 then ((dec_pick.f k 11 t333 (([0, 1, 2, 3, 4, 5, 6] : List Int))).bind fun t347 => (some t347)) else (if t335 = 35 then ((dec_pick.f k 18 t333 (([0, 1, 2, 3] : List Int))).bind fun t351 => (some t351)) else (if t335 = 19 then ((dec_immediates.f a0 t333).bind fun t352 => (some t352)) else (if t335 = 27 then ((dec_small.f t333 t334).bind fun t353 => (some t353)) else (if t335 = 51 then ((dec_whole.f k t333 t334).bind fun t354 => (some t354)) else (if t335 = 59 then ((dec_half.f k t333 t334).bind fun t355 => (some t355)) else (if t335 = 47 then ((dec_atomic.f k a0 t333).bind fun t356 => (some t356)) else (if t335 = 115 then ((dec_system.f k a0).bind fun t357 => (some t357)) else (if t335 = 15 then ((dec_pick.f k 63 t333 (([0] : List Int))).bind fun t361 => (some t361)) else (some 0)))))))))))))))))) = some r := h
 clear h
 replace H := be H
 obtain ⟨t333, A2, H⟩ := H
 replace H := be H
 obtain ⟨t334, A3, H⟩ := H
 replace H := be H
 obtain ⟨t335, A4, H⟩ := H
 by_cases c5 : t335 = 55
 ·rw [if_pos c5] at H
  obtain ⟨c5b0, c5b1⟩ := eqs c5
  clear c5
  obtain rfl := Option.some.inj H
  go_enter Tryd.func27, Tryd.ntmps27
  go_wp2_with (first | ((with_reducible refine gate_callee (f := 52) rfl ?_); refine goesL_ (some 6) rfl rfl Tryd.func52 (by kernel_rfl) rfl #[.int .u32 a0, .int .i64 12, .int .i64 3] rfl ga ?_; (with_reducible refine (dec_field.calls a0 12 3 t333 _ A2.out).mono ?_); rintro e w' ⟨rfl, ⟨nd, rfl⟩⟩; refine ⟨_, rfl, ?_⟩) | ((with_reducible refine gate_callee (f := 52) rfl ?_); refine goesL_ (some 8) rfl rfl Tryd.func52 (by kernel_rfl) rfl #[.int .u32 a0, .int .i64 25, .int .i64 7] rfl ga ?_; (with_reducible refine (dec_field.calls a0 25 7 t334 _ A3.out).mono ?_); rintro e w' ⟨rfl, ⟨nd, rfl⟩⟩; refine ⟨_, rfl, ?_⟩) | ((with_reducible refine gate_callee (f := 52) rfl ?_); refine goesL_ (some 10) rfl rfl Tryd.func52 (by kernel_rfl) rfl #[.int .u32 a0, .int .i64 0, .int .i64 7] rfl ga ?_; (with_reducible refine (dec_field.calls a0 0 7 t335 _ A4.out).mono ?_); rintro e w' ⟨rfl, ⟨nd, rfl⟩⟩; refine ⟨_, rfl, ?_⟩))
  go_ret
  exact ⟨fi, bl⟩
 ·rw [if_neg c5] at H
  have c5b0 : (t335 == 55) = false := beq_eq_false_iff_ne.mpr c5
  have c5b1 : (t335 != 55) = true := bne_iff_ne.mpr c5
  by_cases c6 : t335 = 23
  ·rw [if_pos c6] at H
   obtain ⟨c6b0, c6b1⟩ := eqs c6
   clear c6
   obtain rfl := Option.some.inj H
   go_enter Tryd.func27, Tryd.ntmps27
   go_wp2_with (first | ((with_reducible refine gate_callee (f := 52) rfl ?_); refine goesL_ (some 6) rfl rfl Tryd.func52 (by kernel_rfl) rfl #[.int .u32 a0, .int .i64 12, .int .i64 3] rfl ga ?_; (with_reducible refine (dec_field.calls a0 12 3 t333 _ A2.out).mono ?_); rintro e w' ⟨rfl, ⟨nd, rfl⟩⟩; refine ⟨_, rfl, ?_⟩) | ((with_reducible refine gate_callee (f := 52) rfl ?_); refine goesL_ (some 8) rfl rfl Tryd.func52 (by kernel_rfl) rfl #[.int .u32 a0, .int .i64 25, .int .i64 7] rfl ga ?_; (with_reducible refine (dec_field.calls a0 25 7 t334 _ A3.out).mono ?_); rintro e w' ⟨rfl, ⟨nd, rfl⟩⟩; refine ⟨_, rfl, ?_⟩) | ((with_reducible refine gate_callee (f := 52) rfl ?_); refine goesL_ (some 10) rfl rfl Tryd.func52 (by kernel_rfl) rfl #[.int .u32 a0, .int .i64 0, .int .i64 7] rfl ga ?_; (with_reducible refine (dec_field.calls a0 0 7 t335 _ A4.out).mono ?_); rintro e w' ⟨rfl, ⟨nd, rfl⟩⟩; refine ⟨_, rfl, ?_⟩))
   go_ret
   exact ⟨fi, bl⟩
  ·rw [if_neg c6] at H
   have c6b0 : (t335 == 23) = false := beq_eq_false_iff_ne.mpr c6
   have c6b1 : (t335 != 23) = true := bne_iff_ne.mpr c6
   by_cases c7 : t335 = 111
   ·rw [if_pos c7] at H
    obtain ⟨c7b0, c7b1⟩ := eqs c7
    clear c7
    obtain rfl := Option.some.inj H
    go_enter Tryd.func27, Tryd.ntmps27
    go_wp2_with (first | ((with_reducible refine gate_callee (f := 52) rfl ?_); refine goesL_ (some 6) rfl rfl Tryd.func52 (by kernel_rfl) rfl #[.int .u32 a0, .int .i64 12, .int .i64 3] rfl ga ?_; (with_reducible refine (dec_field.calls a0 12 3 t333 _ A2.out).mono ?_); rintro e w' ⟨rfl, ⟨nd, rfl⟩⟩; refine ⟨_, rfl, ?_⟩) | ((with_reducible refine gate_callee (f := 52) rfl ?_); refine goesL_ (some 8) rfl rfl Tryd.func52 (by kernel_rfl) rfl #[.int .u32 a0, .int .i64 25, .int .i64 7] rfl ga ?_; (with_reducible refine (dec_field.calls a0 25 7 t334 _ A3.out).mono ?_); rintro e w' ⟨rfl, ⟨nd, rfl⟩⟩; refine ⟨_, rfl, ?_⟩) | ((with_reducible refine gate_callee (f := 52) rfl ?_); refine goesL_ (some 10) rfl rfl Tryd.func52 (by kernel_rfl) rfl #[.int .u32 a0, .int .i64 0, .int .i64 7] rfl ga ?_; (with_reducible refine (dec_field.calls a0 0 7 t335 _ A4.out).mono ?_); rintro e w' ⟨rfl, ⟨nd, rfl⟩⟩; refine ⟨_, rfl, ?_⟩))
    go_ret
    exact ⟨fi, bl⟩
   ·rw [if_neg c7] at H
    have c7b0 : (t335 == 111) = false := beq_eq_false_iff_ne.mpr c7
    have c7b1 : (t335 != 111) = true := bne_iff_ne.mpr c7
    by_cases c8 : t335 = 103
    ·rw [if_pos c8] at H
     obtain ⟨c8b0, c8b1⟩ := eqs c8
     clear c8
     obtain ⟨y336, hy336⟩ : ∃ y_ : List Int, y_ = (([0] : List Int)) := ⟨_, rfl⟩
     replace H : ((dec_pick.f k 4 t333 y336).bind fun t339 => (some t339)) = some r := by first | (rw [hy336]; with_reducible exact H) | (have H2_ := (Option.bind_some _ _).symm.trans H; rw [hy336]; with_reducible exact H2_) | (have H2_ := (Option.bind_some _ _).symm.trans H; with_reducible exact H2_) | with_reducible exact H | (rw [hy336]; exact H) | exact H
     have Ny336 := Aside0.mk hy336
     clear hy336
     replace H := be H
     obtain ⟨t339, A9, H⟩ := H
     obtain rfl := Option.some.inj H
     go_enter Tryd.func27, Tryd.ntmps27
     go_wp2_with (first | ((with_reducible refine gate_callee (f := 52) rfl ?_); refine goesL_ (some 6) rfl rfl Tryd.func52 (by kernel_rfl) rfl #[.int .u32 a0, .int .i64 12, .int .i64 3] rfl ga ?_; (with_reducible refine (dec_field.calls a0 12 3 t333 _ A2.out).mono ?_); rintro e w' ⟨rfl, ⟨nd, rfl⟩⟩; refine ⟨_, rfl, ?_⟩) | ((with_reducible refine gate_callee (f := 52) rfl ?_); refine goesL_ (some 8) rfl rfl Tryd.func52 (by kernel_rfl) rfl #[.int .u32 a0, .int .i64 25, .int .i64 7] rfl ga ?_; (with_reducible refine (dec_field.calls a0 25 7 t334 _ A3.out).mono ?_); rintro e w' ⟨rfl, ⟨nd, rfl⟩⟩; refine ⟨_, rfl, ?_⟩) | ((with_reducible refine gate_callee (f := 52) rfl ?_); refine goesL_ (some 10) rfl rfl Tryd.func52 (by kernel_rfl) rfl #[.int .u32 a0, .int .i64 0, .int .i64 7] rfl ga ?_; (with_reducible refine (dec_field.calls a0 0 7 t335 _ A4.out).mono ?_); rintro e w' ⟨rfl, ⟨nd, rfl⟩⟩; refine ⟨_, rfl, ?_⟩) | ((with_reducible refine gate_dst (N := 20) rfl ?_); refine Kd.R_lit (Kd.int .i64) _ 3 ?hg (N := 20) ?hd (xs := ([0] : List Int)) (inner := [.int .i64 0]) (ok := fun _ => True) (okp := fun _ => True) ?hr ?hp (fun _ hk => hk) trivial (Below.refl _ _) (Nat.le_refl _) (by simp) ?_; (case hd => rfl); (case hg => rfl); (case hr => first | (go_simp; done) | (go_simp; rfl)); (case hp => exact (Reps.one (show Kd.M (Kd.int .i64) _ _ _ 0 [.int .i64 0] from rfl) (Reps.none _ _))); intro v337 w10 ho11 hb hg_ hnew_; clear hg_ hnew_; (first | rw [← Ny336.out] at ho11 | (simp only [Int.reduceToNat] at ho11; rw [← Ny336.out] at ho11)); have n0_ := Aside0.mk (Kd.R_lower ho11 (below_size bl)); have n1_ := Aside0.mk (below_step bl hb); clear HB; have HO338 := n0_; have HB := n1_; clear n0_ n1_; clear hb ho11; obtain ⟨Ao12, co12, eo12⟩ := Kd.R_slice HO338.out; subst eo12) | ((with_reducible refine gate_callee (f := 53) rfl ?_); refine goesL_ (some 21) rfl rfl Tryd.func53 (by kernel_rfl) rfl #[.int .i64 4, .int .i64 t333, .slice Ao12 y336.length co12] rfl ga ?_; (with_reducible refine (dec_pick.calls k 4 t333 _ _ y336 t339 _ ?side1 ?side2 A9.out).mono ?_); (case side1 => repeat (first | exact (Kd.R_reads' HO338.out).2.2 | (with_reducible refine Kd.C_alloc ?_ _) | (with_reducible refine Kd.C_drewN ?_ _) | (with_reducible refine Kd.C_drew ?_))); (case side2 => exact (Kd.R_reads' HO338.out).2.1); rintro e w' ⟨rfl, ⟨nd, rfl⟩⟩; refine ⟨_, rfl, ?_⟩))
     go_ret
     exact ⟨fi, bl⟩
    ·rw [if_neg c8] at H
     have c8b0 : (t335 == 103) = false := beq_eq_false_iff_ne.mpr c8
     have c8b1 : (t335 != 103) = true := bne_iff_ne.mpr c8
     by_cases c13 : t335 = 99
     ·rw [if_pos c13] at H
      obtain ⟨c13b0, c13b1⟩ := eqs c13
      clear c13
      obtain ⟨y340, hy340⟩ : ∃ y_ : List Int, y_ = (([0, 1, 4, 5, 6, 7] : List Int)) := ⟨_, rfl⟩
      replace H : ((dec_pick.f k 5 t333 y340).bind fun t343 => (some t343)) = some r := by first | (rw [hy340]; with_reducible exact H) | (have H2_ := (Option.bind_some _ _).symm.trans H; rw [hy340]; with_reducible exact H2_) | (have H2_ := (Option.bind_some _ _).symm.trans H; with_reducible exact H2_) | with_reducible exact H | (rw [hy340]; exact H) | exact H
      have Ny340 := Aside0.mk hy340
      clear hy340
      replace H := be H
      obtain ⟨t343, A14, H⟩ := H
      obtain rfl := Option.some.inj H
      go_enter Tryd.func27, Tryd.ntmps27
      go_wp2_with (first | ((with_reducible refine gate_callee (f := 52) rfl ?_); refine goesL_ (some 6) rfl rfl Tryd.func52 (by kernel_rfl) rfl #[.int .u32 a0, .int .i64 12, .int .i64 3] rfl ga ?_; (with_reducible refine (dec_field.calls a0 12 3 t333 _ A2.out).mono ?_); rintro e w' ⟨rfl, ⟨nd, rfl⟩⟩; refine ⟨_, rfl, ?_⟩) | ((with_reducible refine gate_callee (f := 52) rfl ?_); refine goesL_ (some 8) rfl rfl Tryd.func52 (by kernel_rfl) rfl #[.int .u32 a0, .int .i64 25, .int .i64 7] rfl ga ?_; (with_reducible refine (dec_field.calls a0 25 7 t334 _ A3.out).mono ?_); rintro e w' ⟨rfl, ⟨nd, rfl⟩⟩; refine ⟨_, rfl, ?_⟩) | ((with_reducible refine gate_callee (f := 52) rfl ?_); refine goesL_ (some 10) rfl rfl Tryd.func52 (by kernel_rfl) rfl #[.int .u32 a0, .int .i64 0, .int .i64 7] rfl ga ?_; (with_reducible refine (dec_field.calls a0 0 7 t335 _ A4.out).mono ?_); rintro e w' ⟨rfl, ⟨nd, rfl⟩⟩; refine ⟨_, rfl, ?_⟩) | ((with_reducible refine gate_dst (N := 25) rfl ?_); refine Kd.R_lit (Kd.int .i64) _ 3 ?hg (N := 25) ?hd (xs := ([0, 1, 4, 5, 6, 7] : List Int)) (inner := [.int .i64 0, .int .i64 1, .int .i64 4, .int .i64 5, .int .i64 6, .int .i64 7]) (ok := fun _ => True) (okp := fun _ => True) ?hr ?hp (fun _ hk => hk) trivial (Below.refl _ _) (Nat.le_refl _) (by simp) ?_; (case hd => rfl); (case hg => rfl); (case hr => first | (go_simp; done) | (go_simp; rfl)); (case hp => exact (Reps.one (show Kd.M (Kd.int .i64) _ _ _ 0 [.int .i64 0] from rfl) (Reps.one (show Kd.M (Kd.int .i64) _ _ _ 1 [.int .i64 1] from rfl) (Reps.one (show Kd.M (Kd.int .i64) _ _ _ 4 [.int .i64 4] from rfl) (Reps.one (show Kd.M (Kd.int .i64) _ _ _ 5 [.int .i64 5] from rfl) (Reps.one (show Kd.M (Kd.int .i64) _ _ _ 6 [.int .i64 6] from rfl) (Reps.one (show Kd.M (Kd.int .i64) _ _ _ 7 [.int .i64 7] from rfl) (Reps.none _ _)))))))); intro v341 w15 ho16 hb hg_ hnew_; clear hg_ hnew_; (first | rw [← Ny340.out] at ho16 | (simp only [Int.reduceToNat] at ho16; rw [← Ny340.out] at ho16)); have n0_ := Aside0.mk (Kd.R_lower ho16 (below_size bl)); have n1_ := Aside0.mk (below_step bl hb); clear HB; have HO342 := n0_; have HB := n1_; clear n0_ n1_; clear hb ho16; obtain ⟨Ao17, co17, eo17⟩ := Kd.R_slice HO342.out; subst eo17) | ((with_reducible refine gate_callee (f := 53) rfl ?_); refine goesL_ (some 26) rfl rfl Tryd.func53 (by kernel_rfl) rfl #[.int .i64 5, .int .i64 t333, .slice Ao17 y340.length co17] rfl ga ?_; (with_reducible refine (dec_pick.calls k 5 t333 _ _ y340 t343 _ ?side1 ?side2 A14.out).mono ?_); (case side1 => repeat (first | exact (Kd.R_reads' HO342.out).2.2 | (with_reducible refine Kd.C_alloc ?_ _) | (with_reducible refine Kd.C_drewN ?_ _) | (with_reducible refine Kd.C_drew ?_))); (case side2 => exact (Kd.R_reads' HO342.out).2.1); rintro e w' ⟨rfl, ⟨nd, rfl⟩⟩; refine ⟨_, rfl, ?_⟩))
      go_ret
      exact ⟨fi, bl⟩
     ·rw [if_neg c13] at H
      have c13b0 : (t335 == 99) = false := beq_eq_false_iff_ne.mpr c13
      have c13b1 : (t335 != 99) = true := bne_iff_ne.mpr c13
      by_cases c18 : t335 = 3
      ·rw [if_pos c18] at H
       obtain ⟨c18b0, c18b1⟩ := eqs c18
       clear c18
       obtain ⟨y344, hy344⟩ : ∃ y_ : List Int, y_ = (([0, 1, 2, 3, 4, 5, 6] : List Int)) := ⟨_, rfl⟩
       replace H : ((dec_pick.f k 11 t333 y344).bind fun t347 => (some t347)) = some r := by first | (rw [hy344]; with_reducible exact H) | (have H2_ := (Option.bind_some _ _).symm.trans H; rw [hy344]; with_reducible exact H2_) | (have H2_ := (Option.bind_some _ _).symm.trans H; with_reducible exact H2_) | with_reducible exact H | (rw [hy344]; exact H) | exact H
       have Ny344 := Aside0.mk hy344
       clear hy344
       replace H := be H
       obtain ⟨t347, A19, H⟩ := H
       obtain rfl := Option.some.inj H
       go_enter Tryd.func27, Tryd.ntmps27
       go_wp2_with (first | ((with_reducible refine gate_callee (f := 52) rfl ?_); refine goesL_ (some 6) rfl rfl Tryd.func52 (by kernel_rfl) rfl #[.int .u32 a0, .int .i64 12, .int .i64 3] rfl ga ?_; (with_reducible refine (dec_field.calls a0 12 3 t333 _ A2.out).mono ?_); rintro e w' ⟨rfl, ⟨nd, rfl⟩⟩; refine ⟨_, rfl, ?_⟩) | ((with_reducible refine gate_callee (f := 52) rfl ?_); refine goesL_ (some 8) rfl rfl Tryd.func52 (by kernel_rfl) rfl #[.int .u32 a0, .int .i64 25, .int .i64 7] rfl ga ?_; (with_reducible refine (dec_field.calls a0 25 7 t334 _ A3.out).mono ?_); rintro e w' ⟨rfl, ⟨nd, rfl⟩⟩; refine ⟨_, rfl, ?_⟩) | ((with_reducible refine gate_callee (f := 52) rfl ?_); refine goesL_ (some 10) rfl rfl Tryd.func52 (by kernel_rfl) rfl #[.int .u32 a0, .int .i64 0, .int .i64 7] rfl ga ?_; (with_reducible refine (dec_field.calls a0 0 7 t335 _ A4.out).mono ?_); rintro e w' ⟨rfl, ⟨nd, rfl⟩⟩; refine ⟨_, rfl, ?_⟩) | ((with_reducible refine gate_dst (N := 30) rfl ?_); refine Kd.R_lit (Kd.int .i64) _ 3 ?hg (N := 30) ?hd (xs := ([0, 1, 2, 3, 4, 5, 6] : List Int)) (inner := [.int .i64 0, .int .i64 1, .int .i64 2, .int .i64 3, .int .i64 4, .int .i64 5, .int .i64 6]) (ok := fun _ => True) (okp := fun _ => True) ?hr ?hp (fun _ hk => hk) trivial (Below.refl _ _) (Nat.le_refl _) (by simp) ?_; (case hd => rfl); (case hg => rfl); (case hr => first | (go_simp; done) | (go_simp; rfl)); (case hp => exact (Reps.one (show Kd.M (Kd.int .i64) _ _ _ 0 [.int .i64 0] from rfl) (Reps.one (show Kd.M (Kd.int .i64) _ _ _ 1 [.int .i64 1] from rfl) (Reps.one (show Kd.M (Kd.int .i64) _ _ _ 2 [.int .i64 2] from rfl) (Reps.one (show Kd.M (Kd.int .i64) _ _ _ 3 [.int .i64 3] from rfl) (Reps.one (show Kd.M (Kd.int .i64) _ _ _ 4 [.int .i64 4] from rfl) (Reps.one (show Kd.M (Kd.int .i64) _ _ _ 5 [.int .i64 5] from rfl) (Reps.one (show Kd.M (Kd.int .i64) _ _ _ 6 [.int .i64 6] from rfl) (Reps.none _ _))))))))); intro v345 w20 ho21 hb hg_ hnew_; clear hg_ hnew_; (first | rw [← Ny344.out] at ho21 | (simp only [Int.reduceToNat] at ho21; rw [← Ny344.out] at ho21)); have n0_ := Aside0.mk (Kd.R_lower ho21 (below_size bl)); have n1_ := Aside0.mk (below_step bl hb); clear HB; have HO346 := n0_; have HB := n1_; clear n0_ n1_; clear hb ho21; obtain ⟨Ao22, co22, eo22⟩ := Kd.R_slice HO346.out; subst eo22) | ((with_reducible refine gate_callee (f := 53) rfl ?_); refine goesL_ (some 31) rfl rfl Tryd.func53 (by kernel_rfl) rfl #[.int .i64 11, .int .i64 t333, .slice Ao22 y344.length co22] rfl ga ?_; (with_reducible refine (dec_pick.calls k 11 t333 _ _ y344 t347 _ ?side1 ?side2 A19.out).mono ?_); (case side1 => repeat (first | exact (Kd.R_reads' HO346.out).2.2 | (with_reducible refine Kd.C_alloc ?_ _) | (with_reducible refine Kd.C_drewN ?_ _) | (with_reducible refine Kd.C_drew ?_))); (case side2 => exact (Kd.R_reads' HO346.out).2.1); rintro e w' ⟨rfl, ⟨nd, rfl⟩⟩; refine ⟨_, rfl, ?_⟩))
       go_ret
       exact ⟨fi, bl⟩
      ·rw [if_neg c18] at H
       have c18b0 : (t335 == 3) = false := beq_eq_false_iff_ne.mpr c18
       have c18b1 : (t335 != 3) = true := bne_iff_ne.mpr c18
       by_cases c23 : t335 = 35
       ·rw [if_pos c23] at H
        obtain ⟨c23b0, c23b1⟩ := eqs c23
        clear c23
        obtain ⟨y348, hy348⟩ : ∃ y_ : List Int, y_ = (([0, 1, 2, 3] : List Int)) := ⟨_, rfl⟩
        replace H : ((dec_pick.f k 18 t333 y348).bind fun t351 => (some t351)) = some r := by first | (rw [hy348]; with_reducible exact H) | (have H2_ := (Option.bind_some _ _).symm.trans H; rw [hy348]; with_reducible exact H2_) | (have H2_ := (Option.bind_some _ _).symm.trans H; with_reducible exact H2_) | with_reducible exact H | (rw [hy348]; exact H) | exact H
        have Ny348 := Aside0.mk hy348
        clear hy348
        replace H := be H
        obtain ⟨t351, A24, H⟩ := H
        obtain rfl := Option.some.inj H
        go_enter Tryd.func27, Tryd.ntmps27
        go_wp2_with (first | ((with_reducible refine gate_callee (f := 52) rfl ?_); refine goesL_ (some 6) rfl rfl Tryd.func52 (by kernel_rfl) rfl #[.int .u32 a0, .int .i64 12, .int .i64 3] rfl ga ?_; (with_reducible refine (dec_field.calls a0 12 3 t333 _ A2.out).mono ?_); rintro e w' ⟨rfl, ⟨nd, rfl⟩⟩; refine ⟨_, rfl, ?_⟩) | ((with_reducible refine gate_callee (f := 52) rfl ?_); refine goesL_ (some 8) rfl rfl Tryd.func52 (by kernel_rfl) rfl #[.int .u32 a0, .int .i64 25, .int .i64 7] rfl ga ?_; (with_reducible refine (dec_field.calls a0 25 7 t334 _ A3.out).mono ?_); rintro e w' ⟨rfl, ⟨nd, rfl⟩⟩; refine ⟨_, rfl, ?_⟩) | ((with_reducible refine gate_callee (f := 52) rfl ?_); refine goesL_ (some 10) rfl rfl Tryd.func52 (by kernel_rfl) rfl #[.int .u32 a0, .int .i64 0, .int .i64 7] rfl ga ?_; (with_reducible refine (dec_field.calls a0 0 7 t335 _ A4.out).mono ?_); rintro e w' ⟨rfl, ⟨nd, rfl⟩⟩; refine ⟨_, rfl, ?_⟩) | ((with_reducible refine gate_dst (N := 35) rfl ?_); refine Kd.R_lit (Kd.int .i64) _ 3 ?hg (N := 35) ?hd (xs := ([0, 1, 2, 3] : List Int)) (inner := [.int .i64 0, .int .i64 1, .int .i64 2, .int .i64 3]) (ok := fun _ => True) (okp := fun _ => True) ?hr ?hp (fun _ hk => hk) trivial (Below.refl _ _) (Nat.le_refl _) (by simp) ?_; (case hd => rfl); (case hg => rfl); (case hr => first | (go_simp; done) | (go_simp; rfl)); (case hp => exact (Reps.one (show Kd.M (Kd.int .i64) _ _ _ 0 [.int .i64 0] from rfl) (Reps.one (show Kd.M (Kd.int .i64) _ _ _ 1 [.int .i64 1] from rfl) (Reps.one (show Kd.M (Kd.int .i64) _ _ _ 2 [.int .i64 2] from rfl) (Reps.one (show Kd.M (Kd.int .i64) _ _ _ 3 [.int .i64 3] from rfl) (Reps.none _ _)))))); intro v349 w25 ho26 hb hg_ hnew_; clear hg_ hnew_; (first | rw [← Ny348.out] at ho26 | (simp only [Int.reduceToNat] at ho26; rw [← Ny348.out] at ho26)); have n0_ := Aside0.mk (Kd.R_lower ho26 (below_size bl)); have n1_ := Aside0.mk (below_step bl hb); clear HB; have HO350 := n0_; have HB := n1_; clear n0_ n1_; clear hb ho26; obtain ⟨Ao27, co27, eo27⟩ := Kd.R_slice HO350.out; subst eo27) | ((with_reducible refine gate_callee (f := 53) rfl ?_); refine goesL_ (some 36) rfl rfl Tryd.func53 (by kernel_rfl) rfl #[.int .i64 18, .int .i64 t333, .slice Ao27 y348.length co27] rfl ga ?_; (with_reducible refine (dec_pick.calls k 18 t333 _ _ y348 t351 _ ?side1 ?side2 A24.out).mono ?_); (case side1 => repeat (first | exact (Kd.R_reads' HO350.out).2.2 | (with_reducible refine Kd.C_alloc ?_ _) | (with_reducible refine Kd.C_drewN ?_ _) | (with_reducible refine Kd.C_drew ?_))); (case side2 => exact (Kd.R_reads' HO350.out).2.1); rintro e w' ⟨rfl, ⟨nd, rfl⟩⟩; refine ⟨_, rfl, ?_⟩))
        go_ret
        exact ⟨fi, bl⟩
       ·rw [if_neg c23] at H
        have c23b0 : (t335 == 35) = false := beq_eq_false_iff_ne.mpr c23
        have c23b1 : (t335 != 35) = true := bne_iff_ne.mpr c23
        by_cases c28 : t335 = 19
        ·rw [if_pos c28] at H
         obtain ⟨c28b0, c28b1⟩ := eqs c28
         clear c28
         replace H := be H
         obtain ⟨t352, A29, H⟩ := H
         obtain rfl := Option.some.inj H
         go_enter Tryd.func27, Tryd.ntmps27
         go_wp2_with (first | ((with_reducible refine gate_callee (f := 52) rfl ?_); refine goesL_ (some 6) rfl rfl Tryd.func52 (by kernel_rfl) rfl #[.int .u32 a0, .int .i64 12, .int .i64 3] rfl ga ?_; (with_reducible refine (dec_field.calls a0 12 3 t333 _ A2.out).mono ?_); rintro e w' ⟨rfl, ⟨nd, rfl⟩⟩; refine ⟨_, rfl, ?_⟩) | ((with_reducible refine gate_callee (f := 52) rfl ?_); refine goesL_ (some 8) rfl rfl Tryd.func52 (by kernel_rfl) rfl #[.int .u32 a0, .int .i64 25, .int .i64 7] rfl ga ?_; (with_reducible refine (dec_field.calls a0 25 7 t334 _ A3.out).mono ?_); rintro e w' ⟨rfl, ⟨nd, rfl⟩⟩; refine ⟨_, rfl, ?_⟩) | ((with_reducible refine gate_callee (f := 52) rfl ?_); refine goesL_ (some 10) rfl rfl Tryd.func52 (by kernel_rfl) rfl #[.int .u32 a0, .int .i64 0, .int .i64 7] rfl ga ?_; (with_reducible refine (dec_field.calls a0 0 7 t335 _ A4.out).mono ?_); rintro e w' ⟨rfl, ⟨nd, rfl⟩⟩; refine ⟨_, rfl, ?_⟩) | ((with_reducible refine gate_callee (f := 54) rfl ?_); refine goesL_ (some 41) rfl rfl Tryd.func54 (by kernel_rfl) rfl #[.int .u32 a0, .int .i64 t333] rfl ga ?_; (with_reducible refine (dec_immediates.calls a0 t333 t352 _ A29.out).mono ?_); rintro e w30 ⟨rfl, hb⟩; refine ⟨_, rfl, ?_⟩; have n0_ := Aside0.mk (below_step bl hb); clear HB; have HB := n0_; clear n0_; (try clear hb)))
         go_ret
         exact ⟨fi, bl⟩
        ·rw [if_neg c28] at H
         have c28b0 : (t335 == 19) = false := beq_eq_false_iff_ne.mpr c28
         have c28b1 : (t335 != 19) = true := bne_iff_ne.mpr c28
         by_cases c31 : t335 = 27
         ·rw [if_pos c31] at H
          obtain ⟨c31b0, c31b1⟩ := eqs c31
          clear c31
          replace H := be H
          obtain ⟨t353, A32, H⟩ := H
          obtain rfl := Option.some.inj H
          go_enter Tryd.func27, Tryd.ntmps27
          go_wp2_with (first | ((with_reducible refine gate_callee (f := 52) rfl ?_); refine goesL_ (some 6) rfl rfl Tryd.func52 (by kernel_rfl) rfl #[.int .u32 a0, .int .i64 12, .int .i64 3] rfl ga ?_; (with_reducible refine (dec_field.calls a0 12 3 t333 _ A2.out).mono ?_); rintro e w' ⟨rfl, ⟨nd, rfl⟩⟩; refine ⟨_, rfl, ?_⟩) | ((with_reducible refine gate_callee (f := 52) rfl ?_); refine goesL_ (some 8) rfl rfl Tryd.func52 (by kernel_rfl) rfl #[.int .u32 a0, .int .i64 25, .int .i64 7] rfl ga ?_; (with_reducible refine (dec_field.calls a0 25 7 t334 _ A3.out).mono ?_); rintro e w' ⟨rfl, ⟨nd, rfl⟩⟩; refine ⟨_, rfl, ?_⟩) | ((with_reducible refine gate_callee (f := 52) rfl ?_); refine goesL_ (some 10) rfl rfl Tryd.func52 (by kernel_rfl) rfl #[.int .u32 a0, .int .i64 0, .int .i64 7] rfl ga ?_; (with_reducible refine (dec_field.calls a0 0 7 t335 _ A4.out).mono ?_); rintro e w' ⟨rfl, ⟨nd, rfl⟩⟩; refine ⟨_, rfl, ?_⟩) | ((with_reducible refine gate_callee (f := 55) rfl ?_); refine goesL_ (some 46) rfl rfl Tryd.func55 (by kernel_rfl) rfl #[.int .i64 t333, .int .i64 t334] rfl ga ?_; (with_reducible refine (dec_small.calls t333 t334 t353 _ A32.out).mono ?_); rintro e w33 ⟨rfl, hb⟩; refine ⟨_, rfl, ?_⟩; have n0_ := Aside0.mk (below_step bl hb); clear HB; have HB := n0_; clear n0_; (try clear hb)))
          go_ret
          exact ⟨fi, bl⟩
         ·rw [if_neg c31] at H
          have c31b0 : (t335 == 27) = false := beq_eq_false_iff_ne.mpr c31
          have c31b1 : (t335 != 27) = true := bne_iff_ne.mpr c31
          by_cases c34 : t335 = 51
          ·rw [if_pos c34] at H
           obtain ⟨c34b0, c34b1⟩ := eqs c34
           clear c34
           replace H := be H
           obtain ⟨t354, A35, H⟩ := H
           obtain rfl := Option.some.inj H
           go_enter Tryd.func27, Tryd.ntmps27
           go_wp2_with (first | ((with_reducible refine gate_callee (f := 52) rfl ?_); refine goesL_ (some 6) rfl rfl Tryd.func52 (by kernel_rfl) rfl #[.int .u32 a0, .int .i64 12, .int .i64 3] rfl ga ?_; (with_reducible refine (dec_field.calls a0 12 3 t333 _ A2.out).mono ?_); rintro e w' ⟨rfl, ⟨nd, rfl⟩⟩; refine ⟨_, rfl, ?_⟩) | ((with_reducible refine gate_callee (f := 52) rfl ?_); refine goesL_ (some 8) rfl rfl Tryd.func52 (by kernel_rfl) rfl #[.int .u32 a0, .int .i64 25, .int .i64 7] rfl ga ?_; (with_reducible refine (dec_field.calls a0 25 7 t334 _ A3.out).mono ?_); rintro e w' ⟨rfl, ⟨nd, rfl⟩⟩; refine ⟨_, rfl, ?_⟩) | ((with_reducible refine gate_callee (f := 52) rfl ?_); refine goesL_ (some 10) rfl rfl Tryd.func52 (by kernel_rfl) rfl #[.int .u32 a0, .int .i64 0, .int .i64 7] rfl ga ?_; (with_reducible refine (dec_field.calls a0 0 7 t335 _ A4.out).mono ?_); rintro e w' ⟨rfl, ⟨nd, rfl⟩⟩; refine ⟨_, rfl, ?_⟩) | ((with_reducible refine gate_callee (f := 56) rfl ?_); refine goesL_ (some 51) rfl rfl Tryd.func56 (by kernel_rfl) rfl #[.int .i64 t333, .int .i64 t334] rfl ga ?_; (with_reducible refine (dec_whole.calls k t333 t334 t354 _ A35.out).mono ?_); rintro e w36 ⟨rfl, hb⟩; refine ⟨_, rfl, ?_⟩; have n0_ := Aside0.mk (below_step bl hb); clear HB; have HB := n0_; clear n0_; (try clear hb)))
           go_ret
           exact ⟨fi, bl⟩
          ·rw [if_neg c34] at H
           have c34b0 : (t335 == 51) = false := beq_eq_false_iff_ne.mpr c34
           have c34b1 : (t335 != 51) = true := bne_iff_ne.mpr c34
           by_cases c37 : t335 = 59
           ·rw [if_pos c37] at H
            obtain ⟨c37b0, c37b1⟩ := eqs c37
            clear c37
            replace H := be H
            obtain ⟨t355, A38, H⟩ := H
            obtain rfl := Option.some.inj H
            go_enter Tryd.func27, Tryd.ntmps27
            go_wp2_with (first | ((with_reducible refine gate_callee (f := 52) rfl ?_); refine goesL_ (some 6) rfl rfl Tryd.func52 (by kernel_rfl) rfl #[.int .u32 a0, .int .i64 12, .int .i64 3] rfl ga ?_; (with_reducible refine (dec_field.calls a0 12 3 t333 _ A2.out).mono ?_); rintro e w' ⟨rfl, ⟨nd, rfl⟩⟩; refine ⟨_, rfl, ?_⟩) | ((with_reducible refine gate_callee (f := 52) rfl ?_); refine goesL_ (some 8) rfl rfl Tryd.func52 (by kernel_rfl) rfl #[.int .u32 a0, .int .i64 25, .int .i64 7] rfl ga ?_; (with_reducible refine (dec_field.calls a0 25 7 t334 _ A3.out).mono ?_); rintro e w' ⟨rfl, ⟨nd, rfl⟩⟩; refine ⟨_, rfl, ?_⟩) | ((with_reducible refine gate_callee (f := 52) rfl ?_); refine goesL_ (some 10) rfl rfl Tryd.func52 (by kernel_rfl) rfl #[.int .u32 a0, .int .i64 0, .int .i64 7] rfl ga ?_; (with_reducible refine (dec_field.calls a0 0 7 t335 _ A4.out).mono ?_); rintro e w' ⟨rfl, ⟨nd, rfl⟩⟩; refine ⟨_, rfl, ?_⟩) | ((with_reducible refine gate_callee (f := 57) rfl ?_); refine goesL_ (some 56) rfl rfl Tryd.func57 (by kernel_rfl) rfl #[.int .i64 t333, .int .i64 t334] rfl ga ?_; (with_reducible refine (dec_half.calls k t333 t334 t355 _ A38.out).mono ?_); rintro e w39 ⟨rfl, hb⟩; refine ⟨_, rfl, ?_⟩; have n0_ := Aside0.mk (below_step bl hb); clear HB; have HB := n0_; clear n0_; (try clear hb)))
            go_ret
            exact ⟨fi, bl⟩
           ·rw [if_neg c37] at H
            have c37b0 : (t335 == 59) = false := beq_eq_false_iff_ne.mpr c37
            have c37b1 : (t335 != 59) = true := bne_iff_ne.mpr c37
            by_cases c40 : t335 = 47
            ·rw [if_pos c40] at H
             obtain ⟨c40b0, c40b1⟩ := eqs c40
             clear c40
             replace H := be H
             obtain ⟨t356, A41, H⟩ := H
             obtain rfl := Option.some.inj H
             go_enter Tryd.func27, Tryd.ntmps27
             go_wp2_with (first | ((with_reducible refine gate_callee (f := 52) rfl ?_); refine goesL_ (some 6) rfl rfl Tryd.func52 (by kernel_rfl) rfl #[.int .u32 a0, .int .i64 12, .int .i64 3] rfl ga ?_; (with_reducible refine (dec_field.calls a0 12 3 t333 _ A2.out).mono ?_); rintro e w' ⟨rfl, ⟨nd, rfl⟩⟩; refine ⟨_, rfl, ?_⟩) | ((with_reducible refine gate_callee (f := 52) rfl ?_); refine goesL_ (some 8) rfl rfl Tryd.func52 (by kernel_rfl) rfl #[.int .u32 a0, .int .i64 25, .int .i64 7] rfl ga ?_; (with_reducible refine (dec_field.calls a0 25 7 t334 _ A3.out).mono ?_); rintro e w' ⟨rfl, ⟨nd, rfl⟩⟩; refine ⟨_, rfl, ?_⟩) | ((with_reducible refine gate_callee (f := 52) rfl ?_); refine goesL_ (some 10) rfl rfl Tryd.func52 (by kernel_rfl) rfl #[.int .u32 a0, .int .i64 0, .int .i64 7] rfl ga ?_; (with_reducible refine (dec_field.calls a0 0 7 t335 _ A4.out).mono ?_); rintro e w' ⟨rfl, ⟨nd, rfl⟩⟩; refine ⟨_, rfl, ?_⟩) | ((with_reducible refine gate_callee (f := 58) rfl ?_); refine goesL_ (some 61) rfl rfl Tryd.func58 (by kernel_rfl) rfl #[.int .u32 a0, .int .i64 t333] rfl ga ?_; (with_reducible refine (dec_atomic.calls k a0 t333 t356 _ A41.out).mono ?_); rintro e w42 ⟨rfl, hb⟩; refine ⟨_, rfl, ?_⟩; have n0_ := Aside0.mk (below_step bl hb); clear HB; have HB := n0_; clear n0_; (try clear hb)))
             go_ret
             exact ⟨fi, bl⟩
            ·rw [if_neg c40] at H
             have c40b0 : (t335 == 47) = false := beq_eq_false_iff_ne.mpr c40
             have c40b1 : (t335 != 47) = true := bne_iff_ne.mpr c40
             by_cases c43 : t335 = 115
             ·rw [if_pos c43] at H
              obtain ⟨c43b0, c43b1⟩ := eqs c43
              clear c43
              replace H := be H
              obtain ⟨t357, A44, H⟩ := H
              obtain rfl := Option.some.inj H
              go_enter Tryd.func27, Tryd.ntmps27
              go_wp2_with (first | ((with_reducible refine gate_callee (f := 52) rfl ?_); refine goesL_ (some 6) rfl rfl Tryd.func52 (by kernel_rfl) rfl #[.int .u32 a0, .int .i64 12, .int .i64 3] rfl ga ?_; (with_reducible refine (dec_field.calls a0 12 3 t333 _ A2.out).mono ?_); rintro e w' ⟨rfl, ⟨nd, rfl⟩⟩; refine ⟨_, rfl, ?_⟩) | ((with_reducible refine gate_callee (f := 52) rfl ?_); refine goesL_ (some 8) rfl rfl Tryd.func52 (by kernel_rfl) rfl #[.int .u32 a0, .int .i64 25, .int .i64 7] rfl ga ?_; (with_reducible refine (dec_field.calls a0 25 7 t334 _ A3.out).mono ?_); rintro e w' ⟨rfl, ⟨nd, rfl⟩⟩; refine ⟨_, rfl, ?_⟩) | ((with_reducible refine gate_callee (f := 52) rfl ?_); refine goesL_ (some 10) rfl rfl Tryd.func52 (by kernel_rfl) rfl #[.int .u32 a0, .int .i64 0, .int .i64 7] rfl ga ?_; (with_reducible refine (dec_field.calls a0 0 7 t335 _ A4.out).mono ?_); rintro e w' ⟨rfl, ⟨nd, rfl⟩⟩; refine ⟨_, rfl, ?_⟩) | ((with_reducible refine gate_callee (f := 59) rfl ?_); refine goesL_ (some 65) rfl rfl Tryd.func59 (by kernel_rfl) rfl #[.int .u32 a0] rfl ga ?_; (with_reducible refine (dec_system.calls k a0 t357 _ A44.out).mono ?_); rintro e w45 ⟨rfl, hb⟩; refine ⟨_, rfl, ?_⟩; have n0_ := Aside0.mk (below_step bl hb); clear HB; have HB := n0_; clear n0_; (try clear hb)))
              go_ret
              exact ⟨fi, bl⟩
             ·rw [if_neg c43] at H
              have c43b0 : (t335 == 115) = false := beq_eq_false_iff_ne.mpr c43
              have c43b1 : (t335 != 115) = true := bne_iff_ne.mpr c43
              by_cases c46 : t335 = 15
              ·rw [if_pos c46] at H
               obtain ⟨c46b0, c46b1⟩ := eqs c46
               clear c46
               obtain ⟨y358, hy358⟩ : ∃ y_ : List Int, y_ = (([0] : List Int)) := ⟨_, rfl⟩
               replace H : ((dec_pick.f k 63 t333 y358).bind fun t361 => (some t361)) = some r := by first | (rw [hy358]; with_reducible exact H) | (have H2_ := (Option.bind_some _ _).symm.trans H; rw [hy358]; with_reducible exact H2_) | (have H2_ := (Option.bind_some _ _).symm.trans H; with_reducible exact H2_) | with_reducible exact H | (rw [hy358]; exact H) | exact H
               have Ny358 := Aside0.mk hy358
               clear hy358
               replace H := be H
               obtain ⟨t361, A47, H⟩ := H
               obtain rfl := Option.some.inj H
               go_enter Tryd.func27, Tryd.ntmps27
               go_wp2_with (first | ((with_reducible refine gate_callee (f := 52) rfl ?_); refine goesL_ (some 6) rfl rfl Tryd.func52 (by kernel_rfl) rfl #[.int .u32 a0, .int .i64 12, .int .i64 3] rfl ga ?_; (with_reducible refine (dec_field.calls a0 12 3 t333 _ A2.out).mono ?_); rintro e w' ⟨rfl, ⟨nd, rfl⟩⟩; refine ⟨_, rfl, ?_⟩) | ((with_reducible refine gate_callee (f := 52) rfl ?_); refine goesL_ (some 8) rfl rfl Tryd.func52 (by kernel_rfl) rfl #[.int .u32 a0, .int .i64 25, .int .i64 7] rfl ga ?_; (with_reducible refine (dec_field.calls a0 25 7 t334 _ A3.out).mono ?_); rintro e w' ⟨rfl, ⟨nd, rfl⟩⟩; refine ⟨_, rfl, ?_⟩) | ((with_reducible refine gate_callee (f := 52) rfl ?_); refine goesL_ (some 10) rfl rfl Tryd.func52 (by kernel_rfl) rfl #[.int .u32 a0, .int .i64 0, .int .i64 7] rfl ga ?_; (with_reducible refine (dec_field.calls a0 0 7 t335 _ A4.out).mono ?_); rintro e w' ⟨rfl, ⟨nd, rfl⟩⟩; refine ⟨_, rfl, ?_⟩) | ((with_reducible refine gate_dst (N := 69) rfl ?_); refine Kd.R_lit (Kd.int .i64) _ 3 ?hg (N := 69) ?hd (xs := ([0] : List Int)) (inner := [.int .i64 0]) (ok := fun _ => True) (okp := fun _ => True) ?hr ?hp (fun _ hk => hk) trivial (Below.refl _ _) (Nat.le_refl _) (by simp) ?_; (case hd => rfl); (case hg => rfl); (case hr => first | (go_simp; done) | (go_simp; rfl)); (case hp => exact (Reps.one (show Kd.M (Kd.int .i64) _ _ _ 0 [.int .i64 0] from rfl) (Reps.none _ _))); intro v359 w48 ho49 hb hg_ hnew_; clear hg_ hnew_; (first | rw [← Ny358.out] at ho49 | (simp only [Int.reduceToNat] at ho49; rw [← Ny358.out] at ho49)); have n0_ := Aside0.mk (Kd.R_lower ho49 (below_size bl)); have n1_ := Aside0.mk (below_step bl hb); clear HB; have HO360 := n0_; have HB := n1_; clear n0_ n1_; clear hb ho49; obtain ⟨Ao50, co50, eo50⟩ := Kd.R_slice HO360.out; subst eo50) | ((with_reducible refine gate_callee (f := 53) rfl ?_); refine goesL_ (some 70) rfl rfl Tryd.func53 (by kernel_rfl) rfl #[.int .i64 63, .int .i64 t333, .slice Ao50 y358.length co50] rfl ga ?_; (with_reducible refine (dec_pick.calls k 63 t333 _ _ y358 t361 _ ?side1 ?side2 A47.out).mono ?_); (case side1 => repeat (first | exact (Kd.R_reads' HO360.out).2.2 | (with_reducible refine Kd.C_alloc ?_ _) | (with_reducible refine Kd.C_drewN ?_ _) | (with_reducible refine Kd.C_drew ?_))); (case side2 => exact (Kd.R_reads' HO360.out).2.1); rintro e w' ⟨rfl, ⟨nd, rfl⟩⟩; refine ⟨_, rfl, ?_⟩))
               go_ret
               exact ⟨fi, bl⟩
              ·rw [if_neg c46] at H
               have c46b0 : (t335 == 15) = false := beq_eq_false_iff_ne.mpr c46
               have c46b1 : (t335 != 15) = true := bne_iff_ne.mpr c46
               obtain rfl := Option.some.inj H
               go_enter Tryd.func27, Tryd.ntmps27
               go_wp2_with (first | ((with_reducible refine gate_callee (f := 52) rfl ?_); refine goesL_ (some 6) rfl rfl Tryd.func52 (by kernel_rfl) rfl #[.int .u32 a0, .int .i64 12, .int .i64 3] rfl ga ?_; (with_reducible refine (dec_field.calls a0 12 3 t333 _ A2.out).mono ?_); rintro e w' ⟨rfl, ⟨nd, rfl⟩⟩; refine ⟨_, rfl, ?_⟩) | ((with_reducible refine gate_callee (f := 52) rfl ?_); refine goesL_ (some 8) rfl rfl Tryd.func52 (by kernel_rfl) rfl #[.int .u32 a0, .int .i64 25, .int .i64 7] rfl ga ?_; (with_reducible refine (dec_field.calls a0 25 7 t334 _ A3.out).mono ?_); rintro e w' ⟨rfl, ⟨nd, rfl⟩⟩; refine ⟨_, rfl, ?_⟩) | ((with_reducible refine gate_callee (f := 52) rfl ?_); refine goesL_ (some 10) rfl rfl Tryd.func52 (by kernel_rfl) rfl #[.int .u32 a0, .int .i64 0, .int .i64 7] rfl ga ?_; (with_reducible refine (dec_field.calls a0 0 7 t335 _ A4.out).mono ?_); rintro e w' ⟨rfl, ⟨nd, rfl⟩⟩; refine ⟨_, rfl, ?_⟩))
               go_ret
               exact ⟨fi, bl⟩

/-! ### dec_Decode: function 9 -/
def dec_Decode.f (k : Nat) (a0 : Int) : Option (Int × Int × Int × Int × Int × Bool × Bool) := (dec_operation.f k a0).bind fun t363 => ((dec_parts.f k a0 t363).bind fun bt364 => ((enc_Encode.f k bt364.1 bt364.2.1 bt364.2.2.1 bt364.2.2.2.1 bt364.2.2.2.2.1 bt364.2.2.2.2.2.1 bt364.2.2.2.2.2.2).bind fun bt372 => (if bt372.2 = 0 then (if bt372.1 = a0 then (some (bt364.1, bt364.2.1, bt364.2.2.1, bt364.2.2.2.1, bt364.2.2.2.2.1, bt364.2.2.2.2.2.1, bt364.2.2.2.2.2.2)) else (some (0, 0, 0, 0, wrap64 (a0), false, false))) else (some (0, 0, 0, 0, wrap64 (a0), false, false)))))
theorem dec_Decode.mono : ∀ a0 k, LeO (dec_Decode.f k a0) (dec_Decode.f (k + 1) a0) := by
 intro a0 k
 unfold dec_Decode.f
 repeat' first | (with_reducible first | exact dec_operation.mono _ _ | exact dec_parts.mono _ _ _ | exact enc_Encode.mono _ _ _ _ _ _ _ _ | exact LeO.refl _ | exact LeO.none _ | refine LeO.ite ?_ ?_ | refine LeO.bind ?_ (fun _ => ?_)) | exact dec_operation.mono _ _ | exact dec_parts.mono _ _ _ | exact enc_Encode.mono _ _ _ _ _ _ _ _ | exact LeO.none _ | refine LeO.ite ?_ ?_ | refine LeO.bind ?_ (fun _ => ?_)
set_option maxHeartbeats 8000000 in
set_option maxRecDepth 100000 in
theorem dec_Decode.calls (k : Nat) (a0 : Int) (r1 : Int) (r2 : Int) (r3 : Int) (r4 : Int) (r5 : Int) (r6 : Bool) (r7 : Bool) (w : World) (hL : Laid w) (h : dec_Decode.f k a0 = some (r1, r2, r3, r4, r5, r6, r7)) :
  Calls Tryd.prog 9 #[.int .u32 a0] w fun e w' => e = .returned (.agg #[.int .i64 r1, .int .i64 r2, .int .i64 r3, .int .i64 r4, .int .i64 r5, .bool r6, .bool r7]) ∧ Below w.heap.size w w' := by
 have HL := Aside0.mk hL
 clear hL
 have hu24 := Tryd.underlying24
 have HB := Aside0.mk (Below.refl w.heap.size w)
 have H : ((dec_operation.f k a0).bind fun t363 => ((dec_parts.f k a0 t363).bind fun bt364 => ((enc_Encode.f k bt364.1 bt364.2.1 bt364.2.2.1 bt364.2.2.2.1 bt364.2.2.2.2.1 bt364.2.2.2.2.2.1 bt364.2.2.2.2.2.2).bind fun bt372 => (if bt372.2 = 0 then (if bt372.1 = a0 then (some (bt364.1, bt364.2.1, bt364.2.2.1, bt364.2.2.2.1, bt364.2.2.2.2.1, bt364.2.2.2.2.2.1, bt364.2.2.2.2.2.2)) else (some (0, 0, 0, 0, wrap64 (a0), false, false))) else (some (0, 0, 0, 0, wrap64 (a0), false, false)))))) = some (r1, r2, r3, r4, r5, r6, r7) := h
 clear h
 replace H := be H
 obtain ⟨t363, A2, H⟩ := H
 replace H := be H
 obtain ⟨⟨t364, t365, t366, t367, t368, t369, t370⟩, A3, H⟩ := H
 dsimp only at H
 replace H := be H
 obtain ⟨⟨t372, t373⟩, A4, H⟩ := H
 dsimp only at H
 by_cases c5 : t373 = 0
 ·rw [if_pos c5] at H
  obtain ⟨c5b0, c5b1⟩ := eqs c5
  clear c5
  by_cases c6 : t372 = a0
  ·rw [if_pos c6] at H
   have c6b0 : (t372 == a0) = true := beq_iff_eq.mpr c6
   have c6b1 : (t372 != a0) = false := bne_eq_false_iff_eq.mpr c6
   clear c6
   simp only [Option.some.injEq, Prod.mk.injEq] at H
   obtain ⟨rfl, rfl, rfl, rfl, rfl, rfl, rfl⟩ := H
   go_enter Tryd.func9, Tryd.ntmps9
   go_wp2_with (first | ((with_reducible refine gate_dst (N := 2) rfl ?_); refine box_event ?hg (N := 2) ?hd (cs := #[.int .i64 0, .int .i64 0, .int .i64 0, .int .i64 0, .int .i64 0, .bool false, .bool false]) (t := 24) ?hr ?_; (case hd => rfl); (case hg => rfl); (case hr => first | (go_simp; done) | (go_simp; rfl)); intro gb362 hg w7 hbox hb; obtain ⟨n0_, GW362⟩ := nb (w := w) hg hb; clear HB; have HB := n0_; have BK362 := Aside0.mk hbox; have GE362 := GW362; clear n0_ hb hbox hg) | ((with_reducible refine gate_callee (f := 27) rfl ?_); refine goesL_ (some 8) rfl rfl Tryd.func27 (by kernel_rfl) rfl #[.int .u32 a0] rfl ga ?_; (with_reducible refine (dec_operation.calls k a0 t363 _ A2.out).mono ?_); rintro e w8 ⟨rfl, hb⟩; refine ⟨_, rfl, ?_⟩; have n0_ := Aside0.mk (blk_below (g := gb362) (o := .cells #[.int .i64 0, .int .i64 0, .int .i64 0, .int .i64 0, .int .i64 0, .bool false, .bool false] 24 (0, 0)) (bk BK362.out) hb); have n1_ := Aside0.mk (below_step bl hb); clear BK362; clear HB; have BK362 := n0_; have HB := n1_; clear n0_ n1_; (try clear hb)) | ((with_reducible refine gate_callee (f := 26) rfl ?_); refine goesL_ (some 9) rfl rfl Tryd.func26 (by kernel_rfl) rfl #[.int .u32 a0, .int .i64 t363] rfl ga ?_; (with_reducible refine (dec_parts.calls k a0 t363 t364 t365 t366 t367 t368 t369 t370 _ (by first | exact HL.out | exact laid_drewN HL.out | exact laid_below HL.out bl | exact laid_below HL.out HB.out | exact laid_belowd HL.out HB.out) A3.out).mono ?_); rintro e w9 ⟨rfl, hb⟩; refine ⟨_, rfl, ?_⟩; have n0_ := Aside0.mk (blk_below (g := gb362) (o := .cells #[.int .i64 0, .int .i64 0, .int .i64 0, .int .i64 0, .int .i64 0, .bool false, .bool false] 24 (0, 0)) (bk BK362.out) hb); have n1_ := Aside0.mk (below_step bl hb); clear BK362; clear HB; have BK362 := n0_; have HB := n1_; clear n0_ n1_; (try clear hb)) | ((with_reducible refine gate_dst (N := 3) rfl ?_); refine box_event ?hg (N := 3) ?hd (cs := #[.int .i64 0, .int .i64 0, .int .i64 0, .int .i64 0, .int .i64 0, .bool false, .bool false]) (t := 24) ?hr ?_; (case hd => rfl); (case hg => rfl); (case hr => first | (go_simp; done) | (go_simp; rfl)); intro gb371 hg w10 hbox hb; have n0_ := Aside0.mk (blk_below (g := gb362) (o := .cells #[.int .i64 0, .int .i64 0, .int .i64 0, .int .i64 0, .int .i64 0, .bool false, .bool false] 24 (0, 0)) (bk BK362.out) hb); have n1_ := Aside0.mk (below_step bl hb); have n2_ := Aside0.mk (hbox); have n3_ := Aside0.mk ((by rw [hg]; exact (below_size bl) : w.heap.size ≤ gb371)); have n4_ := Aside0.mk ((by rw [hg]; exact (below_size bl) : w.heap.size ≤ gb371)); have n5_ := Aside0.mk ((by rw [hg]; exact Nat.ne_of_lt (blk_lt (g := gb362) (o := .cells #[.int .i64 0, .int .i64 0, .int .i64 0, .int .i64 0, .int .i64 0, .bool false, .bool false] 24 (0, 0)) (bk BK362.out)) : gb362 ≠ gb371)); have n6_ := Aside0.mk ((by rw [hg]; exact Nat.ne_of_gt (blk_lt (g := gb362) (o := .cells #[.int .i64 0, .int .i64 0, .int .i64 0, .int .i64 0, .int .i64 0, .bool false, .bool false] 24 (0, 0)) (bk BK362.out)) : gb371 ≠ gb362)); clear BK362; clear HB; have BK362 := n0_; have HB := n1_; have BK371 := n2_; have GW371 := n3_; have GE371 := n4_; have NB362_371 := n5_; have NB371_362 := n6_; clear n0_ n1_ n2_ n3_ n4_ n5_ n6_; clear hb hbox hg; have hnb11 := NB371_362.out; have hnc11 := NB362_371.out; obtain ⟨hcz12_0, hcz12_1, hcz12_2, hcz12_3, hcz12_4, hcz12_5, hcz12_6, hfz12_0, hfz12_1, hfz12_2, hfz12_3, hfz12_4, hfz12_5, hfz12_6⟩ := cz7 (w := w10) BK371.out) | ((with_reducible refine gate_callee (f := 13) rfl ?_); refine goesL_ (some 12) rfl rfl Tryd.func13 (by kernel_rfl) rfl #[.agg #[.int .i64 t364, .int .i64 t365, .int .i64 t366, .int .i64 t367, .int .i64 t368, .bool t369, .bool t370]] rfl ga ?_; (with_reducible refine (enc_Encode.calls k t364 t365 t366 t367 t368 t369 t370 t372 t373 _ (by first | exact HL.out | exact laid_drewN HL.out | exact laid_below HL.out bl | exact laid_below HL.out HB.out | exact laid_belowd HL.out HB.out) A4.out).mono ?_); rintro e w13 ⟨rfl, hb⟩; refine ⟨_, rfl, ?_⟩; have n0_ := Aside0.mk (blk_below (g := gb362) (o := .cells #[.int .i64 0, .int .i64 0, .int .i64 0, .int .i64 0, .int .i64 0, .bool false, .bool false] 24 (0, 0)) (by refine bx ?_; refine blk_far ?_ NB362_371.out _; refine bx ?_; refine blk_far ?_ NB362_371.out _; refine bx ?_; refine blk_far ?_ NB362_371.out _; refine bx ?_; refine blk_far ?_ NB362_371.out _; refine bx ?_; refine blk_far ?_ NB362_371.out _; refine bx ?_; refine blk_far ?_ NB362_371.out _; refine bx ?_; refine blk_far ?_ NB362_371.out _; refine bx ?_; exact BK362.out) hb); have n1_ := Aside0.mk (blk_below (g := gb371) (o := .cells #[.int .i64 t364, .int .i64 t365, .int .i64 t366, .int .i64 t367, .int .i64 t368, .bool t369, .bool t370] 24 (0, 0)) (by refine bx ?_; refine blk_put (cs := #[.int .i64 t364, .int .i64 t365, .int .i64 t366, .int .i64 t367, .int .i64 t368, .bool t369, .bool false]) ?_ 6 _ rfl; refine bx ?_; refine blk_put (cs := #[.int .i64 t364, .int .i64 t365, .int .i64 t366, .int .i64 t367, .int .i64 t368, .bool false, .bool false]) ?_ 5 _ rfl; refine bx ?_; refine blk_put (cs := #[.int .i64 t364, .int .i64 t365, .int .i64 t366, .int .i64 t367, .int .i64 0, .bool false, .bool false]) ?_ 4 _ rfl; refine bx ?_; refine blk_put (cs := #[.int .i64 t364, .int .i64 t365, .int .i64 t366, .int .i64 0, .int .i64 0, .bool false, .bool false]) ?_ 3 _ rfl; refine bx ?_; refine blk_put (cs := #[.int .i64 t364, .int .i64 t365, .int .i64 0, .int .i64 0, .int .i64 0, .bool false, .bool false]) ?_ 2 _ rfl; refine bx ?_; refine blk_put (cs := #[.int .i64 t364, .int .i64 0, .int .i64 0, .int .i64 0, .int .i64 0, .bool false, .bool false]) ?_ 1 _ rfl; refine bx ?_; refine blk_put (cs := #[.int .i64 0, .int .i64 0, .int .i64 0, .int .i64 0, .int .i64 0, .bool false, .bool false]) ?_ 0 _ rfl; refine bx ?_; exact BK371.out) hb); have n2_ := Aside0.mk (below_step bl hb); clear BK362; clear BK371; clear HB; have BK362 := n0_; have BK371 := n1_; have HB := n2_; clear n0_ n1_ n2_; (try clear hb); obtain ⟨hcz14_0, hcz14_1, hcz14_2, hcz14_3, hcz14_4, hcz14_5, hcz14_6, hfz14_0, hfz14_1, hfz14_2, hfz14_3, hfz14_4, hfz14_5, hfz14_6⟩ := cz7 (w := w13) BK371.out; obtain ⟨hcz15_0, hcz15_1, hcz15_2, hcz15_3, hcz15_4, hcz15_5, hcz15_6, hfz15_0, hfz15_1, hfz15_2, hfz15_3, hfz15_4, hfz15_5, hfz15_6⟩ := cz7 (w := w13) BK362.out))
   refine bodyPost_ret (results_cell_row rfl _ _ gb362 24 #[.int .i64 t364, .int .i64 t365, .int .i64 t366, .int .i64 t367, .int .i64 t368, .bool t369, .bool t370] (0, 0) _ rfl (by refine bx ?_; refine blk_put (cs := #[.int .i64 t364, .int .i64 t365, .int .i64 t366, .int .i64 t367, .int .i64 t368, .bool t369, .bool false]) ?_ 6 _ rfl; refine bx ?_; refine blk_put (cs := #[.int .i64 t364, .int .i64 t365, .int .i64 t366, .int .i64 t367, .int .i64 t368, .bool false, .bool false]) ?_ 5 _ rfl; refine bx ?_; refine blk_put (cs := #[.int .i64 t364, .int .i64 t365, .int .i64 t366, .int .i64 t367, .int .i64 0, .bool false, .bool false]) ?_ 4 _ rfl; refine bx ?_; refine blk_put (cs := #[.int .i64 t364, .int .i64 t365, .int .i64 t366, .int .i64 0, .int .i64 0, .bool false, .bool false]) ?_ 3 _ rfl; refine bx ?_; refine blk_put (cs := #[.int .i64 t364, .int .i64 t365, .int .i64 0, .int .i64 0, .int .i64 0, .bool false, .bool false]) ?_ 2 _ rfl; refine bx ?_; refine blk_put (cs := #[.int .i64 t364, .int .i64 0, .int .i64 0, .int .i64 0, .int .i64 0, .bool false, .bool false]) ?_ 1 _ rfl; refine bx ?_; refine blk_put (cs := #[.int .i64 0, .int .i64 0, .int .i64 0, .int .i64 0, .int .i64 0, .bool false, .bool false]) ?_ 0 _ rfl; refine bx ?_; exact BK362.out) Tryd.underlying24 rfl (by kernel_rfl)) rfl ?_
   exact ⟨fi, bl⟩
  ·rw [if_neg c6] at H
   have c6b0 : (t372 == a0) = false := beq_eq_false_iff_ne.mpr c6
   have c6b1 : (t372 != a0) = true := bne_iff_ne.mpr c6
   simp only [Option.some.injEq, Prod.mk.injEq] at H
   obtain ⟨rfl, rfl, rfl, rfl, rfl, rfl, rfl⟩ := H
   go_enter Tryd.func9, Tryd.ntmps9
   go_wp2_with (first | ((with_reducible refine gate_dst (N := 2) rfl ?_); refine box_event ?hg (N := 2) ?hd (cs := #[.int .i64 0, .int .i64 0, .int .i64 0, .int .i64 0, .int .i64 0, .bool false, .bool false]) (t := 24) ?hr ?_; (case hd => rfl); (case hg => rfl); (case hr => first | (go_simp; done) | (go_simp; rfl)); intro gb362 hg w16 hbox hb; obtain ⟨n0_, GW362⟩ := nb (w := w) hg hb; clear HB; have HB := n0_; have BK362 := Aside0.mk hbox; have GE362 := GW362; clear n0_ hb hbox hg) | ((with_reducible refine gate_callee (f := 27) rfl ?_); refine goesL_ (some 8) rfl rfl Tryd.func27 (by kernel_rfl) rfl #[.int .u32 a0] rfl ga ?_; (with_reducible refine (dec_operation.calls k a0 t363 _ A2.out).mono ?_); rintro e w17 ⟨rfl, hb⟩; refine ⟨_, rfl, ?_⟩; have n0_ := Aside0.mk (blk_below (g := gb362) (o := .cells #[.int .i64 0, .int .i64 0, .int .i64 0, .int .i64 0, .int .i64 0, .bool false, .bool false] 24 (0, 0)) (bk BK362.out) hb); have n1_ := Aside0.mk (below_step bl hb); clear BK362; clear HB; have BK362 := n0_; have HB := n1_; clear n0_ n1_; (try clear hb)) | ((with_reducible refine gate_callee (f := 26) rfl ?_); refine goesL_ (some 9) rfl rfl Tryd.func26 (by kernel_rfl) rfl #[.int .u32 a0, .int .i64 t363] rfl ga ?_; (with_reducible refine (dec_parts.calls k a0 t363 t364 t365 t366 t367 t368 t369 t370 _ (by first | exact HL.out | exact laid_drewN HL.out | exact laid_below HL.out bl | exact laid_below HL.out HB.out | exact laid_belowd HL.out HB.out) A3.out).mono ?_); rintro e w18 ⟨rfl, hb⟩; refine ⟨_, rfl, ?_⟩; have n0_ := Aside0.mk (blk_below (g := gb362) (o := .cells #[.int .i64 0, .int .i64 0, .int .i64 0, .int .i64 0, .int .i64 0, .bool false, .bool false] 24 (0, 0)) (bk BK362.out) hb); have n1_ := Aside0.mk (below_step bl hb); clear BK362; clear HB; have BK362 := n0_; have HB := n1_; clear n0_ n1_; (try clear hb)) | ((with_reducible refine gate_dst (N := 3) rfl ?_); refine box_event ?hg (N := 3) ?hd (cs := #[.int .i64 0, .int .i64 0, .int .i64 0, .int .i64 0, .int .i64 0, .bool false, .bool false]) (t := 24) ?hr ?_; (case hd => rfl); (case hg => rfl); (case hr => first | (go_simp; done) | (go_simp; rfl)); intro gb371 hg w19 hbox hb; have n0_ := Aside0.mk (blk_below (g := gb362) (o := .cells #[.int .i64 0, .int .i64 0, .int .i64 0, .int .i64 0, .int .i64 0, .bool false, .bool false] 24 (0, 0)) (bk BK362.out) hb); have n1_ := Aside0.mk (below_step bl hb); have n2_ := Aside0.mk (hbox); have n3_ := Aside0.mk ((by rw [hg]; exact (below_size bl) : w.heap.size ≤ gb371)); have n4_ := Aside0.mk ((by rw [hg]; exact (below_size bl) : w.heap.size ≤ gb371)); have n5_ := Aside0.mk ((by rw [hg]; exact Nat.ne_of_lt (blk_lt (g := gb362) (o := .cells #[.int .i64 0, .int .i64 0, .int .i64 0, .int .i64 0, .int .i64 0, .bool false, .bool false] 24 (0, 0)) (bk BK362.out)) : gb362 ≠ gb371)); have n6_ := Aside0.mk ((by rw [hg]; exact Nat.ne_of_gt (blk_lt (g := gb362) (o := .cells #[.int .i64 0, .int .i64 0, .int .i64 0, .int .i64 0, .int .i64 0, .bool false, .bool false] 24 (0, 0)) (bk BK362.out)) : gb371 ≠ gb362)); clear BK362; clear HB; have BK362 := n0_; have HB := n1_; have BK371 := n2_; have GW371 := n3_; have GE371 := n4_; have NB362_371 := n5_; have NB371_362 := n6_; clear n0_ n1_ n2_ n3_ n4_ n5_ n6_; clear hb hbox hg; have hnb20 := NB371_362.out; have hnc20 := NB362_371.out; obtain ⟨hcz21_0, hcz21_1, hcz21_2, hcz21_3, hcz21_4, hcz21_5, hcz21_6, hfz21_0, hfz21_1, hfz21_2, hfz21_3, hfz21_4, hfz21_5, hfz21_6⟩ := cz7 (w := w19) BK371.out) | ((with_reducible refine gate_callee (f := 13) rfl ?_); refine goesL_ (some 12) rfl rfl Tryd.func13 (by kernel_rfl) rfl #[.agg #[.int .i64 t364, .int .i64 t365, .int .i64 t366, .int .i64 t367, .int .i64 t368, .bool t369, .bool t370]] rfl ga ?_; (with_reducible refine (enc_Encode.calls k t364 t365 t366 t367 t368 t369 t370 t372 t373 _ (by first | exact HL.out | exact laid_drewN HL.out | exact laid_below HL.out bl | exact laid_below HL.out HB.out | exact laid_belowd HL.out HB.out) A4.out).mono ?_); rintro e w22 ⟨rfl, hb⟩; refine ⟨_, rfl, ?_⟩; have n0_ := Aside0.mk (blk_below (g := gb362) (o := .cells #[.int .i64 0, .int .i64 0, .int .i64 0, .int .i64 0, .int .i64 0, .bool false, .bool false] 24 (0, 0)) (by refine bx ?_; refine blk_far ?_ NB362_371.out _; refine bx ?_; refine blk_far ?_ NB362_371.out _; refine bx ?_; refine blk_far ?_ NB362_371.out _; refine bx ?_; refine blk_far ?_ NB362_371.out _; refine bx ?_; refine blk_far ?_ NB362_371.out _; refine bx ?_; refine blk_far ?_ NB362_371.out _; refine bx ?_; refine blk_far ?_ NB362_371.out _; refine bx ?_; exact BK362.out) hb); have n1_ := Aside0.mk (blk_below (g := gb371) (o := .cells #[.int .i64 t364, .int .i64 t365, .int .i64 t366, .int .i64 t367, .int .i64 t368, .bool t369, .bool t370] 24 (0, 0)) (by refine bx ?_; refine blk_put (cs := #[.int .i64 t364, .int .i64 t365, .int .i64 t366, .int .i64 t367, .int .i64 t368, .bool t369, .bool false]) ?_ 6 _ rfl; refine bx ?_; refine blk_put (cs := #[.int .i64 t364, .int .i64 t365, .int .i64 t366, .int .i64 t367, .int .i64 t368, .bool false, .bool false]) ?_ 5 _ rfl; refine bx ?_; refine blk_put (cs := #[.int .i64 t364, .int .i64 t365, .int .i64 t366, .int .i64 t367, .int .i64 0, .bool false, .bool false]) ?_ 4 _ rfl; refine bx ?_; refine blk_put (cs := #[.int .i64 t364, .int .i64 t365, .int .i64 t366, .int .i64 0, .int .i64 0, .bool false, .bool false]) ?_ 3 _ rfl; refine bx ?_; refine blk_put (cs := #[.int .i64 t364, .int .i64 t365, .int .i64 0, .int .i64 0, .int .i64 0, .bool false, .bool false]) ?_ 2 _ rfl; refine bx ?_; refine blk_put (cs := #[.int .i64 t364, .int .i64 0, .int .i64 0, .int .i64 0, .int .i64 0, .bool false, .bool false]) ?_ 1 _ rfl; refine bx ?_; refine blk_put (cs := #[.int .i64 0, .int .i64 0, .int .i64 0, .int .i64 0, .int .i64 0, .bool false, .bool false]) ?_ 0 _ rfl; refine bx ?_; exact BK371.out) hb); have n2_ := Aside0.mk (below_step bl hb); clear BK362; clear BK371; clear HB; have BK362 := n0_; have BK371 := n1_; have HB := n2_; clear n0_ n1_ n2_; (try clear hb); obtain ⟨hcz23_0, hcz23_1, hcz23_2, hcz23_3, hcz23_4, hcz23_5, hcz23_6, hfz23_0, hfz23_1, hfz23_2, hfz23_3, hfz23_4, hfz23_5, hfz23_6⟩ := cz7 (w := w22) BK362.out))
   refine bodyPost_ret (results_cell_row rfl _ _ gb362 24 #[.int .i64 0, .int .i64 0, .int .i64 0, .int .i64 0, .int .i64 (wrap64 (a0)), .bool false, .bool false] (0, 0) _ rfl (by refine bx ?_; refine blk_put (cs := #[.int .i64 0, .int .i64 0, .int .i64 0, .int .i64 0, .int .i64 (wrap64 (a0)), .bool false, .bool false]) ?_ 6 _ rfl; refine bx ?_; refine blk_put (cs := #[.int .i64 0, .int .i64 0, .int .i64 0, .int .i64 0, .int .i64 (wrap64 (a0)), .bool false, .bool false]) ?_ 5 _ rfl; refine bx ?_; refine blk_put (cs := #[.int .i64 0, .int .i64 0, .int .i64 0, .int .i64 0, .int .i64 0, .bool false, .bool false]) ?_ 4 _ rfl; refine bx ?_; refine blk_put (cs := #[.int .i64 0, .int .i64 0, .int .i64 0, .int .i64 0, .int .i64 0, .bool false, .bool false]) ?_ 3 _ rfl; refine bx ?_; refine blk_put (cs := #[.int .i64 0, .int .i64 0, .int .i64 0, .int .i64 0, .int .i64 0, .bool false, .bool false]) ?_ 2 _ rfl; refine bx ?_; refine blk_put (cs := #[.int .i64 0, .int .i64 0, .int .i64 0, .int .i64 0, .int .i64 0, .bool false, .bool false]) ?_ 1 _ rfl; refine bx ?_; refine blk_put (cs := #[.int .i64 0, .int .i64 0, .int .i64 0, .int .i64 0, .int .i64 0, .bool false, .bool false]) ?_ 0 _ rfl; refine bx ?_; exact BK362.out) Tryd.underlying24 rfl (by kernel_rfl)) rfl ?_
   exact ⟨fi, bl⟩
 ·rw [if_neg c5] at H
  have c5b0 : (t373 == 0) = false := beq_eq_false_iff_ne.mpr c5
  have c5b1 : (t373 != 0) = true := bne_iff_ne.mpr c5
  simp only [Option.some.injEq, Prod.mk.injEq] at H
  obtain ⟨rfl, rfl, rfl, rfl, rfl, rfl, rfl⟩ := H
  go_enter Tryd.func9, Tryd.ntmps9
  go_wp2_with (first | ((with_reducible refine gate_dst (N := 2) rfl ?_); refine box_event ?hg (N := 2) ?hd (cs := #[.int .i64 0, .int .i64 0, .int .i64 0, .int .i64 0, .int .i64 0, .bool false, .bool false]) (t := 24) ?hr ?_; (case hd => rfl); (case hg => rfl); (case hr => first | (go_simp; done) | (go_simp; rfl)); intro gb362 hg w24 hbox hb; obtain ⟨n0_, GW362⟩ := nb (w := w) hg hb; clear HB; have HB := n0_; have BK362 := Aside0.mk hbox; have GE362 := GW362; clear n0_ hb hbox hg) | ((with_reducible refine gate_callee (f := 27) rfl ?_); refine goesL_ (some 8) rfl rfl Tryd.func27 (by kernel_rfl) rfl #[.int .u32 a0] rfl ga ?_; (with_reducible refine (dec_operation.calls k a0 t363 _ A2.out).mono ?_); rintro e w25 ⟨rfl, hb⟩; refine ⟨_, rfl, ?_⟩; have n0_ := Aside0.mk (blk_below (g := gb362) (o := .cells #[.int .i64 0, .int .i64 0, .int .i64 0, .int .i64 0, .int .i64 0, .bool false, .bool false] 24 (0, 0)) (bk BK362.out) hb); have n1_ := Aside0.mk (below_step bl hb); clear BK362; clear HB; have BK362 := n0_; have HB := n1_; clear n0_ n1_; (try clear hb)) | ((with_reducible refine gate_callee (f := 26) rfl ?_); refine goesL_ (some 9) rfl rfl Tryd.func26 (by kernel_rfl) rfl #[.int .u32 a0, .int .i64 t363] rfl ga ?_; (with_reducible refine (dec_parts.calls k a0 t363 t364 t365 t366 t367 t368 t369 t370 _ (by first | exact HL.out | exact laid_drewN HL.out | exact laid_below HL.out bl | exact laid_below HL.out HB.out | exact laid_belowd HL.out HB.out) A3.out).mono ?_); rintro e w26 ⟨rfl, hb⟩; refine ⟨_, rfl, ?_⟩; have n0_ := Aside0.mk (blk_below (g := gb362) (o := .cells #[.int .i64 0, .int .i64 0, .int .i64 0, .int .i64 0, .int .i64 0, .bool false, .bool false] 24 (0, 0)) (bk BK362.out) hb); have n1_ := Aside0.mk (below_step bl hb); clear BK362; clear HB; have BK362 := n0_; have HB := n1_; clear n0_ n1_; (try clear hb)) | ((with_reducible refine gate_dst (N := 3) rfl ?_); refine box_event ?hg (N := 3) ?hd (cs := #[.int .i64 0, .int .i64 0, .int .i64 0, .int .i64 0, .int .i64 0, .bool false, .bool false]) (t := 24) ?hr ?_; (case hd => rfl); (case hg => rfl); (case hr => first | (go_simp; done) | (go_simp; rfl)); intro gb371 hg w27 hbox hb; have n0_ := Aside0.mk (blk_below (g := gb362) (o := .cells #[.int .i64 0, .int .i64 0, .int .i64 0, .int .i64 0, .int .i64 0, .bool false, .bool false] 24 (0, 0)) (bk BK362.out) hb); have n1_ := Aside0.mk (below_step bl hb); have n2_ := Aside0.mk (hbox); have n3_ := Aside0.mk ((by rw [hg]; exact (below_size bl) : w.heap.size ≤ gb371)); have n4_ := Aside0.mk ((by rw [hg]; exact (below_size bl) : w.heap.size ≤ gb371)); have n5_ := Aside0.mk ((by rw [hg]; exact Nat.ne_of_lt (blk_lt (g := gb362) (o := .cells #[.int .i64 0, .int .i64 0, .int .i64 0, .int .i64 0, .int .i64 0, .bool false, .bool false] 24 (0, 0)) (bk BK362.out)) : gb362 ≠ gb371)); have n6_ := Aside0.mk ((by rw [hg]; exact Nat.ne_of_gt (blk_lt (g := gb362) (o := .cells #[.int .i64 0, .int .i64 0, .int .i64 0, .int .i64 0, .int .i64 0, .bool false, .bool false] 24 (0, 0)) (bk BK362.out)) : gb371 ≠ gb362)); clear BK362; clear HB; have BK362 := n0_; have HB := n1_; have BK371 := n2_; have GW371 := n3_; have GE371 := n4_; have NB362_371 := n5_; have NB371_362 := n6_; clear n0_ n1_ n2_ n3_ n4_ n5_ n6_; clear hb hbox hg; have hnb28 := NB371_362.out; have hnc28 := NB362_371.out; obtain ⟨hcz29_0, hcz29_1, hcz29_2, hcz29_3, hcz29_4, hcz29_5, hcz29_6, hfz29_0, hfz29_1, hfz29_2, hfz29_3, hfz29_4, hfz29_5, hfz29_6⟩ := cz7 (w := w27) BK371.out) | ((with_reducible refine gate_callee (f := 13) rfl ?_); refine goesL_ (some 12) rfl rfl Tryd.func13 (by kernel_rfl) rfl #[.agg #[.int .i64 t364, .int .i64 t365, .int .i64 t366, .int .i64 t367, .int .i64 t368, .bool t369, .bool t370]] rfl ga ?_; (with_reducible refine (enc_Encode.calls k t364 t365 t366 t367 t368 t369 t370 t372 t373 _ (by first | exact HL.out | exact laid_drewN HL.out | exact laid_below HL.out bl | exact laid_below HL.out HB.out | exact laid_belowd HL.out HB.out) A4.out).mono ?_); rintro e w30 ⟨rfl, hb⟩; refine ⟨_, rfl, ?_⟩; have n0_ := Aside0.mk (blk_below (g := gb362) (o := .cells #[.int .i64 0, .int .i64 0, .int .i64 0, .int .i64 0, .int .i64 0, .bool false, .bool false] 24 (0, 0)) (by refine bx ?_; refine blk_far ?_ NB362_371.out _; refine bx ?_; refine blk_far ?_ NB362_371.out _; refine bx ?_; refine blk_far ?_ NB362_371.out _; refine bx ?_; refine blk_far ?_ NB362_371.out _; refine bx ?_; refine blk_far ?_ NB362_371.out _; refine bx ?_; refine blk_far ?_ NB362_371.out _; refine bx ?_; refine blk_far ?_ NB362_371.out _; refine bx ?_; exact BK362.out) hb); have n1_ := Aside0.mk (blk_below (g := gb371) (o := .cells #[.int .i64 t364, .int .i64 t365, .int .i64 t366, .int .i64 t367, .int .i64 t368, .bool t369, .bool t370] 24 (0, 0)) (by refine bx ?_; refine blk_put (cs := #[.int .i64 t364, .int .i64 t365, .int .i64 t366, .int .i64 t367, .int .i64 t368, .bool t369, .bool false]) ?_ 6 _ rfl; refine bx ?_; refine blk_put (cs := #[.int .i64 t364, .int .i64 t365, .int .i64 t366, .int .i64 t367, .int .i64 t368, .bool false, .bool false]) ?_ 5 _ rfl; refine bx ?_; refine blk_put (cs := #[.int .i64 t364, .int .i64 t365, .int .i64 t366, .int .i64 t367, .int .i64 0, .bool false, .bool false]) ?_ 4 _ rfl; refine bx ?_; refine blk_put (cs := #[.int .i64 t364, .int .i64 t365, .int .i64 t366, .int .i64 0, .int .i64 0, .bool false, .bool false]) ?_ 3 _ rfl; refine bx ?_; refine blk_put (cs := #[.int .i64 t364, .int .i64 t365, .int .i64 0, .int .i64 0, .int .i64 0, .bool false, .bool false]) ?_ 2 _ rfl; refine bx ?_; refine blk_put (cs := #[.int .i64 t364, .int .i64 0, .int .i64 0, .int .i64 0, .int .i64 0, .bool false, .bool false]) ?_ 1 _ rfl; refine bx ?_; refine blk_put (cs := #[.int .i64 0, .int .i64 0, .int .i64 0, .int .i64 0, .int .i64 0, .bool false, .bool false]) ?_ 0 _ rfl; refine bx ?_; exact BK371.out) hb); have n2_ := Aside0.mk (below_step bl hb); clear BK362; clear BK371; clear HB; have BK362 := n0_; have BK371 := n1_; have HB := n2_; clear n0_ n1_ n2_; (try clear hb); obtain ⟨hcz31_0, hcz31_1, hcz31_2, hcz31_3, hcz31_4, hcz31_5, hcz31_6, hfz31_0, hfz31_1, hfz31_2, hfz31_3, hfz31_4, hfz31_5, hfz31_6⟩ := cz7 (w := w30) BK362.out))
  refine bodyPost_ret (results_cell_row rfl _ _ gb362 24 #[.int .i64 0, .int .i64 0, .int .i64 0, .int .i64 0, .int .i64 (wrap64 (a0)), .bool false, .bool false] (0, 0) _ rfl (by refine bx ?_; refine blk_put (cs := #[.int .i64 0, .int .i64 0, .int .i64 0, .int .i64 0, .int .i64 (wrap64 (a0)), .bool false, .bool false]) ?_ 6 _ rfl; refine bx ?_; refine blk_put (cs := #[.int .i64 0, .int .i64 0, .int .i64 0, .int .i64 0, .int .i64 (wrap64 (a0)), .bool false, .bool false]) ?_ 5 _ rfl; refine bx ?_; refine blk_put (cs := #[.int .i64 0, .int .i64 0, .int .i64 0, .int .i64 0, .int .i64 0, .bool false, .bool false]) ?_ 4 _ rfl; refine bx ?_; refine blk_put (cs := #[.int .i64 0, .int .i64 0, .int .i64 0, .int .i64 0, .int .i64 0, .bool false, .bool false]) ?_ 3 _ rfl; refine bx ?_; refine blk_put (cs := #[.int .i64 0, .int .i64 0, .int .i64 0, .int .i64 0, .int .i64 0, .bool false, .bool false]) ?_ 2 _ rfl; refine bx ?_; refine blk_put (cs := #[.int .i64 0, .int .i64 0, .int .i64 0, .int .i64 0, .int .i64 0, .bool false, .bool false]) ?_ 1 _ rfl; refine bx ?_; refine blk_put (cs := #[.int .i64 0, .int .i64 0, .int .i64 0, .int .i64 0, .int .i64 0, .bool false, .bool false]) ?_ 0 _ rfl; refine bx ?_; exact BK362.out) Tryd.underlying24 rfl (by kernel_rfl)) rfl ?_
  exact ⟨fi, bl⟩

/-! ### image_place: function 49 -/
def image_place.f (a0 : Int) (a1 : Int) (a2 : Int) (a3 : Int) : Option (Int × Bool) := if a0 < a1 then (some (0, false)) else (if a0 ≥ (wrap64 (a1 + (wrap64 (a2 * a3)))) then (some (0, false)) else (if a2 = 0 then (none) else (if (Int.tmod a0 a2) = 0 then (some (wrap64 (Int.tdiv (wrap64 (a0 - a1)) a2), true)) else (some (0, false)))))
set_option maxHeartbeats 8000000 in
set_option maxRecDepth 100000 in
theorem image_place.calls (a0 : Int) (a1 : Int) (a2 : Int) (a3 : Int) (r1 : Int) (r2 : Bool) (w : World) (h : image_place.f a0 a1 a2 a3 = some (r1, r2)) :
  Calls Tryd.prog 49 #[.int .i64 a0, .int .i64 a1, .int .i64 a2, .int .i64 a3] w fun e w' => e = .returned (.tuple #[.int .i64 r1, .bool r2]) ∧ Drawn0 w w' := by
 have H : (if a0 < a1 then (some (0, false)) else (if a0 ≥ (wrap64 (a1 + (wrap64 (a2 * a3)))) then (some (0, false)) else (if a2 = 0 then (none) else (if (Int.tmod a0 a2) = 0 then (some (wrap64 (Int.tdiv (wrap64 (a0 - a1)) a2), true)) else (some (0, false)))))) = some (r1, r2) := h
 clear h
 by_cases c5 : a0 < a1
 ·rw [if_pos c5] at H
  have c5b0 := decide_eq_true c5
  clear c5
  simp only [Option.some.injEq, Prod.mk.injEq] at H
  obtain ⟨rfl, rfl⟩ := H
  go_enter Tryd.func49, Tryd.ntmps49
  go_wp2
  go_ret2
  exact ⟨fj, fd⟩
 ·rw [if_neg c5] at H
  have c5b0 := decide_eq_false c5
  clear c5
  by_cases c6 : a0 ≥ (wrap64 (a1 + (wrap64 (a2 * a3))))
  ·rw [if_pos c6] at H
   have c6b0 := decide_eq_true c6
   clear c6
   simp only [Option.some.injEq, Prod.mk.injEq] at H
   obtain ⟨rfl, rfl⟩ := H
   go_enter Tryd.func49, Tryd.ntmps49
   go_wp2
   go_ret2
   exact ⟨fj, fd⟩
  ·rw [if_neg c6] at H
   have c6b0 := decide_eq_false c6
   clear c6
   by_cases c7 : a2 = 0
   ·rw [if_pos c7] at H
    exact absurd H (by simp)
   ·rw [if_neg c7] at H
    have c7b0 : (a2 == 0) = false := beq_eq_false_iff_ne.mpr c7
    have c7b1 : (a2 != 0) = true := bne_iff_ne.mpr c7
    by_cases c8 : (Int.tmod a0 a2) = 0
    ·rw [if_pos c8] at H
     obtain ⟨c8b0, c8b1⟩ := eqs c8
     clear c8
     simp only [Option.some.injEq, Prod.mk.injEq] at H
     obtain ⟨rfl, rfl⟩ := H
     go_enter Tryd.func49, Tryd.ntmps49
     go_wp2
     go_ret2
     exact ⟨fj, fd⟩
    ·rw [if_neg c8] at H
     have c8b0 : ((Int.tmod a0 a2) == 0) = false := beq_eq_false_iff_ne.mpr c8
     have c8b1 : ((Int.tmod a0 a2) != 0) = true := bne_iff_ne.mpr c8
     simp only [Option.some.injEq, Prod.mk.injEq] at H
     obtain ⟨rfl, rfl⟩ := H
     go_enter Tryd.func49, Tryd.ntmps49
     go_wp2
     go_ret2
     exact ⟨fj, fd⟩

/-! ### image_Fetch: function 20 -/
def image_Fetch.f (k : Nat) (l0_0 : List Int) (l0_1 : List Int) (l0_2 : List Int) (a1 : Int) : Option (Int × Int × Int × Int × Int × Bool × Bool × Bool) := (image_place.f a1 65536 4 (l0_0.length : Int)).bind fun bt376 => (if bt376.2 = true then (if 0 ≤ bt376.1 then (if bt376.1 < (l0_0.length : Int) then ((dec_Decode.f k (rd l0_0 bt376.1)).bind fun bt379 => (some (bt379.1, bt379.2.1, bt379.2.2.1, bt379.2.2.2.1, bt379.2.2.2.2.1, bt379.2.2.2.2.2.1, bt379.2.2.2.2.2.2, true))) else (none)) else (none)) else (some (0, 0, 0, 0, 0, false, false, false)))
theorem image_Fetch.mono : ∀ a0 a1 a2 a3 k, LeO (image_Fetch.f k a0 a1 a2 a3) (image_Fetch.f (k + 1) a0 a1 a2 a3) := by
 intro a0 a1 a2 a3 k
 unfold image_Fetch.f
 repeat' first | (with_reducible first | exact dec_Decode.mono _ _ | exact LeO.refl _ | exact LeO.none _ | refine LeO.ite ?_ ?_ | refine LeO.bind ?_ (fun _ => ?_)) | exact dec_Decode.mono _ _ | exact LeO.none _ | refine LeO.ite ?_ ?_ | refine LeO.bind ?_ (fun _ => ?_)
set_option maxHeartbeats 8000000 in
set_option maxRecDepth 100000 in
theorem image_Fetch.calls (k : Nat) (A0_0 : Option Addr) (c0_0 : Nat) (l0_0 : List Int) (A0_1 : Option Addr) (c0_1 : Nat) (l0_1 : List Int) (A0_2 : Option Addr) (c0_2 : Nat) (l0_2 : List Int) (a1 : Int) (r1 : Int) (r2 : Int) (r3 : Int) (r4 : Int) (r5 : Int) (r6 : Bool) (r7 : Bool) (r8 : Bool) (w : World) (hL : Laid w) (hr0_0 : Kd.C (Kd.int .u32) w A0_0 l0_0.length l0_0) (hc0_0 : l0_0.length ≤ c0_0) (hr0_1 : Kd.C (Kd.int .i64) w A0_1 l0_1.length l0_1) (hc0_1 : l0_1.length ≤ c0_1) (hr0_2 : Kd.C (Kd.int .i64) w A0_2 l0_2.length l0_2) (hc0_2 : l0_2.length ≤ c0_2) (h : image_Fetch.f k l0_0 l0_1 l0_2 a1 = some (r1, r2, r3, r4, r5, r6, r7, r8)) :
  Calls Tryd.prog 20 #[.agg #[.slice A0_0 l0_0.length c0_0, .slice A0_1 l0_1.length c0_1, .slice A0_2 l0_2.length c0_2], .int .i64 a1] w fun e w' => e = .returned (.tuple #[.agg #[.int .i64 r1, .int .i64 r2, .int .i64 r3, .int .i64 r4, .int .i64 r5, .bool r6, .bool r7], .bool r8]) ∧ Below w.heap.size w w' := by
 have HL := Aside0.mk hL
 clear hL
 have hu43 := Tryd.underlying43
 have hu24 := Tryd.underlying24
 have HR0_0 := Aside0.mk hr0_0
 have HC0_0 := Aside0.mk hc0_0
 clear hr0_0 hc0_0
 have HR0_1 := Aside0.mk hr0_1
 have HC0_1 := Aside0.mk hc0_1
 clear hr0_1 hc0_1
 have HR0_2 := Aside0.mk hr0_2
 have HC0_2 := Aside0.mk hc0_2
 clear hr0_2 hc0_2
 have HB := Aside0.mk (Below.refl w.heap.size w)
 have H : ((image_place.f a1 65536 4 (l0_0.length : Int)).bind fun bt376 => (if bt376.2 = true then (if 0 ≤ bt376.1 then (if bt376.1 < (l0_0.length : Int) then ((dec_Decode.f k (rd l0_0 bt376.1)).bind fun bt379 => (some (bt379.1, bt379.2.1, bt379.2.2.1, bt379.2.2.2.1, bt379.2.2.2.2.1, bt379.2.2.2.2.2.1, bt379.2.2.2.2.2.2, true))) else (none)) else (none)) else (some (0, 0, 0, 0, 0, false, false, false)))) = some (r1, r2, r3, r4, r5, r6, r7, r8) := h
 clear h
 replace H := be H
 obtain ⟨⟨t376, t377⟩, A3, H⟩ := H
 dsimp only at H
 by_cases c4 : t377 = true
 ·subst c4
  have H1 : (if 0 ≤ t376 then (if t376 < (l0_0.length : Int) then ((dec_Decode.f k (rd l0_0 t376)).bind fun bt379 => (some (bt379.1, bt379.2.1, bt379.2.2.1, bt379.2.2.2.1, bt379.2.2.2.2.1, bt379.2.2.2.2.2.1, bt379.2.2.2.2.2.2, true))) else (none)) else (none)) = some (r1, r2, r3, r4, r5, r6, r7, r8) := by rw [if_pos rfl] at H; exact H
  clear H
  have H := H1
  clear H1
  by_cases c5 : 0 ≤ t376
  ·rw [if_pos c5] at H
   have c5b0 := decide_eq_true c5
   clear c5
   by_cases c6 : t376 < (l0_0.length : Int)
   ·rw [if_pos c6] at H
    have c6b0 := decide_eq_true c6
    clear c6
    replace H := be H
    obtain ⟨⟨t379, t380, t381, t382, t383, t384, t385⟩, A7, H⟩ := H
    dsimp only at H
    simp only [Option.some.injEq, Prod.mk.injEq] at H
    obtain ⟨rfl, rfl, rfl, rfl, rfl, rfl, rfl, rfl⟩ := H
    go_enter Tryd.func20, Tryd.ntmps20
    go_wp2_with (first | ((with_reducible refine gate_dst (N := 2) rfl ?_); refine box_event ?hg (N := 2) ?hd (cs := #[.slice A0_0 l0_0.length c0_0, .slice A0_1 l0_1.length c0_1, .slice A0_2 l0_2.length c0_2]) (t := 43) ?hr ?_; (case hd => rfl); (case hg => rfl); (case hr => first | (go_simp; done) | (go_simp; rfl)); intro gb374 hg w8 hbox hb; obtain ⟨n0_, GW374⟩ := nb (w := w) hg hb; clear HB; have HB := n0_; have BK374 := Aside0.mk hbox; have GE374 := GW374; clear n0_ hb hbox hg) | ((with_reducible refine gate_dst (N := 4) rfl ?_); refine box_event ?hg (N := 4) ?hd (cs := #[.int .i64 0, .int .i64 0, .int .i64 0, .int .i64 0, .int .i64 0, .bool false, .bool false]) (t := 24) ?hr ?_; (case hd => rfl); (case hg => rfl); (case hr => first | (go_simp; done) | (go_simp; rfl)); intro gb375 hg w9 hbox hb; have n0_ := Aside0.mk (blk_below (g := gb374) (o := .cells #[.slice A0_0 l0_0.length c0_0, .slice A0_1 l0_1.length c0_1, .slice A0_2 l0_2.length c0_2] 43 (0, 0)) (bk BK374.out) hb); have n1_ := Aside0.mk (below_step bl hb); have n2_ := Aside0.mk (hbox); have n3_ := Aside0.mk ((by rw [hg]; exact (below_size bl) : w.heap.size ≤ gb375)); have n4_ := Aside0.mk ((by rw [hg]; exact (below_size bl) : w.heap.size ≤ gb375)); have n5_ := Aside0.mk ((by rw [hg]; exact Nat.ne_of_lt (blk_lt (g := gb374) (o := .cells #[.slice A0_0 l0_0.length c0_0, .slice A0_1 l0_1.length c0_1, .slice A0_2 l0_2.length c0_2] 43 (0, 0)) (bk BK374.out)) : gb374 ≠ gb375)); have n6_ := Aside0.mk ((by rw [hg]; exact Nat.ne_of_gt (blk_lt (g := gb374) (o := .cells #[.slice A0_0 l0_0.length c0_0, .slice A0_1 l0_1.length c0_1, .slice A0_2 l0_2.length c0_2] 43 (0, 0)) (bk BK374.out)) : gb375 ≠ gb374)); clear BK374; clear HB; have BK374 := n0_; have HB := n1_; have BK375 := n2_; have GW375 := n3_; have GE375 := n4_; have NB374_375 := n5_; have NB375_374 := n6_; clear n0_ n1_ n2_ n3_ n4_ n5_ n6_; clear hb hbox hg; have hnb10 := NB374_375.out; have hnc10 := NB375_374.out; obtain ⟨hcz11_0, hcz11_1, hcz11_2, hfz11_0, hfz11_1, hfz11_2⟩ := cz3 (w := w9) BK374.out) | ((with_reducible refine gate_callee (f := 49) rfl ?_); refine goesL_ (some 13) rfl rfl Tryd.func49 (by kernel_rfl) rfl #[.int .i64 a1, .int .i64 65536, .int .i64 4, .int .i64 (l0_0.length : Int)] rfl ga ?_; (with_reducible refine (image_place.calls a1 65536 4 (l0_0.length : Int) t376 true _ A3.out).mono ?_); rintro e w' ⟨rfl, ⟨nd, rfl⟩⟩; refine ⟨_, rfl, ?_⟩; (try (rw [drewN_self w9]; generalize hq_ : World.drewN w9 _ = w9; have n0_ : Aside0 (w9.heap[gb374]? = some (.cells #[.slice A0_0 l0_0.length c0_0, .slice A0_1 l0_1.length c0_1, .slice A0_2 l0_2.length c0_2] 43 (0, 0))) := ⟨by rw [← hq_]; exact (bk BK374.out)⟩; have n1_ : Aside0 (w9.heap[gb375]? = some (.cells #[.int .i64 0, .int .i64 0, .int .i64 0, .int .i64 0, .int .i64 0, .bool false, .bool false] 24 (0, 0))) := ⟨by rw [← hq_]; exact (bk BK375.out)⟩; have n2_ : Aside0 (Below w.heap.size w w9) := ⟨by rw [← hq_]; exact bl⟩; clear BK374 BK375 HB hq_; have BK374 := n0_; have BK375 := n1_; have HB := n2_; clear n0_ n1_ n2_; obtain ⟨hcz9374_0, hcz9374_1, hcz9374_2, hfz9374_0, hfz9374_1, hfz9374_2⟩ := cz3 (w := w9) BK374.out; obtain ⟨hcz9375_0, hcz9375_1, hcz9375_2, hcz9375_3, hcz9375_4, hcz9375_5, hcz9375_6, hfz9375_0, hfz9375_1, hfz9375_2, hfz9375_3, hfz9375_4, hfz9375_5, hfz9375_6⟩ := cz7 (w := w9) BK375.out)); have p378 : 0 ≤ (t376 : Int) := of_decide_eq_true (by first | (with_reducible assumption) | assumption); have q378 : t376 < (l0_0.length : Int) := of_decide_eq_true (by first | (with_reducible assumption) | assumption); obtain ⟨ad378, e378, hx378_0⟩ := Kd.at_int HR0_0.out t376 p378 q378; cases e378; replace hx378_0 := (HB.out.cell (World.block_lt_of_cell? w _ hx378_0)).trans hx378_0; replace p378 := eq_true p378; replace q378 := eq_true q378) | ((with_reducible refine gate_callee (f := 9) rfl ?_); refine goesL_ (some 24) rfl rfl Tryd.func9 (by kernel_rfl) rfl #[.int .u32 (rd l0_0 t376)] rfl ga ?_; (with_reducible refine (dec_Decode.calls k (rd l0_0 t376) t379 t380 t381 t382 t383 t384 t385 _ (by first | exact HL.out | exact laid_drewN HL.out | exact laid_below HL.out bl | exact laid_below HL.out HB.out | exact laid_belowd HL.out HB.out) A7.out).mono ?_); rintro e w12 ⟨rfl, hb⟩; refine ⟨_, rfl, ?_⟩; have n0_ := Aside0.mk (blk_below (g := gb374) (o := .cells #[.slice (some ad378) l0_0.length c0_0, .slice A0_1 l0_1.length c0_1, .slice A0_2 l0_2.length c0_2] 43 (0, 0)) (bk BK374.out) hb); have n1_ := Aside0.mk (blk_below (g := gb375) (o := .cells #[.int .i64 0, .int .i64 0, .int .i64 0, .int .i64 0, .int .i64 0, .bool false, .bool false] 24 (0, 0)) (bk BK375.out) hb); have n2_ := Aside0.mk (below_step bl hb); clear BK374; clear BK375; clear HB; have BK374 := n0_; have BK375 := n1_; have HB := n2_; clear n0_ n1_ n2_; (try clear hb); obtain ⟨hcz13_0, hcz13_1, hcz13_2, hcz13_3, hcz13_4, hcz13_5, hcz13_6, hfz13_0, hfz13_1, hfz13_2, hfz13_3, hfz13_4, hfz13_5, hfz13_6⟩ := cz7 (w := w12) BK375.out))
    refine bodyPost_ret (results_ct rfl _ _ gb375 24 #[.int .i64 t379, .int .i64 t380, .int .i64 t381, .int .i64 t382, .int .i64 t383, .bool t384, .bool t385] (0, 0) _ rfl (by refine bx ?_; refine blk_put (cs := #[.int .i64 t379, .int .i64 t380, .int .i64 t381, .int .i64 t382, .int .i64 t383, .bool t384, .bool false]) ?_ 6 _ rfl; refine bx ?_; refine blk_put (cs := #[.int .i64 t379, .int .i64 t380, .int .i64 t381, .int .i64 t382, .int .i64 t383, .bool false, .bool false]) ?_ 5 _ rfl; refine bx ?_; refine blk_put (cs := #[.int .i64 t379, .int .i64 t380, .int .i64 t381, .int .i64 t382, .int .i64 0, .bool false, .bool false]) ?_ 4 _ rfl; refine bx ?_; refine blk_put (cs := #[.int .i64 t379, .int .i64 t380, .int .i64 t381, .int .i64 0, .int .i64 0, .bool false, .bool false]) ?_ 3 _ rfl; refine bx ?_; refine blk_put (cs := #[.int .i64 t379, .int .i64 t380, .int .i64 0, .int .i64 0, .int .i64 0, .bool false, .bool false]) ?_ 2 _ rfl; refine bx ?_; refine blk_put (cs := #[.int .i64 t379, .int .i64 0, .int .i64 0, .int .i64 0, .int .i64 0, .bool false, .bool false]) ?_ 1 _ rfl; refine bx ?_; refine blk_put (cs := #[.int .i64 0, .int .i64 0, .int .i64 0, .int .i64 0, .int .i64 0, .bool false, .bool false]) ?_ 0 _ rfl; refine bx ?_; exact BK375.out) Tryd.underlying24 rfl (by kernel_rfl)) rfl ?_
    exact ⟨fi, bl⟩
   ·rw [if_neg c6] at H
    exact absurd H (by simp)
  ·rw [if_neg c5] at H
   exact absurd H (by simp)
 ·replace c4 := Bool.eq_false_iff.mpr c4
  subst c4
  have H1 : (some (0, 0, 0, 0, 0, false, false, false)) = some (r1, r2, r3, r4, r5, r6, r7, r8) := by rw [if_neg (show ¬ (false = true) by decide)] at H; exact H
  clear H
  have H := H1
  clear H1
  simp only [Option.some.injEq, Prod.mk.injEq] at H
  obtain ⟨rfl, rfl, rfl, rfl, rfl, rfl, rfl, rfl⟩ := H
  go_enter Tryd.func20, Tryd.ntmps20
  go_wp2_with (first | ((with_reducible refine gate_dst (N := 2) rfl ?_); refine box_event ?hg (N := 2) ?hd (cs := #[.slice A0_0 l0_0.length c0_0, .slice A0_1 l0_1.length c0_1, .slice A0_2 l0_2.length c0_2]) (t := 43) ?hr ?_; (case hd => rfl); (case hg => rfl); (case hr => first | (go_simp; done) | (go_simp; rfl)); intro gb374 hg w14 hbox hb; obtain ⟨n0_, GW374⟩ := nb (w := w) hg hb; clear HB; have HB := n0_; have BK374 := Aside0.mk hbox; have GE374 := GW374; clear n0_ hb hbox hg) | ((with_reducible refine gate_dst (N := 4) rfl ?_); refine box_event ?hg (N := 4) ?hd (cs := #[.int .i64 0, .int .i64 0, .int .i64 0, .int .i64 0, .int .i64 0, .bool false, .bool false]) (t := 24) ?hr ?_; (case hd => rfl); (case hg => rfl); (case hr => first | (go_simp; done) | (go_simp; rfl)); intro gb375 hg w15 hbox hb; have n0_ := Aside0.mk (blk_below (g := gb374) (o := .cells #[.slice A0_0 l0_0.length c0_0, .slice A0_1 l0_1.length c0_1, .slice A0_2 l0_2.length c0_2] 43 (0, 0)) (bk BK374.out) hb); have n1_ := Aside0.mk (below_step bl hb); have n2_ := Aside0.mk (hbox); have n3_ := Aside0.mk ((by rw [hg]; exact (below_size bl) : w.heap.size ≤ gb375)); have n4_ := Aside0.mk ((by rw [hg]; exact (below_size bl) : w.heap.size ≤ gb375)); have n5_ := Aside0.mk ((by rw [hg]; exact Nat.ne_of_lt (blk_lt (g := gb374) (o := .cells #[.slice A0_0 l0_0.length c0_0, .slice A0_1 l0_1.length c0_1, .slice A0_2 l0_2.length c0_2] 43 (0, 0)) (bk BK374.out)) : gb374 ≠ gb375)); have n6_ := Aside0.mk ((by rw [hg]; exact Nat.ne_of_gt (blk_lt (g := gb374) (o := .cells #[.slice A0_0 l0_0.length c0_0, .slice A0_1 l0_1.length c0_1, .slice A0_2 l0_2.length c0_2] 43 (0, 0)) (bk BK374.out)) : gb375 ≠ gb374)); clear BK374; clear HB; have BK374 := n0_; have HB := n1_; have BK375 := n2_; have GW375 := n3_; have GE375 := n4_; have NB374_375 := n5_; have NB375_374 := n6_; clear n0_ n1_ n2_ n3_ n4_ n5_ n6_; clear hb hbox hg; have hnb16 := NB374_375.out; have hnc16 := NB375_374.out; obtain ⟨hcz17_0, hcz17_1, hcz17_2, hfz17_0, hfz17_1, hfz17_2⟩ := cz3 (w := w15) BK374.out) | ((with_reducible refine gate_callee (f := 49) rfl ?_); refine goesL_ (some 13) rfl rfl Tryd.func49 (by kernel_rfl) rfl #[.int .i64 a1, .int .i64 65536, .int .i64 4, .int .i64 (l0_0.length : Int)] rfl ga ?_; (with_reducible refine (image_place.calls a1 65536 4 (l0_0.length : Int) t376 false _ A3.out).mono ?_); rintro e w' ⟨rfl, ⟨nd, rfl⟩⟩; refine ⟨_, rfl, ?_⟩; (try (rw [drewN_self w15]; generalize hq_ : World.drewN w15 _ = w15; have n0_ : Aside0 (w15.heap[gb374]? = some (.cells #[.slice A0_0 l0_0.length c0_0, .slice A0_1 l0_1.length c0_1, .slice A0_2 l0_2.length c0_2] 43 (0, 0))) := ⟨by rw [← hq_]; exact (bk BK374.out)⟩; have n1_ : Aside0 (w15.heap[gb375]? = some (.cells #[.int .i64 0, .int .i64 0, .int .i64 0, .int .i64 0, .int .i64 0, .bool false, .bool false] 24 (0, 0))) := ⟨by rw [← hq_]; exact (bk BK375.out)⟩; have n2_ : Aside0 (Below w.heap.size w w15) := ⟨by rw [← hq_]; exact bl⟩; clear BK374 BK375 HB hq_; have BK374 := n0_; have BK375 := n1_; have HB := n2_; clear n0_ n1_ n2_; obtain ⟨hcz9374_0, hcz9374_1, hcz9374_2, hfz9374_0, hfz9374_1, hfz9374_2⟩ := cz3 (w := w15) BK374.out; obtain ⟨hcz9375_0, hcz9375_1, hcz9375_2, hcz9375_3, hcz9375_4, hcz9375_5, hcz9375_6, hfz9375_0, hfz9375_1, hfz9375_2, hfz9375_3, hfz9375_4, hfz9375_5, hfz9375_6⟩ := cz7 (w := w15) BK375.out)); obtain ⟨hcz18_0, hcz18_1, hcz18_2, hcz18_3, hcz18_4, hcz18_5, hcz18_6, hfz18_0, hfz18_1, hfz18_2, hfz18_3, hfz18_4, hfz18_5, hfz18_6⟩ := cz7 (w := w15) BK375.out))
  refine bodyPost_ret (results_ct rfl _ _ gb375 24 #[.int .i64 0, .int .i64 0, .int .i64 0, .int .i64 0, .int .i64 0, .bool false, .bool false] (0, 0) _ rfl (by refine bx ?_; refine blk_put (cs := #[.int .i64 0, .int .i64 0, .int .i64 0, .int .i64 0, .int .i64 0, .bool false, .bool false]) ?_ 6 _ rfl; refine bx ?_; refine blk_put (cs := #[.int .i64 0, .int .i64 0, .int .i64 0, .int .i64 0, .int .i64 0, .bool false, .bool false]) ?_ 5 _ rfl; refine bx ?_; refine blk_put (cs := #[.int .i64 0, .int .i64 0, .int .i64 0, .int .i64 0, .int .i64 0, .bool false, .bool false]) ?_ 4 _ rfl; refine bx ?_; refine blk_put (cs := #[.int .i64 0, .int .i64 0, .int .i64 0, .int .i64 0, .int .i64 0, .bool false, .bool false]) ?_ 3 _ rfl; refine bx ?_; refine blk_put (cs := #[.int .i64 0, .int .i64 0, .int .i64 0, .int .i64 0, .int .i64 0, .bool false, .bool false]) ?_ 2 _ rfl; refine bx ?_; refine blk_put (cs := #[.int .i64 0, .int .i64 0, .int .i64 0, .int .i64 0, .int .i64 0, .bool false, .bool false]) ?_ 1 _ rfl; refine bx ?_; refine blk_put (cs := #[.int .i64 0, .int .i64 0, .int .i64 0, .int .i64 0, .int .i64 0, .bool false, .bool false]) ?_ 0 _ rfl; refine bx ?_; exact BK375.out) Tryd.underlying24 rfl (by kernel_rfl)) rfl ?_
  exact ⟨fi, bl⟩

/-! ### spinnakerref03_letter: function 43 -/
def spinnakerref03_letter.f (a0 : Int) : Option (Int) := if a0 < 1 then (some 0) else (if a0 > 87 then (some 0) else (if 0 ≤ (wrap64 (a0 - 1)) then (if (wrap64 (a0 - 1)) < 87 then (some (bt (⟨#[85, 85, 74, 73, 66, 66, 66, 66, 66, 66, 73, 73, 73, 73, 73, 73, 73, 83, 83, 83, 83, 73, 73, 73, 73, 73, 73, 72, 72, 72, 73, 87, 87, 87, 82, 82, 82, 82, 82, 82, 82, 82, 82, 82, 82, 82, 82, 82, 82, 82, 82, 82, 82, 82, 82, 82, 82, 82, 82, 82, 82, 82, 70, 78, 78, 76, 65, 65, 65, 65, 65, 65, 65, 65, 65, 65, 76, 65, 65, 65, 65, 65, 65, 65, 65, 65, 65]⟩ : ByteArray) (wrap64 (a0 - 1)))) else (none)) else (none)))
set_option maxHeartbeats 8000000 in
set_option maxRecDepth 100000 in
theorem spinnakerref03_letter.calls (a0 : Int) (r : Int) (w : World) (h : spinnakerref03_letter.f a0 = some r) :
  Calls Tryd.prog 43 #[.int .i64 a0] w fun e w' => e = .returned (.int .u8 r) ∧ Drawn0 w w' := by
 have H : (if a0 < 1 then (some 0) else (if a0 > 87 then (some 0) else (if 0 ≤ (wrap64 (a0 - 1)) then (if (wrap64 (a0 - 1)) < 87 then (some (bt (⟨#[85, 85, 74, 73, 66, 66, 66, 66, 66, 66, 73, 73, 73, 73, 73, 73, 73, 83, 83, 83, 83, 73, 73, 73, 73, 73, 73, 72, 72, 72, 73, 87, 87, 87, 82, 82, 82, 82, 82, 82, 82, 82, 82, 82, 82, 82, 82, 82, 82, 82, 82, 82, 82, 82, 82, 82, 82, 82, 82, 82, 82, 82, 70, 78, 78, 76, 65, 65, 65, 65, 65, 65, 65, 65, 65, 65, 76, 65, 65, 65, 65, 65, 65, 65, 65, 65, 65]⟩ : ByteArray) (wrap64 (a0 - 1)))) else (none)) else (none)))) = some r := h
 clear h
 by_cases c2 : a0 < 1
 ·rw [if_pos c2] at H
  have c2b0 := decide_eq_true c2
  clear c2
  obtain rfl := Option.some.inj H
  go_enter Tryd.func43, Tryd.ntmps43
  go_wp2
  go_ret
  exact ⟨fj, fd⟩
 ·rw [if_neg c2] at H
  have c2b0 := decide_eq_false c2
  clear c2
  by_cases c3 : a0 > 87
  ·rw [if_pos c3] at H
   have c3b0 := decide_eq_true c3
   clear c3
   obtain rfl := Option.some.inj H
   go_enter Tryd.func43, Tryd.ntmps43
   go_wp2
   go_ret
   exact ⟨fj, fd⟩
  ·rw [if_neg c3] at H
   have c3b0 := decide_eq_false c3
   clear c3
   obtain ⟨ji4, hji4⟩ : ∃ j_ : Int, (wrap64 (a0 - 1)) = j_ := ⟨_, rfl⟩
   replace H : (if 0 ≤ (ji4) then (if (ji4) < 87 then (some (bt (⟨#[85, 85, 74, 73, 66, 66, 66, 66, 66, 66, 73, 73, 73, 73, 73, 73, 73, 83, 83, 83, 83, 73, 73, 73, 73, 73, 73, 72, 72, 72, 73, 87, 87, 87, 82, 82, 82, 82, 82, 82, 82, 82, 82, 82, 82, 82, 82, 82, 82, 82, 82, 82, 82, 82, 82, 82, 82, 82, 82, 82, 82, 82, 70, 78, 78, 76, 65, 65, 65, 65, 65, 65, 65, 65, 65, 65, 76, 65, 65, 65, 65, 65, 65, 65, 65, 65, 65]⟩ : ByteArray) (ji4))) else (none)) else (none)) = some r := by first | (rw [hji4] at H; exact H) | (simp only [hji4] at H ⊢; exact H)
   have hji4w : (IntKind.i64.wrap (a0 - 1)) = ji4 := (i64_w _).trans hji4
   by_cases c5 : 0 ≤ (ji4)
   ·rw [if_pos c5] at H
    have c5b0 := decide_eq_true c5
    clear c5
    by_cases c6 : (ji4) < 87
    ·rw [if_pos c6] at H
     have c6b0 := decide_eq_true c6
     clear c6
     obtain rfl := Option.some.inj H
     have p7 : 0 ≤ ((ji4) : Int) := of_decide_eq_true (by first | (with_reducible assumption) | assumption)
     have q7 : (ji4) < (87 : Int) := of_decide_eq_true (by first | (with_reducible assumption) | assumption)
     have hx7 := bt_at (⟨#[85, 85, 74, 73, 66, 66, 66, 66, 66, 66, 73, 73, 73, 73, 73, 73, 73, 83, 83, 83, 83, 73, 73, 73, 73, 73, 73, 72, 72, 72, 73, 87, 87, 87, 82, 82, 82, 82, 82, 82, 82, 82, 82, 82, 82, 82, 82, 82, 82, 82, 82, 82, 82, 82, 82, 82, 82, 82, 82, 82, 82, 82, 70, 78, 78, 76, 65, 65, 65, 65, 65, 65, 65, 65, 65, 65, 76, 65, 65, 65, 65, 65, 65, 65, 65, 65, 65]⟩ : ByteArray) (ji4)
     replace p7 := eq_true p7
     replace q7 := eq_true q7
     go_enter Tryd.func43, Tryd.ntmps43
     go_wp2
     go_ret
     exact ⟨by first | rfl | (simp; done) | (simp only [← hji4] <;> (first | rfl | simp)) | (simp [*]; done), fd⟩
    ·rw [if_neg c6] at H
     exact absurd H (by simp)
   ·rw [if_neg c5] at H
    exact absurd H (by simp)

/-! ### spinnakerref03_has: function 46 -/
def spinnakerref03_has.l0 : Nat → Int → ByteArray → Int → Option (Bool)
  | 0, _, _, _ => none
  | k + 1, x0, x1, x5 => if x5 < (x1.size : Int) then ((spinnakerref03_letter.f x0).bind fun t386 => (if 0 ≤ x5 then (if t386 = (bt x1 x5) then (some true) else (spinnakerref03_has.l0 k x0 x1 (wrap64 (x5 + 1)))) else (none))) else (some false)
def spinnakerref03_has.f (k : Nat) (a0 : Int) (a1 : ByteArray) : Option (Bool) := spinnakerref03_has.l0 k a0 a1 0
theorem spinnakerref03_has.mono_l : ∀ k, (∀ y0 y1 y2, LeO (spinnakerref03_has.l0 k y0 y1 y2) (spinnakerref03_has.l0 (k + 1) y0 y1 y2))
 | 0 => fun _ _ _ r h => by simp [spinnakerref03_has.l0] at h
 | k + 1 => by
  have ih0 := spinnakerref03_has.mono_l k
  ·intro y0 y1 y2
   unfold spinnakerref03_has.l0
   repeat' first | (with_reducible first | exact ih0 _ _ _ | exact LeO.refl _ | exact LeO.none _ | refine LeO.ite ?_ ?_ | refine LeO.bind ?_ (fun _ => ?_)) | exact ih0 _ _ _ | exact LeO.none _ | refine LeO.ite ?_ ?_ | refine LeO.bind ?_ (fun _ => ?_)
theorem spinnakerref03_has.mono : ∀ a0 a1 k, LeO (spinnakerref03_has.f k a0 a1) (spinnakerref03_has.f (k + 1) a0 a1) := by
 intro a0 a1 k
 have ih0 := spinnakerref03_has.mono_l k
 unfold spinnakerref03_has.f
 repeat' first | (with_reducible first | exact ih0 _ _ _ | exact LeO.refl _ | exact LeO.none _ | refine LeO.ite ?_ ?_ | refine LeO.bind ?_ (fun _ => ?_)) | exact ih0 _ _ _ | exact LeO.none _ | refine LeO.ite ?_ ?_ | refine LeO.bind ?_ (fun _ => ?_)
set_option maxHeartbeats 8000000 in
set_option maxRecDepth 100000 in
theorem spinnakerref03_has.calls (k : Nat) (a0 : Int) (a1 : ByteArray) (r : Bool) (w : World) (h : spinnakerref03_has.f k a0 a1 = some r) :
  Calls Tryd.prog 46 #[.int .i64 a0, .string a1] w fun e w' => e = .returned (.bool r) ∧ Drawn0 w w' := by
 have H : (spinnakerref03_has.l0 k a0 a1 0) = some r := h
 clear h
 have H' := Aside0.mk H
 clear H
 go_enter Tryd.func46, Tryd.ntmps46
 go_wp2
 repeat (go_quiet (fail); try go_wp2)
 go_loopg [5] k (fun kq v5 w' => ∃ (x5_1 : Int), v5 = .int .i64 x5_1 ∧ Aside0 (spinnakerref03_has.l0 kq a0 a1 x5_1 = some r) ∧ Aside0 (kq ≤ k) ∧ Drawn0 w w')
 case atStart => exact ⟨(0), fj, H', ⟨Nat.le_refl _⟩, fd⟩
 case round =>
  clear H'
  try clear p2
  obtain ⟨x5_1, rfl, HA, HK1, ⟨m1, rfl⟩⟩ := hrel
  cases gk with
  | zero => exact absurd HA.out (by simp [spinnakerref03_has.l0])
  | succ k1 =>
   have H := HA.out
   clear HA
   simp only [spinnakerref03_has.l0] at H
   by_cases c3 : x5_1 < (a1.size : Int)
   ·rw [if_pos c3] at H
    have c3b0 := decide_eq_true c3
    clear c3
    replace H := be H
    obtain ⟨t386, A4, H⟩ := H
    by_cases c5 : 0 ≤ x5_1
    ·rw [if_pos c5] at H
     have c5b0 := decide_eq_true c5
     clear c5
     by_cases c7 : t386 = (bt a1 x5_1)
     ·rw [if_pos c7] at H
      have c7b0 : (t386 == (bt a1 x5_1)) = true := beq_iff_eq.mpr c7
      have c7b1 : (t386 != (bt a1 x5_1)) = false := bne_eq_false_iff_eq.mpr c7
      clear c7
      obtain rfl := Option.some.inj H
      go_wp2_with (first | (go_at_call 43; (with_reducible refine (spinnakerref03_letter.calls a0 t386 _ A4.out).mono ?_); rintro e w' ⟨rfl, ⟨nd, rfl⟩⟩; (try first | exact ⟨rfl, _, World.drewN_drewN _ _ _⟩ | exact ⟨rfl, _, Eq.trans (World.drewN_drewN _ _ _) (congrArg (World.drewN _) (Nat.add_assoc _ _ _))⟩); have p6 : 0 ≤ (x5_1 : Int) := of_decide_eq_true (by first | (with_reducible assumption) | assumption); have q6 : x5_1 < (a1.size : Int) := of_decide_eq_true (by first | (with_reducible assumption) | assumption); have hx6 := bt_at a1 x5_1; replace p6 := eq_true p6; replace q6 := eq_true q6))
      repeat (go_quiet (first | (go_at_call 43; (with_reducible refine (spinnakerref03_letter.calls a0 t386 _ A4.out).mono ?_); rintro e w' ⟨rfl, ⟨nd, rfl⟩⟩; (try first | exact ⟨rfl, _, World.drewN_drewN _ _ _⟩ | exact ⟨rfl, _, Eq.trans (World.drewN_drewN _ _ _) (congrArg (World.drewN _) (Nat.add_assoc _ _ _))⟩); have p6 : 0 ≤ (x5_1 : Int) := of_decide_eq_true (by first | (with_reducible assumption) | assumption); have q6 : x5_1 < (a1.size : Int) := of_decide_eq_true (by first | (with_reducible assumption) | assumption); have hx6 := bt_at a1 x5_1; replace p6 := eq_true p6; replace q6 := eq_true q6)); try go_wp2_with (first | (go_at_call 43; (with_reducible refine (spinnakerref03_letter.calls a0 t386 _ A4.out).mono ?_); rintro e w' ⟨rfl, ⟨nd, rfl⟩⟩; (try first | exact ⟨rfl, _, World.drewN_drewN _ _ _⟩ | exact ⟨rfl, _, Eq.trans (World.drewN_drewN _ _ _) (congrArg (World.drewN _) (Nat.add_assoc _ _ _))⟩); have p6 : 0 ≤ (x5_1 : Int) := of_decide_eq_true (by first | (with_reducible assumption) | assumption); have q6 : x5_1 < (a1.size : Int) := of_decide_eq_true (by first | (with_reducible assumption) | assumption); have hx6 := bt_at a1 x5_1; replace p6 := eq_true p6; replace q6 := eq_true q6)))
      go_ret
      exact ⟨fj, fd⟩
     ·rw [if_neg c7] at H
      have c7b0 : (t386 == (bt a1 x5_1)) = false := beq_eq_false_iff_ne.mpr c7
      have c7b1 : (t386 != (bt a1 x5_1)) = true := bne_iff_ne.mpr c7
      have H' := Aside0.mk H
      clear H
      go_wp2_with (first | (go_at_call 43; (with_reducible refine (spinnakerref03_letter.calls a0 t386 _ A4.out).mono ?_); rintro e w' ⟨rfl, ⟨nd, rfl⟩⟩; (try first | exact ⟨rfl, _, World.drewN_drewN _ _ _⟩ | exact ⟨rfl, _, Eq.trans (World.drewN_drewN _ _ _) (congrArg (World.drewN _) (Nat.add_assoc _ _ _))⟩); have p6 : 0 ≤ (x5_1 : Int) := of_decide_eq_true (by first | (with_reducible assumption) | assumption); have q6 : x5_1 < (a1.size : Int) := of_decide_eq_true (by first | (with_reducible assumption) | assumption); have hx6 := bt_at a1 x5_1; replace p6 := eq_true p6; replace q6 := eq_true q6))
      repeat (go_quiet (first | (go_at_call 43; (with_reducible refine (spinnakerref03_letter.calls a0 t386 _ A4.out).mono ?_); rintro e w' ⟨rfl, ⟨nd, rfl⟩⟩; (try first | exact ⟨rfl, _, World.drewN_drewN _ _ _⟩ | exact ⟨rfl, _, Eq.trans (World.drewN_drewN _ _ _) (congrArg (World.drewN _) (Nat.add_assoc _ _ _))⟩); have p6 : 0 ≤ (x5_1 : Int) := of_decide_eq_true (by first | (with_reducible assumption) | assumption); have q6 : x5_1 < (a1.size : Int) := of_decide_eq_true (by first | (with_reducible assumption) | assumption); have hx6 := bt_at a1 x5_1; replace p6 := eq_true p6; replace q6 := eq_true q6)); try go_wp2_with (first | (go_at_call 43; (with_reducible refine (spinnakerref03_letter.calls a0 t386 _ A4.out).mono ?_); rintro e w' ⟨rfl, ⟨nd, rfl⟩⟩; (try first | exact ⟨rfl, _, World.drewN_drewN _ _ _⟩ | exact ⟨rfl, _, Eq.trans (World.drewN_drewN _ _ _) (congrArg (World.drewN _) (Nat.add_assoc _ _ _))⟩); have p6 : 0 ≤ (x5_1 : Int) := of_decide_eq_true (by first | (with_reducible assumption) | assumption); have q6 : x5_1 < (a1.size : Int) := of_decide_eq_true (by first | (with_reducible assumption) | assumption); have hx6 := bt_at a1 x5_1; replace p6 := eq_true p6; replace q6 := eq_true q6)))
      go_roundg k1
      case measure => have := HK1.out; omega
      case rel => exact ⟨(wrap64 (x5_1 + 1)), fj, H', ⟨by have := HK1.out; omega⟩, fd⟩
    ·rw [if_neg c5] at H
     exact absurd H (by simp)
   ·rw [if_neg c3] at H
    have c3b0 := decide_eq_false c3
    clear c3
    obtain rfl := Option.some.inj H
    go_wp2
    repeat (go_quiet (fail); try go_wp2)
    go_ret
    exact ⟨fj, fd⟩

/-! ### spinnakerref03_HasRd: function 31 -/
def spinnakerref03_HasRd.f (k : Nat) (a0 : Int) : Option (Bool) := (spinnakerref03_has.f k a0 (⟨#[85, 74, 73, 82, 72, 87, 76, 65]⟩ : ByteArray)).bind fun t387 => (some t387)
theorem spinnakerref03_HasRd.mono : ∀ a0 k, LeO (spinnakerref03_HasRd.f k a0) (spinnakerref03_HasRd.f (k + 1) a0) := by
 intro a0 k
 unfold spinnakerref03_HasRd.f
 repeat' first | (with_reducible first | exact spinnakerref03_has.mono _ _ _ | exact LeO.refl _ | exact LeO.none _ | refine LeO.ite ?_ ?_ | refine LeO.bind ?_ (fun _ => ?_)) | exact spinnakerref03_has.mono _ _ _ | exact LeO.none _ | refine LeO.ite ?_ ?_ | refine LeO.bind ?_ (fun _ => ?_)
set_option maxHeartbeats 8000000 in
set_option maxRecDepth 100000 in
theorem spinnakerref03_HasRd.calls (k : Nat) (a0 : Int) (r : Bool) (w : World) (h : spinnakerref03_HasRd.f k a0 = some r) :
  Calls Tryd.prog 31 #[.int .i64 a0] w fun e w' => e = .returned (.bool r) ∧ Drawn0 w w' := by
 have H : ((spinnakerref03_has.f k a0 (⟨#[85, 74, 73, 82, 72, 87, 76, 65]⟩ : ByteArray)).bind fun t387 => (some t387)) = some r := h
 clear h
 replace H := be H
 obtain ⟨t387, A2, H⟩ := H
 obtain rfl := Option.some.inj H
 go_enter Tryd.func31, Tryd.ntmps31
 go_wp2_with (first | ((with_reducible refine gate_callee (f := 46) rfl ?_); refine goesL_ (some 4) rfl rfl Tryd.func46 (by kernel_rfl) rfl #[.int .i64 a0, .string (⟨#[85, 74, 73, 82, 72, 87, 76, 65]⟩ : ByteArray)] rfl ga ?_; (with_reducible refine (spinnakerref03_has.calls k a0 (⟨#[85, 74, 73, 82, 72, 87, 76, 65]⟩ : ByteArray) t387 _ A2.out).mono ?_); rintro e w' ⟨rfl, ⟨nd, rfl⟩⟩; refine ⟨_, rfl, ?_⟩))
 go_ret
 exact ⟨fj, fd⟩

/-! ### spinnakerref03_HasA: function 33 -/
def spinnakerref03_HasA.f (k : Nat) (a0 : Int) : Option (Bool) := (spinnakerref03_has.f k a0 (⟨#[73, 66, 83, 82, 72, 87, 76, 65]⟩ : ByteArray)).bind fun t388 => (some t388)
theorem spinnakerref03_HasA.mono : ∀ a0 k, LeO (spinnakerref03_HasA.f k a0) (spinnakerref03_HasA.f (k + 1) a0) := by
 intro a0 k
 unfold spinnakerref03_HasA.f
 repeat' first | (with_reducible first | exact spinnakerref03_has.mono _ _ _ | exact LeO.refl _ | exact LeO.none _ | refine LeO.ite ?_ ?_ | refine LeO.bind ?_ (fun _ => ?_)) | exact spinnakerref03_has.mono _ _ _ | exact LeO.none _ | refine LeO.ite ?_ ?_ | refine LeO.bind ?_ (fun _ => ?_)
set_option maxHeartbeats 8000000 in
set_option maxRecDepth 100000 in
theorem spinnakerref03_HasA.calls (k : Nat) (a0 : Int) (r : Bool) (w : World) (h : spinnakerref03_HasA.f k a0 = some r) :
  Calls Tryd.prog 33 #[.int .i64 a0] w fun e w' => e = .returned (.bool r) ∧ Drawn0 w w' := by
 have H : ((spinnakerref03_has.f k a0 (⟨#[73, 66, 83, 82, 72, 87, 76, 65]⟩ : ByteArray)).bind fun t388 => (some t388)) = some r := h
 clear h
 replace H := be H
 obtain ⟨t388, A2, H⟩ := H
 obtain rfl := Option.some.inj H
 go_enter Tryd.func33, Tryd.ntmps33
 go_wp2_with (first | ((with_reducible refine gate_callee (f := 46) rfl ?_); refine goesL_ (some 4) rfl rfl Tryd.func46 (by kernel_rfl) rfl #[.int .i64 a0, .string (⟨#[73, 66, 83, 82, 72, 87, 76, 65]⟩ : ByteArray)] rfl ga ?_; (with_reducible refine (spinnakerref03_has.calls k a0 (⟨#[73, 66, 83, 82, 72, 87, 76, 65]⟩ : ByteArray) t388 _ A2.out).mono ?_); rintro e w' ⟨rfl, ⟨nd, rfl⟩⟩; refine ⟨_, rfl, ?_⟩))
 go_ret
 exact ⟨fj, fd⟩

/-! ### spinnakerref03_HasB: function 34 -/
def spinnakerref03_HasB.f (k : Nat) (a0 : Int) : Option (Bool) := (spinnakerref03_has.f k a0 (⟨#[66, 83, 82, 65]⟩ : ByteArray)).bind fun t389 => (some t389)
theorem spinnakerref03_HasB.mono : ∀ a0 k, LeO (spinnakerref03_HasB.f k a0) (spinnakerref03_HasB.f (k + 1) a0) := by
 intro a0 k
 unfold spinnakerref03_HasB.f
 repeat' first | (with_reducible first | exact spinnakerref03_has.mono _ _ _ | exact LeO.refl _ | exact LeO.none _ | refine LeO.ite ?_ ?_ | refine LeO.bind ?_ (fun _ => ?_)) | exact spinnakerref03_has.mono _ _ _ | exact LeO.none _ | refine LeO.ite ?_ ?_ | refine LeO.bind ?_ (fun _ => ?_)
set_option maxHeartbeats 8000000 in
set_option maxRecDepth 100000 in
theorem spinnakerref03_HasB.calls (k : Nat) (a0 : Int) (r : Bool) (w : World) (h : spinnakerref03_HasB.f k a0 = some r) :
  Calls Tryd.prog 34 #[.int .i64 a0] w fun e w' => e = .returned (.bool r) ∧ Drawn0 w w' := by
 have H : ((spinnakerref03_has.f k a0 (⟨#[66, 83, 82, 65]⟩ : ByteArray)).bind fun t389 => (some t389)) = some r := h
 clear h
 replace H := be H
 obtain ⟨t389, A2, H⟩ := H
 obtain rfl := Option.some.inj H
 go_enter Tryd.func34, Tryd.ntmps34
 go_wp2_with (first | ((with_reducible refine gate_callee (f := 46) rfl ?_); refine goesL_ (some 4) rfl rfl Tryd.func46 (by kernel_rfl) rfl #[.int .i64 a0, .string (⟨#[66, 83, 82, 65]⟩ : ByteArray)] rfl ga ?_; (with_reducible refine (spinnakerref03_has.calls k a0 (⟨#[66, 83, 82, 65]⟩ : ByteArray) t389 _ A2.out).mono ?_); rintro e w' ⟨rfl, ⟨nd, rfl⟩⟩; refine ⟨_, rfl, ?_⟩))
 go_ret
 exact ⟨fj, fd⟩

/-! ### spinnakerref03_register: function 44 -/
def spinnakerref03_register.f (a0 : Int) (a1 : Bool) : Option (Bool) := if a1 = true then (if a0 ≥ 0 then (some (decide (a0 ≤ 31))) else (some false)) else (some (a0 == 0))
set_option maxHeartbeats 8000000 in
set_option maxRecDepth 100000 in
theorem spinnakerref03_register.calls (a0 : Int) (a1 : Bool) (r : Bool) (w : World) (h : spinnakerref03_register.f a0 a1 = some r) :
  Calls Tryd.prog 44 #[.int .i64 a0, .bool a1] w fun e w' => e = .returned (.bool r) ∧ Drawn0 w w' := by
 have H : (if a1 = true then (if a0 ≥ 0 then (some (decide (a0 ≤ 31))) else (some false)) else (some (a0 == 0))) = some r := h
 clear h
 by_cases c3 : a1 = true
 ·subst c3
  have H1 : (if a0 ≥ 0 then (some (decide (a0 ≤ 31))) else (some false)) = some r := by rw [if_pos rfl] at H; exact H
  clear H
  have H := H1
  clear H1
  by_cases c4 : a0 ≥ 0
  ·rw [if_pos c4] at H
   have c4b0 := decide_eq_true c4
   clear c4
   obtain rfl := Option.some.inj H
   go_enter Tryd.func44, Tryd.ntmps44
   go_wp2
   go_ret
   exact ⟨fj, fd⟩
  ·rw [if_neg c4] at H
   have c4b0 := decide_eq_false c4
   clear c4
   obtain rfl := Option.some.inj H
   go_enter Tryd.func44, Tryd.ntmps44
   go_wp2
   go_ret
   exact ⟨fj, fd⟩
 ·replace c3 := Bool.eq_false_iff.mpr c3
  subst c3
  have H1 : (some (a0 == 0)) = some r := by rw [if_neg (show ¬ (false = true) by decide)] at H; exact H
  clear H
  have H := H1
  clear H1
  obtain rfl := Option.some.inj H
  go_enter Tryd.func44, Tryd.ntmps44
  go_wp2
  go_ret
  exact ⟨fj, fd⟩

/-! ### spinnakerref01_Power: function 62 -/
def spinnakerref01_Power.l0 : Nat → Int → Int → Int → Option (Int)
  | 0, _, _, _ => none
  | k + 1, x0, x3, x4 => if x4 < x0 then (spinnakerref01_Power.l0 k x0 (IntKind.u64.wrap (2 * x3)) (wrap64 (x4 + 1))) else (some x3)
def spinnakerref01_Power.f (k : Nat) (a0 : Int) : Option (Int) := spinnakerref01_Power.l0 k a0 1 0
theorem spinnakerref01_Power.mono_l : ∀ k, (∀ y0 y1 y2, LeO (spinnakerref01_Power.l0 k y0 y1 y2) (spinnakerref01_Power.l0 (k + 1) y0 y1 y2))
 | 0 => fun _ _ _ r h => by simp [spinnakerref01_Power.l0] at h
 | k + 1 => by
  have ih0 := spinnakerref01_Power.mono_l k
  ·intro y0 y1 y2
   unfold spinnakerref01_Power.l0
   repeat' first | (with_reducible first | exact ih0 _ _ _ | exact LeO.refl _ | exact LeO.none _ | refine LeO.ite ?_ ?_ | refine LeO.bind ?_ (fun _ => ?_)) | exact ih0 _ _ _ | exact LeO.none _ | refine LeO.ite ?_ ?_ | refine LeO.bind ?_ (fun _ => ?_)
theorem spinnakerref01_Power.mono : ∀ a0 k, LeO (spinnakerref01_Power.f k a0) (spinnakerref01_Power.f (k + 1) a0) := by
 intro a0 k
 have ih0 := spinnakerref01_Power.mono_l k
 unfold spinnakerref01_Power.f
 repeat' first | (with_reducible first | exact ih0 _ _ _ | exact LeO.refl _ | exact LeO.none _ | refine LeO.ite ?_ ?_ | refine LeO.bind ?_ (fun _ => ?_)) | exact ih0 _ _ _ | exact LeO.none _ | refine LeO.ite ?_ ?_ | refine LeO.bind ?_ (fun _ => ?_)
set_option maxHeartbeats 8000000 in
set_option maxRecDepth 100000 in
theorem spinnakerref01_Power.calls (k : Nat) (a0 : Int) (r : Int) (w : World) (h : spinnakerref01_Power.f k a0 = some r) :
  Calls Tryd.prog 62 #[.int .i64 a0] w fun e w' => e = .returned (.int .u64 r) ∧ Drawn0 w w' := by
 have H : (spinnakerref01_Power.l0 k a0 1 0) = some r := h
 clear h
 have H' := Aside0.mk H
 clear H
 go_enter Tryd.func62, Tryd.ntmps62
 go_wp2
 go_loopg [3, 4] k (fun kq v3 v4 w' => ∃ (x3_1 : Int) (x4_1 : Int), v3 = .int .u64 x3_1 ∧ v4 = .int .i64 x4_1 ∧ Aside0 (spinnakerref01_Power.l0 kq a0 x3_1 x4_1 = some r) ∧ Aside0 (kq ≤ k) ∧ Drawn0 w w')
 case atStart => exact ⟨(1), (0), fj, fj, H', ⟨Nat.le_refl _⟩, fd⟩
 case round =>
  clear H'
  obtain ⟨x3_1, x4_1, rfl, rfl, HA, HK1, ⟨m1, rfl⟩⟩ := hrel
  cases gk with
  | zero => exact absurd HA.out (by simp [spinnakerref01_Power.l0])
  | succ k1 =>
   have H := HA.out
   clear HA
   simp only [spinnakerref01_Power.l0] at H
   by_cases c2 : x4_1 < a0
   ·rw [if_pos c2] at H
    have c2b0 := decide_eq_true c2
    clear c2
    have H' := Aside0.mk H
    clear H
    go_wp2
    go_roundg k1
    case measure => have := HK1.out; omega
    case rel => exact ⟨(IntKind.u64.wrap (2 * x3_1)), (wrap64 (x4_1 + 1)), fj, fj, H', ⟨by have := HK1.out; omega⟩, fd⟩
   ·rw [if_neg c2] at H
    have c2b0 := decide_eq_false c2
    clear c2
    obtain rfl := Option.some.inj H
    go_wp2
    go_ret
    exact ⟨fj, fd⟩

end Go.Proofs.YtffehgfjjagibaaDoor.GImagePlaces
