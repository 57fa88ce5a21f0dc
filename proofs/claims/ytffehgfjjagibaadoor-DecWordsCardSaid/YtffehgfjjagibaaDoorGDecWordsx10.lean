-- Written by wip/stub.py of this repo.
import Derived.Test.YtffehgfjjagibaaDoorGDecWordsx0
import Derived.Test.YtffehgfjjagibaaDoorGDecWordsx7
import Derived.Test.YtffehgfjjagibaaDoorGDecWordsx8
import Derived.Test.YtffehgfjjagibaaDoorGDecWordsx9
namespace Go.Proofs.YtffehgfjjagibaaDoor.GDecWords
open Go.RowKit Go.Proofs.YtffehgfjjagibaaDoorW.PrintWords Go.Proofs.YtffehgfjjagibaaDoorW.PrintLast Go.Proofs.YtffehgfjjagibaaDoorW.PrintMore
attribute [local go_sem] max2_int min2_int max_two min_two max_three min_three max_four min_four   -- for this text's walks alone
set_option linter.unusedVariables false
set_option linter.unusedSimpArgs false

/-! ### dec_operation: function 27 -/
def dec_operation.f (k : Nat) (a0 : Int) : Option (Int) := (dec_field.f a0 12 3).bind fun t274 => ((dec_field.f a0 25 7).bind fun t275 => ((dec_field.f a0 0 7).bind fun t276 => (if t276 = 55 then (some 1) else (if t276 = 23 then (some 2) else (if t276 = 111 then (some 3) else (if t276 = 103 then ((dec_pick.f k 4 t274 (([0] : List Int))).bind fun t280 => (some t280)) else (if t276 = 99 then ((dec_pick.f k 5 t274 (([0, 1, 4, 5, 6, 7] : List Int))).bind fun t284 => (some t284)) else (if t276 = 3 then ((dec_pick.f k 11 t274 (([0, 1, 2, 3, 4, 5, 6] : List Int))).bind fun t288 => (some t288)) else (if t276 = 35 then ((dec_pick.f k 18 t274 (([0, 1, 2, 3] : List Int))).bind fun t292 => (some t292)) else (if t276 = 19 then ((dec_immediates.f a0 t274).bind fun t293 => (some t293)) else (if t276 = 27 then ((dec_small.f t274 t275).bind fun t294 => (some t294)) else (if t276 = 51 then ((dec_whole.f k t274 t275).bind fun t295 => (some t295)) else (if t276 = 59 then ((dec_half.f k t274 t275).bind fun t296 => (some t296)) else (if t276 = 47 then ((dec_atomic.f k a0 t274).bind fun t297 => (some t297)) else (if t276 = 115 then ((dec_system.f k a0).bind fun t298 => (some t298)) else (if t276 = 15 then ((dec_pick.f k 63 t274 (([0] : List Int))).bind fun t302 => (some t302)) else (some 0)))))))))))))))))
theorem dec_operation.mono : ∀ a0 k, LeO (dec_operation.f k a0) (dec_operation.f (k + 1) a0) := by
 intro a0 k
 unfold dec_operation.f
 repeat' first
   | (with_reducible exact dec_atomic.mono _ _ _)
   | (with_reducible exact dec_half.mono _ _ _)
   | (with_reducible exact dec_pick.mono _ _ _ _)
   | (with_reducible exact dec_system.mono _ _)
   | (with_reducible exact dec_whole.mono _ _ _)
   | (with_reducible exact LeO.refl _)
   | (with_reducible exact LeO.none _)
   | (with_reducible refine LeO.ite ?_ ?_)
   | (with_reducible refine LeO.bind ?_ (fun _ => ?_))
   | exact dec_atomic.mono _ _ _
   | exact dec_half.mono _ _ _
   | exact dec_pick.mono _ _ _ _
   | exact dec_system.mono _ _
   | exact dec_whole.mono _ _ _
   | exact LeO.none _
   | refine LeO.ite ?_ ?_
   | refine LeO.bind ?_ (fun _ => ?_)
set_option maxHeartbeats 8000000 in
set_option maxRecDepth 100000 in
theorem dec_operation.calls (k : Nat) (a0 : Int) (r : Int) (w : World) (h : dec_operation.f k a0 = some r) :
  Calls Tryd.prog 27 #[.int .u32 a0] w fun e w' => e = .returned (.int .i64 r) ∧ Below w.heap.size w w' := by
 have HB := Aside0.mk (Below.refl w.heap.size w)
 have H : ((dec_field.f a0 12 3).bind fun t274 => ((dec_field.f a0 25 7).bind fun t275 => ((dec_field.f a0 0 7).bind fun t276 => (if t276 = 55 then (some 1) else (if t276 = 23 then (some 2) else (if t276 = 111 then (some 3) else (if t276 = 103 then ((dec_pick.f k 4 t274 (([0] : List Int))).bind fun t280 => (some t280)) else (if t276 = 99 then ((dec_pick.f k 5 t274 (([0, 1, 4, 5, 6, 7] : List Int))).bind fun t284 => (some t284)) else (if t276 = 3 then ((dec_pick.f k 11 t274 (([0, 1, 2, 3, 4, 5, 6] : List Int))).bind fun t288 => (some t288)) else (if t276 = 35 then ((dec_pick.f k 18 t274 (([0, 1, 2, 3] : List Int))).bind fun t292 => (some t292)) else (if t276 = 19 then ((dec_immediates.f a0 t274).bind fun t293 => (some t293)) else (if t276 = 27 then ((dec_small.f t274 t275).bind fun t294 => (some t294)) else (if t276 = 51 then ((dec_whole.f k t274 t275).bind fun t295 => (some t295)) else (if t276 = 59 then ((dec_half.f k t274 t275).bind fun t296 => (some t296)) else (if t276 = 47 then ((dec_atomic.f k a0 t274).bind fun t297 => (some t297)) else (if t276 = 115 then ((dec_system.f k a0).bind fun t298 => (some t298)) else (if t276 = 15 then ((dec_pick.f k 63 t274 (([0] : List Int))).bind fun t302 => (some t302)) else (some 0)))))))))))))))))) = some r := h
 clear h
 replace H := be H
 obtain ⟨t274, A2, H⟩ := H
 replace H := be H
 obtain ⟨t275, A3, H⟩ := H
 replace H := be H
 obtain ⟨t276, A4, H⟩ := H
 by_cases c5 : t276 = 55
 ·rw [if_pos c5] at H
  have c5b0 : (t276 == 55) = true := beq_iff_eq.mpr c5
  have c5b1 : (t276 != 55) = false := bne_eq_false_iff_eq.mpr c5
  clear c5
  obtain rfl := Option.some.inj H
  go_enter Tryd.func27, Tryd.ntmps27
  go_wp2_with (first | ((with_reducible refine gate_callee (f := 52) rfl ?_); refine goesL_ (some 6) rfl rfl Tryd.func52 (by kernel_rfl) rfl #[.int .u32 a0, .int .i64 12, .int .i64 3] rfl ga ?_; (with_reducible refine (dec_field.calls a0 12 3 t274 _ A2.out).mono ?_); rintro e w' ⟨rfl, ⟨nd, rfl⟩⟩; refine ⟨_, rfl, ?_⟩) | ((with_reducible refine gate_callee (f := 52) rfl ?_); refine goesL_ (some 8) rfl rfl Tryd.func52 (by kernel_rfl) rfl #[.int .u32 a0, .int .i64 25, .int .i64 7] rfl ga ?_; (with_reducible refine (dec_field.calls a0 25 7 t275 _ A3.out).mono ?_); rintro e w' ⟨rfl, ⟨nd, rfl⟩⟩; refine ⟨_, rfl, ?_⟩) | ((with_reducible refine gate_callee (f := 52) rfl ?_); refine goesL_ (some 10) rfl rfl Tryd.func52 (by kernel_rfl) rfl #[.int .u32 a0, .int .i64 0, .int .i64 7] rfl ga ?_; (with_reducible refine (dec_field.calls a0 0 7 t276 _ A4.out).mono ?_); rintro e w' ⟨rfl, ⟨nd, rfl⟩⟩; refine ⟨_, rfl, ?_⟩))
  go_ret
  exact ⟨fi, bl⟩
 ·rw [if_neg c5] at H
  have c5b0 : (t276 == 55) = false := beq_eq_false_iff_ne.mpr c5
  have c5b1 : (t276 != 55) = true := bne_iff_ne.mpr c5
  by_cases c6 : t276 = 23
  ·rw [if_pos c6] at H
   have c6b0 : (t276 == 23) = true := beq_iff_eq.mpr c6
   have c6b1 : (t276 != 23) = false := bne_eq_false_iff_eq.mpr c6
   clear c6
   obtain rfl := Option.some.inj H
   go_enter Tryd.func27, Tryd.ntmps27
   go_wp2_with (first | ((with_reducible refine gate_callee (f := 52) rfl ?_); refine goesL_ (some 6) rfl rfl Tryd.func52 (by kernel_rfl) rfl #[.int .u32 a0, .int .i64 12, .int .i64 3] rfl ga ?_; (with_reducible refine (dec_field.calls a0 12 3 t274 _ A2.out).mono ?_); rintro e w' ⟨rfl, ⟨nd, rfl⟩⟩; refine ⟨_, rfl, ?_⟩) | ((with_reducible refine gate_callee (f := 52) rfl ?_); refine goesL_ (some 8) rfl rfl Tryd.func52 (by kernel_rfl) rfl #[.int .u32 a0, .int .i64 25, .int .i64 7] rfl ga ?_; (with_reducible refine (dec_field.calls a0 25 7 t275 _ A3.out).mono ?_); rintro e w' ⟨rfl, ⟨nd, rfl⟩⟩; refine ⟨_, rfl, ?_⟩) | ((with_reducible refine gate_callee (f := 52) rfl ?_); refine goesL_ (some 10) rfl rfl Tryd.func52 (by kernel_rfl) rfl #[.int .u32 a0, .int .i64 0, .int .i64 7] rfl ga ?_; (with_reducible refine (dec_field.calls a0 0 7 t276 _ A4.out).mono ?_); rintro e w' ⟨rfl, ⟨nd, rfl⟩⟩; refine ⟨_, rfl, ?_⟩))
   go_ret
   exact ⟨fi, bl⟩
  ·rw [if_neg c6] at H
   have c6b0 : (t276 == 23) = false := beq_eq_false_iff_ne.mpr c6
   have c6b1 : (t276 != 23) = true := bne_iff_ne.mpr c6
   by_cases c7 : t276 = 111
   ·rw [if_pos c7] at H
    have c7b0 : (t276 == 111) = true := beq_iff_eq.mpr c7
    have c7b1 : (t276 != 111) = false := bne_eq_false_iff_eq.mpr c7
    clear c7
    obtain rfl := Option.some.inj H
    go_enter Tryd.func27, Tryd.ntmps27
    go_wp2_with (first | ((with_reducible refine gate_callee (f := 52) rfl ?_); refine goesL_ (some 6) rfl rfl Tryd.func52 (by kernel_rfl) rfl #[.int .u32 a0, .int .i64 12, .int .i64 3] rfl ga ?_; (with_reducible refine (dec_field.calls a0 12 3 t274 _ A2.out).mono ?_); rintro e w' ⟨rfl, ⟨nd, rfl⟩⟩; refine ⟨_, rfl, ?_⟩) | ((with_reducible refine gate_callee (f := 52) rfl ?_); refine goesL_ (some 8) rfl rfl Tryd.func52 (by kernel_rfl) rfl #[.int .u32 a0, .int .i64 25, .int .i64 7] rfl ga ?_; (with_reducible refine (dec_field.calls a0 25 7 t275 _ A3.out).mono ?_); rintro e w' ⟨rfl, ⟨nd, rfl⟩⟩; refine ⟨_, rfl, ?_⟩) | ((with_reducible refine gate_callee (f := 52) rfl ?_); refine goesL_ (some 10) rfl rfl Tryd.func52 (by kernel_rfl) rfl #[.int .u32 a0, .int .i64 0, .int .i64 7] rfl ga ?_; (with_reducible refine (dec_field.calls a0 0 7 t276 _ A4.out).mono ?_); rintro e w' ⟨rfl, ⟨nd, rfl⟩⟩; refine ⟨_, rfl, ?_⟩))
    go_ret
    exact ⟨fi, bl⟩
   ·rw [if_neg c7] at H
    have c7b0 : (t276 == 111) = false := beq_eq_false_iff_ne.mpr c7
    have c7b1 : (t276 != 111) = true := bne_iff_ne.mpr c7
    by_cases c8 : t276 = 103
    ·rw [if_pos c8] at H
     have c8b0 : (t276 == 103) = true := beq_iff_eq.mpr c8
     have c8b1 : (t276 != 103) = false := bne_eq_false_iff_eq.mpr c8
     clear c8
     obtain ⟨y277, hy277⟩ : ∃ y_ : List Int, y_ = (([0] : List Int)) := ⟨_, rfl⟩
     replace H : ((dec_pick.f k 4 t274 y277).bind fun t280 => (some t280)) = some r := by first | (rw [hy277]; with_reducible exact H) | (have H2_ := (Option.bind_some _ _).symm.trans H; rw [hy277]; with_reducible exact H2_) | (have H2_ := (Option.bind_some _ _).symm.trans H; with_reducible exact H2_) | with_reducible exact H | (rw [hy277]; exact H) | exact H
     have Ny277 := Aside0.mk hy277
     clear hy277
     replace H := be H
     obtain ⟨t280, A9, H⟩ := H
     obtain rfl := Option.some.inj H
     go_enter Tryd.func27, Tryd.ntmps27
     go_wp2_with (first | ((with_reducible refine gate_callee (f := 52) rfl ?_); refine goesL_ (some 6) rfl rfl Tryd.func52 (by kernel_rfl) rfl #[.int .u32 a0, .int .i64 12, .int .i64 3] rfl ga ?_; (with_reducible refine (dec_field.calls a0 12 3 t274 _ A2.out).mono ?_); rintro e w' ⟨rfl, ⟨nd, rfl⟩⟩; refine ⟨_, rfl, ?_⟩) | ((with_reducible refine gate_callee (f := 52) rfl ?_); refine goesL_ (some 8) rfl rfl Tryd.func52 (by kernel_rfl) rfl #[.int .u32 a0, .int .i64 25, .int .i64 7] rfl ga ?_; (with_reducible refine (dec_field.calls a0 25 7 t275 _ A3.out).mono ?_); rintro e w' ⟨rfl, ⟨nd, rfl⟩⟩; refine ⟨_, rfl, ?_⟩) | ((with_reducible refine gate_callee (f := 52) rfl ?_); refine goesL_ (some 10) rfl rfl Tryd.func52 (by kernel_rfl) rfl #[.int .u32 a0, .int .i64 0, .int .i64 7] rfl ga ?_; (with_reducible refine (dec_field.calls a0 0 7 t276 _ A4.out).mono ?_); rintro e w' ⟨rfl, ⟨nd, rfl⟩⟩; refine ⟨_, rfl, ?_⟩) | ((with_reducible refine gate_dst (N := 20) rfl ?_); refine Kd.R_lit (Kd.int .i64) _ 3 ?hg (N := 20) ?hd (xs := ([0] : List Int)) (inner := [.int .i64 0]) (ok := fun _ => True) (okp := fun _ => True) ?hr ?hp (fun _ hk => hk) trivial (Below.refl _ _) (Nat.le_refl _) (by simp) ?_; (case hd => rfl); (case hg => rfl); (case hr => first | (go_simp; done) | (go_simp; rfl)); (case hp => exact (Reps.one (show Kd.M (Kd.int .i64) _ _ _ 0 [.int .i64 0] from rfl) (Reps.none _ _))); intro v278 w10 ho11 hb hg_ hnew_; clear hg_ hnew_; (first | rw [← Ny277.out] at ho11 | (simp only [Int.reduceToNat] at ho11; rw [← Ny277.out] at ho11)); have n0_ := Aside0.mk (Kd.R_lower ho11 (below_size bl)); have n1_ := Aside0.mk (below_step bl hb); clear HB; have HO279 := n0_; have HB := n1_; clear n0_ n1_; clear hb ho11; obtain ⟨Ao12, co12, eo12⟩ := Kd.R_slice HO279.out; subst eo12) | ((with_reducible refine gate_callee (f := 53) rfl ?_); refine goesL_ (some 21) rfl rfl Tryd.func53 (by kernel_rfl) rfl #[.int .i64 4, .int .i64 t274, .slice Ao12 y277.length co12] rfl ga ?_; (with_reducible refine (dec_pick.calls k 4 t274 _ _ y277 t280 _ ?side1 ?side2 A9.out).mono ?_); (case side1 => repeat (first | exact (Kd.R_reads' HO279.out).2.2 | (with_reducible refine Kd.C_alloc ?_ _) | (with_reducible refine Kd.C_drewN ?_ _) | (with_reducible refine Kd.C_drew ?_))); (case side2 => exact (Kd.R_reads' HO279.out).2.1); rintro e w' ⟨rfl, ⟨nd, rfl⟩⟩; refine ⟨_, rfl, ?_⟩))
     go_ret
     exact ⟨fi, bl⟩
    ·rw [if_neg c8] at H
     have c8b0 : (t276 == 103) = false := beq_eq_false_iff_ne.mpr c8
     have c8b1 : (t276 != 103) = true := bne_iff_ne.mpr c8
     by_cases c13 : t276 = 99
     ·rw [if_pos c13] at H
      have c13b0 : (t276 == 99) = true := beq_iff_eq.mpr c13
      have c13b1 : (t276 != 99) = false := bne_eq_false_iff_eq.mpr c13
      clear c13
      obtain ⟨y281, hy281⟩ : ∃ y_ : List Int, y_ = (([0, 1, 4, 5, 6, 7] : List Int)) := ⟨_, rfl⟩
      replace H : ((dec_pick.f k 5 t274 y281).bind fun t284 => (some t284)) = some r := by first | (rw [hy281]; with_reducible exact H) | (have H2_ := (Option.bind_some _ _).symm.trans H; rw [hy281]; with_reducible exact H2_) | (have H2_ := (Option.bind_some _ _).symm.trans H; with_reducible exact H2_) | with_reducible exact H | (rw [hy281]; exact H) | exact H
      have Ny281 := Aside0.mk hy281
      clear hy281
      replace H := be H
      obtain ⟨t284, A14, H⟩ := H
      obtain rfl := Option.some.inj H
      go_enter Tryd.func27, Tryd.ntmps27
      go_wp2_with (first | ((with_reducible refine gate_callee (f := 52) rfl ?_); refine goesL_ (some 6) rfl rfl Tryd.func52 (by kernel_rfl) rfl #[.int .u32 a0, .int .i64 12, .int .i64 3] rfl ga ?_; (with_reducible refine (dec_field.calls a0 12 3 t274 _ A2.out).mono ?_); rintro e w' ⟨rfl, ⟨nd, rfl⟩⟩; refine ⟨_, rfl, ?_⟩) | ((with_reducible refine gate_callee (f := 52) rfl ?_); refine goesL_ (some 8) rfl rfl Tryd.func52 (by kernel_rfl) rfl #[.int .u32 a0, .int .i64 25, .int .i64 7] rfl ga ?_; (with_reducible refine (dec_field.calls a0 25 7 t275 _ A3.out).mono ?_); rintro e w' ⟨rfl, ⟨nd, rfl⟩⟩; refine ⟨_, rfl, ?_⟩) | ((with_reducible refine gate_callee (f := 52) rfl ?_); refine goesL_ (some 10) rfl rfl Tryd.func52 (by kernel_rfl) rfl #[.int .u32 a0, .int .i64 0, .int .i64 7] rfl ga ?_; (with_reducible refine (dec_field.calls a0 0 7 t276 _ A4.out).mono ?_); rintro e w' ⟨rfl, ⟨nd, rfl⟩⟩; refine ⟨_, rfl, ?_⟩) | ((with_reducible refine gate_dst (N := 25) rfl ?_); refine Kd.R_lit (Kd.int .i64) _ 3 ?hg (N := 25) ?hd (xs := ([0, 1, 4, 5, 6, 7] : List Int)) (inner := [.int .i64 0, .int .i64 1, .int .i64 4, .int .i64 5, .int .i64 6, .int .i64 7]) (ok := fun _ => True) (okp := fun _ => True) ?hr ?hp (fun _ hk => hk) trivial (Below.refl _ _) (Nat.le_refl _) (by simp) ?_; (case hd => rfl); (case hg => rfl); (case hr => first | (go_simp; done) | (go_simp; rfl)); (case hp => exact (Reps.one (show Kd.M (Kd.int .i64) _ _ _ 0 [.int .i64 0] from rfl) (Reps.one (show Kd.M (Kd.int .i64) _ _ _ 1 [.int .i64 1] from rfl) (Reps.one (show Kd.M (Kd.int .i64) _ _ _ 4 [.int .i64 4] from rfl) (Reps.one (show Kd.M (Kd.int .i64) _ _ _ 5 [.int .i64 5] from rfl) (Reps.one (show Kd.M (Kd.int .i64) _ _ _ 6 [.int .i64 6] from rfl) (Reps.one (show Kd.M (Kd.int .i64) _ _ _ 7 [.int .i64 7] from rfl) (Reps.none _ _)))))))); intro v282 w15 ho16 hb hg_ hnew_; clear hg_ hnew_; (first | rw [← Ny281.out] at ho16 | (simp only [Int.reduceToNat] at ho16; rw [← Ny281.out] at ho16)); have n0_ := Aside0.mk (Kd.R_lower ho16 (below_size bl)); have n1_ := Aside0.mk (below_step bl hb); clear HB; have HO283 := n0_; have HB := n1_; clear n0_ n1_; clear hb ho16; obtain ⟨Ao17, co17, eo17⟩ := Kd.R_slice HO283.out; subst eo17) | ((with_reducible refine gate_callee (f := 53) rfl ?_); refine goesL_ (some 26) rfl rfl Tryd.func53 (by kernel_rfl) rfl #[.int .i64 5, .int .i64 t274, .slice Ao17 y281.length co17] rfl ga ?_; (with_reducible refine (dec_pick.calls k 5 t274 _ _ y281 t284 _ ?side1 ?side2 A14.out).mono ?_); (case side1 => repeat (first | exact (Kd.R_reads' HO283.out).2.2 | (with_reducible refine Kd.C_alloc ?_ _) | (with_reducible refine Kd.C_drewN ?_ _) | (with_reducible refine Kd.C_drew ?_))); (case side2 => exact (Kd.R_reads' HO283.out).2.1); rintro e w' ⟨rfl, ⟨nd, rfl⟩⟩; refine ⟨_, rfl, ?_⟩))
      go_ret
      exact ⟨fi, bl⟩
     ·rw [if_neg c13] at H
      have c13b0 : (t276 == 99) = false := beq_eq_false_iff_ne.mpr c13
      have c13b1 : (t276 != 99) = true := bne_iff_ne.mpr c13
      by_cases c18 : t276 = 3
      ·rw [if_pos c18] at H
       have c18b0 : (t276 == 3) = true := beq_iff_eq.mpr c18
       have c18b1 : (t276 != 3) = false := bne_eq_false_iff_eq.mpr c18
       clear c18
       obtain ⟨y285, hy285⟩ : ∃ y_ : List Int, y_ = (([0, 1, 2, 3, 4, 5, 6] : List Int)) := ⟨_, rfl⟩
       replace H : ((dec_pick.f k 11 t274 y285).bind fun t288 => (some t288)) = some r := by first | (rw [hy285]; with_reducible exact H) | (have H2_ := (Option.bind_some _ _).symm.trans H; rw [hy285]; with_reducible exact H2_) | (have H2_ := (Option.bind_some _ _).symm.trans H; with_reducible exact H2_) | with_reducible exact H | (rw [hy285]; exact H) | exact H
       have Ny285 := Aside0.mk hy285
       clear hy285
       replace H := be H
       obtain ⟨t288, A19, H⟩ := H
       obtain rfl := Option.some.inj H
       go_enter Tryd.func27, Tryd.ntmps27
       go_wp2_with (first | ((with_reducible refine gate_callee (f := 52) rfl ?_); refine goesL_ (some 6) rfl rfl Tryd.func52 (by kernel_rfl) rfl #[.int .u32 a0, .int .i64 12, .int .i64 3] rfl ga ?_; (with_reducible refine (dec_field.calls a0 12 3 t274 _ A2.out).mono ?_); rintro e w' ⟨rfl, ⟨nd, rfl⟩⟩; refine ⟨_, rfl, ?_⟩) | ((with_reducible refine gate_callee (f := 52) rfl ?_); refine goesL_ (some 8) rfl rfl Tryd.func52 (by kernel_rfl) rfl #[.int .u32 a0, .int .i64 25, .int .i64 7] rfl ga ?_; (with_reducible refine (dec_field.calls a0 25 7 t275 _ A3.out).mono ?_); rintro e w' ⟨rfl, ⟨nd, rfl⟩⟩; refine ⟨_, rfl, ?_⟩) | ((with_reducible refine gate_callee (f := 52) rfl ?_); refine goesL_ (some 10) rfl rfl Tryd.func52 (by kernel_rfl) rfl #[.int .u32 a0, .int .i64 0, .int .i64 7] rfl ga ?_; (with_reducible refine (dec_field.calls a0 0 7 t276 _ A4.out).mono ?_); rintro e w' ⟨rfl, ⟨nd, rfl⟩⟩; refine ⟨_, rfl, ?_⟩) | ((with_reducible refine gate_dst (N := 30) rfl ?_); refine Kd.R_lit (Kd.int .i64) _ 3 ?hg (N := 30) ?hd (xs := ([0, 1, 2, 3, 4, 5, 6] : List Int)) (inner := [.int .i64 0, .int .i64 1, .int .i64 2, .int .i64 3, .int .i64 4, .int .i64 5, .int .i64 6]) (ok := fun _ => True) (okp := fun _ => True) ?hr ?hp (fun _ hk => hk) trivial (Below.refl _ _) (Nat.le_refl _) (by simp) ?_; (case hd => rfl); (case hg => rfl); (case hr => first | (go_simp; done) | (go_simp; rfl)); (case hp => exact (Reps.one (show Kd.M (Kd.int .i64) _ _ _ 0 [.int .i64 0] from rfl) (Reps.one (show Kd.M (Kd.int .i64) _ _ _ 1 [.int .i64 1] from rfl) (Reps.one (show Kd.M (Kd.int .i64) _ _ _ 2 [.int .i64 2] from rfl) (Reps.one (show Kd.M (Kd.int .i64) _ _ _ 3 [.int .i64 3] from rfl) (Reps.one (show Kd.M (Kd.int .i64) _ _ _ 4 [.int .i64 4] from rfl) (Reps.one (show Kd.M (Kd.int .i64) _ _ _ 5 [.int .i64 5] from rfl) (Reps.one (show Kd.M (Kd.int .i64) _ _ _ 6 [.int .i64 6] from rfl) (Reps.none _ _))))))))); intro v286 w20 ho21 hb hg_ hnew_; clear hg_ hnew_; (first | rw [← Ny285.out] at ho21 | (simp only [Int.reduceToNat] at ho21; rw [← Ny285.out] at ho21)); have n0_ := Aside0.mk (Kd.R_lower ho21 (below_size bl)); have n1_ := Aside0.mk (below_step bl hb); clear HB; have HO287 := n0_; have HB := n1_; clear n0_ n1_; clear hb ho21; obtain ⟨Ao22, co22, eo22⟩ := Kd.R_slice HO287.out; subst eo22) | ((with_reducible refine gate_callee (f := 53) rfl ?_); refine goesL_ (some 31) rfl rfl Tryd.func53 (by kernel_rfl) rfl #[.int .i64 11, .int .i64 t274, .slice Ao22 y285.length co22] rfl ga ?_; (with_reducible refine (dec_pick.calls k 11 t274 _ _ y285 t288 _ ?side1 ?side2 A19.out).mono ?_); (case side1 => repeat (first | exact (Kd.R_reads' HO287.out).2.2 | (with_reducible refine Kd.C_alloc ?_ _) | (with_reducible refine Kd.C_drewN ?_ _) | (with_reducible refine Kd.C_drew ?_))); (case side2 => exact (Kd.R_reads' HO287.out).2.1); rintro e w' ⟨rfl, ⟨nd, rfl⟩⟩; refine ⟨_, rfl, ?_⟩))
       go_ret
       exact ⟨fi, bl⟩
      ·rw [if_neg c18] at H
       have c18b0 : (t276 == 3) = false := beq_eq_false_iff_ne.mpr c18
       have c18b1 : (t276 != 3) = true := bne_iff_ne.mpr c18
       by_cases c23 : t276 = 35
       ·rw [if_pos c23] at H
        have c23b0 : (t276 == 35) = true := beq_iff_eq.mpr c23
        have c23b1 : (t276 != 35) = false := bne_eq_false_iff_eq.mpr c23
        clear c23
        obtain ⟨y289, hy289⟩ : ∃ y_ : List Int, y_ = (([0, 1, 2, 3] : List Int)) := ⟨_, rfl⟩
        replace H : ((dec_pick.f k 18 t274 y289).bind fun t292 => (some t292)) = some r := by first | (rw [hy289]; with_reducible exact H) | (have H2_ := (Option.bind_some _ _).symm.trans H; rw [hy289]; with_reducible exact H2_) | (have H2_ := (Option.bind_some _ _).symm.trans H; with_reducible exact H2_) | with_reducible exact H | (rw [hy289]; exact H) | exact H
        have Ny289 := Aside0.mk hy289
        clear hy289
        replace H := be H
        obtain ⟨t292, A24, H⟩ := H
        obtain rfl := Option.some.inj H
        go_enter Tryd.func27, Tryd.ntmps27
        go_wp2_with (first | ((with_reducible refine gate_callee (f := 52) rfl ?_); refine goesL_ (some 6) rfl rfl Tryd.func52 (by kernel_rfl) rfl #[.int .u32 a0, .int .i64 12, .int .i64 3] rfl ga ?_; (with_reducible refine (dec_field.calls a0 12 3 t274 _ A2.out).mono ?_); rintro e w' ⟨rfl, ⟨nd, rfl⟩⟩; refine ⟨_, rfl, ?_⟩) | ((with_reducible refine gate_callee (f := 52) rfl ?_); refine goesL_ (some 8) rfl rfl Tryd.func52 (by kernel_rfl) rfl #[.int .u32 a0, .int .i64 25, .int .i64 7] rfl ga ?_; (with_reducible refine (dec_field.calls a0 25 7 t275 _ A3.out).mono ?_); rintro e w' ⟨rfl, ⟨nd, rfl⟩⟩; refine ⟨_, rfl, ?_⟩) | ((with_reducible refine gate_callee (f := 52) rfl ?_); refine goesL_ (some 10) rfl rfl Tryd.func52 (by kernel_rfl) rfl #[.int .u32 a0, .int .i64 0, .int .i64 7] rfl ga ?_; (with_reducible refine (dec_field.calls a0 0 7 t276 _ A4.out).mono ?_); rintro e w' ⟨rfl, ⟨nd, rfl⟩⟩; refine ⟨_, rfl, ?_⟩) | ((with_reducible refine gate_dst (N := 35) rfl ?_); refine Kd.R_lit (Kd.int .i64) _ 3 ?hg (N := 35) ?hd (xs := ([0, 1, 2, 3] : List Int)) (inner := [.int .i64 0, .int .i64 1, .int .i64 2, .int .i64 3]) (ok := fun _ => True) (okp := fun _ => True) ?hr ?hp (fun _ hk => hk) trivial (Below.refl _ _) (Nat.le_refl _) (by simp) ?_; (case hd => rfl); (case hg => rfl); (case hr => first | (go_simp; done) | (go_simp; rfl)); (case hp => exact (Reps.one (show Kd.M (Kd.int .i64) _ _ _ 0 [.int .i64 0] from rfl) (Reps.one (show Kd.M (Kd.int .i64) _ _ _ 1 [.int .i64 1] from rfl) (Reps.one (show Kd.M (Kd.int .i64) _ _ _ 2 [.int .i64 2] from rfl) (Reps.one (show Kd.M (Kd.int .i64) _ _ _ 3 [.int .i64 3] from rfl) (Reps.none _ _)))))); intro v290 w25 ho26 hb hg_ hnew_; clear hg_ hnew_; (first | rw [← Ny289.out] at ho26 | (simp only [Int.reduceToNat] at ho26; rw [← Ny289.out] at ho26)); have n0_ := Aside0.mk (Kd.R_lower ho26 (below_size bl)); have n1_ := Aside0.mk (below_step bl hb); clear HB; have HO291 := n0_; have HB := n1_; clear n0_ n1_; clear hb ho26; obtain ⟨Ao27, co27, eo27⟩ := Kd.R_slice HO291.out; subst eo27) | ((with_reducible refine gate_callee (f := 53) rfl ?_); refine goesL_ (some 36) rfl rfl Tryd.func53 (by kernel_rfl) rfl #[.int .i64 18, .int .i64 t274, .slice Ao27 y289.length co27] rfl ga ?_; (with_reducible refine (dec_pick.calls k 18 t274 _ _ y289 t292 _ ?side1 ?side2 A24.out).mono ?_); (case side1 => repeat (first | exact (Kd.R_reads' HO291.out).2.2 | (with_reducible refine Kd.C_alloc ?_ _) | (with_reducible refine Kd.C_drewN ?_ _) | (with_reducible refine Kd.C_drew ?_))); (case side2 => exact (Kd.R_reads' HO291.out).2.1); rintro e w' ⟨rfl, ⟨nd, rfl⟩⟩; refine ⟨_, rfl, ?_⟩))
        go_ret
        exact ⟨fi, bl⟩
       ·rw [if_neg c23] at H
        have c23b0 : (t276 == 35) = false := beq_eq_false_iff_ne.mpr c23
        have c23b1 : (t276 != 35) = true := bne_iff_ne.mpr c23
        by_cases c28 : t276 = 19
        ·rw [if_pos c28] at H
         have c28b0 : (t276 == 19) = true := beq_iff_eq.mpr c28
         have c28b1 : (t276 != 19) = false := bne_eq_false_iff_eq.mpr c28
         clear c28
         replace H := be H
         obtain ⟨t293, A29, H⟩ := H
         obtain rfl := Option.some.inj H
         go_enter Tryd.func27, Tryd.ntmps27
         go_wp2_with (first | ((with_reducible refine gate_callee (f := 52) rfl ?_); refine goesL_ (some 6) rfl rfl Tryd.func52 (by kernel_rfl) rfl #[.int .u32 a0, .int .i64 12, .int .i64 3] rfl ga ?_; (with_reducible refine (dec_field.calls a0 12 3 t274 _ A2.out).mono ?_); rintro e w' ⟨rfl, ⟨nd, rfl⟩⟩; refine ⟨_, rfl, ?_⟩) | ((with_reducible refine gate_callee (f := 52) rfl ?_); refine goesL_ (some 8) rfl rfl Tryd.func52 (by kernel_rfl) rfl #[.int .u32 a0, .int .i64 25, .int .i64 7] rfl ga ?_; (with_reducible refine (dec_field.calls a0 25 7 t275 _ A3.out).mono ?_); rintro e w' ⟨rfl, ⟨nd, rfl⟩⟩; refine ⟨_, rfl, ?_⟩) | ((with_reducible refine gate_callee (f := 52) rfl ?_); refine goesL_ (some 10) rfl rfl Tryd.func52 (by kernel_rfl) rfl #[.int .u32 a0, .int .i64 0, .int .i64 7] rfl ga ?_; (with_reducible refine (dec_field.calls a0 0 7 t276 _ A4.out).mono ?_); rintro e w' ⟨rfl, ⟨nd, rfl⟩⟩; refine ⟨_, rfl, ?_⟩) | ((with_reducible refine gate_callee (f := 54) rfl ?_); refine goesL_ (some 41) rfl rfl Tryd.func54 (by kernel_rfl) rfl #[.int .u32 a0, .int .i64 t274] rfl ga ?_; (with_reducible refine (dec_immediates.calls a0 t274 t293 _ A29.out).mono ?_); rintro e w30 ⟨rfl, hb⟩; refine ⟨_, rfl, ?_⟩; have n0_ := Aside0.mk (below_step bl hb); clear HB; have HB := n0_; clear n0_; (try clear hb)))
         go_ret
         exact ⟨fi, bl⟩
        ·rw [if_neg c28] at H
         have c28b0 : (t276 == 19) = false := beq_eq_false_iff_ne.mpr c28
         have c28b1 : (t276 != 19) = true := bne_iff_ne.mpr c28
         by_cases c31 : t276 = 27
         ·rw [if_pos c31] at H
          have c31b0 : (t276 == 27) = true := beq_iff_eq.mpr c31
          have c31b1 : (t276 != 27) = false := bne_eq_false_iff_eq.mpr c31
          clear c31
          replace H := be H
          obtain ⟨t294, A32, H⟩ := H
          obtain rfl := Option.some.inj H
          go_enter Tryd.func27, Tryd.ntmps27
          go_wp2_with (first | ((with_reducible refine gate_callee (f := 52) rfl ?_); refine goesL_ (some 6) rfl rfl Tryd.func52 (by kernel_rfl) rfl #[.int .u32 a0, .int .i64 12, .int .i64 3] rfl ga ?_; (with_reducible refine (dec_field.calls a0 12 3 t274 _ A2.out).mono ?_); rintro e w' ⟨rfl, ⟨nd, rfl⟩⟩; refine ⟨_, rfl, ?_⟩) | ((with_reducible refine gate_callee (f := 52) rfl ?_); refine goesL_ (some 8) rfl rfl Tryd.func52 (by kernel_rfl) rfl #[.int .u32 a0, .int .i64 25, .int .i64 7] rfl ga ?_; (with_reducible refine (dec_field.calls a0 25 7 t275 _ A3.out).mono ?_); rintro e w' ⟨rfl, ⟨nd, rfl⟩⟩; refine ⟨_, rfl, ?_⟩) | ((with_reducible refine gate_callee (f := 52) rfl ?_); refine goesL_ (some 10) rfl rfl Tryd.func52 (by kernel_rfl) rfl #[.int .u32 a0, .int .i64 0, .int .i64 7] rfl ga ?_; (with_reducible refine (dec_field.calls a0 0 7 t276 _ A4.out).mono ?_); rintro e w' ⟨rfl, ⟨nd, rfl⟩⟩; refine ⟨_, rfl, ?_⟩) | ((with_reducible refine gate_callee (f := 55) rfl ?_); refine goesL_ (some 46) rfl rfl Tryd.func55 (by kernel_rfl) rfl #[.int .i64 t274, .int .i64 t275] rfl ga ?_; (with_reducible refine (dec_small.calls t274 t275 t294 _ A32.out).mono ?_); rintro e w33 ⟨rfl, hb⟩; refine ⟨_, rfl, ?_⟩; have n0_ := Aside0.mk (below_step bl hb); clear HB; have HB := n0_; clear n0_; (try clear hb)))
          go_ret
          exact ⟨fi, bl⟩
         ·rw [if_neg c31] at H
          have c31b0 : (t276 == 27) = false := beq_eq_false_iff_ne.mpr c31
          have c31b1 : (t276 != 27) = true := bne_iff_ne.mpr c31
          by_cases c34 : t276 = 51
          ·rw [if_pos c34] at H
           have c34b0 : (t276 == 51) = true := beq_iff_eq.mpr c34
           have c34b1 : (t276 != 51) = false := bne_eq_false_iff_eq.mpr c34
           clear c34
           replace H := be H
           obtain ⟨t295, A35, H⟩ := H
           obtain rfl := Option.some.inj H
           go_enter Tryd.func27, Tryd.ntmps27
           go_wp2_with (first | ((with_reducible refine gate_callee (f := 52) rfl ?_); refine goesL_ (some 6) rfl rfl Tryd.func52 (by kernel_rfl) rfl #[.int .u32 a0, .int .i64 12, .int .i64 3] rfl ga ?_; (with_reducible refine (dec_field.calls a0 12 3 t274 _ A2.out).mono ?_); rintro e w' ⟨rfl, ⟨nd, rfl⟩⟩; refine ⟨_, rfl, ?_⟩) | ((with_reducible refine gate_callee (f := 52) rfl ?_); refine goesL_ (some 8) rfl rfl Tryd.func52 (by kernel_rfl) rfl #[.int .u32 a0, .int .i64 25, .int .i64 7] rfl ga ?_; (with_reducible refine (dec_field.calls a0 25 7 t275 _ A3.out).mono ?_); rintro e w' ⟨rfl, ⟨nd, rfl⟩⟩; refine ⟨_, rfl, ?_⟩) | ((with_reducible refine gate_callee (f := 52) rfl ?_); refine goesL_ (some 10) rfl rfl Tryd.func52 (by kernel_rfl) rfl #[.int .u32 a0, .int .i64 0, .int .i64 7] rfl ga ?_; (with_reducible refine (dec_field.calls a0 0 7 t276 _ A4.out).mono ?_); rintro e w' ⟨rfl, ⟨nd, rfl⟩⟩; refine ⟨_, rfl, ?_⟩) | ((with_reducible refine gate_callee (f := 56) rfl ?_); refine goesL_ (some 51) rfl rfl Tryd.func56 (by kernel_rfl) rfl #[.int .i64 t274, .int .i64 t275] rfl ga ?_; (with_reducible refine (dec_whole.calls k t274 t275 t295 _ A35.out).mono ?_); rintro e w36 ⟨rfl, hb⟩; refine ⟨_, rfl, ?_⟩; have n0_ := Aside0.mk (below_step bl hb); clear HB; have HB := n0_; clear n0_; (try clear hb)))
           go_ret
           exact ⟨fi, bl⟩
          ·rw [if_neg c34] at H
           have c34b0 : (t276 == 51) = false := beq_eq_false_iff_ne.mpr c34
           have c34b1 : (t276 != 51) = true := bne_iff_ne.mpr c34
           by_cases c37 : t276 = 59
           ·rw [if_pos c37] at H
            have c37b0 : (t276 == 59) = true := beq_iff_eq.mpr c37
            have c37b1 : (t276 != 59) = false := bne_eq_false_iff_eq.mpr c37
            clear c37
            replace H := be H
            obtain ⟨t296, A38, H⟩ := H
            obtain rfl := Option.some.inj H
            go_enter Tryd.func27, Tryd.ntmps27
            go_wp2_with (first | ((with_reducible refine gate_callee (f := 52) rfl ?_); refine goesL_ (some 6) rfl rfl Tryd.func52 (by kernel_rfl) rfl #[.int .u32 a0, .int .i64 12, .int .i64 3] rfl ga ?_; (with_reducible refine (dec_field.calls a0 12 3 t274 _ A2.out).mono ?_); rintro e w' ⟨rfl, ⟨nd, rfl⟩⟩; refine ⟨_, rfl, ?_⟩) | ((with_reducible refine gate_callee (f := 52) rfl ?_); refine goesL_ (some 8) rfl rfl Tryd.func52 (by kernel_rfl) rfl #[.int .u32 a0, .int .i64 25, .int .i64 7] rfl ga ?_; (with_reducible refine (dec_field.calls a0 25 7 t275 _ A3.out).mono ?_); rintro e w' ⟨rfl, ⟨nd, rfl⟩⟩; refine ⟨_, rfl, ?_⟩) | ((with_reducible refine gate_callee (f := 52) rfl ?_); refine goesL_ (some 10) rfl rfl Tryd.func52 (by kernel_rfl) rfl #[.int .u32 a0, .int .i64 0, .int .i64 7] rfl ga ?_; (with_reducible refine (dec_field.calls a0 0 7 t276 _ A4.out).mono ?_); rintro e w' ⟨rfl, ⟨nd, rfl⟩⟩; refine ⟨_, rfl, ?_⟩) | ((with_reducible refine gate_callee (f := 57) rfl ?_); refine goesL_ (some 56) rfl rfl Tryd.func57 (by kernel_rfl) rfl #[.int .i64 t274, .int .i64 t275] rfl ga ?_; (with_reducible refine (dec_half.calls k t274 t275 t296 _ A38.out).mono ?_); rintro e w39 ⟨rfl, hb⟩; refine ⟨_, rfl, ?_⟩; have n0_ := Aside0.mk (below_step bl hb); clear HB; have HB := n0_; clear n0_; (try clear hb)))
            go_ret
            exact ⟨fi, bl⟩
           ·rw [if_neg c37] at H
            have c37b0 : (t276 == 59) = false := beq_eq_false_iff_ne.mpr c37
            have c37b1 : (t276 != 59) = true := bne_iff_ne.mpr c37
            by_cases c40 : t276 = 47
            ·rw [if_pos c40] at H
             have c40b0 : (t276 == 47) = true := beq_iff_eq.mpr c40
             have c40b1 : (t276 != 47) = false := bne_eq_false_iff_eq.mpr c40
             clear c40
             replace H := be H
             obtain ⟨t297, A41, H⟩ := H
             obtain rfl := Option.some.inj H
             go_enter Tryd.func27, Tryd.ntmps27
             go_wp2_with (first | ((with_reducible refine gate_callee (f := 52) rfl ?_); refine goesL_ (some 6) rfl rfl Tryd.func52 (by kernel_rfl) rfl #[.int .u32 a0, .int .i64 12, .int .i64 3] rfl ga ?_; (with_reducible refine (dec_field.calls a0 12 3 t274 _ A2.out).mono ?_); rintro e w' ⟨rfl, ⟨nd, rfl⟩⟩; refine ⟨_, rfl, ?_⟩) | ((with_reducible refine gate_callee (f := 52) rfl ?_); refine goesL_ (some 8) rfl rfl Tryd.func52 (by kernel_rfl) rfl #[.int .u32 a0, .int .i64 25, .int .i64 7] rfl ga ?_; (with_reducible refine (dec_field.calls a0 25 7 t275 _ A3.out).mono ?_); rintro e w' ⟨rfl, ⟨nd, rfl⟩⟩; refine ⟨_, rfl, ?_⟩) | ((with_reducible refine gate_callee (f := 52) rfl ?_); refine goesL_ (some 10) rfl rfl Tryd.func52 (by kernel_rfl) rfl #[.int .u32 a0, .int .i64 0, .int .i64 7] rfl ga ?_; (with_reducible refine (dec_field.calls a0 0 7 t276 _ A4.out).mono ?_); rintro e w' ⟨rfl, ⟨nd, rfl⟩⟩; refine ⟨_, rfl, ?_⟩) | ((with_reducible refine gate_callee (f := 58) rfl ?_); refine goesL_ (some 61) rfl rfl Tryd.func58 (by kernel_rfl) rfl #[.int .u32 a0, .int .i64 t274] rfl ga ?_; (with_reducible refine (dec_atomic.calls k a0 t274 t297 _ A41.out).mono ?_); rintro e w42 ⟨rfl, hb⟩; refine ⟨_, rfl, ?_⟩; have n0_ := Aside0.mk (below_step bl hb); clear HB; have HB := n0_; clear n0_; (try clear hb)))
             go_ret
             exact ⟨fi, bl⟩
            ·rw [if_neg c40] at H
             have c40b0 : (t276 == 47) = false := beq_eq_false_iff_ne.mpr c40
             have c40b1 : (t276 != 47) = true := bne_iff_ne.mpr c40
             by_cases c43 : t276 = 115
             ·rw [if_pos c43] at H
              have c43b0 : (t276 == 115) = true := beq_iff_eq.mpr c43
              have c43b1 : (t276 != 115) = false := bne_eq_false_iff_eq.mpr c43
              clear c43
              replace H := be H
              obtain ⟨t298, A44, H⟩ := H
              obtain rfl := Option.some.inj H
              go_enter Tryd.func27, Tryd.ntmps27
              go_wp2_with (first | ((with_reducible refine gate_callee (f := 52) rfl ?_); refine goesL_ (some 6) rfl rfl Tryd.func52 (by kernel_rfl) rfl #[.int .u32 a0, .int .i64 12, .int .i64 3] rfl ga ?_; (with_reducible refine (dec_field.calls a0 12 3 t274 _ A2.out).mono ?_); rintro e w' ⟨rfl, ⟨nd, rfl⟩⟩; refine ⟨_, rfl, ?_⟩) | ((with_reducible refine gate_callee (f := 52) rfl ?_); refine goesL_ (some 8) rfl rfl Tryd.func52 (by kernel_rfl) rfl #[.int .u32 a0, .int .i64 25, .int .i64 7] rfl ga ?_; (with_reducible refine (dec_field.calls a0 25 7 t275 _ A3.out).mono ?_); rintro e w' ⟨rfl, ⟨nd, rfl⟩⟩; refine ⟨_, rfl, ?_⟩) | ((with_reducible refine gate_callee (f := 52) rfl ?_); refine goesL_ (some 10) rfl rfl Tryd.func52 (by kernel_rfl) rfl #[.int .u32 a0, .int .i64 0, .int .i64 7] rfl ga ?_; (with_reducible refine (dec_field.calls a0 0 7 t276 _ A4.out).mono ?_); rintro e w' ⟨rfl, ⟨nd, rfl⟩⟩; refine ⟨_, rfl, ?_⟩) | ((with_reducible refine gate_callee (f := 59) rfl ?_); refine goesL_ (some 65) rfl rfl Tryd.func59 (by kernel_rfl) rfl #[.int .u32 a0] rfl ga ?_; (with_reducible refine (dec_system.calls k a0 t298 _ A44.out).mono ?_); rintro e w45 ⟨rfl, hb⟩; refine ⟨_, rfl, ?_⟩; have n0_ := Aside0.mk (below_step bl hb); clear HB; have HB := n0_; clear n0_; (try clear hb)))
              go_ret
              exact ⟨fi, bl⟩
             ·rw [if_neg c43] at H
              have c43b0 : (t276 == 115) = false := beq_eq_false_iff_ne.mpr c43
              have c43b1 : (t276 != 115) = true := bne_iff_ne.mpr c43
              by_cases c46 : t276 = 15
              ·rw [if_pos c46] at H
               have c46b0 : (t276 == 15) = true := beq_iff_eq.mpr c46
               have c46b1 : (t276 != 15) = false := bne_eq_false_iff_eq.mpr c46
               clear c46
               obtain ⟨y299, hy299⟩ : ∃ y_ : List Int, y_ = (([0] : List Int)) := ⟨_, rfl⟩
               replace H : ((dec_pick.f k 63 t274 y299).bind fun t302 => (some t302)) = some r := by first | (rw [hy299]; with_reducible exact H) | (have H2_ := (Option.bind_some _ _).symm.trans H; rw [hy299]; with_reducible exact H2_) | (have H2_ := (Option.bind_some _ _).symm.trans H; with_reducible exact H2_) | with_reducible exact H | (rw [hy299]; exact H) | exact H
               have Ny299 := Aside0.mk hy299
               clear hy299
               replace H := be H
               obtain ⟨t302, A47, H⟩ := H
               obtain rfl := Option.some.inj H
               go_enter Tryd.func27, Tryd.ntmps27
               go_wp2_with (first | ((with_reducible refine gate_callee (f := 52) rfl ?_); refine goesL_ (some 6) rfl rfl Tryd.func52 (by kernel_rfl) rfl #[.int .u32 a0, .int .i64 12, .int .i64 3] rfl ga ?_; (with_reducible refine (dec_field.calls a0 12 3 t274 _ A2.out).mono ?_); rintro e w' ⟨rfl, ⟨nd, rfl⟩⟩; refine ⟨_, rfl, ?_⟩) | ((with_reducible refine gate_callee (f := 52) rfl ?_); refine goesL_ (some 8) rfl rfl Tryd.func52 (by kernel_rfl) rfl #[.int .u32 a0, .int .i64 25, .int .i64 7] rfl ga ?_; (with_reducible refine (dec_field.calls a0 25 7 t275 _ A3.out).mono ?_); rintro e w' ⟨rfl, ⟨nd, rfl⟩⟩; refine ⟨_, rfl, ?_⟩) | ((with_reducible refine gate_callee (f := 52) rfl ?_); refine goesL_ (some 10) rfl rfl Tryd.func52 (by kernel_rfl) rfl #[.int .u32 a0, .int .i64 0, .int .i64 7] rfl ga ?_; (with_reducible refine (dec_field.calls a0 0 7 t276 _ A4.out).mono ?_); rintro e w' ⟨rfl, ⟨nd, rfl⟩⟩; refine ⟨_, rfl, ?_⟩) | ((with_reducible refine gate_dst (N := 69) rfl ?_); refine Kd.R_lit (Kd.int .i64) _ 3 ?hg (N := 69) ?hd (xs := ([0] : List Int)) (inner := [.int .i64 0]) (ok := fun _ => True) (okp := fun _ => True) ?hr ?hp (fun _ hk => hk) trivial (Below.refl _ _) (Nat.le_refl _) (by simp) ?_; (case hd => rfl); (case hg => rfl); (case hr => first | (go_simp; done) | (go_simp; rfl)); (case hp => exact (Reps.one (show Kd.M (Kd.int .i64) _ _ _ 0 [.int .i64 0] from rfl) (Reps.none _ _))); intro v300 w48 ho49 hb hg_ hnew_; clear hg_ hnew_; (first | rw [← Ny299.out] at ho49 | (simp only [Int.reduceToNat] at ho49; rw [← Ny299.out] at ho49)); have n0_ := Aside0.mk (Kd.R_lower ho49 (below_size bl)); have n1_ := Aside0.mk (below_step bl hb); clear HB; have HO301 := n0_; have HB := n1_; clear n0_ n1_; clear hb ho49; obtain ⟨Ao50, co50, eo50⟩ := Kd.R_slice HO301.out; subst eo50) | ((with_reducible refine gate_callee (f := 53) rfl ?_); refine goesL_ (some 70) rfl rfl Tryd.func53 (by kernel_rfl) rfl #[.int .i64 63, .int .i64 t274, .slice Ao50 y299.length co50] rfl ga ?_; (with_reducible refine (dec_pick.calls k 63 t274 _ _ y299 t302 _ ?side1 ?side2 A47.out).mono ?_); (case side1 => repeat (first | exact (Kd.R_reads' HO301.out).2.2 | (with_reducible refine Kd.C_alloc ?_ _) | (with_reducible refine Kd.C_drewN ?_ _) | (with_reducible refine Kd.C_drew ?_))); (case side2 => exact (Kd.R_reads' HO301.out).2.1); rintro e w' ⟨rfl, ⟨nd, rfl⟩⟩; refine ⟨_, rfl, ?_⟩))
               go_ret
               exact ⟨fi, bl⟩
              ·rw [if_neg c46] at H
               have c46b0 : (t276 == 15) = false := beq_eq_false_iff_ne.mpr c46
               have c46b1 : (t276 != 15) = true := bne_iff_ne.mpr c46
               obtain rfl := Option.some.inj H
               go_enter Tryd.func27, Tryd.ntmps27
               go_wp2_with (first | ((with_reducible refine gate_callee (f := 52) rfl ?_); refine goesL_ (some 6) rfl rfl Tryd.func52 (by kernel_rfl) rfl #[.int .u32 a0, .int .i64 12, .int .i64 3] rfl ga ?_; (with_reducible refine (dec_field.calls a0 12 3 t274 _ A2.out).mono ?_); rintro e w' ⟨rfl, ⟨nd, rfl⟩⟩; refine ⟨_, rfl, ?_⟩) | ((with_reducible refine gate_callee (f := 52) rfl ?_); refine goesL_ (some 8) rfl rfl Tryd.func52 (by kernel_rfl) rfl #[.int .u32 a0, .int .i64 25, .int .i64 7] rfl ga ?_; (with_reducible refine (dec_field.calls a0 25 7 t275 _ A3.out).mono ?_); rintro e w' ⟨rfl, ⟨nd, rfl⟩⟩; refine ⟨_, rfl, ?_⟩) | ((with_reducible refine gate_callee (f := 52) rfl ?_); refine goesL_ (some 10) rfl rfl Tryd.func52 (by kernel_rfl) rfl #[.int .u32 a0, .int .i64 0, .int .i64 7] rfl ga ?_; (with_reducible refine (dec_field.calls a0 0 7 t276 _ A4.out).mono ?_); rintro e w' ⟨rfl, ⟨nd, rfl⟩⟩; refine ⟨_, rfl, ?_⟩))
               go_ret
               exact ⟨fi, bl⟩

/-! ### dec_Decode: function 9 -/
def dec_Decode.f (k : Nat) (a0 : Int) : Option (Int × Int × Int × Int × Int × Bool × Bool) := (dec_operation.f k a0).bind fun t304 => ((dec_parts.f k a0 t304).bind fun bt305 => ((enc_Encode.f k bt305.1 bt305.2.1 bt305.2.2.1 bt305.2.2.2.1 bt305.2.2.2.2.1 bt305.2.2.2.2.2.1 bt305.2.2.2.2.2.2).bind fun bt313 => (if bt313.2 = 0 then (if bt313.1 = a0 then (some (bt305.1, bt305.2.1, bt305.2.2.1, bt305.2.2.2.1, bt305.2.2.2.2.1, bt305.2.2.2.2.2.1, bt305.2.2.2.2.2.2)) else (some (0, 0, 0, 0, wrap64 (a0), false, false))) else (some (0, 0, 0, 0, wrap64 (a0), false, false)))))
theorem dec_Decode.mono : ∀ a0 k, LeO (dec_Decode.f k a0) (dec_Decode.f (k + 1) a0) := by
 intro a0 k
 unfold dec_Decode.f
 repeat' first
   | (with_reducible exact dec_operation.mono _ _)
   | (with_reducible exact dec_parts.mono _ _ _)
   | (with_reducible exact enc_Encode.mono _ _ _ _ _ _ _ _)
   | (with_reducible exact LeO.refl _)
   | (with_reducible exact LeO.none _)
   | (with_reducible refine LeO.ite ?_ ?_)
   | (with_reducible refine LeO.bind ?_ (fun _ => ?_))
   | exact dec_operation.mono _ _
   | exact dec_parts.mono _ _ _
   | exact enc_Encode.mono _ _ _ _ _ _ _ _
   | exact LeO.none _
   | refine LeO.ite ?_ ?_
   | refine LeO.bind ?_ (fun _ => ?_)
set_option maxHeartbeats 8000000 in
set_option maxRecDepth 100000 in
theorem dec_Decode.calls (k : Nat) (a0 : Int) (r1 : Int) (r2 : Int) (r3 : Int) (r4 : Int) (r5 : Int) (r6 : Bool) (r7 : Bool) (w : World) (hL : Laid w) (h : dec_Decode.f k a0 = some (r1, r2, r3, r4, r5, r6, r7)) :
  Calls Tryd.prog 9 #[.int .u32 a0] w fun e w' => e = .returned (.agg #[.int .i64 r1, .int .i64 r2, .int .i64 r3, .int .i64 r4, .int .i64 r5, .bool r6, .bool r7]) ∧ Below w.heap.size w w' := by
 have HL := Aside0.mk hL
 clear hL
 have hu24 := Tryd.underlying24
 have HB := Aside0.mk (Below.refl w.heap.size w)
 have H : ((dec_operation.f k a0).bind fun t304 => ((dec_parts.f k a0 t304).bind fun bt305 => ((enc_Encode.f k bt305.1 bt305.2.1 bt305.2.2.1 bt305.2.2.2.1 bt305.2.2.2.2.1 bt305.2.2.2.2.2.1 bt305.2.2.2.2.2.2).bind fun bt313 => (if bt313.2 = 0 then (if bt313.1 = a0 then (some (bt305.1, bt305.2.1, bt305.2.2.1, bt305.2.2.2.1, bt305.2.2.2.2.1, bt305.2.2.2.2.2.1, bt305.2.2.2.2.2.2)) else (some (0, 0, 0, 0, wrap64 (a0), false, false))) else (some (0, 0, 0, 0, wrap64 (a0), false, false)))))) = some (r1, r2, r3, r4, r5, r6, r7) := h
 clear h
 replace H := be H
 obtain ⟨t304, A2, H⟩ := H
 replace H := be H
 obtain ⟨⟨t305, t306, t307, t308, t309, t310, t311⟩, A3, H⟩ := H
 dsimp only at H
 replace H := be H
 obtain ⟨⟨t313, t314⟩, A4, H⟩ := H
 dsimp only at H
 by_cases c5 : t314 = 0
 ·rw [if_pos c5] at H
  have c5b0 : (t314 == 0) = true := beq_iff_eq.mpr c5
  have c5b1 : (t314 != 0) = false := bne_eq_false_iff_eq.mpr c5
  clear c5
  by_cases c6 : t313 = a0
  ·rw [if_pos c6] at H
   have c6b0 : (t313 == a0) = true := beq_iff_eq.mpr c6
   have c6b1 : (t313 != a0) = false := bne_eq_false_iff_eq.mpr c6
   clear c6
   simp only [Option.some.injEq, Prod.mk.injEq] at H
   obtain ⟨rfl, rfl, rfl, rfl, rfl, rfl, rfl⟩ := H
   go_enter Tryd.func9, Tryd.ntmps9
   go_wp2_with (first | ((with_reducible refine gate_dst (N := 2) rfl ?_); refine box_event ?hg (N := 2) ?hd (cs := #[.int .i64 0, .int .i64 0, .int .i64 0, .int .i64 0, .int .i64 0, .bool false, .bool false]) (t := 24) ?hr ?_; (case hd => rfl); (case hg => rfl); (case hr => first | (go_simp; done) | (go_simp; rfl)); intro gb303 hg w7 hbox hb; obtain ⟨n0_, GW303⟩ := nb (w := w) hg hb; clear HB; have HB := n0_; have BK303 := Aside0.mk hbox; have GE303 := GW303; clear n0_ hb hbox hg) | ((with_reducible refine gate_callee (f := 27) rfl ?_); refine goesL_ (some 8) rfl rfl Tryd.func27 (by kernel_rfl) rfl #[.int .u32 a0] rfl ga ?_; (with_reducible refine (dec_operation.calls k a0 t304 _ A2.out).mono ?_); rintro e w8 ⟨rfl, hb⟩; refine ⟨_, rfl, ?_⟩; have n0_ := Aside0.mk (blk_below (g := gb303) (o := .cells #[.int .i64 0, .int .i64 0, .int .i64 0, .int .i64 0, .int .i64 0, .bool false, .bool false] 24 (0, 0)) (bk BK303.out) hb); have n1_ := Aside0.mk (below_step bl hb); clear BK303; clear HB; have BK303 := n0_; have HB := n1_; clear n0_ n1_; (try clear hb)) | ((with_reducible refine gate_callee (f := 26) rfl ?_); refine goesL_ (some 9) rfl rfl Tryd.func26 (by kernel_rfl) rfl #[.int .u32 a0, .int .i64 t304] rfl ga ?_; (with_reducible refine (dec_parts.calls k a0 t304 t305 t306 t307 t308 t309 t310 t311 _ (by first | exact HL.out | exact laid_drewN HL.out | exact laid_below HL.out bl | exact laid_below HL.out HB.out | exact laid_belowd HL.out HB.out) A3.out).mono ?_); rintro e w9 ⟨rfl, hb⟩; refine ⟨_, rfl, ?_⟩; have n0_ := Aside0.mk (blk_below (g := gb303) (o := .cells #[.int .i64 0, .int .i64 0, .int .i64 0, .int .i64 0, .int .i64 0, .bool false, .bool false] 24 (0, 0)) (bk BK303.out) hb); have n1_ := Aside0.mk (below_step bl hb); clear BK303; clear HB; have BK303 := n0_; have HB := n1_; clear n0_ n1_; (try clear hb)) | ((with_reducible refine gate_dst (N := 3) rfl ?_); refine box_event ?hg (N := 3) ?hd (cs := #[.int .i64 0, .int .i64 0, .int .i64 0, .int .i64 0, .int .i64 0, .bool false, .bool false]) (t := 24) ?hr ?_; (case hd => rfl); (case hg => rfl); (case hr => first | (go_simp; done) | (go_simp; rfl)); intro gb312 hg w10 hbox hb; have n0_ := Aside0.mk (blk_below (g := gb303) (o := .cells #[.int .i64 0, .int .i64 0, .int .i64 0, .int .i64 0, .int .i64 0, .bool false, .bool false] 24 (0, 0)) (bk BK303.out) hb); have n1_ := Aside0.mk (below_step bl hb); have n2_ := Aside0.mk (hbox); have n3_ := Aside0.mk ((by rw [hg]; exact (below_size bl) : w.heap.size ≤ gb312)); have n4_ := Aside0.mk ((by rw [hg]; exact (below_size bl) : w.heap.size ≤ gb312)); have n5_ := Aside0.mk ((by rw [hg]; exact Nat.ne_of_lt (blk_lt (g := gb303) (o := .cells #[.int .i64 0, .int .i64 0, .int .i64 0, .int .i64 0, .int .i64 0, .bool false, .bool false] 24 (0, 0)) (bk BK303.out)) : gb303 ≠ gb312)); have n6_ := Aside0.mk ((by rw [hg]; exact Nat.ne_of_gt (blk_lt (g := gb303) (o := .cells #[.int .i64 0, .int .i64 0, .int .i64 0, .int .i64 0, .int .i64 0, .bool false, .bool false] 24 (0, 0)) (bk BK303.out)) : gb312 ≠ gb303)); clear BK303; clear HB; have BK303 := n0_; have HB := n1_; have BK312 := n2_; have GW312 := n3_; have GE312 := n4_; have NB303_312 := n5_; have NB312_303 := n6_; clear n0_ n1_ n2_ n3_ n4_ n5_ n6_; clear hb hbox hg; have hnb11 := NB312_303.out; have hnc11 := NB303_312.out; obtain ⟨hcz12_0, hcz12_1, hcz12_2, hcz12_3, hcz12_4, hcz12_5, hcz12_6, hfz12_0, hfz12_1, hfz12_2, hfz12_3, hfz12_4, hfz12_5, hfz12_6⟩ := cz7 (w := w10) BK312.out) | ((with_reducible refine gate_callee (f := 13) rfl ?_); refine goesL_ (some 12) rfl rfl Tryd.func13 (by kernel_rfl) rfl #[.agg #[.int .i64 t305, .int .i64 t306, .int .i64 t307, .int .i64 t308, .int .i64 t309, .bool t310, .bool t311]] rfl ga ?_; (with_reducible refine (enc_Encode.calls k t305 t306 t307 t308 t309 t310 t311 t313 t314 _ (by first | exact HL.out | exact laid_drewN HL.out | exact laid_below HL.out bl | exact laid_below HL.out HB.out | exact laid_belowd HL.out HB.out) A4.out).mono ?_); rintro e w13 ⟨rfl, hb⟩; refine ⟨_, rfl, ?_⟩; have n0_ := Aside0.mk (blk_below (g := gb303) (o := .cells #[.int .i64 0, .int .i64 0, .int .i64 0, .int .i64 0, .int .i64 0, .bool false, .bool false] 24 (0, 0)) (by refine bx ?_; refine blk_far ?_ NB303_312.out _; refine bx ?_; refine blk_far ?_ NB303_312.out _; refine bx ?_; refine blk_far ?_ NB303_312.out _; refine bx ?_; refine blk_far ?_ NB303_312.out _; refine bx ?_; refine blk_far ?_ NB303_312.out _; refine bx ?_; refine blk_far ?_ NB303_312.out _; refine bx ?_; refine blk_far ?_ NB303_312.out _; refine bx ?_; exact BK303.out) hb); have n1_ := Aside0.mk (blk_below (g := gb312) (o := .cells #[.int .i64 t305, .int .i64 t306, .int .i64 t307, .int .i64 t308, .int .i64 t309, .bool t310, .bool t311] 24 (0, 0)) (by refine bx ?_; refine blk_put (cs := #[.int .i64 t305, .int .i64 t306, .int .i64 t307, .int .i64 t308, .int .i64 t309, .bool t310, .bool false]) ?_ 6 _ rfl; refine bx ?_; refine blk_put (cs := #[.int .i64 t305, .int .i64 t306, .int .i64 t307, .int .i64 t308, .int .i64 t309, .bool false, .bool false]) ?_ 5 _ rfl; refine bx ?_; refine blk_put (cs := #[.int .i64 t305, .int .i64 t306, .int .i64 t307, .int .i64 t308, .int .i64 0, .bool false, .bool false]) ?_ 4 _ rfl; refine bx ?_; refine blk_put (cs := #[.int .i64 t305, .int .i64 t306, .int .i64 t307, .int .i64 0, .int .i64 0, .bool false, .bool false]) ?_ 3 _ rfl; refine bx ?_; refine blk_put (cs := #[.int .i64 t305, .int .i64 t306, .int .i64 0, .int .i64 0, .int .i64 0, .bool false, .bool false]) ?_ 2 _ rfl; refine bx ?_; refine blk_put (cs := #[.int .i64 t305, .int .i64 0, .int .i64 0, .int .i64 0, .int .i64 0, .bool false, .bool false]) ?_ 1 _ rfl; refine bx ?_; refine blk_put (cs := #[.int .i64 0, .int .i64 0, .int .i64 0, .int .i64 0, .int .i64 0, .bool false, .bool false]) ?_ 0 _ rfl; refine bx ?_; exact BK312.out) hb); have n2_ := Aside0.mk (below_step bl hb); clear BK303; clear BK312; clear HB; have BK303 := n0_; have BK312 := n1_; have HB := n2_; clear n0_ n1_ n2_; (try clear hb); obtain ⟨hcz14_0, hcz14_1, hcz14_2, hcz14_3, hcz14_4, hcz14_5, hcz14_6, hfz14_0, hfz14_1, hfz14_2, hfz14_3, hfz14_4, hfz14_5, hfz14_6⟩ := cz7 (w := w13) BK312.out; obtain ⟨hcz15_0, hcz15_1, hcz15_2, hcz15_3, hcz15_4, hcz15_5, hcz15_6, hfz15_0, hfz15_1, hfz15_2, hfz15_3, hfz15_4, hfz15_5, hfz15_6⟩ := cz7 (w := w13) BK303.out))
   refine bodyPost_ret (results_cell_row rfl _ _ gb303 24 #[.int .i64 t305, .int .i64 t306, .int .i64 t307, .int .i64 t308, .int .i64 t309, .bool t310, .bool t311] (0, 0) _ rfl (by refine bx ?_; refine blk_put (cs := #[.int .i64 t305, .int .i64 t306, .int .i64 t307, .int .i64 t308, .int .i64 t309, .bool t310, .bool false]) ?_ 6 _ rfl; refine bx ?_; refine blk_put (cs := #[.int .i64 t305, .int .i64 t306, .int .i64 t307, .int .i64 t308, .int .i64 t309, .bool false, .bool false]) ?_ 5 _ rfl; refine bx ?_; refine blk_put (cs := #[.int .i64 t305, .int .i64 t306, .int .i64 t307, .int .i64 t308, .int .i64 0, .bool false, .bool false]) ?_ 4 _ rfl; refine bx ?_; refine blk_put (cs := #[.int .i64 t305, .int .i64 t306, .int .i64 t307, .int .i64 0, .int .i64 0, .bool false, .bool false]) ?_ 3 _ rfl; refine bx ?_; refine blk_put (cs := #[.int .i64 t305, .int .i64 t306, .int .i64 0, .int .i64 0, .int .i64 0, .bool false, .bool false]) ?_ 2 _ rfl; refine bx ?_; refine blk_put (cs := #[.int .i64 t305, .int .i64 0, .int .i64 0, .int .i64 0, .int .i64 0, .bool false, .bool false]) ?_ 1 _ rfl; refine bx ?_; refine blk_put (cs := #[.int .i64 0, .int .i64 0, .int .i64 0, .int .i64 0, .int .i64 0, .bool false, .bool false]) ?_ 0 _ rfl; refine bx ?_; exact BK303.out) Tryd.underlying24 rfl (by kernel_rfl)) rfl ?_
   exact ⟨fi, bl⟩
  ·rw [if_neg c6] at H
   have c6b0 : (t313 == a0) = false := beq_eq_false_iff_ne.mpr c6
   have c6b1 : (t313 != a0) = true := bne_iff_ne.mpr c6
   simp only [Option.some.injEq, Prod.mk.injEq] at H
   obtain ⟨rfl, rfl, rfl, rfl, rfl, rfl, rfl⟩ := H
   go_enter Tryd.func9, Tryd.ntmps9
   go_wp2_with (first | ((with_reducible refine gate_dst (N := 2) rfl ?_); refine box_event ?hg (N := 2) ?hd (cs := #[.int .i64 0, .int .i64 0, .int .i64 0, .int .i64 0, .int .i64 0, .bool false, .bool false]) (t := 24) ?hr ?_; (case hd => rfl); (case hg => rfl); (case hr => first | (go_simp; done) | (go_simp; rfl)); intro gb303 hg w16 hbox hb; obtain ⟨n0_, GW303⟩ := nb (w := w) hg hb; clear HB; have HB := n0_; have BK303 := Aside0.mk hbox; have GE303 := GW303; clear n0_ hb hbox hg) | ((with_reducible refine gate_callee (f := 27) rfl ?_); refine goesL_ (some 8) rfl rfl Tryd.func27 (by kernel_rfl) rfl #[.int .u32 a0] rfl ga ?_; (with_reducible refine (dec_operation.calls k a0 t304 _ A2.out).mono ?_); rintro e w17 ⟨rfl, hb⟩; refine ⟨_, rfl, ?_⟩; have n0_ := Aside0.mk (blk_below (g := gb303) (o := .cells #[.int .i64 0, .int .i64 0, .int .i64 0, .int .i64 0, .int .i64 0, .bool false, .bool false] 24 (0, 0)) (bk BK303.out) hb); have n1_ := Aside0.mk (below_step bl hb); clear BK303; clear HB; have BK303 := n0_; have HB := n1_; clear n0_ n1_; (try clear hb)) | ((with_reducible refine gate_callee (f := 26) rfl ?_); refine goesL_ (some 9) rfl rfl Tryd.func26 (by kernel_rfl) rfl #[.int .u32 a0, .int .i64 t304] rfl ga ?_; (with_reducible refine (dec_parts.calls k a0 t304 t305 t306 t307 t308 t309 t310 t311 _ (by first | exact HL.out | exact laid_drewN HL.out | exact laid_below HL.out bl | exact laid_below HL.out HB.out | exact laid_belowd HL.out HB.out) A3.out).mono ?_); rintro e w18 ⟨rfl, hb⟩; refine ⟨_, rfl, ?_⟩; have n0_ := Aside0.mk (blk_below (g := gb303) (o := .cells #[.int .i64 0, .int .i64 0, .int .i64 0, .int .i64 0, .int .i64 0, .bool false, .bool false] 24 (0, 0)) (bk BK303.out) hb); have n1_ := Aside0.mk (below_step bl hb); clear BK303; clear HB; have BK303 := n0_; have HB := n1_; clear n0_ n1_; (try clear hb)) | ((with_reducible refine gate_dst (N := 3) rfl ?_); refine box_event ?hg (N := 3) ?hd (cs := #[.int .i64 0, .int .i64 0, .int .i64 0, .int .i64 0, .int .i64 0, .bool false, .bool false]) (t := 24) ?hr ?_; (case hd => rfl); (case hg => rfl); (case hr => first | (go_simp; done) | (go_simp; rfl)); intro gb312 hg w19 hbox hb; have n0_ := Aside0.mk (blk_below (g := gb303) (o := .cells #[.int .i64 0, .int .i64 0, .int .i64 0, .int .i64 0, .int .i64 0, .bool false, .bool false] 24 (0, 0)) (bk BK303.out) hb); have n1_ := Aside0.mk (below_step bl hb); have n2_ := Aside0.mk (hbox); have n3_ := Aside0.mk ((by rw [hg]; exact (below_size bl) : w.heap.size ≤ gb312)); have n4_ := Aside0.mk ((by rw [hg]; exact (below_size bl) : w.heap.size ≤ gb312)); have n5_ := Aside0.mk ((by rw [hg]; exact Nat.ne_of_lt (blk_lt (g := gb303) (o := .cells #[.int .i64 0, .int .i64 0, .int .i64 0, .int .i64 0, .int .i64 0, .bool false, .bool false] 24 (0, 0)) (bk BK303.out)) : gb303 ≠ gb312)); have n6_ := Aside0.mk ((by rw [hg]; exact Nat.ne_of_gt (blk_lt (g := gb303) (o := .cells #[.int .i64 0, .int .i64 0, .int .i64 0, .int .i64 0, .int .i64 0, .bool false, .bool false] 24 (0, 0)) (bk BK303.out)) : gb312 ≠ gb303)); clear BK303; clear HB; have BK303 := n0_; have HB := n1_; have BK312 := n2_; have GW312 := n3_; have GE312 := n4_; have NB303_312 := n5_; have NB312_303 := n6_; clear n0_ n1_ n2_ n3_ n4_ n5_ n6_; clear hb hbox hg; have hnb20 := NB312_303.out; have hnc20 := NB303_312.out; obtain ⟨hcz21_0, hcz21_1, hcz21_2, hcz21_3, hcz21_4, hcz21_5, hcz21_6, hfz21_0, hfz21_1, hfz21_2, hfz21_3, hfz21_4, hfz21_5, hfz21_6⟩ := cz7 (w := w19) BK312.out) | ((with_reducible refine gate_callee (f := 13) rfl ?_); refine goesL_ (some 12) rfl rfl Tryd.func13 (by kernel_rfl) rfl #[.agg #[.int .i64 t305, .int .i64 t306, .int .i64 t307, .int .i64 t308, .int .i64 t309, .bool t310, .bool t311]] rfl ga ?_; (with_reducible refine (enc_Encode.calls k t305 t306 t307 t308 t309 t310 t311 t313 t314 _ (by first | exact HL.out | exact laid_drewN HL.out | exact laid_below HL.out bl | exact laid_below HL.out HB.out | exact laid_belowd HL.out HB.out) A4.out).mono ?_); rintro e w22 ⟨rfl, hb⟩; refine ⟨_, rfl, ?_⟩; have n0_ := Aside0.mk (blk_below (g := gb303) (o := .cells #[.int .i64 0, .int .i64 0, .int .i64 0, .int .i64 0, .int .i64 0, .bool false, .bool false] 24 (0, 0)) (by refine bx ?_; refine blk_far ?_ NB303_312.out _; refine bx ?_; refine blk_far ?_ NB303_312.out _; refine bx ?_; refine blk_far ?_ NB303_312.out _; refine bx ?_; refine blk_far ?_ NB303_312.out _; refine bx ?_; refine blk_far ?_ NB303_312.out _; refine bx ?_; refine blk_far ?_ NB303_312.out _; refine bx ?_; refine blk_far ?_ NB303_312.out _; refine bx ?_; exact BK303.out) hb); have n1_ := Aside0.mk (blk_below (g := gb312) (o := .cells #[.int .i64 t305, .int .i64 t306, .int .i64 t307, .int .i64 t308, .int .i64 t309, .bool t310, .bool t311] 24 (0, 0)) (by refine bx ?_; refine blk_put (cs := #[.int .i64 t305, .int .i64 t306, .int .i64 t307, .int .i64 t308, .int .i64 t309, .bool t310, .bool false]) ?_ 6 _ rfl; refine bx ?_; refine blk_put (cs := #[.int .i64 t305, .int .i64 t306, .int .i64 t307, .int .i64 t308, .int .i64 t309, .bool false, .bool false]) ?_ 5 _ rfl; refine bx ?_; refine blk_put (cs := #[.int .i64 t305, .int .i64 t306, .int .i64 t307, .int .i64 t308, .int .i64 0, .bool false, .bool false]) ?_ 4 _ rfl; refine bx ?_; refine blk_put (cs := #[.int .i64 t305, .int .i64 t306, .int .i64 t307, .int .i64 0, .int .i64 0, .bool false, .bool false]) ?_ 3 _ rfl; refine bx ?_; refine blk_put (cs := #[.int .i64 t305, .int .i64 t306, .int .i64 0, .int .i64 0, .int .i64 0, .bool false, .bool false]) ?_ 2 _ rfl; refine bx ?_; refine blk_put (cs := #[.int .i64 t305, .int .i64 0, .int .i64 0, .int .i64 0, .int .i64 0, .bool false, .bool false]) ?_ 1 _ rfl; refine bx ?_; refine blk_put (cs := #[.int .i64 0, .int .i64 0, .int .i64 0, .int .i64 0, .int .i64 0, .bool false, .bool false]) ?_ 0 _ rfl; refine bx ?_; exact BK312.out) hb); have n2_ := Aside0.mk (below_step bl hb); clear BK303; clear BK312; clear HB; have BK303 := n0_; have BK312 := n1_; have HB := n2_; clear n0_ n1_ n2_; (try clear hb); obtain ⟨hcz23_0, hcz23_1, hcz23_2, hcz23_3, hcz23_4, hcz23_5, hcz23_6, hfz23_0, hfz23_1, hfz23_2, hfz23_3, hfz23_4, hfz23_5, hfz23_6⟩ := cz7 (w := w22) BK303.out))
   refine bodyPost_ret (results_cell_row rfl _ _ gb303 24 #[.int .i64 0, .int .i64 0, .int .i64 0, .int .i64 0, .int .i64 (wrap64 (a0)), .bool false, .bool false] (0, 0) _ rfl (by refine bx ?_; refine blk_put (cs := #[.int .i64 0, .int .i64 0, .int .i64 0, .int .i64 0, .int .i64 (wrap64 (a0)), .bool false, .bool false]) ?_ 6 _ rfl; refine bx ?_; refine blk_put (cs := #[.int .i64 0, .int .i64 0, .int .i64 0, .int .i64 0, .int .i64 (wrap64 (a0)), .bool false, .bool false]) ?_ 5 _ rfl; refine bx ?_; refine blk_put (cs := #[.int .i64 0, .int .i64 0, .int .i64 0, .int .i64 0, .int .i64 0, .bool false, .bool false]) ?_ 4 _ rfl; refine bx ?_; refine blk_put (cs := #[.int .i64 0, .int .i64 0, .int .i64 0, .int .i64 0, .int .i64 0, .bool false, .bool false]) ?_ 3 _ rfl; refine bx ?_; refine blk_put (cs := #[.int .i64 0, .int .i64 0, .int .i64 0, .int .i64 0, .int .i64 0, .bool false, .bool false]) ?_ 2 _ rfl; refine bx ?_; refine blk_put (cs := #[.int .i64 0, .int .i64 0, .int .i64 0, .int .i64 0, .int .i64 0, .bool false, .bool false]) ?_ 1 _ rfl; refine bx ?_; refine blk_put (cs := #[.int .i64 0, .int .i64 0, .int .i64 0, .int .i64 0, .int .i64 0, .bool false, .bool false]) ?_ 0 _ rfl; refine bx ?_; exact BK303.out) Tryd.underlying24 rfl (by kernel_rfl)) rfl ?_
   exact ⟨fi, bl⟩
 ·rw [if_neg c5] at H
  have c5b0 : (t314 == 0) = false := beq_eq_false_iff_ne.mpr c5
  have c5b1 : (t314 != 0) = true := bne_iff_ne.mpr c5
  simp only [Option.some.injEq, Prod.mk.injEq] at H
  obtain ⟨rfl, rfl, rfl, rfl, rfl, rfl, rfl⟩ := H
  go_enter Tryd.func9, Tryd.ntmps9
  go_wp2_with (first | ((with_reducible refine gate_dst (N := 2) rfl ?_); refine box_event ?hg (N := 2) ?hd (cs := #[.int .i64 0, .int .i64 0, .int .i64 0, .int .i64 0, .int .i64 0, .bool false, .bool false]) (t := 24) ?hr ?_; (case hd => rfl); (case hg => rfl); (case hr => first | (go_simp; done) | (go_simp; rfl)); intro gb303 hg w24 hbox hb; obtain ⟨n0_, GW303⟩ := nb (w := w) hg hb; clear HB; have HB := n0_; have BK303 := Aside0.mk hbox; have GE303 := GW303; clear n0_ hb hbox hg) | ((with_reducible refine gate_callee (f := 27) rfl ?_); refine goesL_ (some 8) rfl rfl Tryd.func27 (by kernel_rfl) rfl #[.int .u32 a0] rfl ga ?_; (with_reducible refine (dec_operation.calls k a0 t304 _ A2.out).mono ?_); rintro e w25 ⟨rfl, hb⟩; refine ⟨_, rfl, ?_⟩; have n0_ := Aside0.mk (blk_below (g := gb303) (o := .cells #[.int .i64 0, .int .i64 0, .int .i64 0, .int .i64 0, .int .i64 0, .bool false, .bool false] 24 (0, 0)) (bk BK303.out) hb); have n1_ := Aside0.mk (below_step bl hb); clear BK303; clear HB; have BK303 := n0_; have HB := n1_; clear n0_ n1_; (try clear hb)) | ((with_reducible refine gate_callee (f := 26) rfl ?_); refine goesL_ (some 9) rfl rfl Tryd.func26 (by kernel_rfl) rfl #[.int .u32 a0, .int .i64 t304] rfl ga ?_; (with_reducible refine (dec_parts.calls k a0 t304 t305 t306 t307 t308 t309 t310 t311 _ (by first | exact HL.out | exact laid_drewN HL.out | exact laid_below HL.out bl | exact laid_below HL.out HB.out | exact laid_belowd HL.out HB.out) A3.out).mono ?_); rintro e w26 ⟨rfl, hb⟩; refine ⟨_, rfl, ?_⟩; have n0_ := Aside0.mk (blk_below (g := gb303) (o := .cells #[.int .i64 0, .int .i64 0, .int .i64 0, .int .i64 0, .int .i64 0, .bool false, .bool false] 24 (0, 0)) (bk BK303.out) hb); have n1_ := Aside0.mk (below_step bl hb); clear BK303; clear HB; have BK303 := n0_; have HB := n1_; clear n0_ n1_; (try clear hb)) | ((with_reducible refine gate_dst (N := 3) rfl ?_); refine box_event ?hg (N := 3) ?hd (cs := #[.int .i64 0, .int .i64 0, .int .i64 0, .int .i64 0, .int .i64 0, .bool false, .bool false]) (t := 24) ?hr ?_; (case hd => rfl); (case hg => rfl); (case hr => first | (go_simp; done) | (go_simp; rfl)); intro gb312 hg w27 hbox hb; have n0_ := Aside0.mk (blk_below (g := gb303) (o := .cells #[.int .i64 0, .int .i64 0, .int .i64 0, .int .i64 0, .int .i64 0, .bool false, .bool false] 24 (0, 0)) (bk BK303.out) hb); have n1_ := Aside0.mk (below_step bl hb); have n2_ := Aside0.mk (hbox); have n3_ := Aside0.mk ((by rw [hg]; exact (below_size bl) : w.heap.size ≤ gb312)); have n4_ := Aside0.mk ((by rw [hg]; exact (below_size bl) : w.heap.size ≤ gb312)); have n5_ := Aside0.mk ((by rw [hg]; exact Nat.ne_of_lt (blk_lt (g := gb303) (o := .cells #[.int .i64 0, .int .i64 0, .int .i64 0, .int .i64 0, .int .i64 0, .bool false, .bool false] 24 (0, 0)) (bk BK303.out)) : gb303 ≠ gb312)); have n6_ := Aside0.mk ((by rw [hg]; exact Nat.ne_of_gt (blk_lt (g := gb303) (o := .cells #[.int .i64 0, .int .i64 0, .int .i64 0, .int .i64 0, .int .i64 0, .bool false, .bool false] 24 (0, 0)) (bk BK303.out)) : gb312 ≠ gb303)); clear BK303; clear HB; have BK303 := n0_; have HB := n1_; have BK312 := n2_; have GW312 := n3_; have GE312 := n4_; have NB303_312 := n5_; have NB312_303 := n6_; clear n0_ n1_ n2_ n3_ n4_ n5_ n6_; clear hb hbox hg; have hnb28 := NB312_303.out; have hnc28 := NB303_312.out; obtain ⟨hcz29_0, hcz29_1, hcz29_2, hcz29_3, hcz29_4, hcz29_5, hcz29_6, hfz29_0, hfz29_1, hfz29_2, hfz29_3, hfz29_4, hfz29_5, hfz29_6⟩ := cz7 (w := w27) BK312.out) | ((with_reducible refine gate_callee (f := 13) rfl ?_); refine goesL_ (some 12) rfl rfl Tryd.func13 (by kernel_rfl) rfl #[.agg #[.int .i64 t305, .int .i64 t306, .int .i64 t307, .int .i64 t308, .int .i64 t309, .bool t310, .bool t311]] rfl ga ?_; (with_reducible refine (enc_Encode.calls k t305 t306 t307 t308 t309 t310 t311 t313 t314 _ (by first | exact HL.out | exact laid_drewN HL.out | exact laid_below HL.out bl | exact laid_below HL.out HB.out | exact laid_belowd HL.out HB.out) A4.out).mono ?_); rintro e w30 ⟨rfl, hb⟩; refine ⟨_, rfl, ?_⟩; have n0_ := Aside0.mk (blk_below (g := gb303) (o := .cells #[.int .i64 0, .int .i64 0, .int .i64 0, .int .i64 0, .int .i64 0, .bool false, .bool false] 24 (0, 0)) (by refine bx ?_; refine blk_far ?_ NB303_312.out _; refine bx ?_; refine blk_far ?_ NB303_312.out _; refine bx ?_; refine blk_far ?_ NB303_312.out _; refine bx ?_; refine blk_far ?_ NB303_312.out _; refine bx ?_; refine blk_far ?_ NB303_312.out _; refine bx ?_; refine blk_far ?_ NB303_312.out _; refine bx ?_; refine blk_far ?_ NB303_312.out _; refine bx ?_; exact BK303.out) hb); have n1_ := Aside0.mk (blk_below (g := gb312) (o := .cells #[.int .i64 t305, .int .i64 t306, .int .i64 t307, .int .i64 t308, .int .i64 t309, .bool t310, .bool t311] 24 (0, 0)) (by refine bx ?_; refine blk_put (cs := #[.int .i64 t305, .int .i64 t306, .int .i64 t307, .int .i64 t308, .int .i64 t309, .bool t310, .bool false]) ?_ 6 _ rfl; refine bx ?_; refine blk_put (cs := #[.int .i64 t305, .int .i64 t306, .int .i64 t307, .int .i64 t308, .int .i64 t309, .bool false, .bool false]) ?_ 5 _ rfl; refine bx ?_; refine blk_put (cs := #[.int .i64 t305, .int .i64 t306, .int .i64 t307, .int .i64 t308, .int .i64 0, .bool false, .bool false]) ?_ 4 _ rfl; refine bx ?_; refine blk_put (cs := #[.int .i64 t305, .int .i64 t306, .int .i64 t307, .int .i64 0, .int .i64 0, .bool false, .bool false]) ?_ 3 _ rfl; refine bx ?_; refine blk_put (cs := #[.int .i64 t305, .int .i64 t306, .int .i64 0, .int .i64 0, .int .i64 0, .bool false, .bool false]) ?_ 2 _ rfl; refine bx ?_; refine blk_put (cs := #[.int .i64 t305, .int .i64 0, .int .i64 0, .int .i64 0, .int .i64 0, .bool false, .bool false]) ?_ 1 _ rfl; refine bx ?_; refine blk_put (cs := #[.int .i64 0, .int .i64 0, .int .i64 0, .int .i64 0, .int .i64 0, .bool false, .bool false]) ?_ 0 _ rfl; refine bx ?_; exact BK312.out) hb); have n2_ := Aside0.mk (below_step bl hb); clear BK303; clear BK312; clear HB; have BK303 := n0_; have BK312 := n1_; have HB := n2_; clear n0_ n1_ n2_; (try clear hb); obtain ⟨hcz31_0, hcz31_1, hcz31_2, hcz31_3, hcz31_4, hcz31_5, hcz31_6, hfz31_0, hfz31_1, hfz31_2, hfz31_3, hfz31_4, hfz31_5, hfz31_6⟩ := cz7 (w := w30) BK303.out))
  refine bodyPost_ret (results_cell_row rfl _ _ gb303 24 #[.int .i64 0, .int .i64 0, .int .i64 0, .int .i64 0, .int .i64 (wrap64 (a0)), .bool false, .bool false] (0, 0) _ rfl (by refine bx ?_; refine blk_put (cs := #[.int .i64 0, .int .i64 0, .int .i64 0, .int .i64 0, .int .i64 (wrap64 (a0)), .bool false, .bool false]) ?_ 6 _ rfl; refine bx ?_; refine blk_put (cs := #[.int .i64 0, .int .i64 0, .int .i64 0, .int .i64 0, .int .i64 (wrap64 (a0)), .bool false, .bool false]) ?_ 5 _ rfl; refine bx ?_; refine blk_put (cs := #[.int .i64 0, .int .i64 0, .int .i64 0, .int .i64 0, .int .i64 0, .bool false, .bool false]) ?_ 4 _ rfl; refine bx ?_; refine blk_put (cs := #[.int .i64 0, .int .i64 0, .int .i64 0, .int .i64 0, .int .i64 0, .bool false, .bool false]) ?_ 3 _ rfl; refine bx ?_; refine blk_put (cs := #[.int .i64 0, .int .i64 0, .int .i64 0, .int .i64 0, .int .i64 0, .bool false, .bool false]) ?_ 2 _ rfl; refine bx ?_; refine blk_put (cs := #[.int .i64 0, .int .i64 0, .int .i64 0, .int .i64 0, .int .i64 0, .bool false, .bool false]) ?_ 1 _ rfl; refine bx ?_; refine blk_put (cs := #[.int .i64 0, .int .i64 0, .int .i64 0, .int .i64 0, .int .i64 0, .bool false, .bool false]) ?_ 0 _ rfl; refine bx ?_; exact BK303.out) Tryd.underlying24 rfl (by kernel_rfl)) rfl ?_
  exact ⟨fi, bl⟩

/-! ### spinnakerref03_letter: function 43 -/
def spinnakerref03_letter.f (a0 : Int) : Option (Int) := if a0 < 1 then (some 0) else (if a0 > 87 then (some 0) else (if 0 ≤ (wrap64 (a0 - 1)) then (if (wrap64 (a0 - 1)) < 87 then (some (bt (⟨#[85, 85, 74, 73, 66, 66, 66, 66, 66, 66, 73, 73, 73, 73, 73, 73, 73, 83, 83, 83, 83, 73, 73, 73, 73, 73, 73, 72, 72, 72, 73, 87, 87, 87, 82, 82, 82, 82, 82, 82, 82, 82, 82, 82, 82, 82, 82, 82, 82, 82, 82, 82, 82, 82, 82, 82, 82, 82, 82, 82, 82, 82, 70, 78, 78, 76, 65, 65, 65, 65, 65, 65, 65, 65, 65, 65, 76, 65, 65, 65, 65, 65, 65, 65, 65, 65, 65]⟩ : ByteArray) (wrap64 (a0 - 1)))) else (none)) else (none)))
set_option maxHeartbeats 8000000 in
set_option maxRecDepth 100000 in
theorem spinnakerref03_letter.calls (a0 : Int) (r : Int) (w : World) (h : spinnakerref03_letter.f a0 = some r) :
  Calls Tryd.prog 43 #[.int .i64 a0] w fun e w' => e = .returned (.int .u8 r) ∧ Drawn0 w w' := by
 have H : (if a0 < 1 then (some 0) else (if a0 > 87 then (some 0) else (if 0 ≤ (wrap64 (a0 - 1)) then (if (wrap64 (a0 - 1)) < 87 then (some (bt (⟨#[85, 85, 74, 73, 66, 66, 66, 66, 66, 66, 73, 73, 73, 73, 73, 73, 73, 83, 83, 83, 83, 73, 73, 73, 73, 73, 73, 72, 72, 72, 73, 87, 87, 87, 82, 82, 82, 82, 82, 82, 82, 82, 82, 82, 82, 82, 82, 82, 82, 82, 82, 82, 82, 82, 82, 82, 82, 82, 82, 82, 82, 82, 70, 78, 78, 76, 65, 65, 65, 65, 65, 65, 65, 65, 65, 65, 76, 65, 65, 65, 65, 65, 65, 65, 65, 65, 65]⟩ : ByteArray) (wrap64 (a0 - 1)))) else (none)) else (none)))) = some r := h
 clear h
 by_cases c2 : a0 < 1
 ·rw [if_pos c2] at H
  have c2b0 : decide (a0 < 1) = true := decide_eq_true c2
  clear c2
  obtain rfl := Option.some.inj H
  go_enter Tryd.func43, Tryd.ntmps43
  go_wp2
  go_ret
  exact ⟨fj, fd⟩
 ·rw [if_neg c2] at H
  have c2b0 : decide (a0 < 1) = false := decide_eq_false c2
  clear c2
  by_cases c3 : a0 > 87
  ·rw [if_pos c3] at H
   have c3b0 : decide (87 < a0) = true := decide_eq_true c3
   clear c3
   obtain rfl := Option.some.inj H
   go_enter Tryd.func43, Tryd.ntmps43
   go_wp2
   go_ret
   exact ⟨fj, fd⟩
  ·rw [if_neg c3] at H
   have c3b0 : decide (87 < a0) = false := decide_eq_false c3
   clear c3
   obtain ⟨ji4, hji4⟩ : ∃ j_ : Int, (wrap64 (a0 - 1)) = j_ := ⟨_, rfl⟩
   replace H : (if 0 ≤ (ji4) then (if (ji4) < 87 then (some (bt (⟨#[85, 85, 74, 73, 66, 66, 66, 66, 66, 66, 73, 73, 73, 73, 73, 73, 73, 83, 83, 83, 83, 73, 73, 73, 73, 73, 73, 72, 72, 72, 73, 87, 87, 87, 82, 82, 82, 82, 82, 82, 82, 82, 82, 82, 82, 82, 82, 82, 82, 82, 82, 82, 82, 82, 82, 82, 82, 82, 82, 82, 82, 82, 70, 78, 78, 76, 65, 65, 65, 65, 65, 65, 65, 65, 65, 65, 76, 65, 65, 65, 65, 65, 65, 65, 65, 65, 65]⟩ : ByteArray) (ji4))) else (none)) else (none)) = some r := by first | (rw [hji4] at H; exact H) | (simp only [hji4] at H ⊢; exact H)
   have hji4w : (IntKind.i64.wrap (a0 - 1)) = ji4 := (i64_w _).trans hji4
   by_cases c5 : 0 ≤ (ji4)
   ·rw [if_pos c5] at H
    have c5b0 : decide (0 ≤ (ji4)) = true := decide_eq_true c5
    clear c5
    by_cases c6 : (ji4) < 87
    ·rw [if_pos c6] at H
     have c6b0 : decide ((ji4) < 87) = true := decide_eq_true c6
     clear c6
     obtain rfl := Option.some.inj H
     have p7 : 0 ≤ ((ji4) : Int) := of_decide_eq_true (by first | (with_reducible assumption) | assumption)
     have q7 : (ji4) < (87 : Int) := of_decide_eq_true (by first | (with_reducible assumption) | assumption)
     have hx7 := bt_at (⟨#[85, 85, 74, 73, 66, 66, 66, 66, 66, 66, 73, 73, 73, 73, 73, 73, 73, 83, 83, 83, 83, 73, 73, 73, 73, 73, 73, 72, 72, 72, 73, 87, 87, 87, 82, 82, 82, 82, 82, 82, 82, 82, 82, 82, 82, 82, 82, 82, 82, 82, 82, 82, 82, 82, 82, 82, 82, 82, 82, 82, 82, 82, 70, 78, 78, 76, 65, 65, 65, 65, 65, 65, 65, 65, 65, 65, 76, 65, 65, 65, 65, 65, 65, 65, 65, 65, 65]⟩ : ByteArray) (ji4)
     replace p7 := eq_true p7
     replace q7 := eq_true q7
     go_enter Tryd.func43, Tryd.ntmps43
     go_wp2
     go_ret
     exact ⟨by first | rfl | (simp; done) | (simp only [← hji4] <;> (first | rfl | simp)) | (simp [*]; done), fd⟩
    ·rw [if_neg c6] at H
     exact absurd H (by simp)
   ·rw [if_neg c5] at H
    exact absurd H (by simp)

/-! ### spinnakerref03_has: function 46 -/
def spinnakerref03_has.l0 : Nat → Int → ByteArray → Int → Option (Bool)
  | 0, _, _, _ => none
  | k + 1, x0, x1, x5 => if x5 < (x1.size : Int) then ((spinnakerref03_letter.f x0).bind fun t315 => (if 0 ≤ x5 then (if t315 = (bt x1 x5) then (some true) else (spinnakerref03_has.l0 k x0 x1 (wrap64 (x5 + 1)))) else (none))) else (some false)
def spinnakerref03_has.f (k : Nat) (a0 : Int) (a1 : ByteArray) : Option (Bool) := spinnakerref03_has.l0 k a0 a1 0
theorem spinnakerref03_has.mono_l : ∀ k, (∀ y0 y1 y2, LeO (spinnakerref03_has.l0 k y0 y1 y2) (spinnakerref03_has.l0 (k + 1) y0 y1 y2))
 | 0 => fun _ _ _ r h => by simp [spinnakerref03_has.l0] at h
 | k + 1 => by
  have ih0 := spinnakerref03_has.mono_l k
  ·intro y0 y1 y2
   unfold spinnakerref03_has.l0
   repeat' first
   | (with_reducible exact ih0 _ _ _)
   | (with_reducible exact LeO.refl _)
   | (with_reducible exact LeO.none _)
   | (with_reducible refine LeO.ite ?_ ?_)
   | (with_reducible refine LeO.bind ?_ (fun _ => ?_))
   | exact ih0 _ _ _
   | exact LeO.none _
   | refine LeO.ite ?_ ?_
   | refine LeO.bind ?_ (fun _ => ?_)
theorem spinnakerref03_has.mono : ∀ a0 a1 k, LeO (spinnakerref03_has.f k a0 a1) (spinnakerref03_has.f (k + 1) a0 a1) := by
 intro a0 a1 k
 have ih0 := spinnakerref03_has.mono_l k
 unfold spinnakerref03_has.f
 repeat' first
   | (with_reducible exact ih0 _ _ _)
   | (with_reducible exact LeO.refl _)
   | (with_reducible exact LeO.none _)
   | (with_reducible refine LeO.ite ?_ ?_)
   | (with_reducible refine LeO.bind ?_ (fun _ => ?_))
   | exact ih0 _ _ _
   | exact LeO.none _
   | refine LeO.ite ?_ ?_
   | refine LeO.bind ?_ (fun _ => ?_)
set_option maxHeartbeats 8000000 in
set_option maxRecDepth 100000 in
theorem spinnakerref03_has.calls (k : Nat) (a0 : Int) (a1 : ByteArray) (r : Bool) (w : World) (h : spinnakerref03_has.f k a0 a1 = some r) :
  Calls Tryd.prog 46 #[.int .i64 a0, .string a1] w fun e w' => e = .returned (.bool r) ∧ Drawn0 w w' := by
 have H : (spinnakerref03_has.l0 k a0 a1 0) = some r := h
 clear h
 have H' := Aside0.mk H
 clear H
 go_enter Tryd.func46, Tryd.ntmps46
 go_wp2
 repeat (go_quiet (fail); try go_wp2)
 go_loopg [5] k (fun kq v5 w' => ∃ (x5_1 : Int), v5 = .int .i64 x5_1 ∧ Aside0 (spinnakerref03_has.l0 kq a0 a1 x5_1 = some r) ∧ Aside0 (kq ≤ k) ∧ Drawn0 w w')
 case atStart => exact ⟨(0), fj, H', ⟨Nat.le_refl _⟩, fd⟩
 case round =>
  clear H'
  try clear p2
  obtain ⟨x5_1, rfl, HA, HK1, ⟨m1, rfl⟩⟩ := hrel
  cases gk with
  | zero => exact absurd HA.out (by simp [spinnakerref03_has.l0])
  | succ k1 =>
   have H := HA.out
   clear HA
   simp only [spinnakerref03_has.l0] at H
   by_cases c3 : x5_1 < (a1.size : Int)
   ·rw [if_pos c3] at H
    have c3b0 : decide (x5_1 < (a1.size : Int)) = true := decide_eq_true c3
    clear c3
    replace H := be H
    obtain ⟨t315, A4, H⟩ := H
    by_cases c5 : 0 ≤ x5_1
    ·rw [if_pos c5] at H
     have c5b0 : decide (0 ≤ x5_1) = true := decide_eq_true c5
     clear c5
     by_cases c7 : t315 = (bt a1 x5_1)
     ·rw [if_pos c7] at H
      have c7b0 : (t315 == (bt a1 x5_1)) = true := beq_iff_eq.mpr c7
      have c7b1 : (t315 != (bt a1 x5_1)) = false := bne_eq_false_iff_eq.mpr c7
      clear c7
      obtain rfl := Option.some.inj H
      go_wp2_with (first | (go_at_call 43; (with_reducible refine (spinnakerref03_letter.calls a0 t315 _ A4.out).mono ?_); rintro e w' ⟨rfl, ⟨nd, rfl⟩⟩; (try first | exact ⟨rfl, _, World.drewN_drewN _ _ _⟩ | exact ⟨rfl, _, Eq.trans (World.drewN_drewN _ _ _) (congrArg (World.drewN _) (Nat.add_assoc _ _ _))⟩); have p6 : 0 ≤ (x5_1 : Int) := of_decide_eq_true (by first | (with_reducible assumption) | assumption); have q6 : x5_1 < (a1.size : Int) := of_decide_eq_true (by first | (with_reducible assumption) | assumption); have hx6 := bt_at a1 x5_1; replace p6 := eq_true p6; replace q6 := eq_true q6))
      repeat (go_quiet (first | (go_at_call 43; (with_reducible refine (spinnakerref03_letter.calls a0 t315 _ A4.out).mono ?_); rintro e w' ⟨rfl, ⟨nd, rfl⟩⟩; (try first | exact ⟨rfl, _, World.drewN_drewN _ _ _⟩ | exact ⟨rfl, _, Eq.trans (World.drewN_drewN _ _ _) (congrArg (World.drewN _) (Nat.add_assoc _ _ _))⟩); have p6 : 0 ≤ (x5_1 : Int) := of_decide_eq_true (by first | (with_reducible assumption) | assumption); have q6 : x5_1 < (a1.size : Int) := of_decide_eq_true (by first | (with_reducible assumption) | assumption); have hx6 := bt_at a1 x5_1; replace p6 := eq_true p6; replace q6 := eq_true q6)); try go_wp2_with (first | (go_at_call 43; (with_reducible refine (spinnakerref03_letter.calls a0 t315 _ A4.out).mono ?_); rintro e w' ⟨rfl, ⟨nd, rfl⟩⟩; (try first | exact ⟨rfl, _, World.drewN_drewN _ _ _⟩ | exact ⟨rfl, _, Eq.trans (World.drewN_drewN _ _ _) (congrArg (World.drewN _) (Nat.add_assoc _ _ _))⟩); have p6 : 0 ≤ (x5_1 : Int) := of_decide_eq_true (by first | (with_reducible assumption) | assumption); have q6 : x5_1 < (a1.size : Int) := of_decide_eq_true (by first | (with_reducible assumption) | assumption); have hx6 := bt_at a1 x5_1; replace p6 := eq_true p6; replace q6 := eq_true q6)))
      go_ret
      exact ⟨fj, fd⟩
     ·rw [if_neg c7] at H
      have c7b0 : (t315 == (bt a1 x5_1)) = false := beq_eq_false_iff_ne.mpr c7
      have c7b1 : (t315 != (bt a1 x5_1)) = true := bne_iff_ne.mpr c7
      have H' := Aside0.mk H
      clear H
      go_wp2_with (first | (go_at_call 43; (with_reducible refine (spinnakerref03_letter.calls a0 t315 _ A4.out).mono ?_); rintro e w' ⟨rfl, ⟨nd, rfl⟩⟩; (try first | exact ⟨rfl, _, World.drewN_drewN _ _ _⟩ | exact ⟨rfl, _, Eq.trans (World.drewN_drewN _ _ _) (congrArg (World.drewN _) (Nat.add_assoc _ _ _))⟩); have p6 : 0 ≤ (x5_1 : Int) := of_decide_eq_true (by first | (with_reducible assumption) | assumption); have q6 : x5_1 < (a1.size : Int) := of_decide_eq_true (by first | (with_reducible assumption) | assumption); have hx6 := bt_at a1 x5_1; replace p6 := eq_true p6; replace q6 := eq_true q6))
      repeat (go_quiet (first | (go_at_call 43; (with_reducible refine (spinnakerref03_letter.calls a0 t315 _ A4.out).mono ?_); rintro e w' ⟨rfl, ⟨nd, rfl⟩⟩; (try first | exact ⟨rfl, _, World.drewN_drewN _ _ _⟩ | exact ⟨rfl, _, Eq.trans (World.drewN_drewN _ _ _) (congrArg (World.drewN _) (Nat.add_assoc _ _ _))⟩); have p6 : 0 ≤ (x5_1 : Int) := of_decide_eq_true (by first | (with_reducible assumption) | assumption); have q6 : x5_1 < (a1.size : Int) := of_decide_eq_true (by first | (with_reducible assumption) | assumption); have hx6 := bt_at a1 x5_1; replace p6 := eq_true p6; replace q6 := eq_true q6)); try go_wp2_with (first | (go_at_call 43; (with_reducible refine (spinnakerref03_letter.calls a0 t315 _ A4.out).mono ?_); rintro e w' ⟨rfl, ⟨nd, rfl⟩⟩; (try first | exact ⟨rfl, _, World.drewN_drewN _ _ _⟩ | exact ⟨rfl, _, Eq.trans (World.drewN_drewN _ _ _) (congrArg (World.drewN _) (Nat.add_assoc _ _ _))⟩); have p6 : 0 ≤ (x5_1 : Int) := of_decide_eq_true (by first | (with_reducible assumption) | assumption); have q6 : x5_1 < (a1.size : Int) := of_decide_eq_true (by first | (with_reducible assumption) | assumption); have hx6 := bt_at a1 x5_1; replace p6 := eq_true p6; replace q6 := eq_true q6)))
      go_roundg k1
      case measure => have := HK1.out; omega
      case rel => exact ⟨(wrap64 (x5_1 + 1)), fj, H', ⟨by have := HK1.out; omega⟩, fd⟩
    ·rw [if_neg c5] at H
     exact absurd H (by simp)
   ·rw [if_neg c3] at H
    have c3b0 : decide (x5_1 < (a1.size : Int)) = false := decide_eq_false c3
    clear c3
    obtain rfl := Option.some.inj H
    go_wp2
    repeat (go_quiet (fail); try go_wp2)
    go_ret
    exact ⟨fj, fd⟩

/-! ### spinnakerref03_HasRd: function 31 -/
def spinnakerref03_HasRd.f (k : Nat) (a0 : Int) : Option (Bool) := (spinnakerref03_has.f k a0 (⟨#[85, 74, 73, 82, 72, 87, 76, 65]⟩ : ByteArray)).bind fun t316 => (some t316)
theorem spinnakerref03_HasRd.mono : ∀ a0 k, LeO (spinnakerref03_HasRd.f k a0) (spinnakerref03_HasRd.f (k + 1) a0) := by
 intro a0 k
 unfold spinnakerref03_HasRd.f
 repeat' first
   | (with_reducible exact spinnakerref03_has.mono _ _ _)
   | (with_reducible exact LeO.refl _)
   | (with_reducible exact LeO.none _)
   | (with_reducible refine LeO.ite ?_ ?_)
   | (with_reducible refine LeO.bind ?_ (fun _ => ?_))
   | exact spinnakerref03_has.mono _ _ _
   | exact LeO.none _
   | refine LeO.ite ?_ ?_
   | refine LeO.bind ?_ (fun _ => ?_)
set_option maxHeartbeats 8000000 in
set_option maxRecDepth 100000 in
theorem spinnakerref03_HasRd.calls (k : Nat) (a0 : Int) (r : Bool) (w : World) (h : spinnakerref03_HasRd.f k a0 = some r) :
  Calls Tryd.prog 31 #[.int .i64 a0] w fun e w' => e = .returned (.bool r) ∧ Drawn0 w w' := by
 have H : ((spinnakerref03_has.f k a0 (⟨#[85, 74, 73, 82, 72, 87, 76, 65]⟩ : ByteArray)).bind fun t316 => (some t316)) = some r := h
 clear h
 replace H := be H
 obtain ⟨t316, A2, H⟩ := H
 obtain rfl := Option.some.inj H
 go_enter Tryd.func31, Tryd.ntmps31
 go_wp2_with (first | ((with_reducible refine gate_callee (f := 46) rfl ?_); refine goesL_ (some 4) rfl rfl Tryd.func46 (by kernel_rfl) rfl #[.int .i64 a0, .string (⟨#[85, 74, 73, 82, 72, 87, 76, 65]⟩ : ByteArray)] rfl ga ?_; (with_reducible refine (spinnakerref03_has.calls k a0 (⟨#[85, 74, 73, 82, 72, 87, 76, 65]⟩ : ByteArray) t316 _ A2.out).mono ?_); rintro e w' ⟨rfl, ⟨nd, rfl⟩⟩; refine ⟨_, rfl, ?_⟩))
 go_ret
 exact ⟨fj, fd⟩

/-! ### spinnakerref03_HasA: function 33 -/
def spinnakerref03_HasA.f (k : Nat) (a0 : Int) : Option (Bool) := (spinnakerref03_has.f k a0 (⟨#[73, 66, 83, 82, 72, 87, 76, 65]⟩ : ByteArray)).bind fun t317 => (some t317)
theorem spinnakerref03_HasA.mono : ∀ a0 k, LeO (spinnakerref03_HasA.f k a0) (spinnakerref03_HasA.f (k + 1) a0) := by
 intro a0 k
 unfold spinnakerref03_HasA.f
 repeat' first
   | (with_reducible exact spinnakerref03_has.mono _ _ _)
   | (with_reducible exact LeO.refl _)
   | (with_reducible exact LeO.none _)
   | (with_reducible refine LeO.ite ?_ ?_)
   | (with_reducible refine LeO.bind ?_ (fun _ => ?_))
   | exact spinnakerref03_has.mono _ _ _
   | exact LeO.none _
   | refine LeO.ite ?_ ?_
   | refine LeO.bind ?_ (fun _ => ?_)
set_option maxHeartbeats 8000000 in
set_option maxRecDepth 100000 in
theorem spinnakerref03_HasA.calls (k : Nat) (a0 : Int) (r : Bool) (w : World) (h : spinnakerref03_HasA.f k a0 = some r) :
  Calls Tryd.prog 33 #[.int .i64 a0] w fun e w' => e = .returned (.bool r) ∧ Drawn0 w w' := by
 have H : ((spinnakerref03_has.f k a0 (⟨#[73, 66, 83, 82, 72, 87, 76, 65]⟩ : ByteArray)).bind fun t317 => (some t317)) = some r := h
 clear h
 replace H := be H
 obtain ⟨t317, A2, H⟩ := H
 obtain rfl := Option.some.inj H
 go_enter Tryd.func33, Tryd.ntmps33
 go_wp2_with (first | ((with_reducible refine gate_callee (f := 46) rfl ?_); refine goesL_ (some 4) rfl rfl Tryd.func46 (by kernel_rfl) rfl #[.int .i64 a0, .string (⟨#[73, 66, 83, 82, 72, 87, 76, 65]⟩ : ByteArray)] rfl ga ?_; (with_reducible refine (spinnakerref03_has.calls k a0 (⟨#[73, 66, 83, 82, 72, 87, 76, 65]⟩ : ByteArray) t317 _ A2.out).mono ?_); rintro e w' ⟨rfl, ⟨nd, rfl⟩⟩; refine ⟨_, rfl, ?_⟩))
 go_ret
 exact ⟨fj, fd⟩

/-! ### spinnakerref03_HasB: function 34 -/
def spinnakerref03_HasB.f (k : Nat) (a0 : Int) : Option (Bool) := (spinnakerref03_has.f k a0 (⟨#[66, 83, 82, 65]⟩ : ByteArray)).bind fun t318 => (some t318)
theorem spinnakerref03_HasB.mono : ∀ a0 k, LeO (spinnakerref03_HasB.f k a0) (spinnakerref03_HasB.f (k + 1) a0) := by
 intro a0 k
 unfold spinnakerref03_HasB.f
 repeat' first
   | (with_reducible exact spinnakerref03_has.mono _ _ _)
   | (with_reducible exact LeO.refl _)
   | (with_reducible exact LeO.none _)
   | (with_reducible refine LeO.ite ?_ ?_)
   | (with_reducible refine LeO.bind ?_ (fun _ => ?_))
   | exact spinnakerref03_has.mono _ _ _
   | exact LeO.none _
   | refine LeO.ite ?_ ?_
   | refine LeO.bind ?_ (fun _ => ?_)
set_option maxHeartbeats 8000000 in
set_option maxRecDepth 100000 in
theorem spinnakerref03_HasB.calls (k : Nat) (a0 : Int) (r : Bool) (w : World) (h : spinnakerref03_HasB.f k a0 = some r) :
  Calls Tryd.prog 34 #[.int .i64 a0] w fun e w' => e = .returned (.bool r) ∧ Drawn0 w w' := by
 have H : ((spinnakerref03_has.f k a0 (⟨#[66, 83, 82, 65]⟩ : ByteArray)).bind fun t318 => (some t318)) = some r := h
 clear h
 replace H := be H
 obtain ⟨t318, A2, H⟩ := H
 obtain rfl := Option.some.inj H
 go_enter Tryd.func34, Tryd.ntmps34
 go_wp2_with (first | ((with_reducible refine gate_callee (f := 46) rfl ?_); refine goesL_ (some 4) rfl rfl Tryd.func46 (by kernel_rfl) rfl #[.int .i64 a0, .string (⟨#[66, 83, 82, 65]⟩ : ByteArray)] rfl ga ?_; (with_reducible refine (spinnakerref03_has.calls k a0 (⟨#[66, 83, 82, 65]⟩ : ByteArray) t318 _ A2.out).mono ?_); rintro e w' ⟨rfl, ⟨nd, rfl⟩⟩; refine ⟨_, rfl, ?_⟩))
 go_ret
 exact ⟨fj, fd⟩

/-! ### spinnakerref03_register: function 44 -/
def spinnakerref03_register.f (a0 : Int) (a1 : Bool) : Option (Bool) := if a1 = true then (if a0 ≥ 0 then (some (decide (a0 ≤ 31))) else (some false)) else (some (a0 == 0))
set_option maxHeartbeats 8000000 in
set_option maxRecDepth 100000 in
theorem spinnakerref03_register.calls (a0 : Int) (a1 : Bool) (r : Bool) (w : World) (h : spinnakerref03_register.f a0 a1 = some r) :
  Calls Tryd.prog 44 #[.int .i64 a0, .bool a1] w fun e w' => e = .returned (.bool r) ∧ Drawn0 w w' := by
 have H : (if a1 = true then (if a0 ≥ 0 then (some (decide (a0 ≤ 31))) else (some false)) else (some (a0 == 0))) = some r := h
 clear h
 by_cases c3 : a1 = true
 ·subst c3
  have H1 : (if a0 ≥ 0 then (some (decide (a0 ≤ 31))) else (some false)) = some r := by rw [if_pos rfl] at H; exact H
  clear H
  have H := H1
  clear H1
  by_cases c4 : a0 ≥ 0
  ·rw [if_pos c4] at H
   have c4b0 : decide (0 ≤ a0) = true := decide_eq_true c4
   clear c4
   obtain rfl := Option.some.inj H
   go_enter Tryd.func44, Tryd.ntmps44
   go_wp2
   go_ret
   exact ⟨fj, fd⟩
  ·rw [if_neg c4] at H
   have c4b0 : decide (0 ≤ a0) = false := decide_eq_false c4
   clear c4
   obtain rfl := Option.some.inj H
   go_enter Tryd.func44, Tryd.ntmps44
   go_wp2
   go_ret
   exact ⟨fj, fd⟩
 ·replace c3 := Bool.eq_false_iff.mpr c3
  subst c3
  have H1 : (some (a0 == 0)) = some r := by rw [if_neg (show ¬ (false = true) by decide)] at H; exact H
  clear H
  have H := H1
  clear H1
  obtain rfl := Option.some.inj H
  go_enter Tryd.func44, Tryd.ntmps44
  go_wp2
  go_ret
  exact ⟨fj, fd⟩

/-! ### spinnakerref01_Power: function 62 -/
def spinnakerref01_Power.l0 : Nat → Int → Int → Int → Option (Int)
  | 0, _, _, _ => none
  | k + 1, x0, x3, x4 => if x4 < x0 then (spinnakerref01_Power.l0 k x0 (IntKind.u64.wrap (2 * x3)) (wrap64 (x4 + 1))) else (some x3)
def spinnakerref01_Power.f (k : Nat) (a0 : Int) : Option (Int) := spinnakerref01_Power.l0 k a0 1 0
theorem spinnakerref01_Power.mono_l : ∀ k, (∀ y0 y1 y2, LeO (spinnakerref01_Power.l0 k y0 y1 y2) (spinnakerref01_Power.l0 (k + 1) y0 y1 y2))
 | 0 => fun _ _ _ r h => by simp [spinnakerref01_Power.l0] at h
 | k + 1 => by
  have ih0 := spinnakerref01_Power.mono_l k
  ·intro y0 y1 y2
   unfold spinnakerref01_Power.l0
   repeat' first
   | (with_reducible exact ih0 _ _ _)
   | (with_reducible exact LeO.refl _)
   | (with_reducible exact LeO.none _)
   | (with_reducible refine LeO.ite ?_ ?_)
   | (with_reducible refine LeO.bind ?_ (fun _ => ?_))
   | exact ih0 _ _ _
   | exact LeO.none _
   | refine LeO.ite ?_ ?_
   | refine LeO.bind ?_ (fun _ => ?_)
theorem spinnakerref01_Power.mono : ∀ a0 k, LeO (spinnakerref01_Power.f k a0) (spinnakerref01_Power.f (k + 1) a0) := by
 intro a0 k
 have ih0 := spinnakerref01_Power.mono_l k
 unfold spinnakerref01_Power.f
 repeat' first
   | (with_reducible exact ih0 _ _ _)
   | (with_reducible exact LeO.refl _)
   | (with_reducible exact LeO.none _)
   | (with_reducible refine LeO.ite ?_ ?_)
   | (with_reducible refine LeO.bind ?_ (fun _ => ?_))
   | exact ih0 _ _ _
   | exact LeO.none _
   | refine LeO.ite ?_ ?_
   | refine LeO.bind ?_ (fun _ => ?_)
set_option maxHeartbeats 8000000 in
set_option maxRecDepth 100000 in
theorem spinnakerref01_Power.calls (k : Nat) (a0 : Int) (r : Int) (w : World) (h : spinnakerref01_Power.f k a0 = some r) :
  Calls Tryd.prog 62 #[.int .i64 a0] w fun e w' => e = .returned (.int .u64 r) ∧ Drawn0 w w' := by
 have H : (spinnakerref01_Power.l0 k a0 1 0) = some r := h
 clear h
 have H' := Aside0.mk H
 clear H
 go_enter Tryd.func62, Tryd.ntmps62
 go_wp2
 go_loopg [3, 4] k (fun kq v3 v4 w' => ∃ (x3_1 : Int) (x4_1 : Int), v3 = .int .u64 x3_1 ∧ v4 = .int .i64 x4_1 ∧ Aside0 (spinnakerref01_Power.l0 kq a0 x3_1 x4_1 = some r) ∧ Aside0 (kq ≤ k) ∧ Drawn0 w w')
 case atStart => exact ⟨(1), (0), fj, fj, H', ⟨Nat.le_refl _⟩, fd⟩
 case round =>
  clear H'
  obtain ⟨x3_1, x4_1, rfl, rfl, HA, HK1, ⟨m1, rfl⟩⟩ := hrel
  cases gk with
  | zero => exact absurd HA.out (by simp [spinnakerref01_Power.l0])
  | succ k1 =>
   have H := HA.out
   clear HA
   simp only [spinnakerref01_Power.l0] at H
   by_cases c2 : x4_1 < a0
   ·rw [if_pos c2] at H
    have c2b0 : decide (x4_1 < a0) = true := decide_eq_true c2
    clear c2
    have H' := Aside0.mk H
    clear H
    go_wp2
    go_roundg k1
    case measure => have := HK1.out; omega
    case rel => exact ⟨(IntKind.u64.wrap (2 * x3_1)), (wrap64 (x4_1 + 1)), fj, fj, H', ⟨by have := HK1.out; omega⟩, fd⟩
   ·rw [if_neg c2] at H
    have c2b0 : decide (x4_1 < a0) = false := decide_eq_false c2
    clear c2
    obtain rfl := Option.some.inj H
    go_wp2
    go_ret
    exact ⟨fj, fd⟩

/-! ### spinnakerref01_Fits: function 79 -/
def spinnakerref01_Fits.j0 : Nat → Int → Int → Bool → Option (Bool)
  | 0, _, _, _ => none
  | k + 1, x0, x1, x11 => if x11 = true then (some false) else (if x1 = 64 then (some true) else ((spinnakerref01_Power.f k (wrap64 (x1 - 1))).bind fun t319 => (if x0 ≥ (wrap64 (-(wrap64 (t319)))) then (some (decide (x0 ≤ (wrap64 ((wrap64 (t319)) - 1))))) else (some false))))
def spinnakerref01_Fits.f (k : Nat) (a0 : Int) (a1 : Int) : Option (Bool) := if a1 < 1 then (spinnakerref01_Fits.j0 k a0 a1 true) else (spinnakerref01_Fits.j0 k a0 a1 (decide (a1 > 64)))
theorem spinnakerref01_Fits.mono_l : ∀ k, (∀ y0 y1 y2, LeO (spinnakerref01_Fits.j0 k y0 y1 y2) (spinnakerref01_Fits.j0 (k + 1) y0 y1 y2))
 | 0 => fun _ _ _ r h => by simp [spinnakerref01_Fits.j0] at h
 | k + 1 => by
  have ih0 := spinnakerref01_Fits.mono_l k
  ·intro y0 y1 y2
   unfold spinnakerref01_Fits.j0
   repeat' first
   | (with_reducible exact ih0 _ _ _)
   | (with_reducible exact spinnakerref01_Power.mono _ _)
   | (with_reducible exact LeO.refl _)
   | (with_reducible exact LeO.none _)
   | (with_reducible refine LeO.ite ?_ ?_)
   | (with_reducible refine LeO.bind ?_ (fun _ => ?_))
   | exact ih0 _ _ _
   | exact spinnakerref01_Power.mono _ _
   | exact LeO.none _
   | refine LeO.ite ?_ ?_
   | refine LeO.bind ?_ (fun _ => ?_)
theorem spinnakerref01_Fits.mono : ∀ a0 a1 k, LeO (spinnakerref01_Fits.f k a0 a1) (spinnakerref01_Fits.f (k + 1) a0 a1) := by
 intro a0 a1 k
 have ih0 := spinnakerref01_Fits.mono_l k
 unfold spinnakerref01_Fits.f
 repeat' first
   | (with_reducible exact ih0 _ _ _)
   | (with_reducible exact spinnakerref01_Power.mono _ _)
   | (with_reducible exact LeO.refl _)
   | (with_reducible exact LeO.none _)
   | (with_reducible refine LeO.ite ?_ ?_)
   | (with_reducible refine LeO.bind ?_ (fun _ => ?_))
   | exact ih0 _ _ _
   | exact spinnakerref01_Power.mono _ _
   | exact LeO.none _
   | refine LeO.ite ?_ ?_
   | refine LeO.bind ?_ (fun _ => ?_)
set_option maxHeartbeats 8000000 in
set_option maxRecDepth 100000 in
theorem spinnakerref01_Fits.calls (k : Nat) (a0 : Int) (a1 : Int) (r : Bool) (w : World) (h : spinnakerref01_Fits.f k a0 a1 = some r) :
  Calls Tryd.prog 79 #[.int .i64 a0, .int .i64 a1] w fun e w' => e = .returned (.bool r) ∧ Drawn0 w w' := by
 have H : (if a1 < 1 then (spinnakerref01_Fits.j0 k a0 a1 true) else (spinnakerref01_Fits.j0 k a0 a1 (decide (a1 > 64)))) = some r := h
 clear h
 have HC3 := Aside0.mk H
 clear H
 go_enter Tryd.func79, Tryd.ntmps79
 go_upto_region 1 with (fail)
 go_cut [11] (fun v11 wc => ∃ (kq : Nat) (x11_2 : Bool), v11 = .bool x11_2 ∧ Aside0 (spinnakerref01_Fits.j0 kq a0 a1 x11_2 = some r) ∧ Aside0 (kq ≤ k) ∧ Drawn0 w wc)
 case first =>
  have H := HC3.out
  clear HC3
  by_cases c4 : a1 < 1
  ·rw [if_pos c4] at H
   have c4b0 : decide (a1 < 1) = true := decide_eq_true c4
   clear c4
   (first | rw [c4b0] | (simp only [i64_w, i32_w]; rw [c4b0]) | skip)
   have H' := Aside0.mk H
   clear H
   go_wp2
   go_meet
   case rel => exact ⟨_, (true), fj, H', ⟨by first | omega | exact Nat.le_refl _⟩, fd⟩
  ·rw [if_neg c4] at H
   have c4b0 : decide (a1 < 1) = false := decide_eq_false c4
   clear c4
   (first | rw [c4b0] | (simp only [i64_w, i32_w]; rw [c4b0]) | skip)
   have H' := Aside0.mk H
   clear H
   go_wp2
   go_meet
   case rel => exact ⟨_, (decide (a1 > 64)), fj, H', ⟨by first | omega | exact Nat.le_refl _⟩, fd⟩
 case rest =>
  clear HC3
  try clear p2
  try clear c4
  try clear c4b0
  obtain ⟨kq, x11_2, rfl, HA, HJ2, ⟨mc2, rfl⟩⟩ := hcut
  cases kq with
  | zero => exact absurd HA.out (by simp [spinnakerref01_Fits.j0])
  | succ kj2 =>
   have H := HA.out
   clear HA
   simp only [spinnakerref01_Fits.j0] at H
   by_cases c5 : x11_2 = true
   ·subst c5
    have H1 : (some false) = some r := by rw [if_pos rfl] at H; exact H
    clear H
    have H := H1
    clear H1
    obtain rfl := Option.some.inj H
    go_wp2
    go_ret
    exact ⟨fj, fd⟩
   ·replace c5 := Bool.eq_false_iff.mpr c5
    subst c5
    have H1 : (if a1 = 64 then (some true) else ((spinnakerref01_Power.f kj2 (wrap64 (a1 - 1))).bind fun t319 => (if a0 ≥ (wrap64 (-(wrap64 (t319)))) then (some (decide (a0 ≤ (wrap64 ((wrap64 (t319)) - 1))))) else (some false)))) = some r := by rw [if_neg (show ¬ (false = true) by decide)] at H; exact H
    clear H
    have H := H1
    clear H1
    by_cases c6 : a1 = 64
    ·rw [if_pos c6] at H
     have c6b0 : (a1 == 64) = true := beq_iff_eq.mpr c6
     have c6b1 : (a1 != 64) = false := bne_eq_false_iff_eq.mpr c6
     clear c6
     obtain rfl := Option.some.inj H
     go_wp2
     go_ret
     exact ⟨fj, fd⟩
    ·rw [if_neg c6] at H
     have c6b0 : (a1 == 64) = false := beq_eq_false_iff_ne.mpr c6
     have c6b1 : (a1 != 64) = true := bne_iff_ne.mpr c6
     replace H := be H
     obtain ⟨t319, A7, H⟩ := H
     by_cases c8 : a0 ≥ (wrap64 (-(wrap64 (t319))))
     ·rw [if_pos c8] at H
      have c8b0 : decide ((wrap64 (-(wrap64 (t319)))) ≤ a0) = true := decide_eq_true c8
      clear c8
      obtain rfl := Option.some.inj H
      go_wp2_with (first | ((with_reducible refine gate_callee (f := 62) rfl ?_); refine goesL_ (some 16) rfl rfl Tryd.func62 (by kernel_rfl) rfl #[.int .i64 (wrap64 (a1 - 1))] rfl ga ?_; (with_reducible refine (spinnakerref01_Power.calls kj2 (wrap64 (a1 - 1)) t319 _ A7.out).mono ?_); rintro e w' ⟨rfl, ⟨nd, rfl⟩⟩; refine ⟨_, rfl, ?_⟩))
      go_ret
      exact ⟨fj, fd⟩
     ·rw [if_neg c8] at H
      have c8b0 : decide ((wrap64 (-(wrap64 (t319)))) ≤ a0) = false := decide_eq_false c8
      clear c8
      obtain rfl := Option.some.inj H
      go_wp2_with (first | ((with_reducible refine gate_callee (f := 62) rfl ?_); refine goesL_ (some 16) rfl rfl Tryd.func62 (by kernel_rfl) rfl #[.int .i64 (wrap64 (a1 - 1))] rfl ga ?_; (with_reducible refine (spinnakerref01_Power.calls kj2 (wrap64 (a1 - 1)) t319 _ A7.out).mono ?_); rintro e w' ⟨rfl, ⟨nd, rfl⟩⟩; refine ⟨_, rfl, ?_⟩))
      go_ret
      exact ⟨fj, fd⟩

end Go.Proofs.YtffehgfjjagibaaDoor.GDecWords
