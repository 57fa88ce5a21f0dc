-- Written by wip/stub.py of this repo.
import Derived.Test.YtffehgfjjagibaaDoorGImagePlacesx0
import Derived.Test.YtffehgfjjagibaaDoorGImagePlacesx4
import Derived.Test.YtffehgfjjagibaaDoorGImagePlacesx5
import Derived.Test.YtffehgfjjagibaaDoorGImagePlacesx6
import Derived.Test.YtffehgfjjagibaaDoorGImagePlacesx7
namespace Go.Proofs.YtffehgfjjagibaaDoor.GImagePlaces
open Go.RowKit Go.Proofs.YtffehgfjjagibaaDoorW.PrintWords Go.Proofs.YtffehgfjjagibaaDoorW.PrintLast Go.Proofs.YtffehgfjjagibaaDoorW.PrintMore
attribute [local go_sem] max2_int min2_int max_two min_two max_three min_three max_four min_four   -- for this text's walks alone
set_option linter.unusedVariables false
set_option linter.unusedSimpArgs false

/-! ### enc_Encode: function 13 -/
def enc_Encode.j0 : Nat → Int → Bool → Int → Int → Int → Int → Int → Bool → Bool → Int → Int → Int → Option (Int × Int)
  | 0, _, _, _, _, _, _, _, _, _, _, _, _ => none
  | k + 1, x5, x32, x257000, x257001, x257002, x257003, x257004, x257005, x257006, x262000, x262001, x262002 => if x32 = true then ((enc_registers.f k x257000 x257001 x257002 x257003 x257004 x257005 x257006).bind fun t267 => ((enc_immediate.f k x257000 x257001 x257002 x257003 x257004 x257005 x257006).bind fun t270 => (if t267.length + t270.length < 5864062014805 then ((enc_pack.f k (t267 ++ t270)).bind fun t276 => (some (Go.bits .or .u32 x262000 t276, 0))) else (none)))) else ((enc_registers.f k x257000 x257001 x257002 x257003 x257004 x257005 x257006).bind fun t277 => ((enc_immediate.f k x257000 x257001 x257002 x257003 x257004 x257005 x257006).bind fun t280 => (if t277.length + t280.length < 5864062014805 then ((enc_pack.f k (t277 ++ t280)).bind fun t286 => (some (Go.bits .or .u32 x5 t286, 0))) else (none))))
def enc_Encode.f (k : Nat) (a0_0 : Int) (a0_1 : Int) (a0_2 : Int) (a0_3 : Int) (a0_4 : Int) (a0_5 : Bool) (a0_6 : Bool) : Option (Int × Int) := (isa_May.f k a0_0 a0_1 a0_2 a0_3 a0_4 a0_5 a0_6).bind fun t257 => (if t257 = true then ((enc_of.f a0_0).bind fun bt258 => ((enc_pack.f k (([(⟨bt258.1, 0, 7⟩ : S65), (⟨bt258.2.1, 12, 3⟩ : S65), (⟨bt258.2.2, 25, 7⟩ : S65)] : List (S65)))).bind fun t265 => ((isa_Form.f k a0_0).bind fun t266 => (if t266 = 1 then (enc_Encode.j0 k t265 true a0_0 a0_1 a0_2 a0_3 a0_4 a0_5 a0_6 bt258.1 bt258.2.1 bt258.2.2) else (enc_Encode.j0 k t265 (t266 == 2) a0_0 a0_1 a0_2 a0_3 a0_4 a0_5 a0_6 bt258.1 bt258.2.1 bt258.2.2))))) else (some (0, 1)))
theorem enc_Encode.mono_l : ∀ k, (∀ y0 y1 y2 y3 y4 y5 y6 y7 y8 y9 y10 y11, LeO (enc_Encode.j0 k y0 y1 y2 y3 y4 y5 y6 y7 y8 y9 y10 y11) (enc_Encode.j0 (k + 1) y0 y1 y2 y3 y4 y5 y6 y7 y8 y9 y10 y11))
 | 0 => fun _ _ _ _ _ _ _ _ _ _ _ _ r h => by simp [enc_Encode.j0] at h
 | k + 1 => by
  have ih0 := enc_Encode.mono_l k
  ·intro y0 y1 y2 y3 y4 y5 y6 y7 y8 y9 y10 y11
   unfold enc_Encode.j0
   repeat' first | (with_reducible first | exact ih0 _ _ _ _ _ _ _ _ _ _ _ _ | exact enc_immediate.mono _ _ _ _ _ _ _ _ | exact enc_pack.mono _ _ | exact enc_registers.mono _ _ _ _ _ _ _ _ | exact isa_Form.mono _ _ | exact isa_May.mono _ _ _ _ _ _ _ _ | exact LeO.refl _ | exact LeO.none _ | refine LeO.ite ?_ ?_ | refine LeO.bind ?_ (fun _ => ?_)) | exact ih0 _ _ _ _ _ _ _ _ _ _ _ _ | exact enc_immediate.mono _ _ _ _ _ _ _ _ | exact enc_pack.mono _ _ | exact enc_registers.mono _ _ _ _ _ _ _ _ | exact isa_Form.mono _ _ | exact isa_May.mono _ _ _ _ _ _ _ _ | exact LeO.none _ | refine LeO.ite ?_ ?_ | refine LeO.bind ?_ (fun _ => ?_)
theorem enc_Encode.mono : ∀ a0 a1 a2 a3 a4 a5 a6 k, LeO (enc_Encode.f k a0 a1 a2 a3 a4 a5 a6) (enc_Encode.f (k + 1) a0 a1 a2 a3 a4 a5 a6) := by
 intro a0 a1 a2 a3 a4 a5 a6 k
 have ih0 := enc_Encode.mono_l k
 unfold enc_Encode.f
 repeat' first | (with_reducible first | exact ih0 _ _ _ _ _ _ _ _ _ _ _ _ | exact enc_immediate.mono _ _ _ _ _ _ _ _ | exact enc_pack.mono _ _ | exact enc_registers.mono _ _ _ _ _ _ _ _ | exact isa_Form.mono _ _ | exact isa_May.mono _ _ _ _ _ _ _ _ | exact LeO.refl _ | exact LeO.none _ | refine LeO.ite ?_ ?_ | refine LeO.bind ?_ (fun _ => ?_)) | exact ih0 _ _ _ _ _ _ _ _ _ _ _ _ | exact enc_immediate.mono _ _ _ _ _ _ _ _ | exact enc_pack.mono _ _ | exact enc_registers.mono _ _ _ _ _ _ _ _ | exact isa_Form.mono _ _ | exact isa_May.mono _ _ _ _ _ _ _ _ | exact LeO.none _ | refine LeO.ite ?_ ?_ | refine LeO.bind ?_ (fun _ => ?_)
def enc_Encode.T8 : Bool × List (List Nat × List Nat) := (true, [([], []), ([], []), ([1], [1]), ([], []), ([3, 2], [3]), ([2, 4, 4], [2, 4]), ([5, 5], [5]), ([0, 6], [0, 6]), ([7, 6, 0, 1, 2, 3, 4, 5, 6, 7], [7]), ([8, 0, 1, 2, 3, 4, 5, 6, 7, 8], [])])
def enc_Encode.B8 : List Nat := [0, 0, 2, 0, 14, 30, 62, 127, 255, 511]
theorem enc_Encode.tab8 : rtab .any (opsOf Tryd.f13 8) = enc_Encode.T8 := by kernel_rfl
theorem enc_Encode.bits8 : waitsOk enc_Encode.T8.2 enc_Encode.B8 = true := by kernel_rfl
set_option maxHeartbeats 8000000 in
set_option maxRecDepth 100000 in
theorem enc_Encode.calls (k : Nat) (a0_0 : Int) (a0_1 : Int) (a0_2 : Int) (a0_3 : Int) (a0_4 : Int) (a0_5 : Bool) (a0_6 : Bool) (r1 : Int) (r2 : Int) (w : World) (hL : Laid w) (h : enc_Encode.f k a0_0 a0_1 a0_2 a0_3 a0_4 a0_5 a0_6 = some (r1, r2)) :
  Calls Tryd.prog 13 #[.agg #[.int .i64 a0_0, .int .i64 a0_1, .int .i64 a0_2, .int .i64 a0_3, .int .i64 a0_4, .bool a0_5, .bool a0_6]] w fun e w' => e = .returned (.tuple #[.int .u32 r1, .int .i64 r2]) ∧ Below w.heap.size w w' := by
 have HL := Aside0.mk hL
 clear hL
 have hu24 := Tryd.underlying24
 have hu61 := Tryd.underlying61
 have hu65 := Tryd.underlying65
 have HB := Aside0.mk (Below.refl w.heap.size w)
 have H : ((isa_May.f k a0_0 a0_1 a0_2 a0_3 a0_4 a0_5 a0_6).bind fun t257 => (if t257 = true then ((enc_of.f a0_0).bind fun bt258 => ((enc_pack.f k (([(⟨bt258.1, 0, 7⟩ : S65), (⟨bt258.2.1, 12, 3⟩ : S65), (⟨bt258.2.2, 25, 7⟩ : S65)] : List (S65)))).bind fun t265 => ((isa_Form.f k a0_0).bind fun t266 => (if t266 = 1 then (enc_Encode.j0 k t265 true a0_0 a0_1 a0_2 a0_3 a0_4 a0_5 a0_6 bt258.1 bt258.2.1 bt258.2.2) else (enc_Encode.j0 k t265 (t266 == 2) a0_0 a0_1 a0_2 a0_3 a0_4 a0_5 a0_6 bt258.1 bt258.2.1 bt258.2.2))))) else (some (0, 1)))) = some (r1, r2) := h
 clear h
 replace H := be H
 obtain ⟨t257, A2, H⟩ := H
 by_cases c3 : t257 = true
 ·subst c3
  have H1 : ((enc_of.f a0_0).bind fun bt258 => ((enc_pack.f k (([(⟨bt258.1, 0, 7⟩ : S65), (⟨bt258.2.1, 12, 3⟩ : S65), (⟨bt258.2.2, 25, 7⟩ : S65)] : List (S65)))).bind fun t265 => ((isa_Form.f k a0_0).bind fun t266 => (if t266 = 1 then (enc_Encode.j0 k t265 true a0_0 a0_1 a0_2 a0_3 a0_4 a0_5 a0_6 bt258.1 bt258.2.1 bt258.2.2) else (enc_Encode.j0 k t265 (t266 == 2) a0_0 a0_1 a0_2 a0_3 a0_4 a0_5 a0_6 bt258.1 bt258.2.1 bt258.2.2))))) = some (r1, r2) := by rw [if_pos rfl] at H; exact H
  clear H
  have H := H1
  clear H1
  replace H := be H
  obtain ⟨⟨t258, t259, t260⟩, A4, H⟩ := H
  dsimp only at H
  obtain ⟨y262, hy262⟩ : ∃ y_ : List (S65), y_ = (([(⟨t258, 0, 7⟩ : S65), (⟨t259, 12, 3⟩ : S65), (⟨t260, 25, 7⟩ : S65)] : List (S65))) := ⟨_, rfl⟩
  replace H : ((enc_pack.f k y262).bind fun t265 => ((isa_Form.f k a0_0).bind fun t266 => (if t266 = 1 then (enc_Encode.j0 k t265 true a0_0 a0_1 a0_2 a0_3 a0_4 a0_5 a0_6 t258 t259 t260) else (enc_Encode.j0 k t265 (t266 == 2) a0_0 a0_1 a0_2 a0_3 a0_4 a0_5 a0_6 t258 t259 t260)))) = some (r1, r2) := by first | (rw [hy262]; with_reducible exact H) | (have H2_ := (Option.bind_some _ _).symm.trans H; rw [hy262]; with_reducible exact H2_) | (have H2_ := (Option.bind_some _ _).symm.trans H; with_reducible exact H2_) | with_reducible exact H | (rw [hy262]; exact H) | exact H
  have Ny262 := Aside0.mk hy262
  clear hy262
  replace H := be H
  obtain ⟨t265, A5, H⟩ := H
  replace H := be H
  obtain ⟨t266, A6, H⟩ := H
  have HC7 := Aside0.mk H
  clear H
  go_enter Tryd.func13, Tryd.ntmps13
  go_upto_region 6 with (first | ((with_reducible refine gate_dst (N := 1) rfl ?_); refine box_event ?hg (N := 1) ?hd (cs := #[.int .i64 a0_0, .int .i64 a0_1, .int .i64 a0_2, .int .i64 a0_3, .int .i64 a0_4, .bool a0_5, .bool a0_6]) (t := 24) ?hr ?_; (case hd => rfl); (case hg => rfl); (case hr => first | (go_simp; done) | (go_simp; rfl)); intro gb256 hg w8 hbox hb; obtain ⟨n0_, GW256⟩ := nb (w := w) hg hb; clear HB; have HB := n0_; have BK256 := Aside0.mk hbox; have GE256 := GW256; clear n0_ hb hbox hg; obtain ⟨hcz9_0, hcz9_1, hcz9_2, hcz9_3, hcz9_4, hcz9_5, hcz9_6, hfz9_0, hfz9_1, hfz9_2, hfz9_3, hfz9_4, hfz9_5, hfz9_6⟩ := cz7 (w := w8) BK256.out) | ((with_reducible refine gate_callee (f := 37) rfl ?_); refine goesL_ (some 8) rfl rfl Tryd.func37 (by kernel_rfl) rfl #[.agg #[.int .i64 a0_0, .int .i64 a0_1, .int .i64 a0_2, .int .i64 a0_3, .int .i64 a0_4, .bool a0_5, .bool a0_6]] rfl ga ?_; (with_reducible refine (isa_May.calls k a0_0 a0_1 a0_2 a0_3 a0_4 a0_5 a0_6 true _ (by first | exact HL.out | exact laid_drewN HL.out | exact laid_below HL.out bl | exact laid_below HL.out HB.out | exact laid_belowd HL.out HB.out) A2.out).mono ?_); rintro e w10 ⟨rfl, hb⟩; refine ⟨_, rfl, ?_⟩; have n0_ := Aside0.mk (blk_below (g := gb256) (o := .cells #[.int .i64 a0_0, .int .i64 a0_1, .int .i64 a0_2, .int .i64 a0_3, .int .i64 a0_4, .bool a0_5, .bool a0_6] 24 (0, 0)) (bk BK256.out) hb); have n1_ := Aside0.mk (below_step bl hb); clear BK256; clear HB; have BK256 := n0_; have HB := n1_; clear n0_ n1_; (try clear hb); obtain ⟨hcz11_0, hcz11_1, hcz11_2, hcz11_3, hcz11_4, hcz11_5, hcz11_6, hfz11_0, hfz11_1, hfz11_2, hfz11_3, hfz11_4, hfz11_5, hfz11_6⟩ := cz7 (w := w10) BK256.out) | ((with_reducible refine gate_callee (f := 38) rfl ?_); refine goesL_ (some 12) rfl rfl Tryd.func38 (by kernel_rfl) rfl #[.int .i64 a0_0] rfl ga ?_; (with_reducible refine (enc_of.calls a0_0 t258 t259 t260 _ A4.out).mono ?_); rintro e w12 ⟨rfl, hb⟩; refine ⟨_, rfl, ?_⟩; have n0_ := Aside0.mk (blk_below (g := gb256) (o := .cells #[.int .i64 a0_0, .int .i64 a0_1, .int .i64 a0_2, .int .i64 a0_3, .int .i64 a0_4, .bool a0_5, .bool a0_6] 24 (0, 0)) (bk BK256.out) hb); have n1_ := Aside0.mk (below_step bl hb); clear BK256; clear HB; have BK256 := n0_; have HB := n1_; clear n0_ n1_; (try clear hb)) | ((with_reducible refine gate_dst (N := 4) rfl ?_); refine box_event ?hg (N := 4) ?hd (cs := #[.int .u32 0, .int .u32 0, .int .u32 0]) (t := 61) ?hr ?_; (case hd => rfl); (case hg => rfl); (case hr => first | (go_simp; done) | (go_simp; rfl)); intro gb261 hg w13 hbox hb; have n0_ := Aside0.mk (blk_below (g := gb256) (o := .cells #[.int .i64 a0_0, .int .i64 a0_1, .int .i64 a0_2, .int .i64 a0_3, .int .i64 a0_4, .bool a0_5, .bool a0_6] 24 (0, 0)) (bk BK256.out) hb); have n1_ := Aside0.mk (below_step bl hb); have n2_ := Aside0.mk (hbox); have n3_ := Aside0.mk ((by rw [hg]; exact (below_size bl) : w.heap.size ≤ gb261)); have n4_ := Aside0.mk ((by rw [hg]; exact (below_size bl) : w.heap.size ≤ gb261)); have n5_ := Aside0.mk ((by rw [hg]; exact Nat.ne_of_lt (blk_lt (g := gb256) (o := .cells #[.int .i64 a0_0, .int .i64 a0_1, .int .i64 a0_2, .int .i64 a0_3, .int .i64 a0_4, .bool a0_5, .bool a0_6] 24 (0, 0)) (bk BK256.out)) : gb256 ≠ gb261)); have n6_ := Aside0.mk ((by rw [hg]; exact Nat.ne_of_gt (blk_lt (g := gb256) (o := .cells #[.int .i64 a0_0, .int .i64 a0_1, .int .i64 a0_2, .int .i64 a0_3, .int .i64 a0_4, .bool a0_5, .bool a0_6] 24 (0, 0)) (bk BK256.out)) : gb261 ≠ gb256)); clear BK256; clear HB; have BK256 := n0_; have HB := n1_; have BK261 := n2_; have GW261 := n3_; have GE261 := n4_; have NB256_261 := n5_; have NB261_256 := n6_; clear n0_ n1_ n2_ n3_ n4_ n5_ n6_; clear hb hbox hg; have hnb14 := NB261_256.out; have hnc14 := NB256_261.out; obtain ⟨hcz15_0, hcz15_1, hcz15_2, hfz15_0, hfz15_1, hfz15_2⟩ := cz3 (w := w13) BK261.out) | ((with_reducible refine gate_dst (N := 22) rfl ?_); refine Kd.R_lit k65 _ 65 ?hg (N := 22) ?hd (xs := ([(⟨t258, 0, 7⟩ : S65), (⟨t259, 12, 3⟩ : S65), (⟨t260, 25, 7⟩ : S65)] : List (S65))) (inner := [.int .u32 t258, .int .i64 0, .int .i64 7, .int .u32 t259, .int .i64 12, .int .i64 3, .int .u32 t260, .int .i64 25, .int .i64 7]) (ok := fun _ => True) (okp := fun _ => True) ?hr ?hp (fun _ hk => hk) trivial (Below.refl _ _) (Nat.le_refl _) (by simp) ?_; (case hd => rfl); (case hg => rfl); (case hr => first | (go_simp; done) | (go_simp; rfl)); (case hp => exact (Reps.c3 (show Kd.M k65 _ _ _ (⟨t258, 0, 7⟩ : S65) [.int .u32 t258, .int .i64 0, .int .i64 7] from (k65_mkM _ _ _ (⟨t258, 0, 7⟩ : S65) )) (Reps.c3 (show Kd.M k65 _ _ _ (⟨t259, 12, 3⟩ : S65) [.int .u32 t259, .int .i64 12, .int .i64 3] from (k65_mkM _ _ _ (⟨t259, 12, 3⟩ : S65) )) (Reps.c3 (show Kd.M k65 _ _ _ (⟨t260, 25, 7⟩ : S65) [.int .u32 t260, .int .i64 25, .int .i64 7] from (k65_mkM _ _ _ (⟨t260, 25, 7⟩ : S65) )) (Reps.none _ _))))); intro v263 w16 ho17 hb hg_ hnew_; clear hg_ hnew_; (first | rw [← Ny262.out] at ho17 | (simp only [Int.reduceToNat] at ho17; rw [← Ny262.out] at ho17)); have n0_ := Aside0.mk (Kd.R_lower ho17 (below_size bl)); have n1_ := Aside0.mk (blk_below (g := gb256) (o := .cells #[.int .i64 a0_0, .int .i64 a0_1, .int .i64 a0_2, .int .i64 a0_3, .int .i64 a0_4, .bool a0_5, .bool a0_6] 24 (0, 0)) (by refine bx ?_; refine blk_far ?_ NB256_261.out _; refine bx ?_; refine blk_far ?_ NB256_261.out _; refine bx ?_; refine blk_far ?_ NB256_261.out _; refine bx ?_; exact BK256.out) hb); have n2_ := Aside0.mk (blk_below (g := gb261) (o := .cells #[.int .u32 t258, .int .u32 t259, .int .u32 t260] 61 (0, 0)) (by refine bx ?_; refine blk_put (cs := #[.int .u32 t258, .int .u32 t259, .int .u32 0]) ?_ 2 _ rfl; refine bx ?_; refine blk_put (cs := #[.int .u32 t258, .int .u32 0, .int .u32 0]) ?_ 1 _ rfl; refine bx ?_; refine blk_put (cs := #[.int .u32 0, .int .u32 0, .int .u32 0]) ?_ 0 _ rfl; refine bx ?_; exact BK261.out) hb); have n3_ := Aside0.mk (below_step bl hb); clear BK256; clear BK261; clear HB; have HO264 := n0_; have BK256 := n1_; have BK261 := n2_; have HB := n3_; clear n0_ n1_ n2_ n3_; clear hb ho17; obtain ⟨Ao18, co18, eo18⟩ := Kd.R_slice HO264.out; subst eo18) | ((with_reducible refine gate_callee (f := 39) rfl ?_); refine goesL_ (some 23) rfl rfl Tryd.func39 (by kernel_rfl) rfl #[.slice Ao18 y262.length co18] rfl ga ?_; (with_reducible refine (enc_pack.calls k _ _ y262 t265 _ ?side1 ?side2 A5.out).mono ?_); (case side1 => repeat (first | exact (Kd.R_reads' HO264.out).2.2 | (with_reducible refine Kd.C_alloc ?_ _) | (with_reducible refine Kd.C_drewN ?_ _) | (with_reducible refine Kd.C_drew ?_))); (case side2 => exact (Kd.R_reads' HO264.out).2.1); rintro e w19 ⟨rfl, hb⟩; refine ⟨_, rfl, ?_⟩; have n0_ := Aside0.mk (Kd.R_below (by (with_reducible repeat (first | apply Kd.R_alloc | apply Kd.R_drewN | apply Kd.R_drew)); exact HO264.out) hb); have n1_ := Aside0.mk (blk_below (g := gb256) (o := .cells #[.int .i64 a0_0, .int .i64 a0_1, .int .i64 a0_2, .int .i64 a0_3, .int .i64 a0_4, .bool a0_5, .bool a0_6] 24 (0, 0)) (bk BK256.out) hb); have n2_ := Aside0.mk (blk_below (g := gb261) (o := .cells #[.int .u32 t258, .int .u32 t259, .int .u32 t260] 61 (0, 0)) (bk BK261.out) hb); have n3_ := Aside0.mk (below_step bl hb); clear HO264; clear BK256; clear BK261; clear HB; have HO264 := n0_; have BK256 := n1_; have BK261 := n2_; have HB := n3_; clear n0_ n1_ n2_ n3_; (try clear hb); obtain ⟨hcz20_0, hcz20_1, hcz20_2, hcz20_3, hcz20_4, hcz20_5, hcz20_6, hfz20_0, hfz20_1, hfz20_2, hfz20_3, hfz20_4, hfz20_5, hfz20_6⟩ := cz7 (w := w19) BK256.out) | ((with_reducible refine gate_callee (f := 40) rfl ?_); refine goesL_ (some 26) rfl rfl Tryd.func40 (by kernel_rfl) rfl #[.int .i64 a0_0] rfl ga ?_; (with_reducible refine (isa_Form.calls k a0_0 t266 _ (by first | exact HL.out | exact laid_drewN HL.out | exact laid_below HL.out bl | exact laid_below HL.out HB.out | exact laid_belowd HL.out HB.out) A6.out).mono ?_); rintro e w' ⟨rfl, ⟨nd, rfl⟩⟩; refine ⟨_, rfl, ?_⟩))
  (try simp only [Act.put, List.setIfInBounds_toArray, List.set_cons_zero, List.set_cons_succ])
  go_cut [32] (fun v32 wc => ∃ (kq : Nat) (x32_6 : Bool), v32 = .bool x32_6 ∧ Aside0 (enc_Encode.j0 kq t265 x32_6 a0_0 a0_1 a0_2 a0_3 a0_4 a0_5 a0_6 t258 t259 t260 = some (r1, r2)) ∧ Aside0 (kq ≤ k) ∧ Aside0 (wc.heap[gb256]? = some (.cells #[.int .i64 a0_0, .int .i64 a0_1, .int .i64 a0_2, .int .i64 a0_3, .int .i64 a0_4, .bool a0_5, .bool a0_6] 24 (0, 0))) ∧ Aside0 (wc.heap[gb261]? = some (.cells #[.int .u32 t258, .int .u32 t259, .int .u32 t260] 61 (0, 0))) ∧ Aside0 (Below w.heap.size w wc))
  case first =>
   have H := HC7.out
   clear HC7
   by_cases c21 : t266 = 1
   ·rw [if_pos c21] at H
    obtain ⟨c21b0, c21b1⟩ := eqs c21
    clear c21
    (first | rw [c21b0] | (simp only [i64_w, i32_w]; rw [c21b0]) | skip)
    have H' := Aside0.mk H
    clear H
    go_wp2
    go_meet
    case rel => exact ⟨_, (true), fj, H', ⟨by first | omega | exact Nat.le_refl _⟩, ⟨by refine bx ?_; exact BK256.out⟩, ⟨by refine bx ?_; exact BK261.out⟩, ⟨bl⟩⟩
   ·rw [if_neg c21] at H
    have c21b0 : (t266 == 1) = false := beq_eq_false_iff_ne.mpr c21
    have c21b1 : (t266 != 1) = true := bne_iff_ne.mpr c21
    (first | rw [c21b0] | (simp only [i64_w, i32_w]; rw [c21b0]) | skip)
    have H' := Aside0.mk H
    clear H
    go_wp2
    go_meet
    case rel => exact ⟨_, ((t266 == 2)), fj, H', ⟨by first | omega | exact Nat.le_refl _⟩, ⟨by refine bx ?_; exact BK256.out⟩, ⟨by refine bx ?_; exact BK261.out⟩, ⟨bl⟩⟩
  case rest =>
   clear HC7
   try clear c1
   try clear c2
   try clear p2
   try clear c3
   try clear c4
   try clear c13
   try clear c14
   try clear c21
   try clear c21b0
   try clear c21b1
   try clear hcz11_0 hcz11_1 hcz11_2 hcz11_3 hcz11_4 hcz11_5 hcz11_6
   try clear hcz15_0 hcz15_1 hcz15_2
   try clear hcz20_0 hcz20_1 hcz20_2 hcz20_3 hcz20_4 hcz20_5 hcz20_6
   try clear hcz9_0 hcz9_1 hcz9_2 hcz9_3 hcz9_4 hcz9_5 hcz9_6
   try clear hfz11_0 hfz11_1 hfz11_2 hfz11_3 hfz11_4 hfz11_5 hfz11_6
   try clear hfz15_0 hfz15_1 hfz15_2
   try clear hfz20_0 hfz20_1 hfz20_2 hfz20_3 hfz20_4 hfz20_5 hfz20_6
   try clear hfz9_0 hfz9_1 hfz9_2 hfz9_3 hfz9_4 hfz9_5 hfz9_6
   obtain ⟨kq, x32_6, rfl, HA, HJ6, BK256, BK261, HB⟩ := hcut
   cases kq with
   | zero => exact absurd HA.out (by simp [enc_Encode.j0])
   | succ kj6 =>
    have H := HA.out
    clear HA
    simp only [enc_Encode.j0] at H
    by_cases c22 : x32_6 = true
    ·subst c22
     have H1 : ((enc_registers.f kj6 a0_0 a0_1 a0_2 a0_3 a0_4 a0_5 a0_6).bind fun t267 => ((enc_immediate.f kj6 a0_0 a0_1 a0_2 a0_3 a0_4 a0_5 a0_6).bind fun t270 => (if t267.length + t270.length < 5864062014805 then ((enc_pack.f kj6 (t267 ++ t270)).bind fun t276 => (some (Go.bits .or .u32 t258 t276, 0))) else (none)))) = some (r1, r2) := by rw [if_pos rfl] at H; exact H
     clear H
     have H := H1
     clear H1
     replace H := be H
     obtain ⟨t267, A23, H⟩ := H
     replace H := be H
     obtain ⟨t270, A24, H⟩ := H
     by_cases c25 : t267.length + t270.length < 5864062014805
     ·rw [if_pos c25] at H
      have LMc25 := Aside0.mk c25
      clear c25
      obtain ⟨y273, hy273⟩ : ∃ y_ : List (S65), y_ = (t267 ++ t270) := ⟨_, rfl⟩
      replace H : ((enc_pack.f kj6 y273).bind fun t276 => (some (Go.bits .or .u32 t258 t276, 0))) = some (r1, r2) := by first | (rw [hy273]; with_reducible exact H) | (have H2_ := (Option.bind_some _ _).symm.trans H; rw [hy273]; with_reducible exact H2_) | (have H2_ := (Option.bind_some _ _).symm.trans H; with_reducible exact H2_) | with_reducible exact H | (rw [hy273]; exact H) | exact H
      have Ny273 := Aside0.mk hy273
      clear hy273
      replace H := be H
      obtain ⟨t276, A26, H⟩ := H
      simp only [Option.some.injEq, Prod.mk.injEq] at H
      obtain ⟨rfl, rfl⟩ := H
      have hnb27 := NB261_256.out
      have hnc27 := NB256_261.out
      obtain ⟨hcz28_0, hcz28_1, hcz28_2, hfz28_0, hfz28_1, hfz28_2⟩ := cz3 (w := wc) BK261.out
      try go_wp2
      have n0_ := Aside0.mk (blk_drew BK256.out)
      have n1_ := Aside0.mk (blk_drew BK261.out)
      have n2_ := Aside0.mk (below_drew1 HB.out)
      clear BK256
      clear BK261
      clear HB
      have BK256 := n0_
      have BK261 := n1_
      have HB := n2_
      clear n0_ n1_ n2_
      refine start_ (n := 10) (S := fun w' => w'.cell? ⟨gb256, 0, none⟩ = some (.int .i64 a0_0) ∧ w'.cell? ⟨gb256, 1, none⟩ = some (.int .i64 a0_1) ∧ w'.cell? ⟨gb256, 2, none⟩ = some (.int .i64 a0_2) ∧ w'.cell? ⟨gb256, 3, none⟩ = some (.int .i64 a0_3) ∧ w'.cell? ⟨gb256, 4, none⟩ = some (.int .i64 a0_4) ∧ w'.cell? ⟨gb256, 5, none⟩ = some (.bool a0_5) ∧ w'.cell? ⟨gb256, 6, none⟩ = some (.bool a0_6)) (ds := []) (fl 10 0) (by kernel_rfl) rfl rfl (cy7 BK256.out) (fun hHeld => ?_); refine with_tabW enc_Encode.tab8 enc_Encode.bits8 (fun HT_ HW_ => ?_)
      generalize wc.drew = w29 at BK256 BK261 HB hHeld ⊢
      refine pq 0 (some 35) ?_ (fl 10 1) HT_.out rfl rfl ?_ ?_ ?_ ?_
      rotate_left
      ·intro w'
       go_simp
       with_reducible rfl
      rotate_left
      ·refine pt ?_
       rfl
      refine pk 1 (some 36) ?_ (fl 10 2) HT_.out HW_.out rfl rfl ?_ hHeld ?_ ?_ ?_
      rotate_left
      ·rintro w' ⟨s0, s1, s2, s3, s4, s5, s6⟩
       go_simp
       with_reducible rfl
      rotate_left
      ·refine pt ?_
       rfl
      refine pk 3 (some 38) ?_ #[true, true, false, true, false, false, false, false, false, false] HT_.out HW_.out rfl rfl ?_ hHeld ?_ ?_ ?_
      rotate_left
      ·rintro w' ⟨s0, s1, s2, s3, s4, s5, s6⟩
       go_simp
       with_reducible rfl
      rotate_left
      ·refine pt ?_
       rfl
      refine one_ (i := 2) (N := some 37) (fl 10 4) rfl rfl (one_of HT_.out (by kernel_rfl)) (by decide) (fun K hK => ?_)
      refine goes_ Tryd.func41 (by kernel_rfl) rfl #[.agg #[.int .i64 a0_0, .int .i64 a0_1, .int .i64 a0_2, .int .i64 a0_3, .int .i64 a0_4, .bool a0_5, .bool a0_6]] (by rfl) rfl rfl ga ?_
      with_reducible refine (enc_registers.calls kj6 a0_0 a0_1 a0_2 a0_3 a0_4 a0_5 a0_6 t267 _ (by first | exact HL.out | exact laid_drewN HL.out | exact laid_below HL.out bl | exact laid_below HL.out HB.out | exact laid_belowd HL.out HB.out) A23.out).mono ?_
      rintro e w30 ⟨v268, rfl, ho0, hb⟩
      refine ⟨_, rfl, ?_⟩
      have n0_ := Aside0.mk (Kd.R_lower ho0 (below_size bl))
      have n1_ := Aside0.mk (blk_below (g := gb256) (o := .cells #[.int .i64 a0_0, .int .i64 a0_1, .int .i64 a0_2, .int .i64 a0_3, .int .i64 a0_4, .bool a0_5, .bool a0_6] 24 (0, 0)) (bk BK256.out) hb)
      have n2_ := Aside0.mk (blk_below (g := gb261) (o := .cells #[.int .u32 t258, .int .u32 t259, .int .u32 t260] 61 (0, 0)) (bk BK261.out) hb)
      have n3_ := Aside0.mk (below_step bl hb)
      clear BK256
      clear BK261
      clear HB
      have HO269 := n0_
      have BK256 := n1_
      have BK261 := n2_
      have HB := n3_
      clear n0_ n1_ n2_ n3_
      (try clear hb)
      (try clear hb2)
      (try clear hk)
      (try clear hi)
      (try clear ho0)
      refine hK.out _ _ (cy7 BK256.out) (fun hHeld => ?_)
      clear hK K
      refine norm_ (a' := ?_) ?_ ?_
      rotate_left
      ·show Act.put _ (some 37) _ = _
       refine pt ?_
       rfl
      refine one_ (i := 4) (N := some 39) (fl 10 5) rfl rfl (one_of HT_.out (by kernel_rfl)) (by decide) (fun K hK => ?_)
      refine goes_ Tryd.func42 (by kernel_rfl) rfl #[.agg #[.int .i64 a0_0, .int .i64 a0_1, .int .i64 a0_2, .int .i64 a0_3, .int .i64 a0_4, .bool a0_5, .bool a0_6]] (by rfl) rfl rfl ga ?_
      with_reducible refine (enc_immediate.calls kj6 a0_0 a0_1 a0_2 a0_3 a0_4 a0_5 a0_6 t270 _ (by first | exact HL.out | exact laid_drewN HL.out | exact laid_below HL.out bl | exact laid_below HL.out HB.out | exact laid_belowd HL.out HB.out) A24.out).mono ?_
      rintro e w31 ⟨v271, rfl, ho0, hb⟩
      refine ⟨_, rfl, ?_⟩
      have n0_ := Aside0.mk (Kd.R_elder' (by (with_reducible repeat (first | apply Kd.R_alloc | apply Kd.R_drewN | apply Kd.R_drew)); exact HO269.out) (Kd.R_base ho0) hb)
      have n1_ := Aside0.mk (Kd.R_lower (Kd.R_new' ho0 (Kd.R_lt (by (with_reducible repeat (first | apply Kd.R_alloc | apply Kd.R_drewN | apply Kd.R_drew)); exact HO269.out))) (below_size bl))
      have n2_ := Aside0.mk (blk_below (g := gb256) (o := .cells #[.int .i64 a0_0, .int .i64 a0_1, .int .i64 a0_2, .int .i64 a0_3, .int .i64 a0_4, .bool a0_5, .bool a0_6] 24 (0, 0)) (bk BK256.out) hb)
      have n3_ := Aside0.mk (blk_below (g := gb261) (o := .cells #[.int .u32 t258, .int .u32 t259, .int .u32 t260] 61 (0, 0)) (bk BK261.out) hb)
      have n4_ := Aside0.mk (below_step bl hb)
      clear HO269
      clear BK256
      clear BK261
      clear HB
      have HO269 := n0_
      have HO272 := n1_
      have BK256 := n2_
      have BK261 := n3_
      have HB := n4_
      clear n0_ n1_ n2_ n3_ n4_
      (try clear hb)
      (try clear hb2)
      (try clear hk)
      (try clear hi)
      (try clear ho0)
      obtain ⟨Ao33, co33, eo33⟩ := Kd.R_slice HO272.out
      (first | subst eo33 | (injection eo33 with f1_ f2_ f3_; have f4_ := f1_.symm; have f5_ := f3_.symm; clear f1_ f2_ f3_; subst f4_; subst f5_))
      refine hK.out _ _ (cy7 BK256.out) (fun hHeld => ?_)
      clear hK K
      refine norm_ (a' := ?_) ?_ ?_
      rotate_left
      ·show Act.put _ (some 39) _ = _
       refine pt ?_
       rfl
      refine one_ (i := 5) (N := some 40) (fl 10 6) rfl rfl (one_of HT_.out (by kernel_rfl)) (by decide) (fun K hK => ?_)
      refine Kd.R_append_rows_step k65 (w0 := w) w.heap.size (by rfl) (.tmp 37) (.tmp 39) 66 65 (.agg #[(.int .u32 0), (.int .i64 0), (.int .i64 0)]) 24 rfl Tryd.underlying66 info65 rfl (by decide) (by omega) v268 t267 t270 _ _ _ (fun k_ => some k_ ≠ (.slice Ao33 t270.length co33 : Value).ownBlock) (fun _ => False) rfl rfl ?aO ?aR (fun _ _ h => h) (fun _ h => h.elim) ?aF ?aB ?aS ?aL ?_
      (case aR => repeat (first | exact (Kd.R_reads' HO272.out).2.2 | (with_reducible refine Kd.C_alloc ?_ _) | (with_reducible refine Kd.C_drewN ?_ _) | (with_reducible refine Kd.C_drew ?_)))
      (case aB => exact bl)
      (case aF => exact (fun k_ hk => Kd.fresh' (Kd.R_lt (by (with_reducible repeat (first | apply Kd.R_alloc | apply Kd.R_drewN | apply Kd.R_drew)); exact HO272.out)) k_ hk))
      (case aO => exact (by (with_reducible repeat (first | apply Kd.R_alloc | apply Kd.R_drewN | apply Kd.R_drew)); exact Kd.R_mono HO269.out (fun _ hk => hk.2)))
      (case aS => exact (below_size bl))
      (case aL => have := LMc25.out; omega)
      intro v274 w32 ho hb hg hat
      rw [← Ny273.out] at ho
      have n0_ := Aside0.mk (blk_grown (g := gb256) (o := .cells #[.int .i64 a0_0, .int .i64 a0_1, .int .i64 a0_2, .int .i64 a0_3, .int .i64 a0_4, .bool a0_5, .bool a0_6] 24 (0, 0)) (bk BK256.out) hg (Kd.R_ne HO269.out BK256.out (by decide)))
      have n1_ := Aside0.mk (blk_grown (g := gb261) (o := .cells #[.int .u32 t258, .int .u32 t259, .int .u32 t260] 61 (0, 0)) (bk BK261.out) hg (Kd.R_ne HO269.out BK261.out (by decide)))
      have n2_ := Aside0.mk (Kd.R_after (ok := (fun _ => True)) (by (with_reducible repeat (first | apply Kd.R_alloc | apply Kd.R_drewN | apply Kd.R_drew)); exact HO272.out) hg hat)
      have n3_ := Aside0.mk (hb)
      have n4_ := Aside0.mk (ho)
      clear BK256
      clear BK261
      clear HO272
      clear HB
      clear HO269
      have BK256 := n0_
      have BK261 := n1_
      have HO272 := n2_
      have HB := n3_
      have HO275 := n4_
      clear n0_ n1_ n2_ n3_ n4_
      clear ho hb hg hat
      obtain ⟨Ao34, co34, eo34⟩ := Kd.R_slice HO275.out
      (first | subst eo34 | (injection eo34 with f1_ f2_ f3_; have f4_ := f1_.symm; have f5_ := f3_.symm; clear f1_ f2_ f3_; subst f4_; subst f5_))
      refine hK.out _ _ (cy7 BK256.out) (fun hHeld => ?_)
      clear hK K
      refine norm_ (a' := ?_) ?_ ?_
      rotate_left
      ·show Act.put _ (some 40) _ = _
       refine pt ?_
       rfl
      refine one_ (i := 6) (N := some 41) (fl 10 7) rfl rfl (one_of HT_.out (by kernel_rfl)) (by decide) (fun K hK => ?_)
      refine goes_ Tryd.func39 (by kernel_rfl) rfl #[.slice Ao34 y273.length co34] (by rfl) rfl rfl ga ?_
      with_reducible refine (enc_pack.calls kj6 _ _ y273 t276 _ ?side1 ?side2 A26.out).mono ?_
      (case side1 => repeat (first | exact (Kd.R_reads' HO275.out).2.2 | (with_reducible refine Kd.C_alloc ?_ _) | (with_reducible refine Kd.C_drewN ?_ _) | (with_reducible refine Kd.C_drew ?_)))
      (case side2 => exact (Kd.R_reads' HO275.out).2.1)
      rintro e w35 ⟨rfl, hb⟩
      refine ⟨_, rfl, ?_⟩
      have n0_ := Aside0.mk (Kd.R_below (by (with_reducible repeat (first | apply Kd.R_alloc | apply Kd.R_drewN | apply Kd.R_drew)); exact HO272.out) hb)
      have n1_ := Aside0.mk (Kd.R_below (by (with_reducible repeat (first | apply Kd.R_alloc | apply Kd.R_drewN | apply Kd.R_drew)); exact HO275.out) hb)
      have n2_ := Aside0.mk (blk_below (g := gb256) (o := .cells #[.int .i64 a0_0, .int .i64 a0_1, .int .i64 a0_2, .int .i64 a0_3, .int .i64 a0_4, .bool a0_5, .bool a0_6] 24 (0, 0)) (bk BK256.out) hb)
      have n3_ := Aside0.mk (blk_below (g := gb261) (o := .cells #[.int .u32 t258, .int .u32 t259, .int .u32 t260] 61 (0, 0)) (bk BK261.out) hb)
      have n4_ := Aside0.mk (below_step bl hb)
      clear HO272
      clear HO275
      clear BK256
      clear BK261
      clear HB
      have HO272 := n0_
      have HO275 := n1_
      have BK256 := n2_
      have BK261 := n3_
      have HB := n4_
      clear n0_ n1_ n2_ n3_ n4_
      (try clear hb)
      (try clear hb2)
      (try clear hk)
      (try clear hi)
      refine hK.out _ _ (cy7 BK256.out) (fun hHeld => ?_)
      clear hK K
      refine norm_ (a' := ?_) ?_ ?_
      rotate_left
      ·show Act.put _ (some 41) _ = _
       refine pt ?_
       rfl
      refine pq 7 (some 42) ?_ (fl 10 8) HT_.out rfl rfl ?_ ?_ ?_ ?_
      rotate_left
      ·intro w'
       go_simp
       with_reducible rfl
      rotate_left
      ·refine pt ?_
       rfl
      refine pq 8 (some 2) ?_ (fl 10 9) HT_.out rfl rfl ?_ ?_ ?_ ?_
      rotate_left
      ·intro w'
       go_simp
       with_reducible rfl
      rotate_left
      ·refine pt ?_
       rfl
      refine pq 9 (some 3) ?_ (fl 10 10) HT_.out rfl rfl ?_ ?_ ?_ ?_
      rotate_left
      ·intro w'
       go_simp
       with_reducible rfl
      rotate_left
      ·refine pt ?_
       rfl
      refine done_ (done_of HT_.out (by kernel_rfl)) ?_
      try go_wp2
      go_ret2
      exact ⟨fi, bl⟩
     ·rw [if_neg c25] at H
      exact absurd H (by simp)
    ·replace c22 := Bool.eq_false_iff.mpr c22
     subst c22
     have H1 : ((enc_registers.f kj6 a0_0 a0_1 a0_2 a0_3 a0_4 a0_5 a0_6).bind fun t277 => ((enc_immediate.f kj6 a0_0 a0_1 a0_2 a0_3 a0_4 a0_5 a0_6).bind fun t280 => (if t277.length + t280.length < 5864062014805 then ((enc_pack.f kj6 (t277 ++ t280)).bind fun t286 => (some (Go.bits .or .u32 t265 t286, 0))) else (none)))) = some (r1, r2) := by rw [if_neg (show ¬ (false = true) by decide)] at H; exact H
     clear H
     have H := H1
     clear H1
     replace H := be H
     obtain ⟨t277, A36, H⟩ := H
     replace H := be H
     obtain ⟨t280, A37, H⟩ := H
     by_cases c38 : t277.length + t280.length < 5864062014805
     ·rw [if_pos c38] at H
      have LMc38 := Aside0.mk c38
      clear c38
      obtain ⟨y283, hy283⟩ : ∃ y_ : List (S65), y_ = (t277 ++ t280) := ⟨_, rfl⟩
      replace H : ((enc_pack.f kj6 y283).bind fun t286 => (some (Go.bits .or .u32 t265 t286, 0))) = some (r1, r2) := by first | (rw [hy283]; with_reducible exact H) | (have H2_ := (Option.bind_some _ _).symm.trans H; rw [hy283]; with_reducible exact H2_) | (have H2_ := (Option.bind_some _ _).symm.trans H; with_reducible exact H2_) | with_reducible exact H | (rw [hy283]; exact H) | exact H
      have Ny283 := Aside0.mk hy283
      clear hy283
      replace H := be H
      obtain ⟨t286, A39, H⟩ := H
      simp only [Option.some.injEq, Prod.mk.injEq] at H
      obtain ⟨rfl, rfl⟩ := H
      try go_wp2
      have n0_ := Aside0.mk (blk_drew BK256.out)
      have n1_ := Aside0.mk (blk_drew BK261.out)
      have n2_ := Aside0.mk (below_drew1 HB.out)
      clear BK256
      clear BK261
      clear HB
      have BK256 := n0_
      have BK261 := n1_
      have HB := n2_
      clear n0_ n1_ n2_
      refine start_ (n := 10) (S := fun w' => w'.cell? ⟨gb256, 0, none⟩ = some (.int .i64 a0_0) ∧ w'.cell? ⟨gb256, 1, none⟩ = some (.int .i64 a0_1) ∧ w'.cell? ⟨gb256, 2, none⟩ = some (.int .i64 a0_2) ∧ w'.cell? ⟨gb256, 3, none⟩ = some (.int .i64 a0_3) ∧ w'.cell? ⟨gb256, 4, none⟩ = some (.int .i64 a0_4) ∧ w'.cell? ⟨gb256, 5, none⟩ = some (.bool a0_5) ∧ w'.cell? ⟨gb256, 6, none⟩ = some (.bool a0_6)) (ds := []) (fl 10 0) (by kernel_rfl) rfl rfl (cy7 BK256.out) (fun hHeld => ?_); refine with_tabW enc_Encode.tab8 enc_Encode.bits8 (fun HT_ HW_ => ?_)
      generalize wc.drew = w40 at BK256 BK261 HB hHeld ⊢
      refine pq 0 (some 35) ?_ (fl 10 1) HT_.out rfl rfl ?_ ?_ ?_ ?_
      rotate_left
      ·intro w'
       go_simp
       with_reducible rfl
      rotate_left
      ·refine pt ?_
       rfl
      refine pk 1 (some 36) ?_ (fl 10 2) HT_.out HW_.out rfl rfl ?_ hHeld ?_ ?_ ?_
      rotate_left
      ·rintro w' ⟨s0, s1, s2, s3, s4, s5, s6⟩
       go_simp
       with_reducible rfl
      rotate_left
      ·refine pt ?_
       rfl
      refine pk 3 (some 38) ?_ #[true, true, false, true, false, false, false, false, false, false] HT_.out HW_.out rfl rfl ?_ hHeld ?_ ?_ ?_
      rotate_left
      ·rintro w' ⟨s0, s1, s2, s3, s4, s5, s6⟩
       go_simp
       with_reducible rfl
      rotate_left
      ·refine pt ?_
       rfl
      refine one_ (i := 2) (N := some 37) (fl 10 4) rfl rfl (one_of HT_.out (by kernel_rfl)) (by decide) (fun K hK => ?_)
      refine goes_ Tryd.func41 (by kernel_rfl) rfl #[.agg #[.int .i64 a0_0, .int .i64 a0_1, .int .i64 a0_2, .int .i64 a0_3, .int .i64 a0_4, .bool a0_5, .bool a0_6]] (by rfl) rfl rfl ga ?_
      with_reducible refine (enc_registers.calls kj6 a0_0 a0_1 a0_2 a0_3 a0_4 a0_5 a0_6 t277 _ (by first | exact HL.out | exact laid_drewN HL.out | exact laid_below HL.out bl | exact laid_below HL.out HB.out | exact laid_belowd HL.out HB.out) A36.out).mono ?_
      rintro e w41 ⟨v278, rfl, ho0, hb⟩
      refine ⟨_, rfl, ?_⟩
      have n0_ := Aside0.mk (Kd.R_lower ho0 (below_size bl))
      have n1_ := Aside0.mk (blk_below (g := gb256) (o := .cells #[.int .i64 a0_0, .int .i64 a0_1, .int .i64 a0_2, .int .i64 a0_3, .int .i64 a0_4, .bool a0_5, .bool a0_6] 24 (0, 0)) (bk BK256.out) hb)
      have n2_ := Aside0.mk (blk_below (g := gb261) (o := .cells #[.int .u32 t258, .int .u32 t259, .int .u32 t260] 61 (0, 0)) (bk BK261.out) hb)
      have n3_ := Aside0.mk (below_step bl hb)
      clear BK256
      clear BK261
      clear HB
      have HO279 := n0_
      have BK256 := n1_
      have BK261 := n2_
      have HB := n3_
      clear n0_ n1_ n2_ n3_
      (try clear hb)
      (try clear hb2)
      (try clear hk)
      (try clear hi)
      (try clear ho0)
      refine hK.out _ _ (cy7 BK256.out) (fun hHeld => ?_)
      clear hK K
      refine norm_ (a' := ?_) ?_ ?_
      rotate_left
      ·show Act.put _ (some 37) _ = _
       refine pt ?_
       rfl
      refine one_ (i := 4) (N := some 39) (fl 10 5) rfl rfl (one_of HT_.out (by kernel_rfl)) (by decide) (fun K hK => ?_)
      refine goes_ Tryd.func42 (by kernel_rfl) rfl #[.agg #[.int .i64 a0_0, .int .i64 a0_1, .int .i64 a0_2, .int .i64 a0_3, .int .i64 a0_4, .bool a0_5, .bool a0_6]] (by rfl) rfl rfl ga ?_
      with_reducible refine (enc_immediate.calls kj6 a0_0 a0_1 a0_2 a0_3 a0_4 a0_5 a0_6 t280 _ (by first | exact HL.out | exact laid_drewN HL.out | exact laid_below HL.out bl | exact laid_below HL.out HB.out | exact laid_belowd HL.out HB.out) A37.out).mono ?_
      rintro e w42 ⟨v281, rfl, ho0, hb⟩
      refine ⟨_, rfl, ?_⟩
      have n0_ := Aside0.mk (Kd.R_elder' (by (with_reducible repeat (first | apply Kd.R_alloc | apply Kd.R_drewN | apply Kd.R_drew)); exact HO279.out) (Kd.R_base ho0) hb)
      have n1_ := Aside0.mk (Kd.R_lower (Kd.R_new' ho0 (Kd.R_lt (by (with_reducible repeat (first | apply Kd.R_alloc | apply Kd.R_drewN | apply Kd.R_drew)); exact HO279.out))) (below_size bl))
      have n2_ := Aside0.mk (blk_below (g := gb256) (o := .cells #[.int .i64 a0_0, .int .i64 a0_1, .int .i64 a0_2, .int .i64 a0_3, .int .i64 a0_4, .bool a0_5, .bool a0_6] 24 (0, 0)) (bk BK256.out) hb)
      have n3_ := Aside0.mk (blk_below (g := gb261) (o := .cells #[.int .u32 t258, .int .u32 t259, .int .u32 t260] 61 (0, 0)) (bk BK261.out) hb)
      have n4_ := Aside0.mk (below_step bl hb)
      clear HO279
      clear BK256
      clear BK261
      clear HB
      have HO279 := n0_
      have HO282 := n1_
      have BK256 := n2_
      have BK261 := n3_
      have HB := n4_
      clear n0_ n1_ n2_ n3_ n4_
      (try clear hb)
      (try clear hb2)
      (try clear hk)
      (try clear hi)
      (try clear ho0)
      obtain ⟨Ao44, co44, eo44⟩ := Kd.R_slice HO282.out
      (first | subst eo44 | (injection eo44 with f1_ f2_ f3_; have f4_ := f1_.symm; have f5_ := f3_.symm; clear f1_ f2_ f3_; subst f4_; subst f5_))
      refine hK.out _ _ (cy7 BK256.out) (fun hHeld => ?_)
      clear hK K
      refine norm_ (a' := ?_) ?_ ?_
      rotate_left
      ·show Act.put _ (some 39) _ = _
       refine pt ?_
       rfl
      refine one_ (i := 5) (N := some 40) (fl 10 6) rfl rfl (one_of HT_.out (by kernel_rfl)) (by decide) (fun K hK => ?_)
      refine Kd.R_append_rows_step k65 (w0 := w) w.heap.size (by rfl) (.tmp 37) (.tmp 39) 66 65 (.agg #[(.int .u32 0), (.int .i64 0), (.int .i64 0)]) 24 rfl Tryd.underlying66 info65 rfl (by decide) (by omega) v278 t277 t280 _ _ _ (fun k_ => some k_ ≠ (.slice Ao44 t280.length co44 : Value).ownBlock) (fun _ => False) rfl rfl ?aO ?aR (fun _ _ h => h) (fun _ h => h.elim) ?aF ?aB ?aS ?aL ?_
      (case aR => repeat (first | exact (Kd.R_reads' HO282.out).2.2 | (with_reducible refine Kd.C_alloc ?_ _) | (with_reducible refine Kd.C_drewN ?_ _) | (with_reducible refine Kd.C_drew ?_)))
      (case aB => exact bl)
      (case aF => exact (fun k_ hk => Kd.fresh' (Kd.R_lt (by (with_reducible repeat (first | apply Kd.R_alloc | apply Kd.R_drewN | apply Kd.R_drew)); exact HO282.out)) k_ hk))
      (case aO => exact (by (with_reducible repeat (first | apply Kd.R_alloc | apply Kd.R_drewN | apply Kd.R_drew)); exact Kd.R_mono HO279.out (fun _ hk => hk.2)))
      (case aS => exact (below_size bl))
      (case aL => have := LMc38.out; omega)
      intro v284 w43 ho hb hg hat
      rw [← Ny283.out] at ho
      have n0_ := Aside0.mk (blk_grown (g := gb256) (o := .cells #[.int .i64 a0_0, .int .i64 a0_1, .int .i64 a0_2, .int .i64 a0_3, .int .i64 a0_4, .bool a0_5, .bool a0_6] 24 (0, 0)) (bk BK256.out) hg (Kd.R_ne HO279.out BK256.out (by decide)))
      have n1_ := Aside0.mk (blk_grown (g := gb261) (o := .cells #[.int .u32 t258, .int .u32 t259, .int .u32 t260] 61 (0, 0)) (bk BK261.out) hg (Kd.R_ne HO279.out BK261.out (by decide)))
      have n2_ := Aside0.mk (Kd.R_after (ok := (fun _ => True)) (by (with_reducible repeat (first | apply Kd.R_alloc | apply Kd.R_drewN | apply Kd.R_drew)); exact HO282.out) hg hat)
      have n3_ := Aside0.mk (hb)
      have n4_ := Aside0.mk (ho)
      clear BK256
      clear BK261
      clear HO282
      clear HB
      clear HO279
      have BK256 := n0_
      have BK261 := n1_
      have HO282 := n2_
      have HB := n3_
      have HO285 := n4_
      clear n0_ n1_ n2_ n3_ n4_
      clear ho hb hg hat
      obtain ⟨Ao45, co45, eo45⟩ := Kd.R_slice HO285.out
      (first | subst eo45 | (injection eo45 with f1_ f2_ f3_; have f4_ := f1_.symm; have f5_ := f3_.symm; clear f1_ f2_ f3_; subst f4_; subst f5_))
      refine hK.out _ _ (cy7 BK256.out) (fun hHeld => ?_)
      clear hK K
      refine norm_ (a' := ?_) ?_ ?_
      rotate_left
      ·show Act.put _ (some 40) _ = _
       refine pt ?_
       rfl
      refine one_ (i := 6) (N := some 41) (fl 10 7) rfl rfl (one_of HT_.out (by kernel_rfl)) (by decide) (fun K hK => ?_)
      refine goes_ Tryd.func39 (by kernel_rfl) rfl #[.slice Ao45 y283.length co45] (by rfl) rfl rfl ga ?_
      with_reducible refine (enc_pack.calls kj6 _ _ y283 t286 _ ?side1 ?side2 A39.out).mono ?_
      (case side1 => repeat (first | exact (Kd.R_reads' HO285.out).2.2 | (with_reducible refine Kd.C_alloc ?_ _) | (with_reducible refine Kd.C_drewN ?_ _) | (with_reducible refine Kd.C_drew ?_)))
      (case side2 => exact (Kd.R_reads' HO285.out).2.1)
      rintro e w46 ⟨rfl, hb⟩
      refine ⟨_, rfl, ?_⟩
      have n0_ := Aside0.mk (Kd.R_below (by (with_reducible repeat (first | apply Kd.R_alloc | apply Kd.R_drewN | apply Kd.R_drew)); exact HO282.out) hb)
      have n1_ := Aside0.mk (Kd.R_below (by (with_reducible repeat (first | apply Kd.R_alloc | apply Kd.R_drewN | apply Kd.R_drew)); exact HO285.out) hb)
      have n2_ := Aside0.mk (blk_below (g := gb256) (o := .cells #[.int .i64 a0_0, .int .i64 a0_1, .int .i64 a0_2, .int .i64 a0_3, .int .i64 a0_4, .bool a0_5, .bool a0_6] 24 (0, 0)) (bk BK256.out) hb)
      have n3_ := Aside0.mk (blk_below (g := gb261) (o := .cells #[.int .u32 t258, .int .u32 t259, .int .u32 t260] 61 (0, 0)) (bk BK261.out) hb)
      have n4_ := Aside0.mk (below_step bl hb)
      clear HO282
      clear HO285
      clear BK256
      clear BK261
      clear HB
      have HO282 := n0_
      have HO285 := n1_
      have BK256 := n2_
      have BK261 := n3_
      have HB := n4_
      clear n0_ n1_ n2_ n3_ n4_
      (try clear hb)
      (try clear hb2)
      (try clear hk)
      (try clear hi)
      refine hK.out _ _ (cy7 BK256.out) (fun hHeld => ?_)
      clear hK K
      refine norm_ (a' := ?_) ?_ ?_
      rotate_left
      ·show Act.put _ (some 41) _ = _
       refine pt ?_
       rfl
      refine pq 7 (some 42) ?_ (fl 10 8) HT_.out rfl rfl ?_ ?_ ?_ ?_
      rotate_left
      ·intro w'
       go_simp
       with_reducible rfl
      rotate_left
      ·refine pt ?_
       rfl
      refine pq 8 (some 2) ?_ (fl 10 9) HT_.out rfl rfl ?_ ?_ ?_ ?_
      rotate_left
      ·intro w'
       go_simp
       with_reducible rfl
      rotate_left
      ·refine pt ?_
       rfl
      refine pq 9 (some 3) ?_ (fl 10 10) HT_.out rfl rfl ?_ ?_ ?_ ?_
      rotate_left
      ·intro w'
       go_simp
       with_reducible rfl
      rotate_left
      ·refine pt ?_
       rfl
      refine done_ (done_of HT_.out (by kernel_rfl)) ?_
      try go_wp2
      go_ret2
      exact ⟨fi, bl⟩
     ·rw [if_neg c38] at H
      exact absurd H (by simp)
 ·replace c3 := Bool.eq_false_iff.mpr c3
  subst c3
  have H1 : (some (0, 1)) = some (r1, r2) := by rw [if_neg (show ¬ (false = true) by decide)] at H; exact H
  clear H
  have H := H1
  clear H1
  simp only [Option.some.injEq, Prod.mk.injEq] at H
  obtain ⟨rfl, rfl⟩ := H
  go_enter Tryd.func13, Tryd.ntmps13
  go_wp2_with (first | ((with_reducible refine gate_dst (N := 1) rfl ?_); refine box_event ?hg (N := 1) ?hd (cs := #[.int .i64 a0_0, .int .i64 a0_1, .int .i64 a0_2, .int .i64 a0_3, .int .i64 a0_4, .bool a0_5, .bool a0_6]) (t := 24) ?hr ?_; (case hd => rfl); (case hg => rfl); (case hr => first | (go_simp; done) | (go_simp; rfl)); intro gb256 hg w47 hbox hb; obtain ⟨n0_, GW256⟩ := nb (w := w) hg hb; clear HB; have HB := n0_; have BK256 := Aside0.mk hbox; have GE256 := GW256; clear n0_ hb hbox hg; obtain ⟨hcz48_0, hcz48_1, hcz48_2, hcz48_3, hcz48_4, hcz48_5, hcz48_6, hfz48_0, hfz48_1, hfz48_2, hfz48_3, hfz48_4, hfz48_5, hfz48_6⟩ := cz7 (w := w47) BK256.out) | ((with_reducible refine gate_callee (f := 37) rfl ?_); refine goesL_ (some 8) rfl rfl Tryd.func37 (by kernel_rfl) rfl #[.agg #[.int .i64 a0_0, .int .i64 a0_1, .int .i64 a0_2, .int .i64 a0_3, .int .i64 a0_4, .bool a0_5, .bool a0_6]] rfl ga ?_; (with_reducible refine (isa_May.calls k a0_0 a0_1 a0_2 a0_3 a0_4 a0_5 a0_6 false _ (by first | exact HL.out | exact laid_drewN HL.out | exact laid_below HL.out bl | exact laid_below HL.out HB.out | exact laid_belowd HL.out HB.out) A2.out).mono ?_); rintro e w49 ⟨rfl, hb⟩; refine ⟨_, rfl, ?_⟩; have n0_ := Aside0.mk (blk_below (g := gb256) (o := .cells #[.int .i64 a0_0, .int .i64 a0_1, .int .i64 a0_2, .int .i64 a0_3, .int .i64 a0_4, .bool a0_5, .bool a0_6] 24 (0, 0)) (bk BK256.out) hb); have n1_ := Aside0.mk (below_step bl hb); clear BK256; clear HB; have BK256 := n0_; have HB := n1_; clear n0_ n1_; (try clear hb)))
  go_ret2
  exact ⟨fi, bl⟩

/-! ### word_Get: function 86 -/
def word_Get.f (a0 : Int) (a1 : Int) (a2 : Int) : Option (Int × Int) := (word_may.f a1 a2).bind fun t287 => (if t287 = true then (if 0 ≤ a1 then ((word_mask.f a2).bind fun t288 => (some (Go.bits .and .u32 (shr .u32 a0 a1) t288, 0))) else (none)) else (some (0, 2)))
set_option maxHeartbeats 8000000 in
set_option maxRecDepth 100000 in
theorem word_Get.calls (a0 : Int) (a1 : Int) (a2 : Int) (r1 : Int) (r2 : Int) (w : World) (h : word_Get.f a0 a1 a2 = some (r1, r2)) :
  Calls Tryd.prog 86 #[.int .u32 a0, .int .i64 a1, .int .i64 a2] w fun e w' => e = .returned (.tuple #[.int .u32 r1, .int .i64 r2]) ∧ Drawn0 w w' := by
 have H : ((word_may.f a1 a2).bind fun t287 => (if t287 = true then (if 0 ≤ a1 then ((word_mask.f a2).bind fun t288 => (some (Go.bits .and .u32 (shr .u32 a0 a1) t288, 0))) else (none)) else (some (0, 2)))) = some (r1, r2) := h
 clear h
 replace H := be H
 obtain ⟨t287, A4, H⟩ := H
 by_cases c5 : t287 = true
 ·subst c5
  have H1 : (if 0 ≤ a1 then ((word_mask.f a2).bind fun t288 => (some (Go.bits .and .u32 (shr .u32 a0 a1) t288, 0))) else (none)) = some (r1, r2) := by rw [if_pos rfl] at H; exact H
  clear H
  have H := H1
  clear H1
  by_cases c6 : 0 ≤ a1
  ·rw [if_pos c6] at H
   have c6b0 := eq_true c6
   have c6b1 : decide (0 ≤ a1) = true := decide_eq_true c6
   clear c6
   obtain ⟨ji7, hji7⟩ : ∃ j_ : Int, (shr .u32 a0 a1) = j_ := ⟨_, rfl⟩
   replace H : ((word_mask.f a2).bind fun t288 => (some (Go.bits .and .u32 (ji7) t288, 0))) = some (r1, r2) := by first | (rw [hji7] at H; exact H) | (simp only [hji7] at H ⊢; exact H)
   (try rw [hji7] at A4)
   have hji7_ : (a0 / 2 ^ min a1.toNat 32) = ji7 := hji7
   have hji7z : a1 ≤ 32 → (a0 / 2 ^ a1.toNat) = ji7 := shr_small hji7
   replace H := be H
   obtain ⟨t288, A8, H⟩ := H
   simp only [Option.some.injEq, Prod.mk.injEq] at H
   obtain ⟨rfl, rfl⟩ := H
   go_enter Tryd.func86, Tryd.ntmps86
   go_wp2_with (first | (go_at_call 89; (with_reducible refine (word_may.calls a1 a2 true _ A4.out).mono ?_); rintro e w' ⟨rfl, ⟨nd, rfl⟩⟩; (try first | exact ⟨rfl, _, World.drewN_drewN _ _ _⟩ | exact ⟨rfl, _, Eq.trans (World.drewN_drewN _ _ _) (congrArg (World.drewN _) (Nat.add_assoc _ _ _))⟩)) | (go_at_call 90; (with_reducible refine (word_mask.calls a2 t288 _ A8.out).mono ?_); rintro e w' ⟨rfl, ⟨nd, rfl⟩⟩; (try first | exact ⟨rfl, _, World.drewN_drewN _ _ _⟩ | exact ⟨rfl, _, Eq.trans (World.drewN_drewN _ _ _) (congrArg (World.drewN _) (Nat.add_assoc _ _ _))⟩)))
   repeat (go_quiet (first | (go_at_call 89; (with_reducible refine (word_may.calls a1 a2 true _ A4.out).mono ?_); rintro e w' ⟨rfl, ⟨nd, rfl⟩⟩; (try first | exact ⟨rfl, _, World.drewN_drewN _ _ _⟩ | exact ⟨rfl, _, Eq.trans (World.drewN_drewN _ _ _) (congrArg (World.drewN _) (Nat.add_assoc _ _ _))⟩)) | (go_at_call 90; (with_reducible refine (word_mask.calls a2 t288 _ A8.out).mono ?_); rintro e w' ⟨rfl, ⟨nd, rfl⟩⟩; (try first | exact ⟨rfl, _, World.drewN_drewN _ _ _⟩ | exact ⟨rfl, _, Eq.trans (World.drewN_drewN _ _ _) (congrArg (World.drewN _) (Nat.add_assoc _ _ _))⟩))); try go_wp2_with (first | (go_at_call 89; (with_reducible refine (word_may.calls a1 a2 true _ A4.out).mono ?_); rintro e w' ⟨rfl, ⟨nd, rfl⟩⟩; (try first | exact ⟨rfl, _, World.drewN_drewN _ _ _⟩ | exact ⟨rfl, _, Eq.trans (World.drewN_drewN _ _ _) (congrArg (World.drewN _) (Nat.add_assoc _ _ _))⟩)) | (go_at_call 90; (with_reducible refine (word_mask.calls a2 t288 _ A8.out).mono ?_); rintro e w' ⟨rfl, ⟨nd, rfl⟩⟩; (try first | exact ⟨rfl, _, World.drewN_drewN _ _ _⟩ | exact ⟨rfl, _, Eq.trans (World.drewN_drewN _ _ _) (congrArg (World.drewN _) (Nat.add_assoc _ _ _))⟩))))
   go_ret2
   exact ⟨by first | rfl | (simp; done) | (simp only [← hji7] <;> (first | rfl | simp)) | (simp [*]; done), fd⟩
  ·rw [if_neg c6] at H
   exact absurd H (by simp)
 ·replace c5 := Bool.eq_false_iff.mpr c5
  subst c5
  have H1 : (some (0, 2)) = some (r1, r2) := by rw [if_neg (show ¬ (false = true) by decide)] at H; exact H
  clear H
  have H := H1
  clear H1
  simp only [Option.some.injEq, Prod.mk.injEq] at H
  obtain ⟨rfl, rfl⟩ := H
  go_enter Tryd.func86, Tryd.ntmps86
  go_wp2_with (first | (go_at_call 89; (with_reducible refine (word_may.calls a1 a2 false _ A4.out).mono ?_); rintro e w' ⟨rfl, ⟨nd, rfl⟩⟩; (try first | exact ⟨rfl, _, World.drewN_drewN _ _ _⟩ | exact ⟨rfl, _, Eq.trans (World.drewN_drewN _ _ _) (congrArg (World.drewN _) (Nat.add_assoc _ _ _))⟩)))
  repeat (go_quiet (first | (go_at_call 89; (with_reducible refine (word_may.calls a1 a2 false _ A4.out).mono ?_); rintro e w' ⟨rfl, ⟨nd, rfl⟩⟩; (try first | exact ⟨rfl, _, World.drewN_drewN _ _ _⟩ | exact ⟨rfl, _, Eq.trans (World.drewN_drewN _ _ _) (congrArg (World.drewN _) (Nat.add_assoc _ _ _))⟩))); try go_wp2_with (first | (go_at_call 89; (with_reducible refine (word_may.calls a1 a2 false _ A4.out).mono ?_); rintro e w' ⟨rfl, ⟨nd, rfl⟩⟩; (try first | exact ⟨rfl, _, World.drewN_drewN _ _ _⟩ | exact ⟨rfl, _, Eq.trans (World.drewN_drewN _ _ _) (congrArg (World.drewN _) (Nat.add_assoc _ _ _))⟩))))
  go_ret2
  exact ⟨fj, fd⟩

/-! ### dec_field: function 52 -/
def dec_field.f (a0 : Int) (a1 : Int) (a2 : Int) : Option (Int) := (word_Get.f a0 a1 a2).bind fun bt289 => (some (wrap64 (bt289.1)))
set_option maxHeartbeats 8000000 in
set_option maxRecDepth 100000 in
theorem dec_field.calls (a0 : Int) (a1 : Int) (a2 : Int) (r : Int) (w : World) (h : dec_field.f a0 a1 a2 = some r) :
  Calls Tryd.prog 52 #[.int .u32 a0, .int .i64 a1, .int .i64 a2] w fun e w' => e = .returned (.int .i64 r) ∧ Drawn0 w w' := by
 have H : ((word_Get.f a0 a1 a2).bind fun bt289 => (some (wrap64 (bt289.1)))) = some r := h
 clear h
 replace H := be H
 obtain ⟨⟨t289, t290⟩, A4, H⟩ := H
 dsimp only at H
 obtain rfl := Option.some.inj H
 go_enter Tryd.func52, Tryd.ntmps52
 go_wp2_with (first | ((with_reducible refine gate_callee (f := 86) rfl ?_); refine goesL_ (some 13) rfl rfl Tryd.func86 (by kernel_rfl) rfl #[.int .u32 a0, .int .i64 a1, .int .i64 a2] rfl ga ?_; (with_reducible refine (word_Get.calls a0 a1 a2 t289 t290 _ A4.out).mono ?_); rintro e w' ⟨rfl, ⟨nd, rfl⟩⟩; refine ⟨_, rfl, ?_⟩))
 go_ret
 exact ⟨fj, fd⟩

/-! ### word_Sign: function 92 -/
def word_Sign.f (a0 : Int) (a1 : Int) : Option (Int × Int) := (word_may.f 0 a1).bind fun t291 => (if t291 = true then (if 0 ≤ (wrap64 (64 - a1)) then (some (shr .i64 (wrap64 (shl .u64 (IntKind.u64.wrap (a0)) (wrap64 (64 - a1)))) (wrap64 (64 - a1)), 0)) else (none)) else (some (0, 2)))
set_option maxHeartbeats 8000000 in
set_option maxRecDepth 100000 in
theorem word_Sign.calls (a0 : Int) (a1 : Int) (r1 : Int) (r2 : Int) (w : World) (h : word_Sign.f a0 a1 = some (r1, r2)) :
  Calls Tryd.prog 92 #[.int .u32 a0, .int .i64 a1] w fun e w' => e = .returned (.tuple #[.int .i64 r1, .int .i64 r2]) ∧ Drawn0 w w' := by
 have H : ((word_may.f 0 a1).bind fun t291 => (if t291 = true then (if 0 ≤ (wrap64 (64 - a1)) then (some (shr .i64 (wrap64 (shl .u64 (IntKind.u64.wrap (a0)) (wrap64 (64 - a1)))) (wrap64 (64 - a1)), 0)) else (none)) else (some (0, 2)))) = some (r1, r2) := h
 clear h
 replace H := be H
 obtain ⟨t291, A3, H⟩ := H
 by_cases c4 : t291 = true
 ·subst c4
  have H1 : (if 0 ≤ (wrap64 (64 - a1)) then (some (shr .i64 (wrap64 (shl .u64 (IntKind.u64.wrap (a0)) (wrap64 (64 - a1)))) (wrap64 (64 - a1)), 0)) else (none)) = some (r1, r2) := by rw [if_pos rfl] at H; exact H
  clear H
  have H := H1
  clear H1
  obtain ⟨ji5, hji5⟩ : ∃ j_ : Int, (wrap64 (64 - a1)) = j_ := ⟨_, rfl⟩
  replace H : (if 0 ≤ (ji5) then (some (shr .i64 (wrap64 (shl .u64 (IntKind.u64.wrap (a0)) (ji5))) (ji5), 0)) else (none)) = some (r1, r2) := by first | (rw [hji5] at H; exact H) | (simp only [hji5] at H ⊢; exact H)
  (try rw [hji5] at A3)
  have hji5w : (IntKind.i64.wrap (64 - a1)) = ji5 := (i64_w _).trans hji5
  by_cases c6 : 0 ≤ (ji5)
  ·rw [if_pos c6] at H
   have c6b0 := eq_true c6
   have c6b1 : decide (0 ≤ (ji5)) = true := decide_eq_true c6
   clear c6
   obtain ⟨ji7, hji7⟩ : ∃ j_ : Int, (shl .u64 (IntKind.u64.wrap (a0)) (ji5)) = j_ := ⟨_, rfl⟩
   replace H : (some (shr .i64 (wrap64 (ji7)) (ji5), 0)) = some (r1, r2) := by first | (rw [hji7] at H; exact H) | (simp only [hji7] at H ⊢; exact H)
   (try rw [hji7] at A3)
   have hji7_ : (IntKind.u64.wrap ((IntKind.u64.wrap (a0)) * 2 ^ min (ji5).toNat 64)) = ji7 := hji7
   have hji7z : (ji5) ≤ 64 → (IntKind.u64.wrap ((IntKind.u64.wrap (a0)) * 2 ^ (ji5).toNat)) = ji7 := shl_small hji7
   have c8b0 := eq_true (of_decide_eq_true (by first | (with_reducible assumption) | assumption) : 0 ≤ (ji5))
   obtain ⟨ji9, hji9⟩ : ∃ j_ : Int, (shr .i64 (wrap64 (ji7)) (ji5)) = j_ := ⟨_, rfl⟩
   replace H : (some (ji9, 0)) = some (r1, r2) := by first | (rw [hji9] at H; exact H) | (simp only [hji9] at H ⊢; exact H)
   (try rw [hji9] at A3)
   have hji9_ : ((wrap64 (ji7)) / 2 ^ min (ji5).toNat 64) = ji9 := hji9
   have hji9z : (ji5) ≤ 64 → ((wrap64 (ji7)) / 2 ^ (ji5).toNat) = ji9 := shr_small hji9
   simp only [Option.some.injEq, Prod.mk.injEq] at H
   obtain ⟨rfl, rfl⟩ := H
   go_enter Tryd.func92, Tryd.ntmps92
   go_wp2_with (first | ((with_reducible refine gate_callee (f := 89) rfl ?_); refine goesL_ (some 8) rfl rfl Tryd.func89 (by kernel_rfl) rfl #[.int .i64 0, .int .i64 a1] rfl ga ?_; (with_reducible refine (word_may.calls 0 a1 true _ A3.out).mono ?_); rintro e w' ⟨rfl, ⟨nd, rfl⟩⟩; refine ⟨_, rfl, ?_⟩))
   go_ret2
   exact ⟨by first | rfl | (simp; done) | (simp only [← hji5, ← hji7, ← hji9] <;> (first | rfl | simp)) | (simp [*]; done), fd⟩
  ·rw [if_neg c6] at H
   exact absurd H (by simp)
 ·replace c4 := Bool.eq_false_iff.mpr c4
  subst c4
  have H1 : (some (0, 2)) = some (r1, r2) := by rw [if_neg (show ¬ (false = true) by decide)] at H; exact H
  clear H
  have H := H1
  clear H1
  simp only [Option.some.injEq, Prod.mk.injEq] at H
  obtain ⟨rfl, rfl⟩ := H
  go_enter Tryd.func92, Tryd.ntmps92
  go_wp2_with (first | ((with_reducible refine gate_callee (f := 89) rfl ?_); refine goesL_ (some 8) rfl rfl Tryd.func89 (by kernel_rfl) rfl #[.int .i64 0, .int .i64 a1] rfl ga ?_; (with_reducible refine (word_may.calls 0 a1 false _ A3.out).mono ?_); rintro e w' ⟨rfl, ⟨nd, rfl⟩⟩; refine ⟨_, rfl, ?_⟩))
  go_ret2
  exact ⟨fj, fd⟩

/-! ### dec_signed: function 85 -/
def dec_signed.f (a0 : Int) (a1 : Int) : Option (Int) := (word_Sign.f ((a0) % 4294967296) a1).bind fun bt292 => (some bt292.1)
set_option maxHeartbeats 8000000 in
set_option maxRecDepth 100000 in
theorem dec_signed.calls (a0 : Int) (a1 : Int) (r : Int) (w : World) (h : dec_signed.f a0 a1 = some r) :
  Calls Tryd.prog 85 #[.int .i64 a0, .int .i64 a1] w fun e w' => e = .returned (.int .i64 r) ∧ Drawn0 w w' := by
 have H : ((word_Sign.f ((a0) % 4294967296) a1).bind fun bt292 => (some bt292.1)) = some r := h
 clear h
 replace H := be H
 obtain ⟨⟨t292, t293⟩, A3, H⟩ := H
 dsimp only at H
 obtain rfl := Option.some.inj H
 go_enter Tryd.func85, Tryd.ntmps85
 go_wp2_with (first | ((with_reducible refine gate_callee (f := 92) rfl ?_); refine goesL_ (some 11) rfl rfl Tryd.func92 (by kernel_rfl) rfl #[.int .u32 ((a0) % 4294967296), .int .i64 a1] rfl ga ?_; (with_reducible refine (word_Sign.calls ((a0) % 4294967296) a1 t292 t293 _ A3.out).mono ?_); rintro e w' ⟨rfl, ⟨nd, rfl⟩⟩; refine ⟨_, rfl, ?_⟩))
 go_ret
 exact ⟨fj, fd⟩

/-! ### dec_immediate: function 51 (by hand) -/
def dec_immediate.f (a0 : Int) (a1 : Int) : Option (Int) := if a1 = 1 then ((dec_field.f a0 12 20).bind fun u0 => dec_signed.f (wrap64 u0) 20) else if a1 = 2 then ((dec_field.f a0 31 1).bind fun u0 => (dec_field.f a0 21 10).bind fun u1 => (dec_field.f a0 20 1).bind fun u2 => (dec_field.f a0 12 8).bind fun u3 => dec_signed.f (Go.bits .or .i64 (Go.bits .or .i64 (Go.bits .or .i64 (wrap64 (u0 * 1048576)) (wrap64 (u1 * 2))) (wrap64 (u2 * 2048))) (wrap64 (u3 * 4096))) 21) else if a1 = 3 then ((dec_field.f a0 20 12).bind fun u0 => dec_signed.f (wrap64 u0) 12) else if a1 = 4 then ((dec_field.f a0 31 1).bind fun u0 => (dec_field.f a0 25 6).bind fun u1 => (dec_field.f a0 8 4).bind fun u2 => (dec_field.f a0 7 1).bind fun u3 => dec_signed.f (Go.bits .or .i64 (Go.bits .or .i64 (Go.bits .or .i64 (wrap64 (u0 * 4096)) (wrap64 (u1 * 32))) (wrap64 (u2 * 2))) (wrap64 (u3 * 2048))) 13) else if a1 = 5 then ((dec_field.f a0 25 7).bind fun u0 => (dec_field.f a0 7 5).bind fun u1 => dec_signed.f (Go.bits .or .i64 (wrap64 (u0 * 32)) (wrap64 u1)) 12) else if a1 = 7 then ((dec_field.f a0 20 6).bind fun u0 => some (wrap64 u0)) else if a1 = 8 then ((dec_field.f a0 20 5).bind fun u0 => some (wrap64 u0)) else if a1 = 9 then ((dec_field.f a0 20 8).bind fun u0 => some (wrap64 u0)) else some 0
set_option maxHeartbeats 8000000 in
set_option maxRecDepth 100000 in
theorem imm_part (a0 at_ n_ up : Int) (h0 : 0 ≤ up) (h1 : up < 64) (p : Int) (hp : 2 ^ up.toNat = p) (t : Int) (g : Nat) (w : World) (hw : w.heap[g]? = some (.cells #[.int .u32 a0] 22 (0, 0))) (A2 : dec_field.f a0 at_ n_ = some t) :
  Calls Tryd.prog 84 #[.int .i64 at_, .int .i64 n_, .int .i64 up, .pointer (some ⟨g, 0, none⟩)] w fun e w' => e = .returned (.int .i64 (wrap64 (t * p))) ∧ Drawn0 w w' := by
 have A2 := Aside0.mk A2
 have hcz : w.cell? ⟨g, 0, none⟩ = some (.int .u32 a0) := (blk_cell hw 0).trans rfl
 have hfz := blk_frozen hw 0
 clear hw
 go_enter Tryd.func84, Tryd.ntmps84
 go_wp2_with (first | (go_at_call 52; (with_reducible refine (dec_field.calls a0 at_ n_ t _ A2.out).mono ?_); rintro e w' ⟨rfl, ⟨nd, rfl⟩⟩))
 go_ret
 subst hp
 exact ⟨fj, fd⟩
set_option maxHeartbeats 8000000 in
set_option maxRecDepth 100000 in
theorem imm_1 (a0 r : Int) (u0 : Int) (A0 : Aside0 (dec_field.f a0 12 20 = some u0)) (HS : Aside0 (dec_signed.f (wrap64 u0) 20 = some r)) (w : World) : Calls Tryd.prog 51 #[.int .u32 a0, .int .i64 1] w fun e w' => e = .returned (.int .i64 r) ∧ Below w.heap.size w w' := by
 have HB := Aside0.mk (Below.refl w.heap.size w)
 go_enter Tryd.func51, Tryd.ntmps51
 go_wp2_with (first | ((with_reducible refine gate_dst (N := 2) rfl ?_); refine box_event ?hg (N := 2) ?hd (cs := #[.int .u32 a0]) (t := 22) ?hr ?_; (case hd => rfl); (case hg => rfl); (case hr => first | (go_simp; done) | (go_simp; rfl)); intro gbp hg wbp hbox hb; have n0_ := Aside0.mk (below_step bl hb); have n1_ := Aside0.mk (hbox); have n2_ := Aside0.mk ((by rw [hg]; exact (below_size bl) : w.heap.size ≤ gbp)); clear HB; have HB := n0_; have BKp := n1_; have GEp := n2_; clear n0_ n1_ n2_; clear hb hbox hg; have hczp_0 : wbp.cell? ⟨gbp, 0, none⟩ = some (.int .u32 a0) := (blk_cell BKp.out 0).trans rfl; have hfzp_0 := blk_frozen BKp.out 0) | (go_at_call 84; (with_reducible refine (imm_part a0 12 20 0 (by decide) (by decide) 1 (by decide) u0 gbp _ (bk BKp.out) A0.out).mono ?_); rintro e w' ⟨rfl, ⟨nd, rfl⟩⟩) | (go_at_call 85; (with_reducible refine (dec_signed.calls (wrap64 u0) 20 r _ HS.out).mono ?_); rintro e w' ⟨rfl, ⟨nd, rfl⟩⟩))
 go_ret
 exact ⟨fj, bl⟩
set_option maxHeartbeats 8000000 in
set_option maxRecDepth 100000 in
theorem imm_2 (a0 r : Int) (u0 : Int) (A0 : Aside0 (dec_field.f a0 31 1 = some u0)) (u1 : Int) (A1 : Aside0 (dec_field.f a0 21 10 = some u1)) (u2 : Int) (A2 : Aside0 (dec_field.f a0 20 1 = some u2)) (u3 : Int) (A3 : Aside0 (dec_field.f a0 12 8 = some u3)) (HS : Aside0 (dec_signed.f (Go.bits .or .i64 (Go.bits .or .i64 (Go.bits .or .i64 (wrap64 (u0 * 1048576)) (wrap64 (u1 * 2))) (wrap64 (u2 * 2048))) (wrap64 (u3 * 4096))) 21 = some r)) (w : World) : Calls Tryd.prog 51 #[.int .u32 a0, .int .i64 2] w fun e w' => e = .returned (.int .i64 r) ∧ Below w.heap.size w w' := by
 have HB := Aside0.mk (Below.refl w.heap.size w)
 go_enter Tryd.func51, Tryd.ntmps51
 go_wp2_with (first | ((with_reducible refine gate_dst (N := 2) rfl ?_); refine box_event ?hg (N := 2) ?hd (cs := #[.int .u32 a0]) (t := 22) ?hr ?_; (case hd => rfl); (case hg => rfl); (case hr => first | (go_simp; done) | (go_simp; rfl)); intro gbp hg wbp hbox hb; have n0_ := Aside0.mk (below_step bl hb); have n1_ := Aside0.mk (hbox); have n2_ := Aside0.mk ((by rw [hg]; exact (below_size bl) : w.heap.size ≤ gbp)); clear HB; have HB := n0_; have BKp := n1_; have GEp := n2_; clear n0_ n1_ n2_; clear hb hbox hg; have hczp_0 : wbp.cell? ⟨gbp, 0, none⟩ = some (.int .u32 a0) := (blk_cell BKp.out 0).trans rfl; have hfzp_0 := blk_frozen BKp.out 0) | (go_at_call 84; (with_reducible refine (imm_part a0 31 1 20 (by decide) (by decide) 1048576 (by decide) u0 gbp _ (bk BKp.out) A0.out).mono ?_); rintro e w' ⟨rfl, ⟨nd, rfl⟩⟩) | (go_at_call 84; (with_reducible refine (imm_part a0 21 10 1 (by decide) (by decide) 2 (by decide) u1 gbp _ (bk BKp.out) A1.out).mono ?_); rintro e w' ⟨rfl, ⟨nd, rfl⟩⟩) | (go_at_call 84; (with_reducible refine (imm_part a0 20 1 11 (by decide) (by decide) 2048 (by decide) u2 gbp _ (bk BKp.out) A2.out).mono ?_); rintro e w' ⟨rfl, ⟨nd, rfl⟩⟩) | (go_at_call 84; (with_reducible refine (imm_part a0 12 8 12 (by decide) (by decide) 4096 (by decide) u3 gbp _ (bk BKp.out) A3.out).mono ?_); rintro e w' ⟨rfl, ⟨nd, rfl⟩⟩) | (go_at_call 85; (with_reducible refine (dec_signed.calls (Go.bits .or .i64 (Go.bits .or .i64 (Go.bits .or .i64 (wrap64 (u0 * 1048576)) (wrap64 (u1 * 2))) (wrap64 (u2 * 2048))) (wrap64 (u3 * 4096))) 21 r _ HS.out).mono ?_); rintro e w' ⟨rfl, ⟨nd, rfl⟩⟩))
 go_ret
 exact ⟨fj, bl⟩
set_option maxHeartbeats 8000000 in
set_option maxRecDepth 100000 in
theorem imm_3 (a0 r : Int) (u0 : Int) (A0 : Aside0 (dec_field.f a0 20 12 = some u0)) (HS : Aside0 (dec_signed.f (wrap64 u0) 12 = some r)) (w : World) : Calls Tryd.prog 51 #[.int .u32 a0, .int .i64 3] w fun e w' => e = .returned (.int .i64 r) ∧ Below w.heap.size w w' := by
 have HB := Aside0.mk (Below.refl w.heap.size w)
 go_enter Tryd.func51, Tryd.ntmps51
 go_wp2_with (first | ((with_reducible refine gate_dst (N := 2) rfl ?_); refine box_event ?hg (N := 2) ?hd (cs := #[.int .u32 a0]) (t := 22) ?hr ?_; (case hd => rfl); (case hg => rfl); (case hr => first | (go_simp; done) | (go_simp; rfl)); intro gbp hg wbp hbox hb; have n0_ := Aside0.mk (below_step bl hb); have n1_ := Aside0.mk (hbox); have n2_ := Aside0.mk ((by rw [hg]; exact (below_size bl) : w.heap.size ≤ gbp)); clear HB; have HB := n0_; have BKp := n1_; have GEp := n2_; clear n0_ n1_ n2_; clear hb hbox hg; have hczp_0 : wbp.cell? ⟨gbp, 0, none⟩ = some (.int .u32 a0) := (blk_cell BKp.out 0).trans rfl; have hfzp_0 := blk_frozen BKp.out 0) | (go_at_call 84; (with_reducible refine (imm_part a0 20 12 0 (by decide) (by decide) 1 (by decide) u0 gbp _ (bk BKp.out) A0.out).mono ?_); rintro e w' ⟨rfl, ⟨nd, rfl⟩⟩) | (go_at_call 85; (with_reducible refine (dec_signed.calls (wrap64 u0) 12 r _ HS.out).mono ?_); rintro e w' ⟨rfl, ⟨nd, rfl⟩⟩))
 go_ret
 exact ⟨fj, bl⟩
set_option maxHeartbeats 8000000 in
set_option maxRecDepth 100000 in
theorem imm_4 (a0 r : Int) (u0 : Int) (A0 : Aside0 (dec_field.f a0 31 1 = some u0)) (u1 : Int) (A1 : Aside0 (dec_field.f a0 25 6 = some u1)) (u2 : Int) (A2 : Aside0 (dec_field.f a0 8 4 = some u2)) (u3 : Int) (A3 : Aside0 (dec_field.f a0 7 1 = some u3)) (HS : Aside0 (dec_signed.f (Go.bits .or .i64 (Go.bits .or .i64 (Go.bits .or .i64 (wrap64 (u0 * 4096)) (wrap64 (u1 * 32))) (wrap64 (u2 * 2))) (wrap64 (u3 * 2048))) 13 = some r)) (w : World) : Calls Tryd.prog 51 #[.int .u32 a0, .int .i64 4] w fun e w' => e = .returned (.int .i64 r) ∧ Below w.heap.size w w' := by
 have HB := Aside0.mk (Below.refl w.heap.size w)
 go_enter Tryd.func51, Tryd.ntmps51
 go_wp2_with (first | ((with_reducible refine gate_dst (N := 2) rfl ?_); refine box_event ?hg (N := 2) ?hd (cs := #[.int .u32 a0]) (t := 22) ?hr ?_; (case hd => rfl); (case hg => rfl); (case hr => first | (go_simp; done) | (go_simp; rfl)); intro gbp hg wbp hbox hb; have n0_ := Aside0.mk (below_step bl hb); have n1_ := Aside0.mk (hbox); have n2_ := Aside0.mk ((by rw [hg]; exact (below_size bl) : w.heap.size ≤ gbp)); clear HB; have HB := n0_; have BKp := n1_; have GEp := n2_; clear n0_ n1_ n2_; clear hb hbox hg; have hczp_0 : wbp.cell? ⟨gbp, 0, none⟩ = some (.int .u32 a0) := (blk_cell BKp.out 0).trans rfl; have hfzp_0 := blk_frozen BKp.out 0) | (go_at_call 84; (with_reducible refine (imm_part a0 31 1 12 (by decide) (by decide) 4096 (by decide) u0 gbp _ (bk BKp.out) A0.out).mono ?_); rintro e w' ⟨rfl, ⟨nd, rfl⟩⟩) | (go_at_call 84; (with_reducible refine (imm_part a0 25 6 5 (by decide) (by decide) 32 (by decide) u1 gbp _ (bk BKp.out) A1.out).mono ?_); rintro e w' ⟨rfl, ⟨nd, rfl⟩⟩) | (go_at_call 84; (with_reducible refine (imm_part a0 8 4 1 (by decide) (by decide) 2 (by decide) u2 gbp _ (bk BKp.out) A2.out).mono ?_); rintro e w' ⟨rfl, ⟨nd, rfl⟩⟩) | (go_at_call 84; (with_reducible refine (imm_part a0 7 1 11 (by decide) (by decide) 2048 (by decide) u3 gbp _ (bk BKp.out) A3.out).mono ?_); rintro e w' ⟨rfl, ⟨nd, rfl⟩⟩) | (go_at_call 85; (with_reducible refine (dec_signed.calls (Go.bits .or .i64 (Go.bits .or .i64 (Go.bits .or .i64 (wrap64 (u0 * 4096)) (wrap64 (u1 * 32))) (wrap64 (u2 * 2))) (wrap64 (u3 * 2048))) 13 r _ HS.out).mono ?_); rintro e w' ⟨rfl, ⟨nd, rfl⟩⟩))
 go_ret
 exact ⟨fj, bl⟩
set_option maxHeartbeats 8000000 in
set_option maxRecDepth 100000 in
theorem imm_5 (a0 r : Int) (u0 : Int) (A0 : Aside0 (dec_field.f a0 25 7 = some u0)) (u1 : Int) (A1 : Aside0 (dec_field.f a0 7 5 = some u1)) (HS : Aside0 (dec_signed.f (Go.bits .or .i64 (wrap64 (u0 * 32)) (wrap64 u1)) 12 = some r)) (w : World) : Calls Tryd.prog 51 #[.int .u32 a0, .int .i64 5] w fun e w' => e = .returned (.int .i64 r) ∧ Below w.heap.size w w' := by
 have HB := Aside0.mk (Below.refl w.heap.size w)
 go_enter Tryd.func51, Tryd.ntmps51
 go_wp2_with (first | ((with_reducible refine gate_dst (N := 2) rfl ?_); refine box_event ?hg (N := 2) ?hd (cs := #[.int .u32 a0]) (t := 22) ?hr ?_; (case hd => rfl); (case hg => rfl); (case hr => first | (go_simp; done) | (go_simp; rfl)); intro gbp hg wbp hbox hb; have n0_ := Aside0.mk (below_step bl hb); have n1_ := Aside0.mk (hbox); have n2_ := Aside0.mk ((by rw [hg]; exact (below_size bl) : w.heap.size ≤ gbp)); clear HB; have HB := n0_; have BKp := n1_; have GEp := n2_; clear n0_ n1_ n2_; clear hb hbox hg; have hczp_0 : wbp.cell? ⟨gbp, 0, none⟩ = some (.int .u32 a0) := (blk_cell BKp.out 0).trans rfl; have hfzp_0 := blk_frozen BKp.out 0) | (go_at_call 84; (with_reducible refine (imm_part a0 25 7 5 (by decide) (by decide) 32 (by decide) u0 gbp _ (bk BKp.out) A0.out).mono ?_); rintro e w' ⟨rfl, ⟨nd, rfl⟩⟩) | (go_at_call 84; (with_reducible refine (imm_part a0 7 5 0 (by decide) (by decide) 1 (by decide) u1 gbp _ (bk BKp.out) A1.out).mono ?_); rintro e w' ⟨rfl, ⟨nd, rfl⟩⟩) | (go_at_call 85; (with_reducible refine (dec_signed.calls (Go.bits .or .i64 (wrap64 (u0 * 32)) (wrap64 u1)) 12 r _ HS.out).mono ?_); rintro e w' ⟨rfl, ⟨nd, rfl⟩⟩))
 go_ret
 exact ⟨fj, bl⟩
set_option maxHeartbeats 8000000 in
set_option maxRecDepth 100000 in
theorem imm_7 (a0 r : Int) (u0 : Int) (A0 : Aside0 (dec_field.f a0 20 6 = some u0)) (HS : Aside0 (wrap64 u0 = r)) (w : World) : Calls Tryd.prog 51 #[.int .u32 a0, .int .i64 7] w fun e w' => e = .returned (.int .i64 r) ∧ Below w.heap.size w w' := by
 have HB := Aside0.mk (Below.refl w.heap.size w)
 obtain rfl := HS.out
 go_enter Tryd.func51, Tryd.ntmps51
 go_wp2_with (first | ((with_reducible refine gate_dst (N := 2) rfl ?_); refine box_event ?hg (N := 2) ?hd (cs := #[.int .u32 a0]) (t := 22) ?hr ?_; (case hd => rfl); (case hg => rfl); (case hr => first | (go_simp; done) | (go_simp; rfl)); intro gbp hg wbp hbox hb; have n0_ := Aside0.mk (below_step bl hb); have n1_ := Aside0.mk (hbox); have n2_ := Aside0.mk ((by rw [hg]; exact (below_size bl) : w.heap.size ≤ gbp)); clear HB; have HB := n0_; have BKp := n1_; have GEp := n2_; clear n0_ n1_ n2_; clear hb hbox hg; have hczp_0 : wbp.cell? ⟨gbp, 0, none⟩ = some (.int .u32 a0) := (blk_cell BKp.out 0).trans rfl; have hfzp_0 := blk_frozen BKp.out 0) | (go_at_call 84; (with_reducible refine (imm_part a0 20 6 0 (by decide) (by decide) 1 (by decide) u0 gbp _ (bk BKp.out) A0.out).mono ?_); rintro e w' ⟨rfl, ⟨nd, rfl⟩⟩))
 go_ret
 exact ⟨fj, bl⟩
set_option maxHeartbeats 8000000 in
set_option maxRecDepth 100000 in
theorem imm_8 (a0 r : Int) (u0 : Int) (A0 : Aside0 (dec_field.f a0 20 5 = some u0)) (HS : Aside0 (wrap64 u0 = r)) (w : World) : Calls Tryd.prog 51 #[.int .u32 a0, .int .i64 8] w fun e w' => e = .returned (.int .i64 r) ∧ Below w.heap.size w w' := by
 have HB := Aside0.mk (Below.refl w.heap.size w)
 obtain rfl := HS.out
 go_enter Tryd.func51, Tryd.ntmps51
 go_wp2_with (first | ((with_reducible refine gate_dst (N := 2) rfl ?_); refine box_event ?hg (N := 2) ?hd (cs := #[.int .u32 a0]) (t := 22) ?hr ?_; (case hd => rfl); (case hg => rfl); (case hr => first | (go_simp; done) | (go_simp; rfl)); intro gbp hg wbp hbox hb; have n0_ := Aside0.mk (below_step bl hb); have n1_ := Aside0.mk (hbox); have n2_ := Aside0.mk ((by rw [hg]; exact (below_size bl) : w.heap.size ≤ gbp)); clear HB; have HB := n0_; have BKp := n1_; have GEp := n2_; clear n0_ n1_ n2_; clear hb hbox hg; have hczp_0 : wbp.cell? ⟨gbp, 0, none⟩ = some (.int .u32 a0) := (blk_cell BKp.out 0).trans rfl; have hfzp_0 := blk_frozen BKp.out 0) | (go_at_call 84; (with_reducible refine (imm_part a0 20 5 0 (by decide) (by decide) 1 (by decide) u0 gbp _ (bk BKp.out) A0.out).mono ?_); rintro e w' ⟨rfl, ⟨nd, rfl⟩⟩))
 go_ret
 exact ⟨fj, bl⟩
set_option maxHeartbeats 8000000 in
set_option maxRecDepth 100000 in
theorem imm_9 (a0 r : Int) (u0 : Int) (A0 : Aside0 (dec_field.f a0 20 8 = some u0)) (HS : Aside0 (wrap64 u0 = r)) (w : World) : Calls Tryd.prog 51 #[.int .u32 a0, .int .i64 9] w fun e w' => e = .returned (.int .i64 r) ∧ Below w.heap.size w w' := by
 have HB := Aside0.mk (Below.refl w.heap.size w)
 obtain rfl := HS.out
 go_enter Tryd.func51, Tryd.ntmps51
 go_wp2_with (first | ((with_reducible refine gate_dst (N := 2) rfl ?_); refine box_event ?hg (N := 2) ?hd (cs := #[.int .u32 a0]) (t := 22) ?hr ?_; (case hd => rfl); (case hg => rfl); (case hr => first | (go_simp; done) | (go_simp; rfl)); intro gbp hg wbp hbox hb; have n0_ := Aside0.mk (below_step bl hb); have n1_ := Aside0.mk (hbox); have n2_ := Aside0.mk ((by rw [hg]; exact (below_size bl) : w.heap.size ≤ gbp)); clear HB; have HB := n0_; have BKp := n1_; have GEp := n2_; clear n0_ n1_ n2_; clear hb hbox hg; have hczp_0 : wbp.cell? ⟨gbp, 0, none⟩ = some (.int .u32 a0) := (blk_cell BKp.out 0).trans rfl; have hfzp_0 := blk_frozen BKp.out 0) | (go_at_call 84; (with_reducible refine (imm_part a0 20 8 0 (by decide) (by decide) 1 (by decide) u0 gbp _ (bk BKp.out) A0.out).mono ?_); rintro e w' ⟨rfl, ⟨nd, rfl⟩⟩))
 go_ret
 exact ⟨fj, bl⟩
set_option maxHeartbeats 8000000 in
set_option maxRecDepth 100000 in
theorem imm_no (a0 a1 : Int) (h : a1 ≠ 1 ∧ a1 ≠ 2 ∧ a1 ≠ 3 ∧ a1 ≠ 4 ∧ a1 ≠ 5 ∧ a1 ≠ 7 ∧ a1 ≠ 8 ∧ a1 ≠ 9) (w : World) : Calls Tryd.prog 51 #[.int .u32 a0, .int .i64 a1] w fun e w' => e = .returned (.int .i64 0) ∧ Below w.heap.size w w' := by
 have q10 : (a1 == 1) = false := by simp; omega
 have q20 : (a1 == 2) = false := by simp; omega
 have q30 : (a1 == 3) = false := by simp; omega
 have q40 : (a1 == 4) = false := by simp; omega
 have q50 : (a1 == 5) = false := by simp; omega
 have q70 : (a1 == 7) = false := by simp; omega
 have q80 : (a1 == 8) = false := by simp; omega
 have q90 : (a1 == 9) = false := by simp; omega
 clear h
 have HB := Aside0.mk (Below.refl w.heap.size w)
 go_enter Tryd.func51, Tryd.ntmps51
 go_wp2_with (first | ((with_reducible refine gate_dst (N := 2) rfl ?_); refine box_event ?hg (N := 2) ?hd (cs := #[.int .u32 a0]) (t := 22) ?hr ?_; (case hd => rfl); (case hg => rfl); (case hr => first | (go_simp; done) | (go_simp; rfl)); intro gbp hg wbp hbox hb; have n0_ := Aside0.mk (below_step bl hb); have n1_ := Aside0.mk (hbox); have n2_ := Aside0.mk ((by rw [hg]; exact (below_size bl) : w.heap.size ≤ gbp)); clear HB; have HB := n0_; have BKp := n1_; have GEp := n2_; clear n0_ n1_ n2_; clear hb hbox hg; have hczp_0 : wbp.cell? ⟨gbp, 0, none⟩ = some (.int .u32 a0) := (blk_cell BKp.out 0).trans rfl; have hfzp_0 := blk_frozen BKp.out 0))
 go_ret
 exact ⟨fj, bl⟩
theorem dec_immediate.calls (a0 : Int) (a1 : Int) (r : Int) (w : World) (h : dec_immediate.f a0 a1 = some r) :
  Calls Tryd.prog 51 #[.int .u32 a0, .int .i64 a1] w fun e w' => e = .returned (.int .i64 r) ∧ Below w.heap.size w w' := by
 unfold dec_immediate.f at h
 by_cases e1 : a1 = 1
 ·rw [if_pos e1] at h
  subst e1
  obtain ⟨u0, A0, h⟩ := Option.bind_eq_some_iff.mp h
  exact imm_1 a0 r u0 (Aside0.mk A0) (Aside0.mk h) w
 rw [if_neg e1] at h
 by_cases e2 : a1 = 2
 ·rw [if_pos e2] at h
  subst e2
  obtain ⟨u0, A0, h⟩ := Option.bind_eq_some_iff.mp h
  obtain ⟨u1, A1, h⟩ := Option.bind_eq_some_iff.mp h
  obtain ⟨u2, A2, h⟩ := Option.bind_eq_some_iff.mp h
  obtain ⟨u3, A3, h⟩ := Option.bind_eq_some_iff.mp h
  exact imm_2 a0 r u0 (Aside0.mk A0) u1 (Aside0.mk A1) u2 (Aside0.mk A2) u3 (Aside0.mk A3) (Aside0.mk h) w
 rw [if_neg e2] at h
 by_cases e3 : a1 = 3
 ·rw [if_pos e3] at h
  subst e3
  obtain ⟨u0, A0, h⟩ := Option.bind_eq_some_iff.mp h
  exact imm_3 a0 r u0 (Aside0.mk A0) (Aside0.mk h) w
 rw [if_neg e3] at h
 by_cases e4 : a1 = 4
 ·rw [if_pos e4] at h
  subst e4
  obtain ⟨u0, A0, h⟩ := Option.bind_eq_some_iff.mp h
  obtain ⟨u1, A1, h⟩ := Option.bind_eq_some_iff.mp h
  obtain ⟨u2, A2, h⟩ := Option.bind_eq_some_iff.mp h
  obtain ⟨u3, A3, h⟩ := Option.bind_eq_some_iff.mp h
  exact imm_4 a0 r u0 (Aside0.mk A0) u1 (Aside0.mk A1) u2 (Aside0.mk A2) u3 (Aside0.mk A3) (Aside0.mk h) w
 rw [if_neg e4] at h
 by_cases e5 : a1 = 5
 ·rw [if_pos e5] at h
  subst e5
  obtain ⟨u0, A0, h⟩ := Option.bind_eq_some_iff.mp h
  obtain ⟨u1, A1, h⟩ := Option.bind_eq_some_iff.mp h
  exact imm_5 a0 r u0 (Aside0.mk A0) u1 (Aside0.mk A1) (Aside0.mk h) w
 rw [if_neg e5] at h
 by_cases e7 : a1 = 7
 ·rw [if_pos e7] at h
  subst e7
  obtain ⟨u0, A0, h⟩ := Option.bind_eq_some_iff.mp h
  replace h := Option.some.inj h
  exact imm_7 a0 r u0 (Aside0.mk A0) (Aside0.mk h) w
 rw [if_neg e7] at h
 by_cases e8 : a1 = 8
 ·rw [if_pos e8] at h
  subst e8
  obtain ⟨u0, A0, h⟩ := Option.bind_eq_some_iff.mp h
  replace h := Option.some.inj h
  exact imm_8 a0 r u0 (Aside0.mk A0) (Aside0.mk h) w
 rw [if_neg e8] at h
 by_cases e9 : a1 = 9
 ·rw [if_pos e9] at h
  subst e9
  obtain ⟨u0, A0, h⟩ := Option.bind_eq_some_iff.mp h
  replace h := Option.some.inj h
  exact imm_9 a0 r u0 (Aside0.mk A0) (Aside0.mk h) w
 rw [if_neg e9] at h
 obtain rfl := Option.some.inj h
 exact imm_no a0 a1 ⟨e1, e2, e3, e4, e5, e7, e8, e9⟩ w

end Go.Proofs.YtffehgfjjagibaaDoor.GImagePlaces
