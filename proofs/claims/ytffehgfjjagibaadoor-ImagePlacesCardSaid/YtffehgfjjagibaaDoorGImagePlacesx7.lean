-- Written by wip/stub.py of this repo.
import Derived.Test.YtffehgfjjagibaaDoorGImagePlacesx0
import Derived.Test.YtffehgfjjagibaaDoorGImagePlacesx4
import Derived.Test.YtffehgfjjagibaaDoorGImagePlacesx6
namespace Go.Proofs.YtffehgfjjagibaaDoor.GImagePlaces
open Go.RowKit Go.Proofs.YtffehgfjjagibaaDoorW.PrintWords Go.Proofs.YtffehgfjjagibaaDoorW.PrintLast Go.Proofs.YtffehgfjjagibaaDoorW.PrintMore
attribute [local go_sem] max2_int min2_int max_two min_two max_three min_three max_four min_four   -- for this text's walks alone
set_option linter.unusedVariables false
set_option linter.unusedSimpArgs false

/-! ### enc_immediate: function 42 -/
def enc_immediate.j0 : Nat → Bool → Int → Int → Int → Int → Int → Bool → Bool → Option ((List (S65)))
  | 0, _, _, _, _, _, _, _, _ => none
  | k + 1, x74, x223000, x223001, x223002, x223003, x223004, x223005, x223006 => if x74 = true then ((enc_bit.f x223005).bind fun t248 => ((enc_bit.f x223006).bind fun t249 => (some (([(⟨t248, 26, 1⟩ : S65), (⟨t249, 25, 1⟩ : S65)] : List (S65)))))) else (if x223000 = 65 then (some (([(⟨1, 20, 1⟩ : S65)] : List (S65)))) else (some ([] : List (S65))))
def enc_immediate.f (k : Nat) (a0_0 : Int) (a0_1 : Int) (a0_2 : Int) (a0_3 : Int) (a0_4 : Int) (a0_5 : Bool) (a0_6 : Bool) : Option ((List (S65))) := (isa_Form.f k a0_0).bind fun t223 => (if t223 = 1 then (some (([(⟨(IntKind.u64.wrap (a0_4)) % 4294967296, 12, 20⟩ : S65)] : List (S65)))) else (if t223 = 2 then (some (([(⟨((IntKind.u64.wrap (a0_4)) % 4294967296) / 1048576, 31, 1⟩ : S65), (⟨((IntKind.u64.wrap (a0_4)) % 4294967296) / 2, 21, 10⟩ : S65), (⟨((IntKind.u64.wrap (a0_4)) % 4294967296) / 2048, 20, 1⟩ : S65), (⟨((IntKind.u64.wrap (a0_4)) % 4294967296) / 4096, 12, 8⟩ : S65)] : List (S65)))) else (if t223 = 3 then (some (([(⟨(IntKind.u64.wrap (a0_4)) % 4294967296, 20, 12⟩ : S65)] : List (S65)))) else (if t223 = 4 then (some (([(⟨((IntKind.u64.wrap (a0_4)) % 4294967296) / 4096, 31, 1⟩ : S65), (⟨((IntKind.u64.wrap (a0_4)) % 4294967296) / 32, 25, 6⟩ : S65), (⟨((IntKind.u64.wrap (a0_4)) % 4294967296) / 2, 8, 4⟩ : S65), (⟨((IntKind.u64.wrap (a0_4)) % 4294967296) / 2048, 7, 1⟩ : S65)] : List (S65)))) else (if t223 = 5 then (some (([(⟨((IntKind.u64.wrap (a0_4)) % 4294967296) / 32, 25, 7⟩ : S65), (⟨(IntKind.u64.wrap (a0_4)) % 4294967296, 7, 5⟩ : S65)] : List (S65)))) else (if t223 = 7 then (some (([(⟨(IntKind.u64.wrap (a0_4)) % 4294967296, 20, 6⟩ : S65)] : List (S65)))) else (if t223 = 8 then (some (([(⟨(IntKind.u64.wrap (a0_4)) % 4294967296, 20, 5⟩ : S65)] : List (S65)))) else (if t223 = 9 then (some (([(⟨(IntKind.u64.wrap (a0_4)) % 4294967296, 20, 8⟩ : S65)] : List (S65)))) else (if t223 = 10 then (enc_immediate.j0 k (t223 == 10) a0_0 a0_1 a0_2 a0_3 a0_4 a0_5 a0_6) else (enc_immediate.j0 k (t223 == 11) a0_0 a0_1 a0_2 a0_3 a0_4 a0_5 a0_6))))))))))
theorem enc_immediate.mono_l : ∀ k, (∀ y0 y1 y2 y3 y4 y5 y6 y7, LeO (enc_immediate.j0 k y0 y1 y2 y3 y4 y5 y6 y7) (enc_immediate.j0 (k + 1) y0 y1 y2 y3 y4 y5 y6 y7))
 | 0 => fun _ _ _ _ _ _ _ _ r h => by simp [enc_immediate.j0] at h
 | k + 1 => by
  have ih0 := enc_immediate.mono_l k
  ·intro y0 y1 y2 y3 y4 y5 y6 y7
   unfold enc_immediate.j0
   repeat' first | (with_reducible first | exact ih0 _ _ _ _ _ _ _ _ | exact isa_Form.mono _ _ | exact LeO.refl _ | exact LeO.none _ | refine LeO.ite ?_ ?_ | refine LeO.bind ?_ (fun _ => ?_)) | exact ih0 _ _ _ _ _ _ _ _ | exact isa_Form.mono _ _ | exact LeO.none _ | refine LeO.ite ?_ ?_ | refine LeO.bind ?_ (fun _ => ?_)
theorem enc_immediate.mono : ∀ a0 a1 a2 a3 a4 a5 a6 k, LeO (enc_immediate.f k a0 a1 a2 a3 a4 a5 a6) (enc_immediate.f (k + 1) a0 a1 a2 a3 a4 a5 a6) := by
 intro a0 a1 a2 a3 a4 a5 a6 k
 have ih0 := enc_immediate.mono_l k
 unfold enc_immediate.f
 repeat' first | (with_reducible first | exact ih0 _ _ _ _ _ _ _ _ | exact isa_Form.mono _ _ | exact LeO.refl _ | exact LeO.none _ | refine LeO.ite ?_ ?_ | refine LeO.bind ?_ (fun _ => ?_)) | exact ih0 _ _ _ _ _ _ _ _ | exact isa_Form.mono _ _ | exact LeO.none _ | refine LeO.ite ?_ ?_ | refine LeO.bind ?_ (fun _ => ?_)
def enc_immediate.T21 : Bool × List (List Nat × List Nat) := (true, [([], []), ([0], [0]), ([1], [1]), ([2], [2]), ([], []), ([4], [4]), ([5, 2], [5]), ([6], [6]), ([3, 7], [3, 7]), ([8, 6, 0, 1, 2, 3, 4, 5, 6, 7, 8], [8])])
def enc_immediate.B21 : List Nat := [0, 1, 3, 7, 0, 16, 55, 119, 255, 511]
theorem enc_immediate.tab21 : rtab .any (opsOf Tryd.f42 21) = enc_immediate.T21 := by kernel_rfl
theorem enc_immediate.bits21 : waitsOk enc_immediate.T21.2 enc_immediate.B21 = true := by kernel_rfl
set_option maxHeartbeats 8000000 in
set_option maxRecDepth 100000 in
theorem enc_immediate.calls (k : Nat) (a0_0 : Int) (a0_1 : Int) (a0_2 : Int) (a0_3 : Int) (a0_4 : Int) (a0_5 : Bool) (a0_6 : Bool) (r : List (S65)) (w : World) (hL : Laid w) (h : enc_immediate.f k a0_0 a0_1 a0_2 a0_3 a0_4 a0_5 a0_6 = some r) :
  Calls Tryd.prog 42 #[.agg #[.int .i64 a0_0, .int .i64 a0_1, .int .i64 a0_2, .int .i64 a0_3, .int .i64 a0_4, .bool a0_5, .bool a0_6]] w fun e w' => ∃ v0_ : Value, e = .returned (v0_) ∧ Kd.R k65 65 w' w.heap.size (fun _ => True) v0_ r ∧ Below w.heap.size w w' := by
 have HL := Aside0.mk hL
 clear hL
 have hu24 := Tryd.underlying24
 have hu65 := Tryd.underlying65
 have HB := Aside0.mk (Below.refl w.heap.size w)
 have H : ((isa_Form.f k a0_0).bind fun t223 => (if t223 = 1 then (some (([(⟨(IntKind.u64.wrap (a0_4)) % 4294967296, 12, 20⟩ : S65)] : List (S65)))) else (if t223 = 2 then (some (([(⟨((IntKind.u64.wrap (a0_4)) % 4294967296) / 1048576, 31, 1⟩ : S65), (⟨((IntKind.u64.wrap (a0_4)) % 4294967296) / 2, 21, 10⟩ : S65), (⟨((IntKind.u64.wrap (a0_4)) % 4294967296) / 2048, 20, 1⟩ : S65), (⟨((IntKind.u64.wrap (a0_4)) % 4294967296) / 4096, 12, 8⟩ : S65)] : List (S65)))) else (if t223 = 3 then (some (([(⟨(IntKind.u64.wrap (a0_4)) % 4294967296, 20, 12⟩ : S65)] : List (S65)))) else (if t223 = 4 then (some (([(⟨((IntKind.u64.wrap (a0_4)) % 4294967296) / 4096, 31, 1⟩ : S65), (⟨((IntKind.u64.wrap (a0_4)) % 4294967296) / 32, 25, 6⟩ : S65), (⟨((IntKind.u64.wrap (a0_4)) % 4294967296) / 2, 8, 4⟩ : S65), (⟨((IntKind.u64.wrap (a0_4)) % 4294967296) / 2048, 7, 1⟩ : S65)] : List (S65)))) else (if t223 = 5 then (some (([(⟨((IntKind.u64.wrap (a0_4)) % 4294967296) / 32, 25, 7⟩ : S65), (⟨(IntKind.u64.wrap (a0_4)) % 4294967296, 7, 5⟩ : S65)] : List (S65)))) else (if t223 = 7 then (some (([(⟨(IntKind.u64.wrap (a0_4)) % 4294967296, 20, 6⟩ : S65)] : List (S65)))) else (if t223 = 8 then (some (([(⟨(IntKind.u64.wrap (a0_4)) % 4294967296, 20, 5⟩ : S65)] : List (S65)))) else (if t223 = 9 then (some (([(⟨(IntKind.u64.wrap (a0_4)) % 4294967296, 20, 8⟩ : S65)] : List (S65)))) else (if t223 = 10 then (enc_immediate.j0 k (t223 == 10) a0_0 a0_1 a0_2 a0_3 a0_4 a0_5 a0_6) else (enc_immediate.j0 k (t223 == 11) a0_0 a0_1 a0_2 a0_3 a0_4 a0_5 a0_6))))))))))) = some r := h
 clear h
 replace H := be H
 obtain ⟨t223, A2, H⟩ := H
 by_cases c3 : t223 = 1
 ·rw [if_pos c3] at H
  obtain ⟨c3b0, c3b1⟩ := eqs c3
  clear c3
  obtain ⟨y224, hy224⟩ : ∃ y_ : List (S65), y_ = (([(⟨(IntKind.u64.wrap (a0_4)) % 4294967296, 12, 20⟩ : S65)] : List (S65))) := ⟨_, rfl⟩
  replace H : (some y224) = some r := by first | (rw [hy224]; with_reducible exact H) | (have H2_ := (Option.bind_some _ _).symm.trans H; rw [hy224]; with_reducible exact H2_) | (have H2_ := (Option.bind_some _ _).symm.trans H; with_reducible exact H2_) | with_reducible exact H | (rw [hy224]; exact H) | exact H
  have Ny224 := Aside0.mk hy224
  clear hy224
  obtain rfl := Option.some.inj H
  go_enter Tryd.func42, Tryd.ntmps42
  go_wp2_with (first | ((with_reducible refine gate_dst (N := 1) rfl ?_); refine box_event ?hg (N := 1) ?hd (cs := #[.int .i64 a0_0, .int .i64 a0_1, .int .i64 a0_2, .int .i64 a0_3, .int .i64 a0_4, .bool a0_5, .bool a0_6]) (t := 24) ?hr ?_; (case hd => rfl); (case hg => rfl); (case hr => first | (go_simp; done) | (go_simp; rfl)); intro gb222 hg w4 hbox hb; obtain ⟨n0_, GW222⟩ := nb (w := w) hg hb; clear HB; have HB := n0_; have BK222 := Aside0.mk hbox; have GE222 := GW222; clear n0_ hb hbox hg; obtain ⟨hcz5_0, hcz5_1, hcz5_2, hcz5_3, hcz5_4, hcz5_5, hcz5_6, hfz5_0, hfz5_1, hfz5_2, hfz5_3, hfz5_4, hfz5_5, hfz5_6⟩ := cz7 (w := w4) BK222.out) | ((with_reducible refine gate_callee (f := 40) rfl ?_); refine goesL_ (some 10) rfl rfl Tryd.func40 (by kernel_rfl) rfl #[.int .i64 a0_0] rfl ga ?_; (with_reducible refine (isa_Form.calls k a0_0 t223 _ (by first | exact HL.out | exact laid_drewN HL.out | exact laid_below HL.out bl | exact laid_below HL.out HB.out | exact laid_belowd HL.out HB.out) A2.out).mono ?_); rintro e w' ⟨rfl, ⟨nd, rfl⟩⟩; refine ⟨_, rfl, ?_⟩) | ((with_reducible refine gate_dst (N := 15) rfl ?_); refine Kd.R_lit k65 _ 65 ?hg (N := 15) ?hd (xs := ([(⟨(IntKind.u64.wrap (a0_4)) % 4294967296, 12, 20⟩ : S65)] : List (S65))) (inner := [.int .u32 ((IntKind.u64.wrap (a0_4)) % 4294967296), .int .i64 12, .int .i64 20]) (ok := fun _ => True) (okp := fun _ => True) ?hr ?hp (fun _ hk => hk) trivial (Below.refl _ _) (Nat.le_refl _) (by simp) ?_; (case hd => rfl); (case hg => rfl); (case hr => first | (go_simp; done) | (go_simp; rfl)); (case hp => exact (Reps.c3 (show Kd.M k65 _ _ _ (⟨(IntKind.u64.wrap (a0_4)) % 4294967296, 12, 20⟩ : S65) [.int .u32 ((IntKind.u64.wrap (a0_4)) % 4294967296), .int .i64 12, .int .i64 20] from (k65_mkM _ _ _ (⟨(IntKind.u64.wrap (a0_4)) % 4294967296, 12, 20⟩ : S65) )) (Reps.none _ _))); intro v225 w6 ho7 hb hg_ hnew_; clear hg_ hnew_; (first | rw [← Ny224.out] at ho7 | (simp only [Int.reduceToNat] at ho7; rw [← Ny224.out] at ho7)); have n0_ := Aside0.mk (Kd.R_lower ho7 (below_size bl)); have n1_ := Aside0.mk (blk_below (g := gb222) (o := .cells #[.int .i64 a0_0, .int .i64 a0_1, .int .i64 a0_2, .int .i64 a0_3, .int .i64 a0_4, .bool a0_5, .bool a0_6] 24 (0, 0)) (bk BK222.out) hb); have n2_ := Aside0.mk (below_step bl hb); clear BK222; clear HB; have HO226 := n0_; have BK222 := n1_; have HB := n2_; clear n0_ n1_ n2_; clear hb ho7))
  go_ret
  exact ⟨_, fi, by (with_reducible repeat (first | apply Kd.R_alloc | apply Kd.R_drewN | apply Kd.R_drew)); exact HO226.out, bl⟩
 ·rw [if_neg c3] at H
  have c3b0 : (t223 == 1) = false := beq_eq_false_iff_ne.mpr c3
  have c3b1 : (t223 != 1) = true := bne_iff_ne.mpr c3
  by_cases c8 : t223 = 2
  ·rw [if_pos c8] at H
   obtain ⟨c8b0, c8b1⟩ := eqs c8
   clear c8
   obtain ⟨y227, hy227⟩ : ∃ y_ : List (S65), y_ = (([(⟨((IntKind.u64.wrap (a0_4)) % 4294967296) / 1048576, 31, 1⟩ : S65), (⟨((IntKind.u64.wrap (a0_4)) % 4294967296) / 2, 21, 10⟩ : S65), (⟨((IntKind.u64.wrap (a0_4)) % 4294967296) / 2048, 20, 1⟩ : S65), (⟨((IntKind.u64.wrap (a0_4)) % 4294967296) / 4096, 12, 8⟩ : S65)] : List (S65))) := ⟨_, rfl⟩
   replace H : (some y227) = some r := by first | (rw [hy227]; with_reducible exact H) | (have H2_ := (Option.bind_some _ _).symm.trans H; rw [hy227]; with_reducible exact H2_) | (have H2_ := (Option.bind_some _ _).symm.trans H; with_reducible exact H2_) | with_reducible exact H | (rw [hy227]; exact H) | exact H
   have Ny227 := Aside0.mk hy227
   clear hy227
   obtain rfl := Option.some.inj H
   go_enter Tryd.func42, Tryd.ntmps42
   go_wp2_with (first | ((with_reducible refine gate_dst (N := 1) rfl ?_); refine box_event ?hg (N := 1) ?hd (cs := #[.int .i64 a0_0, .int .i64 a0_1, .int .i64 a0_2, .int .i64 a0_3, .int .i64 a0_4, .bool a0_5, .bool a0_6]) (t := 24) ?hr ?_; (case hd => rfl); (case hg => rfl); (case hr => first | (go_simp; done) | (go_simp; rfl)); intro gb222 hg w9 hbox hb; obtain ⟨n0_, GW222⟩ := nb (w := w) hg hb; clear HB; have HB := n0_; have BK222 := Aside0.mk hbox; have GE222 := GW222; clear n0_ hb hbox hg; obtain ⟨hcz10_0, hcz10_1, hcz10_2, hcz10_3, hcz10_4, hcz10_5, hcz10_6, hfz10_0, hfz10_1, hfz10_2, hfz10_3, hfz10_4, hfz10_5, hfz10_6⟩ := cz7 (w := w9) BK222.out) | ((with_reducible refine gate_callee (f := 40) rfl ?_); refine goesL_ (some 10) rfl rfl Tryd.func40 (by kernel_rfl) rfl #[.int .i64 a0_0] rfl ga ?_; (with_reducible refine (isa_Form.calls k a0_0 t223 _ (by first | exact HL.out | exact laid_drewN HL.out | exact laid_below HL.out bl | exact laid_below HL.out HB.out | exact laid_belowd HL.out HB.out) A2.out).mono ?_); rintro e w' ⟨rfl, ⟨nd, rfl⟩⟩; refine ⟨_, rfl, ?_⟩) | ((with_reducible refine gate_dst (N := 30) rfl ?_); refine Kd.R_lit k65 _ 65 ?hg (N := 30) ?hd (xs := ([(⟨((IntKind.u64.wrap (a0_4)) % 4294967296) / 1048576, 31, 1⟩ : S65), (⟨((IntKind.u64.wrap (a0_4)) % 4294967296) / 2, 21, 10⟩ : S65), (⟨((IntKind.u64.wrap (a0_4)) % 4294967296) / 2048, 20, 1⟩ : S65), (⟨((IntKind.u64.wrap (a0_4)) % 4294967296) / 4096, 12, 8⟩ : S65)] : List (S65))) (inner := [.int .u32 (((IntKind.u64.wrap (a0_4)) % 4294967296) / 1048576), .int .i64 31, .int .i64 1, .int .u32 (((IntKind.u64.wrap (a0_4)) % 4294967296) / 2), .int .i64 21, .int .i64 10, .int .u32 (((IntKind.u64.wrap (a0_4)) % 4294967296) / 2048), .int .i64 20, .int .i64 1, .int .u32 (((IntKind.u64.wrap (a0_4)) % 4294967296) / 4096), .int .i64 12, .int .i64 8]) (ok := fun _ => True) (okp := fun _ => True) ?hr ?hp (fun _ hk => hk) trivial (Below.refl _ _) (Nat.le_refl _) (by simp) ?_; (case hd => rfl); (case hg => rfl); (case hr => first | (go_simp; done) | (go_simp; rfl)); (case hp => exact (Reps.c3 (show Kd.M k65 _ _ _ (⟨((IntKind.u64.wrap (a0_4)) % 4294967296) / 1048576, 31, 1⟩ : S65) [.int .u32 (((IntKind.u64.wrap (a0_4)) % 4294967296) / 1048576), .int .i64 31, .int .i64 1] from (k65_mkM _ _ _ (⟨((IntKind.u64.wrap (a0_4)) % 4294967296) / 1048576, 31, 1⟩ : S65) )) (Reps.c3 (show Kd.M k65 _ _ _ (⟨((IntKind.u64.wrap (a0_4)) % 4294967296) / 2, 21, 10⟩ : S65) [.int .u32 (((IntKind.u64.wrap (a0_4)) % 4294967296) / 2), .int .i64 21, .int .i64 10] from (k65_mkM _ _ _ (⟨((IntKind.u64.wrap (a0_4)) % 4294967296) / 2, 21, 10⟩ : S65) )) (Reps.c3 (show Kd.M k65 _ _ _ (⟨((IntKind.u64.wrap (a0_4)) % 4294967296) / 2048, 20, 1⟩ : S65) [.int .u32 (((IntKind.u64.wrap (a0_4)) % 4294967296) / 2048), .int .i64 20, .int .i64 1] from (k65_mkM _ _ _ (⟨((IntKind.u64.wrap (a0_4)) % 4294967296) / 2048, 20, 1⟩ : S65) )) (Reps.c3 (show Kd.M k65 _ _ _ (⟨((IntKind.u64.wrap (a0_4)) % 4294967296) / 4096, 12, 8⟩ : S65) [.int .u32 (((IntKind.u64.wrap (a0_4)) % 4294967296) / 4096), .int .i64 12, .int .i64 8] from (k65_mkM _ _ _ (⟨((IntKind.u64.wrap (a0_4)) % 4294967296) / 4096, 12, 8⟩ : S65) )) (Reps.none _ _)))))); intro v228 w11 ho12 hb hg_ hnew_; clear hg_ hnew_; (first | rw [← Ny227.out] at ho12 | (simp only [Int.reduceToNat] at ho12; rw [← Ny227.out] at ho12)); have n0_ := Aside0.mk (Kd.R_lower ho12 (below_size bl)); have n1_ := Aside0.mk (blk_below (g := gb222) (o := .cells #[.int .i64 a0_0, .int .i64 a0_1, .int .i64 a0_2, .int .i64 a0_3, .int .i64 a0_4, .bool a0_5, .bool a0_6] 24 (0, 0)) (bk BK222.out) hb); have n2_ := Aside0.mk (below_step bl hb); clear BK222; clear HB; have HO229 := n0_; have BK222 := n1_; have HB := n2_; clear n0_ n1_ n2_; clear hb ho12))
   go_ret
   exact ⟨_, fi, by (with_reducible repeat (first | apply Kd.R_alloc | apply Kd.R_drewN | apply Kd.R_drew)); exact HO229.out, bl⟩
  ·rw [if_neg c8] at H
   have c8b0 : (t223 == 2) = false := beq_eq_false_iff_ne.mpr c8
   have c8b1 : (t223 != 2) = true := bne_iff_ne.mpr c8
   by_cases c13 : t223 = 3
   ·rw [if_pos c13] at H
    obtain ⟨c13b0, c13b1⟩ := eqs c13
    clear c13
    obtain ⟨y230, hy230⟩ : ∃ y_ : List (S65), y_ = (([(⟨(IntKind.u64.wrap (a0_4)) % 4294967296, 20, 12⟩ : S65)] : List (S65))) := ⟨_, rfl⟩
    replace H : (some y230) = some r := by first | (rw [hy230]; with_reducible exact H) | (have H2_ := (Option.bind_some _ _).symm.trans H; rw [hy230]; with_reducible exact H2_) | (have H2_ := (Option.bind_some _ _).symm.trans H; with_reducible exact H2_) | with_reducible exact H | (rw [hy230]; exact H) | exact H
    have Ny230 := Aside0.mk hy230
    clear hy230
    obtain rfl := Option.some.inj H
    go_enter Tryd.func42, Tryd.ntmps42
    go_wp2_with (first | ((with_reducible refine gate_dst (N := 1) rfl ?_); refine box_event ?hg (N := 1) ?hd (cs := #[.int .i64 a0_0, .int .i64 a0_1, .int .i64 a0_2, .int .i64 a0_3, .int .i64 a0_4, .bool a0_5, .bool a0_6]) (t := 24) ?hr ?_; (case hd => rfl); (case hg => rfl); (case hr => first | (go_simp; done) | (go_simp; rfl)); intro gb222 hg w14 hbox hb; obtain ⟨n0_, GW222⟩ := nb (w := w) hg hb; clear HB; have HB := n0_; have BK222 := Aside0.mk hbox; have GE222 := GW222; clear n0_ hb hbox hg; obtain ⟨hcz15_0, hcz15_1, hcz15_2, hcz15_3, hcz15_4, hcz15_5, hcz15_6, hfz15_0, hfz15_1, hfz15_2, hfz15_3, hfz15_4, hfz15_5, hfz15_6⟩ := cz7 (w := w14) BK222.out) | ((with_reducible refine gate_callee (f := 40) rfl ?_); refine goesL_ (some 10) rfl rfl Tryd.func40 (by kernel_rfl) rfl #[.int .i64 a0_0] rfl ga ?_; (with_reducible refine (isa_Form.calls k a0_0 t223 _ (by first | exact HL.out | exact laid_drewN HL.out | exact laid_below HL.out bl | exact laid_below HL.out HB.out | exact laid_belowd HL.out HB.out) A2.out).mono ?_); rintro e w' ⟨rfl, ⟨nd, rfl⟩⟩; refine ⟨_, rfl, ?_⟩) | ((with_reducible refine gate_dst (N := 35) rfl ?_); refine Kd.R_lit k65 _ 65 ?hg (N := 35) ?hd (xs := ([(⟨(IntKind.u64.wrap (a0_4)) % 4294967296, 20, 12⟩ : S65)] : List (S65))) (inner := [.int .u32 ((IntKind.u64.wrap (a0_4)) % 4294967296), .int .i64 20, .int .i64 12]) (ok := fun _ => True) (okp := fun _ => True) ?hr ?hp (fun _ hk => hk) trivial (Below.refl _ _) (Nat.le_refl _) (by simp) ?_; (case hd => rfl); (case hg => rfl); (case hr => first | (go_simp; done) | (go_simp; rfl)); (case hp => exact (Reps.c3 (show Kd.M k65 _ _ _ (⟨(IntKind.u64.wrap (a0_4)) % 4294967296, 20, 12⟩ : S65) [.int .u32 ((IntKind.u64.wrap (a0_4)) % 4294967296), .int .i64 20, .int .i64 12] from (k65_mkM _ _ _ (⟨(IntKind.u64.wrap (a0_4)) % 4294967296, 20, 12⟩ : S65) )) (Reps.none _ _))); intro v231 w16 ho17 hb hg_ hnew_; clear hg_ hnew_; (first | rw [← Ny230.out] at ho17 | (simp only [Int.reduceToNat] at ho17; rw [← Ny230.out] at ho17)); have n0_ := Aside0.mk (Kd.R_lower ho17 (below_size bl)); have n1_ := Aside0.mk (blk_below (g := gb222) (o := .cells #[.int .i64 a0_0, .int .i64 a0_1, .int .i64 a0_2, .int .i64 a0_3, .int .i64 a0_4, .bool a0_5, .bool a0_6] 24 (0, 0)) (bk BK222.out) hb); have n2_ := Aside0.mk (below_step bl hb); clear BK222; clear HB; have HO232 := n0_; have BK222 := n1_; have HB := n2_; clear n0_ n1_ n2_; clear hb ho17))
    go_ret
    exact ⟨_, fi, by (with_reducible repeat (first | apply Kd.R_alloc | apply Kd.R_drewN | apply Kd.R_drew)); exact HO232.out, bl⟩
   ·rw [if_neg c13] at H
    have c13b0 : (t223 == 3) = false := beq_eq_false_iff_ne.mpr c13
    have c13b1 : (t223 != 3) = true := bne_iff_ne.mpr c13
    by_cases c18 : t223 = 4
    ·rw [if_pos c18] at H
     obtain ⟨c18b0, c18b1⟩ := eqs c18
     clear c18
     obtain ⟨y233, hy233⟩ : ∃ y_ : List (S65), y_ = (([(⟨((IntKind.u64.wrap (a0_4)) % 4294967296) / 4096, 31, 1⟩ : S65), (⟨((IntKind.u64.wrap (a0_4)) % 4294967296) / 32, 25, 6⟩ : S65), (⟨((IntKind.u64.wrap (a0_4)) % 4294967296) / 2, 8, 4⟩ : S65), (⟨((IntKind.u64.wrap (a0_4)) % 4294967296) / 2048, 7, 1⟩ : S65)] : List (S65))) := ⟨_, rfl⟩
     replace H : (some y233) = some r := by first | (rw [hy233]; with_reducible exact H) | (have H2_ := (Option.bind_some _ _).symm.trans H; rw [hy233]; with_reducible exact H2_) | (have H2_ := (Option.bind_some _ _).symm.trans H; with_reducible exact H2_) | with_reducible exact H | (rw [hy233]; exact H) | exact H
     have Ny233 := Aside0.mk hy233
     clear hy233
     obtain rfl := Option.some.inj H
     go_enter Tryd.func42, Tryd.ntmps42
     go_wp2_with (first | ((with_reducible refine gate_dst (N := 1) rfl ?_); refine box_event ?hg (N := 1) ?hd (cs := #[.int .i64 a0_0, .int .i64 a0_1, .int .i64 a0_2, .int .i64 a0_3, .int .i64 a0_4, .bool a0_5, .bool a0_6]) (t := 24) ?hr ?_; (case hd => rfl); (case hg => rfl); (case hr => first | (go_simp; done) | (go_simp; rfl)); intro gb222 hg w19 hbox hb; obtain ⟨n0_, GW222⟩ := nb (w := w) hg hb; clear HB; have HB := n0_; have BK222 := Aside0.mk hbox; have GE222 := GW222; clear n0_ hb hbox hg; obtain ⟨hcz20_0, hcz20_1, hcz20_2, hcz20_3, hcz20_4, hcz20_5, hcz20_6, hfz20_0, hfz20_1, hfz20_2, hfz20_3, hfz20_4, hfz20_5, hfz20_6⟩ := cz7 (w := w19) BK222.out) | ((with_reducible refine gate_callee (f := 40) rfl ?_); refine goesL_ (some 10) rfl rfl Tryd.func40 (by kernel_rfl) rfl #[.int .i64 a0_0] rfl ga ?_; (with_reducible refine (isa_Form.calls k a0_0 t223 _ (by first | exact HL.out | exact laid_drewN HL.out | exact laid_below HL.out bl | exact laid_below HL.out HB.out | exact laid_belowd HL.out HB.out) A2.out).mono ?_); rintro e w' ⟨rfl, ⟨nd, rfl⟩⟩; refine ⟨_, rfl, ?_⟩) | ((with_reducible refine gate_dst (N := 50) rfl ?_); refine Kd.R_lit k65 _ 65 ?hg (N := 50) ?hd (xs := ([(⟨((IntKind.u64.wrap (a0_4)) % 4294967296) / 4096, 31, 1⟩ : S65), (⟨((IntKind.u64.wrap (a0_4)) % 4294967296) / 32, 25, 6⟩ : S65), (⟨((IntKind.u64.wrap (a0_4)) % 4294967296) / 2, 8, 4⟩ : S65), (⟨((IntKind.u64.wrap (a0_4)) % 4294967296) / 2048, 7, 1⟩ : S65)] : List (S65))) (inner := [.int .u32 (((IntKind.u64.wrap (a0_4)) % 4294967296) / 4096), .int .i64 31, .int .i64 1, .int .u32 (((IntKind.u64.wrap (a0_4)) % 4294967296) / 32), .int .i64 25, .int .i64 6, .int .u32 (((IntKind.u64.wrap (a0_4)) % 4294967296) / 2), .int .i64 8, .int .i64 4, .int .u32 (((IntKind.u64.wrap (a0_4)) % 4294967296) / 2048), .int .i64 7, .int .i64 1]) (ok := fun _ => True) (okp := fun _ => True) ?hr ?hp (fun _ hk => hk) trivial (Below.refl _ _) (Nat.le_refl _) (by simp) ?_; (case hd => rfl); (case hg => rfl); (case hr => first | (go_simp; done) | (go_simp; rfl)); (case hp => exact (Reps.c3 (show Kd.M k65 _ _ _ (⟨((IntKind.u64.wrap (a0_4)) % 4294967296) / 4096, 31, 1⟩ : S65) [.int .u32 (((IntKind.u64.wrap (a0_4)) % 4294967296) / 4096), .int .i64 31, .int .i64 1] from (k65_mkM _ _ _ (⟨((IntKind.u64.wrap (a0_4)) % 4294967296) / 4096, 31, 1⟩ : S65) )) (Reps.c3 (show Kd.M k65 _ _ _ (⟨((IntKind.u64.wrap (a0_4)) % 4294967296) / 32, 25, 6⟩ : S65) [.int .u32 (((IntKind.u64.wrap (a0_4)) % 4294967296) / 32), .int .i64 25, .int .i64 6] from (k65_mkM _ _ _ (⟨((IntKind.u64.wrap (a0_4)) % 4294967296) / 32, 25, 6⟩ : S65) )) (Reps.c3 (show Kd.M k65 _ _ _ (⟨((IntKind.u64.wrap (a0_4)) % 4294967296) / 2, 8, 4⟩ : S65) [.int .u32 (((IntKind.u64.wrap (a0_4)) % 4294967296) / 2), .int .i64 8, .int .i64 4] from (k65_mkM _ _ _ (⟨((IntKind.u64.wrap (a0_4)) % 4294967296) / 2, 8, 4⟩ : S65) )) (Reps.c3 (show Kd.M k65 _ _ _ (⟨((IntKind.u64.wrap (a0_4)) % 4294967296) / 2048, 7, 1⟩ : S65) [.int .u32 (((IntKind.u64.wrap (a0_4)) % 4294967296) / 2048), .int .i64 7, .int .i64 1] from (k65_mkM _ _ _ (⟨((IntKind.u64.wrap (a0_4)) % 4294967296) / 2048, 7, 1⟩ : S65) )) (Reps.none _ _)))))); intro v234 w21 ho22 hb hg_ hnew_; clear hg_ hnew_; (first | rw [← Ny233.out] at ho22 | (simp only [Int.reduceToNat] at ho22; rw [← Ny233.out] at ho22)); have n0_ := Aside0.mk (Kd.R_lower ho22 (below_size bl)); have n1_ := Aside0.mk (blk_below (g := gb222) (o := .cells #[.int .i64 a0_0, .int .i64 a0_1, .int .i64 a0_2, .int .i64 a0_3, .int .i64 a0_4, .bool a0_5, .bool a0_6] 24 (0, 0)) (bk BK222.out) hb); have n2_ := Aside0.mk (below_step bl hb); clear BK222; clear HB; have HO235 := n0_; have BK222 := n1_; have HB := n2_; clear n0_ n1_ n2_; clear hb ho22))
     go_ret
     exact ⟨_, fi, by (with_reducible repeat (first | apply Kd.R_alloc | apply Kd.R_drewN | apply Kd.R_drew)); exact HO235.out, bl⟩
    ·rw [if_neg c18] at H
     have c18b0 : (t223 == 4) = false := beq_eq_false_iff_ne.mpr c18
     have c18b1 : (t223 != 4) = true := bne_iff_ne.mpr c18
     by_cases c23 : t223 = 5
     ·rw [if_pos c23] at H
      obtain ⟨c23b0, c23b1⟩ := eqs c23
      clear c23
      obtain ⟨y236, hy236⟩ : ∃ y_ : List (S65), y_ = (([(⟨((IntKind.u64.wrap (a0_4)) % 4294967296) / 32, 25, 7⟩ : S65), (⟨(IntKind.u64.wrap (a0_4)) % 4294967296, 7, 5⟩ : S65)] : List (S65))) := ⟨_, rfl⟩
      replace H : (some y236) = some r := by first | (rw [hy236]; with_reducible exact H) | (have H2_ := (Option.bind_some _ _).symm.trans H; rw [hy236]; with_reducible exact H2_) | (have H2_ := (Option.bind_some _ _).symm.trans H; with_reducible exact H2_) | with_reducible exact H | (rw [hy236]; exact H) | exact H
      have Ny236 := Aside0.mk hy236
      clear hy236
      obtain rfl := Option.some.inj H
      go_enter Tryd.func42, Tryd.ntmps42
      go_wp2_with (first | ((with_reducible refine gate_dst (N := 1) rfl ?_); refine box_event ?hg (N := 1) ?hd (cs := #[.int .i64 a0_0, .int .i64 a0_1, .int .i64 a0_2, .int .i64 a0_3, .int .i64 a0_4, .bool a0_5, .bool a0_6]) (t := 24) ?hr ?_; (case hd => rfl); (case hg => rfl); (case hr => first | (go_simp; done) | (go_simp; rfl)); intro gb222 hg w24 hbox hb; obtain ⟨n0_, GW222⟩ := nb (w := w) hg hb; clear HB; have HB := n0_; have BK222 := Aside0.mk hbox; have GE222 := GW222; clear n0_ hb hbox hg; obtain ⟨hcz25_0, hcz25_1, hcz25_2, hcz25_3, hcz25_4, hcz25_5, hcz25_6, hfz25_0, hfz25_1, hfz25_2, hfz25_3, hfz25_4, hfz25_5, hfz25_6⟩ := cz7 (w := w24) BK222.out) | ((with_reducible refine gate_callee (f := 40) rfl ?_); refine goesL_ (some 10) rfl rfl Tryd.func40 (by kernel_rfl) rfl #[.int .i64 a0_0] rfl ga ?_; (with_reducible refine (isa_Form.calls k a0_0 t223 _ (by first | exact HL.out | exact laid_drewN HL.out | exact laid_below HL.out bl | exact laid_below HL.out HB.out | exact laid_belowd HL.out HB.out) A2.out).mono ?_); rintro e w' ⟨rfl, ⟨nd, rfl⟩⟩; refine ⟨_, rfl, ?_⟩) | ((with_reducible refine gate_dst (N := 58) rfl ?_); refine Kd.R_lit k65 _ 65 ?hg (N := 58) ?hd (xs := ([(⟨((IntKind.u64.wrap (a0_4)) % 4294967296) / 32, 25, 7⟩ : S65), (⟨(IntKind.u64.wrap (a0_4)) % 4294967296, 7, 5⟩ : S65)] : List (S65))) (inner := [.int .u32 (((IntKind.u64.wrap (a0_4)) % 4294967296) / 32), .int .i64 25, .int .i64 7, .int .u32 ((IntKind.u64.wrap (a0_4)) % 4294967296), .int .i64 7, .int .i64 5]) (ok := fun _ => True) (okp := fun _ => True) ?hr ?hp (fun _ hk => hk) trivial (Below.refl _ _) (Nat.le_refl _) (by simp) ?_; (case hd => rfl); (case hg => rfl); (case hr => first | (go_simp; done) | (go_simp; rfl)); (case hp => exact (Reps.c3 (show Kd.M k65 _ _ _ (⟨((IntKind.u64.wrap (a0_4)) % 4294967296) / 32, 25, 7⟩ : S65) [.int .u32 (((IntKind.u64.wrap (a0_4)) % 4294967296) / 32), .int .i64 25, .int .i64 7] from (k65_mkM _ _ _ (⟨((IntKind.u64.wrap (a0_4)) % 4294967296) / 32, 25, 7⟩ : S65) )) (Reps.c3 (show Kd.M k65 _ _ _ (⟨(IntKind.u64.wrap (a0_4)) % 4294967296, 7, 5⟩ : S65) [.int .u32 ((IntKind.u64.wrap (a0_4)) % 4294967296), .int .i64 7, .int .i64 5] from (k65_mkM _ _ _ (⟨(IntKind.u64.wrap (a0_4)) % 4294967296, 7, 5⟩ : S65) )) (Reps.none _ _)))); intro v237 w26 ho27 hb hg_ hnew_; clear hg_ hnew_; (first | rw [← Ny236.out] at ho27 | (simp only [Int.reduceToNat] at ho27; rw [← Ny236.out] at ho27)); have n0_ := Aside0.mk (Kd.R_lower ho27 (below_size bl)); have n1_ := Aside0.mk (blk_below (g := gb222) (o := .cells #[.int .i64 a0_0, .int .i64 a0_1, .int .i64 a0_2, .int .i64 a0_3, .int .i64 a0_4, .bool a0_5, .bool a0_6] 24 (0, 0)) (bk BK222.out) hb); have n2_ := Aside0.mk (below_step bl hb); clear BK222; clear HB; have HO238 := n0_; have BK222 := n1_; have HB := n2_; clear n0_ n1_ n2_; clear hb ho27))
      go_ret
      exact ⟨_, fi, by (with_reducible repeat (first | apply Kd.R_alloc | apply Kd.R_drewN | apply Kd.R_drew)); exact HO238.out, bl⟩
     ·rw [if_neg c23] at H
      have c23b0 : (t223 == 5) = false := beq_eq_false_iff_ne.mpr c23
      have c23b1 : (t223 != 5) = true := bne_iff_ne.mpr c23
      by_cases c28 : t223 = 7
      ·rw [if_pos c28] at H
       obtain ⟨c28b0, c28b1⟩ := eqs c28
       clear c28
       obtain ⟨y239, hy239⟩ : ∃ y_ : List (S65), y_ = (([(⟨(IntKind.u64.wrap (a0_4)) % 4294967296, 20, 6⟩ : S65)] : List (S65))) := ⟨_, rfl⟩
       replace H : (some y239) = some r := by first | (rw [hy239]; with_reducible exact H) | (have H2_ := (Option.bind_some _ _).symm.trans H; rw [hy239]; with_reducible exact H2_) | (have H2_ := (Option.bind_some _ _).symm.trans H; with_reducible exact H2_) | with_reducible exact H | (rw [hy239]; exact H) | exact H
       have Ny239 := Aside0.mk hy239
       clear hy239
       obtain rfl := Option.some.inj H
       go_enter Tryd.func42, Tryd.ntmps42
       go_wp2_with (first | ((with_reducible refine gate_dst (N := 1) rfl ?_); refine box_event ?hg (N := 1) ?hd (cs := #[.int .i64 a0_0, .int .i64 a0_1, .int .i64 a0_2, .int .i64 a0_3, .int .i64 a0_4, .bool a0_5, .bool a0_6]) (t := 24) ?hr ?_; (case hd => rfl); (case hg => rfl); (case hr => first | (go_simp; done) | (go_simp; rfl)); intro gb222 hg w29 hbox hb; obtain ⟨n0_, GW222⟩ := nb (w := w) hg hb; clear HB; have HB := n0_; have BK222 := Aside0.mk hbox; have GE222 := GW222; clear n0_ hb hbox hg; obtain ⟨hcz30_0, hcz30_1, hcz30_2, hcz30_3, hcz30_4, hcz30_5, hcz30_6, hfz30_0, hfz30_1, hfz30_2, hfz30_3, hfz30_4, hfz30_5, hfz30_6⟩ := cz7 (w := w29) BK222.out) | ((with_reducible refine gate_callee (f := 40) rfl ?_); refine goesL_ (some 10) rfl rfl Tryd.func40 (by kernel_rfl) rfl #[.int .i64 a0_0] rfl ga ?_; (with_reducible refine (isa_Form.calls k a0_0 t223 _ (by first | exact HL.out | exact laid_drewN HL.out | exact laid_below HL.out bl | exact laid_below HL.out HB.out | exact laid_belowd HL.out HB.out) A2.out).mono ?_); rintro e w' ⟨rfl, ⟨nd, rfl⟩⟩; refine ⟨_, rfl, ?_⟩) | ((with_reducible refine gate_dst (N := 63) rfl ?_); refine Kd.R_lit k65 _ 65 ?hg (N := 63) ?hd (xs := ([(⟨(IntKind.u64.wrap (a0_4)) % 4294967296, 20, 6⟩ : S65)] : List (S65))) (inner := [.int .u32 ((IntKind.u64.wrap (a0_4)) % 4294967296), .int .i64 20, .int .i64 6]) (ok := fun _ => True) (okp := fun _ => True) ?hr ?hp (fun _ hk => hk) trivial (Below.refl _ _) (Nat.le_refl _) (by simp) ?_; (case hd => rfl); (case hg => rfl); (case hr => first | (go_simp; done) | (go_simp; rfl)); (case hp => exact (Reps.c3 (show Kd.M k65 _ _ _ (⟨(IntKind.u64.wrap (a0_4)) % 4294967296, 20, 6⟩ : S65) [.int .u32 ((IntKind.u64.wrap (a0_4)) % 4294967296), .int .i64 20, .int .i64 6] from (k65_mkM _ _ _ (⟨(IntKind.u64.wrap (a0_4)) % 4294967296, 20, 6⟩ : S65) )) (Reps.none _ _))); intro v240 w31 ho32 hb hg_ hnew_; clear hg_ hnew_; (first | rw [← Ny239.out] at ho32 | (simp only [Int.reduceToNat] at ho32; rw [← Ny239.out] at ho32)); have n0_ := Aside0.mk (Kd.R_lower ho32 (below_size bl)); have n1_ := Aside0.mk (blk_below (g := gb222) (o := .cells #[.int .i64 a0_0, .int .i64 a0_1, .int .i64 a0_2, .int .i64 a0_3, .int .i64 a0_4, .bool a0_5, .bool a0_6] 24 (0, 0)) (bk BK222.out) hb); have n2_ := Aside0.mk (below_step bl hb); clear BK222; clear HB; have HO241 := n0_; have BK222 := n1_; have HB := n2_; clear n0_ n1_ n2_; clear hb ho32))
       go_ret
       exact ⟨_, fi, by (with_reducible repeat (first | apply Kd.R_alloc | apply Kd.R_drewN | apply Kd.R_drew)); exact HO241.out, bl⟩
      ·rw [if_neg c28] at H
       have c28b0 : (t223 == 7) = false := beq_eq_false_iff_ne.mpr c28
       have c28b1 : (t223 != 7) = true := bne_iff_ne.mpr c28
       by_cases c33 : t223 = 8
       ·rw [if_pos c33] at H
        obtain ⟨c33b0, c33b1⟩ := eqs c33
        clear c33
        obtain ⟨y242, hy242⟩ : ∃ y_ : List (S65), y_ = (([(⟨(IntKind.u64.wrap (a0_4)) % 4294967296, 20, 5⟩ : S65)] : List (S65))) := ⟨_, rfl⟩
        replace H : (some y242) = some r := by first | (rw [hy242]; with_reducible exact H) | (have H2_ := (Option.bind_some _ _).symm.trans H; rw [hy242]; with_reducible exact H2_) | (have H2_ := (Option.bind_some _ _).symm.trans H; with_reducible exact H2_) | with_reducible exact H | (rw [hy242]; exact H) | exact H
        have Ny242 := Aside0.mk hy242
        clear hy242
        obtain rfl := Option.some.inj H
        go_enter Tryd.func42, Tryd.ntmps42
        go_wp2_with (first | ((with_reducible refine gate_dst (N := 1) rfl ?_); refine box_event ?hg (N := 1) ?hd (cs := #[.int .i64 a0_0, .int .i64 a0_1, .int .i64 a0_2, .int .i64 a0_3, .int .i64 a0_4, .bool a0_5, .bool a0_6]) (t := 24) ?hr ?_; (case hd => rfl); (case hg => rfl); (case hr => first | (go_simp; done) | (go_simp; rfl)); intro gb222 hg w34 hbox hb; obtain ⟨n0_, GW222⟩ := nb (w := w) hg hb; clear HB; have HB := n0_; have BK222 := Aside0.mk hbox; have GE222 := GW222; clear n0_ hb hbox hg; obtain ⟨hcz35_0, hcz35_1, hcz35_2, hcz35_3, hcz35_4, hcz35_5, hcz35_6, hfz35_0, hfz35_1, hfz35_2, hfz35_3, hfz35_4, hfz35_5, hfz35_6⟩ := cz7 (w := w34) BK222.out) | ((with_reducible refine gate_callee (f := 40) rfl ?_); refine goesL_ (some 10) rfl rfl Tryd.func40 (by kernel_rfl) rfl #[.int .i64 a0_0] rfl ga ?_; (with_reducible refine (isa_Form.calls k a0_0 t223 _ (by first | exact HL.out | exact laid_drewN HL.out | exact laid_below HL.out bl | exact laid_below HL.out HB.out | exact laid_belowd HL.out HB.out) A2.out).mono ?_); rintro e w' ⟨rfl, ⟨nd, rfl⟩⟩; refine ⟨_, rfl, ?_⟩) | ((with_reducible refine gate_dst (N := 68) rfl ?_); refine Kd.R_lit k65 _ 65 ?hg (N := 68) ?hd (xs := ([(⟨(IntKind.u64.wrap (a0_4)) % 4294967296, 20, 5⟩ : S65)] : List (S65))) (inner := [.int .u32 ((IntKind.u64.wrap (a0_4)) % 4294967296), .int .i64 20, .int .i64 5]) (ok := fun _ => True) (okp := fun _ => True) ?hr ?hp (fun _ hk => hk) trivial (Below.refl _ _) (Nat.le_refl _) (by simp) ?_; (case hd => rfl); (case hg => rfl); (case hr => first | (go_simp; done) | (go_simp; rfl)); (case hp => exact (Reps.c3 (show Kd.M k65 _ _ _ (⟨(IntKind.u64.wrap (a0_4)) % 4294967296, 20, 5⟩ : S65) [.int .u32 ((IntKind.u64.wrap (a0_4)) % 4294967296), .int .i64 20, .int .i64 5] from (k65_mkM _ _ _ (⟨(IntKind.u64.wrap (a0_4)) % 4294967296, 20, 5⟩ : S65) )) (Reps.none _ _))); intro v243 w36 ho37 hb hg_ hnew_; clear hg_ hnew_; (first | rw [← Ny242.out] at ho37 | (simp only [Int.reduceToNat] at ho37; rw [← Ny242.out] at ho37)); have n0_ := Aside0.mk (Kd.R_lower ho37 (below_size bl)); have n1_ := Aside0.mk (blk_below (g := gb222) (o := .cells #[.int .i64 a0_0, .int .i64 a0_1, .int .i64 a0_2, .int .i64 a0_3, .int .i64 a0_4, .bool a0_5, .bool a0_6] 24 (0, 0)) (bk BK222.out) hb); have n2_ := Aside0.mk (below_step bl hb); clear BK222; clear HB; have HO244 := n0_; have BK222 := n1_; have HB := n2_; clear n0_ n1_ n2_; clear hb ho37))
        go_ret
        exact ⟨_, fi, by (with_reducible repeat (first | apply Kd.R_alloc | apply Kd.R_drewN | apply Kd.R_drew)); exact HO244.out, bl⟩
       ·rw [if_neg c33] at H
        have c33b0 : (t223 == 8) = false := beq_eq_false_iff_ne.mpr c33
        have c33b1 : (t223 != 8) = true := bne_iff_ne.mpr c33
        by_cases c38 : t223 = 9
        ·rw [if_pos c38] at H
         obtain ⟨c38b0, c38b1⟩ := eqs c38
         clear c38
         obtain ⟨y245, hy245⟩ : ∃ y_ : List (S65), y_ = (([(⟨(IntKind.u64.wrap (a0_4)) % 4294967296, 20, 8⟩ : S65)] : List (S65))) := ⟨_, rfl⟩
         replace H : (some y245) = some r := by first | (rw [hy245]; with_reducible exact H) | (have H2_ := (Option.bind_some _ _).symm.trans H; rw [hy245]; with_reducible exact H2_) | (have H2_ := (Option.bind_some _ _).symm.trans H; with_reducible exact H2_) | with_reducible exact H | (rw [hy245]; exact H) | exact H
         have Ny245 := Aside0.mk hy245
         clear hy245
         obtain rfl := Option.some.inj H
         go_enter Tryd.func42, Tryd.ntmps42
         go_wp2_with (first | ((with_reducible refine gate_dst (N := 1) rfl ?_); refine box_event ?hg (N := 1) ?hd (cs := #[.int .i64 a0_0, .int .i64 a0_1, .int .i64 a0_2, .int .i64 a0_3, .int .i64 a0_4, .bool a0_5, .bool a0_6]) (t := 24) ?hr ?_; (case hd => rfl); (case hg => rfl); (case hr => first | (go_simp; done) | (go_simp; rfl)); intro gb222 hg w39 hbox hb; obtain ⟨n0_, GW222⟩ := nb (w := w) hg hb; clear HB; have HB := n0_; have BK222 := Aside0.mk hbox; have GE222 := GW222; clear n0_ hb hbox hg; obtain ⟨hcz40_0, hcz40_1, hcz40_2, hcz40_3, hcz40_4, hcz40_5, hcz40_6, hfz40_0, hfz40_1, hfz40_2, hfz40_3, hfz40_4, hfz40_5, hfz40_6⟩ := cz7 (w := w39) BK222.out) | ((with_reducible refine gate_callee (f := 40) rfl ?_); refine goesL_ (some 10) rfl rfl Tryd.func40 (by kernel_rfl) rfl #[.int .i64 a0_0] rfl ga ?_; (with_reducible refine (isa_Form.calls k a0_0 t223 _ (by first | exact HL.out | exact laid_drewN HL.out | exact laid_below HL.out bl | exact laid_below HL.out HB.out | exact laid_belowd HL.out HB.out) A2.out).mono ?_); rintro e w' ⟨rfl, ⟨nd, rfl⟩⟩; refine ⟨_, rfl, ?_⟩) | ((with_reducible refine gate_dst (N := 73) rfl ?_); refine Kd.R_lit k65 _ 65 ?hg (N := 73) ?hd (xs := ([(⟨(IntKind.u64.wrap (a0_4)) % 4294967296, 20, 8⟩ : S65)] : List (S65))) (inner := [.int .u32 ((IntKind.u64.wrap (a0_4)) % 4294967296), .int .i64 20, .int .i64 8]) (ok := fun _ => True) (okp := fun _ => True) ?hr ?hp (fun _ hk => hk) trivial (Below.refl _ _) (Nat.le_refl _) (by simp) ?_; (case hd => rfl); (case hg => rfl); (case hr => first | (go_simp; done) | (go_simp; rfl)); (case hp => exact (Reps.c3 (show Kd.M k65 _ _ _ (⟨(IntKind.u64.wrap (a0_4)) % 4294967296, 20, 8⟩ : S65) [.int .u32 ((IntKind.u64.wrap (a0_4)) % 4294967296), .int .i64 20, .int .i64 8] from (k65_mkM _ _ _ (⟨(IntKind.u64.wrap (a0_4)) % 4294967296, 20, 8⟩ : S65) )) (Reps.none _ _))); intro v246 w41 ho42 hb hg_ hnew_; clear hg_ hnew_; (first | rw [← Ny245.out] at ho42 | (simp only [Int.reduceToNat] at ho42; rw [← Ny245.out] at ho42)); have n0_ := Aside0.mk (Kd.R_lower ho42 (below_size bl)); have n1_ := Aside0.mk (blk_below (g := gb222) (o := .cells #[.int .i64 a0_0, .int .i64 a0_1, .int .i64 a0_2, .int .i64 a0_3, .int .i64 a0_4, .bool a0_5, .bool a0_6] 24 (0, 0)) (bk BK222.out) hb); have n2_ := Aside0.mk (below_step bl hb); clear BK222; clear HB; have HO247 := n0_; have BK222 := n1_; have HB := n2_; clear n0_ n1_ n2_; clear hb ho42))
         go_ret
         exact ⟨_, fi, by (with_reducible repeat (first | apply Kd.R_alloc | apply Kd.R_drewN | apply Kd.R_drew)); exact HO247.out, bl⟩
        ·rw [if_neg c38] at H
         have c38b0 : (t223 == 9) = false := beq_eq_false_iff_ne.mpr c38
         have c38b1 : (t223 != 9) = true := bne_iff_ne.mpr c38
         have HC43 := Aside0.mk H
         clear H
         go_enter Tryd.func42, Tryd.ntmps42
         go_upto_if 74 with (first | ((with_reducible refine gate_dst (N := 1) rfl ?_); refine box_event ?hg (N := 1) ?hd (cs := #[.int .i64 a0_0, .int .i64 a0_1, .int .i64 a0_2, .int .i64 a0_3, .int .i64 a0_4, .bool a0_5, .bool a0_6]) (t := 24) ?hr ?_; (case hd => rfl); (case hg => rfl); (case hr => first | (go_simp; done) | (go_simp; rfl)); intro gb222 hg w44 hbox hb; obtain ⟨n0_, GW222⟩ := nb (w := w) hg hb; clear HB; have HB := n0_; have BK222 := Aside0.mk hbox; have GE222 := GW222; clear n0_ hb hbox hg; obtain ⟨hcz45_0, hcz45_1, hcz45_2, hcz45_3, hcz45_4, hcz45_5, hcz45_6, hfz45_0, hfz45_1, hfz45_2, hfz45_3, hfz45_4, hfz45_5, hfz45_6⟩ := cz7 (w := w44) BK222.out) | ((with_reducible refine gate_callee (f := 40) rfl ?_); refine goesL_ (some 10) rfl rfl Tryd.func40 (by kernel_rfl) rfl #[.int .i64 a0_0] rfl ga ?_; (with_reducible refine (isa_Form.calls k a0_0 t223 _ (by first | exact HL.out | exact laid_drewN HL.out | exact laid_below HL.out bl | exact laid_below HL.out HB.out | exact laid_belowd HL.out HB.out) A2.out).mono ?_); rintro e w' ⟨rfl, ⟨nd, rfl⟩⟩; refine ⟨_, rfl, ?_⟩))
         (try simp only [Act.put, List.setIfInBounds_toArray, List.set_cons_zero, List.set_cons_succ])
         go_cut [74] (fun v74 wc => ∃ (kq : Nat) (x74_42 : Bool), v74 = .bool x74_42 ∧ Aside0 (enc_immediate.j0 kq x74_42 a0_0 a0_1 a0_2 a0_3 a0_4 a0_5 a0_6 = some r) ∧ Aside0 (kq ≤ k) ∧ Aside0 (wc.heap[gb222]? = some (.cells #[.int .i64 a0_0, .int .i64 a0_1, .int .i64 a0_2, .int .i64 a0_3, .int .i64 a0_4, .bool a0_5, .bool a0_6] 24 (0, 0))) ∧ Aside0 (Below w.heap.size w wc))
         case first =>
          have H := HC43.out
          clear HC43
          by_cases c46 : t223 = 10
          ·rw [if_pos c46] at H
           obtain ⟨c46b0, c46b1⟩ := eqs c46
           clear c46
           (first | rw [c46b0] | (simp only [i64_w, i32_w]; rw [c46b0]) | skip)
           have H' := Aside0.mk H
           clear H
           go_wp2
           go_meet
           case rel => exact ⟨_, ((t223 == 10)), fj, H', ⟨by first | omega | exact Nat.le_refl _⟩, ⟨by refine bx ?_; exact BK222.out⟩, ⟨bl⟩⟩
          ·rw [if_neg c46] at H
           have c46b0 : (t223 == 10) = false := beq_eq_false_iff_ne.mpr c46
           have c46b1 : (t223 != 10) = true := bne_iff_ne.mpr c46
           (first | rw [c46b0] | (simp only [i64_w, i32_w]; rw [c46b0]) | skip)
           have H' := Aside0.mk H
           clear H
           go_wp2
           go_meet
           case rel => exact ⟨_, ((t223 == 11)), fj, H', ⟨by first | omega | exact Nat.le_refl _⟩, ⟨by refine bx ?_; exact BK222.out⟩, ⟨bl⟩⟩
         case rest =>
          clear HC43
          try clear c1
          try clear c2
          try clear p2
          try clear c3
          try clear c3b0
          try clear c3b1
          try clear c4
          try clear c8
          try clear c8b0
          try clear c8b1
          try clear c13
          try clear c13b0
          try clear c13b1
          try clear c18
          try clear c18b0
          try clear c18b1
          try clear c23
          try clear c23b0
          try clear c23b1
          try clear c28
          try clear c28b0
          try clear c28b1
          try clear c33
          try clear c33b0
          try clear c33b1
          try clear c38
          try clear c38b0
          try clear c38b1
          try clear c40
          try clear c42
          try clear c46
          try clear c46b0
          try clear c46b1
          try clear hcz10_0 hcz10_1 hcz10_2 hcz10_3 hcz10_4 hcz10_5 hcz10_6
          try clear hcz15_0 hcz15_1 hcz15_2 hcz15_3 hcz15_4 hcz15_5 hcz15_6
          try clear hcz20_0 hcz20_1 hcz20_2 hcz20_3 hcz20_4 hcz20_5 hcz20_6
          try clear hcz25_0 hcz25_1 hcz25_2 hcz25_3 hcz25_4 hcz25_5 hcz25_6
          try clear hcz30_0 hcz30_1 hcz30_2 hcz30_3 hcz30_4 hcz30_5 hcz30_6
          try clear hcz35_0 hcz35_1 hcz35_2 hcz35_3 hcz35_4 hcz35_5 hcz35_6
          try clear hcz40_0 hcz40_1 hcz40_2 hcz40_3 hcz40_4 hcz40_5 hcz40_6
          try clear hcz45_0 hcz45_1 hcz45_2 hcz45_3 hcz45_4 hcz45_5 hcz45_6
          try clear hcz5_0 hcz5_1 hcz5_2 hcz5_3 hcz5_4 hcz5_5 hcz5_6
          try clear hfz10_0 hfz10_1 hfz10_2 hfz10_3 hfz10_4 hfz10_5 hfz10_6
          try clear hfz15_0 hfz15_1 hfz15_2 hfz15_3 hfz15_4 hfz15_5 hfz15_6
          try clear hfz20_0 hfz20_1 hfz20_2 hfz20_3 hfz20_4 hfz20_5 hfz20_6
          try clear hfz25_0 hfz25_1 hfz25_2 hfz25_3 hfz25_4 hfz25_5 hfz25_6
          try clear hfz30_0 hfz30_1 hfz30_2 hfz30_3 hfz30_4 hfz30_5 hfz30_6
          try clear hfz35_0 hfz35_1 hfz35_2 hfz35_3 hfz35_4 hfz35_5 hfz35_6
          try clear hfz40_0 hfz40_1 hfz40_2 hfz40_3 hfz40_4 hfz40_5 hfz40_6
          try clear hfz45_0 hfz45_1 hfz45_2 hfz45_3 hfz45_4 hfz45_5 hfz45_6
          try clear hfz5_0 hfz5_1 hfz5_2 hfz5_3 hfz5_4 hfz5_5 hfz5_6
          obtain ⟨kq, x74_42, rfl, HA, HJ42, BK222, HB⟩ := hcut
          cases kq with
          | zero => exact absurd HA.out (by simp [enc_immediate.j0])
          | succ kj42 =>
           have H := HA.out
           clear HA
           simp only [enc_immediate.j0] at H
           by_cases c47 : x74_42 = true
           ·subst c47
            have H1 : ((enc_bit.f a0_5).bind fun t248 => ((enc_bit.f a0_6).bind fun t249 => (some (([(⟨t248, 26, 1⟩ : S65), (⟨t249, 25, 1⟩ : S65)] : List (S65)))))) = some r := by rw [if_pos rfl] at H; exact H
            clear H
            have H := H1
            clear H1
            replace H := be H
            obtain ⟨t248, A48, H⟩ := H
            replace H := be H
            obtain ⟨t249, A49, H⟩ := H
            obtain ⟨y250, hy250⟩ : ∃ y_ : List (S65), y_ = (([(⟨t248, 26, 1⟩ : S65), (⟨t249, 25, 1⟩ : S65)] : List (S65))) := ⟨_, rfl⟩
            replace H : (some y250) = some r := by first | (rw [hy250]; with_reducible exact H) | (have H2_ := (Option.bind_some _ _).symm.trans H; rw [hy250]; with_reducible exact H2_) | (have H2_ := (Option.bind_some _ _).symm.trans H; with_reducible exact H2_) | with_reducible exact H | (rw [hy250]; exact H) | exact H
            have Ny250 := Aside0.mk hy250
            clear hy250
            obtain rfl := Option.some.inj H
            try go_wp2
            have n0_ := Aside0.mk (blk_drew BK222.out)
            have n1_ := Aside0.mk (below_drew1 HB.out)
            clear BK222
            clear HB
            have BK222 := n0_
            have HB := n1_
            clear n0_ n1_
            refine start_ (n := 10) (S := fun w' => w'.cell? ⟨gb222, 0, none⟩ = some (.int .i64 a0_0) ∧ w'.cell? ⟨gb222, 1, none⟩ = some (.int .i64 a0_1) ∧ w'.cell? ⟨gb222, 2, none⟩ = some (.int .i64 a0_2) ∧ w'.cell? ⟨gb222, 3, none⟩ = some (.int .i64 a0_3) ∧ w'.cell? ⟨gb222, 4, none⟩ = some (.int .i64 a0_4) ∧ w'.cell? ⟨gb222, 5, none⟩ = some (.bool a0_5) ∧ w'.cell? ⟨gb222, 6, none⟩ = some (.bool a0_6)) (ds := []) (fl 10 0) (by kernel_rfl) rfl rfl (cy7 BK222.out) (fun hHeld => ?_); refine with_tabW enc_immediate.tab21 enc_immediate.bits21 (fun HT_ HW_ => ?_)
            generalize wc.drew = w50 at BK222 HB hHeld ⊢
            refine pq 0 (some 77) ?_ (fl 10 1) HT_.out rfl rfl ?_ ?_ ?_ ?_
            rotate_left
            ·intro w'
             go_simp
             with_reducible rfl
            rotate_left
            ·refine pt ?_
             rfl
            refine pq 4 (some 81) ?_ #[true, false, false, false, true, false, false, false, false, false] HT_.out rfl rfl ?_ ?_ ?_ ?_
            rotate_left
            ·intro w'
             go_simp
             with_reducible rfl
            rotate_left
            ·refine pt ?_
             rfl
            refine pk 1 (some 78) ?_ #[true, true, false, false, true, false, false, false, false, false] HT_.out HW_.out rfl rfl ?_ hHeld ?_ ?_ ?_
            rotate_left
            ·rintro w' ⟨s0, s1, s2, s3, s4, s5, s6⟩
             go_simp
             with_reducible rfl
            rotate_left
            ·refine pt ?_
             rfl
            refine pk 5 (some 82) ?_ #[true, true, false, false, true, true, false, false, false, false] HT_.out HW_.out rfl rfl ?_ hHeld ?_ ?_ ?_
            rotate_left
            ·rintro w' ⟨s0, s1, s2, s3, s4, s5, s6⟩
             go_simp
             with_reducible rfl
            rotate_left
            ·refine pt ?_
             rfl
            refine one_ (i := 2) (N := some 79) #[true, true, true, false, true, true, false, false, false, false] rfl rfl (one_of HT_.out (by kernel_rfl)) (by decide) (fun K hK => ?_)
            refine goes_ Tryd.func78 (by kernel_rfl) rfl #[.bool a0_5] (by rfl) rfl rfl ga ?_
            with_reducible refine (enc_bit.calls a0_5 t248 _ A48.out).mono ?_
            rintro e w' ⟨rfl, ⟨nd, rfl⟩⟩
            refine ⟨_, rfl, ?_⟩
            refine hK.out _ _ (cy7 BK222.out) (fun hHeld => ?_)
            clear hK K
            refine norm_ (a' := ?_) ?_ ?_
            rotate_left
            ·show Act.put _ (some 79) _ = _
             refine pt ?_
             rfl
            refine pq 3 (some 80) ?_ (fl 10 6) HT_.out rfl rfl ?_ ?_ ?_ ?_
            rotate_left
            ·intro w'
             go_simp
             with_reducible rfl
            rotate_left
            ·refine pt ?_
             rfl
            refine one_ (i := 6) (N := some 83) (fl 10 7) rfl rfl (one_of HT_.out (by kernel_rfl)) (by decide) (fun K hK => ?_)
            refine goes_ Tryd.func78 (by kernel_rfl) rfl #[.bool a0_6] (by rfl) rfl rfl ga ?_
            with_reducible refine (enc_bit.calls a0_6 t249 _ A49.out).mono ?_
            rintro e w' ⟨rfl, ⟨nd, rfl⟩⟩
            refine ⟨_, rfl, ?_⟩
            refine hK.out _ _ (cy7 BK222.out) (fun hHeld => ?_)
            clear hK K
            refine norm_ (a' := ?_) ?_ ?_
            rotate_left
            ·show Act.put _ (some 83) _ = _
             refine pt ?_
             rfl
            refine pq 7 (some 84) ?_ (fl 10 8) HT_.out rfl rfl ?_ ?_ ?_ ?_
            rotate_left
            ·intro w'
             go_simp
             with_reducible rfl
            rotate_left
            ·refine pt ?_
             rfl
            refine one_ (i := 8) (N := some 85) (fl 10 9) rfl rfl (one_of HT_.out (by kernel_rfl)) (by decide) (fun K hK => ?_)
            refine Kd.R_lit_step k65 _ 65 ?hg (N := 85) ?hd (xs := ([(⟨t248, 26, 1⟩ : S65), (⟨t249, 25, 1⟩ : S65)] : List (S65))) (inner := [.int .u32 t248, .int .i64 26, .int .i64 1, .int .u32 t249, .int .i64 25, .int .i64 1]) (ok := fun _ => True) (okp := fun _ => True) ?hr ?hp (fun _ hk => hk) trivial (Below.refl _ _) (Nat.le_refl _) (by simp) ?_; (case hd => rfl); (case hg => rfl); (case hr => first | (go_simp; done) | (go_simp; rfl)); (case hp => exact (Reps.c3 (show Kd.M k65 _ _ _ (⟨t248, 26, 1⟩ : S65) [.int .u32 t248, .int .i64 26, .int .i64 1] from (k65_mkM _ _ _ (⟨t248, 26, 1⟩ : S65) )) (Reps.c3 (show Kd.M k65 _ _ _ (⟨t249, 25, 1⟩ : S65) [.int .u32 t249, .int .i64 25, .int .i64 1] from (k65_mkM _ _ _ (⟨t249, 25, 1⟩ : S65) )) (Reps.none _ _))))
            intro v251 w51 ho52 hb hg_ hnew_
            clear hg_ hnew_
            (first | rw [← Ny250.out] at ho52 | (simp only [Int.reduceToNat] at ho52; rw [← Ny250.out] at ho52))
            have n0_ := Aside0.mk (Kd.R_lower ho52 (below_size bl))
            have n1_ := Aside0.mk (blk_below (g := gb222) (o := .cells #[.int .i64 a0_0, .int .i64 a0_1, .int .i64 a0_2, .int .i64 a0_3, .int .i64 a0_4, .bool a0_5, .bool a0_6] 24 (0, 0)) (bk BK222.out) hb)
            have n2_ := Aside0.mk (below_step bl hb)
            clear BK222
            clear HB
            have HO252 := n0_
            have BK222 := n1_
            have HB := n2_
            clear n0_ n1_ n2_
            clear hb ho52
            refine hK.out _ _ (cy7 BK222.out) (fun hHeld => ?_)
            clear hK K
            refine norm_ (a' := ?_) ?_ ?_
            rotate_left
            ·show Act.put _ (some 85) _ = _
             refine pt ?_
             rfl
            refine pq 9 (some 2) ?_ (fl 10 10) HT_.out rfl rfl ?_ ?_ ?_ ?_
            rotate_left
            ·intro w'
             go_simp
             with_reducible rfl
            rotate_left
            ·refine pt ?_
             rfl
            refine done_ (done_of HT_.out (by kernel_rfl)) ?_
            try go_wp2
            go_ret
            exact ⟨_, fi, by (with_reducible repeat (first | apply Kd.R_alloc | apply Kd.R_drewN | apply Kd.R_drew)); exact HO252.out, bl⟩
           ·replace c47 := Bool.eq_false_iff.mpr c47
            subst c47
            have H1 : (if a0_0 = 65 then (some (([(⟨1, 20, 1⟩ : S65)] : List (S65)))) else (some ([] : List (S65)))) = some r := by rw [if_neg (show ¬ (false = true) by decide)] at H; exact H
            clear H
            have H := H1
            clear H1
            by_cases c53 : a0_0 = 65
            ·rw [if_pos c53] at H
             obtain ⟨c53b0, c53b1⟩ := eqs c53
             clear c53
             obtain ⟨y253, hy253⟩ : ∃ y_ : List (S65), y_ = (([(⟨1, 20, 1⟩ : S65)] : List (S65))) := ⟨_, rfl⟩
             replace H : (some y253) = some r := by first | (rw [hy253]; with_reducible exact H) | (have H2_ := (Option.bind_some _ _).symm.trans H; rw [hy253]; with_reducible exact H2_) | (have H2_ := (Option.bind_some _ _).symm.trans H; with_reducible exact H2_) | with_reducible exact H | (rw [hy253]; exact H) | exact H
             have Ny253 := Aside0.mk hy253
             clear hy253
             obtain rfl := Option.some.inj H
             obtain ⟨hcz54_0, hcz54_1, hcz54_2, hcz54_3, hcz54_4, hcz54_5, hcz54_6, hfz54_0, hfz54_1, hfz54_2, hfz54_3, hfz54_4, hfz54_5, hfz54_6⟩ := cz7 (w := wc) BK222.out
             go_wp2_with (first | ((with_reducible refine gate_dst (N := 90) rfl ?_); refine Kd.R_lit k65 _ 65 ?hg (N := 90) ?hd (xs := ([(⟨1, 20, 1⟩ : S65)] : List (S65))) (inner := [.int .u32 1, .int .i64 20, .int .i64 1]) (ok := fun _ => True) (okp := fun _ => True) ?hr ?hp (fun _ hk => hk) trivial (Below.refl _ _) (Nat.le_refl _) (by simp) ?_; (case hd => rfl); (case hg => rfl); (case hr => first | (go_simp; done) | (go_simp; rfl)); (case hp => exact (Reps.c3 (show Kd.M k65 _ _ _ (⟨1, 20, 1⟩ : S65) [.int .u32 1, .int .i64 20, .int .i64 1] from (k65_mkM _ _ _ (⟨1, 20, 1⟩ : S65) )) (Reps.none _ _))); intro v254 w55 ho56 hb hg_ hnew_; clear hg_ hnew_; (first | rw [← Ny253.out] at ho56 | (simp only [Int.reduceToNat] at ho56; rw [← Ny253.out] at ho56)); have n0_ := Aside0.mk (Kd.R_lower ho56 (below_size bl)); have n1_ := Aside0.mk (blk_below (g := gb222) (o := .cells #[.int .i64 a0_0, .int .i64 a0_1, .int .i64 a0_2, .int .i64 a0_3, .int .i64 a0_4, .bool a0_5, .bool a0_6] 24 (0, 0)) (bk BK222.out) hb); have n2_ := Aside0.mk (below_step bl hb); clear BK222; clear HB; have HO255 := n0_; have BK222 := n1_; have HB := n2_; clear n0_ n1_ n2_; clear hb ho56))
             go_ret
             exact ⟨_, fi, by (with_reducible repeat (first | apply Kd.R_alloc | apply Kd.R_drewN | apply Kd.R_drew)); exact HO255.out, bl⟩
            ·rw [if_neg c53] at H
             have c53b0 : (a0_0 == 65) = false := beq_eq_false_iff_ne.mpr c53
             have c53b1 : (a0_0 != 65) = true := bne_iff_ne.mpr c53
             obtain rfl := Option.some.inj H
             obtain ⟨hcz57_0, hcz57_1, hcz57_2, hcz57_3, hcz57_4, hcz57_5, hcz57_6, hfz57_0, hfz57_1, hfz57_2, hfz57_3, hfz57_4, hfz57_5, hfz57_6⟩ := cz7 (w := wc) BK222.out
             go_wp2
             go_ret
             exact ⟨_, fi, by first | exact Kd.R_nil _ _ _ _ _ | exact Kd.N_nil _ _ _ _ _ | exact Kd.V_nil _ _ _ _ _ | exact Kd.Q_nil _ _ _ _ _ | exact Kd.S_nil _ _ _ _ _, bl⟩

end Go.Proofs.YtffehgfjjagibaaDoor.GImagePlaces
