-- Written by wip/stub.py of this repo.
import Derived.Test.YtffehgfjjagibaaDoorGImagePlacesx0
import Derived.Test.YtffehgfjjagibaaDoorGImagePlacesx11
import Derived.Test.YtffehgfjjagibaaDoorGImagePlacesx13
import Derived.Test.YtffehgfjjagibaaDoorGImagePlacesx14
import Derived.Test.YtffehgfjjagibaaDoorGImagePlacesx15
namespace Go.Proofs.YtffehgfjjagibaaDoor.GImagePlaces
open Go.RowKit Go.Proofs.YtffehgfjjagibaaDoorW.PrintWords Go.Proofs.YtffehgfjjagibaaDoorW.PrintLast Go.Proofs.YtffehgfjjagibaaDoorW.PrintMore
attribute [local go_sem] max2_int min2_int max_two min_two max_three min_three max_four min_four   -- for this text's walks alone
set_option linter.unusedVariables false
set_option linter.unusedSimpArgs false

/-! ### spinnakerref05_Decode: function 10 -/
mutual
def spinnakerref05_Decode.l0 : Nat → Int → Int → Option (Int × Int × Int × Int × Int × Bool × Bool)
  | 0, _, _ => none
  | k + 1, x0, x3 => if x3 ≤ 87 then ((spinnakerref04_Word.f x3).bind fun t457 => (if (Int.tmod t457 128) = (Int.tmod x0 128) then ((spinnakerref03_Form.f x3).bind fun t458 => ((spinnakerref05_imm.f k x0 t458).bind fun t459 => ((spinnakerref03_HasRd.f k x3).bind fun t461 => (if t461 = true then ((spinnakerref05_bits.f k x0 7 5 0).bind fun t462 => (spinnakerref05_Decode.j1 k x0 x3 t458 x3 t462 0 0 t459 false false)) else (spinnakerref05_Decode.j1 k x0 x3 t458 x3 0 0 0 t459 false false))))) else (spinnakerref05_Decode.l0 k x0 (wrap64 (x3 + 1))))) else (some (0, 0, 0, 0, wrap64 (x0), false, false))
def spinnakerref05_Decode.j1 : Nat → Int → Int → Int → Int → Int → Int → Int → Int → Bool → Bool → Option (Int × Int × Int × Int × Int × Bool × Bool)
  | 0, _, _, _, _, _, _, _, _, _, _ => none
  | k + 1, x0, x3, x4, x461000, x461001, x461002, x461003, x461004, x461005, x461006 => (spinnakerref03_HasA.f k x3).bind fun t463 => (if t463 = true then ((spinnakerref05_bits.f k x0 15 5 0).bind fun t464 => (spinnakerref05_Decode.j2 k x0 x3 x4 x461000 x461001 t464 x461003 x461004 x461005 x461006)) else (spinnakerref05_Decode.j2 k x0 x3 x4 x461000 x461001 x461002 x461003 x461004 x461005 x461006))
def spinnakerref05_Decode.j2 : Nat → Int → Int → Int → Int → Int → Int → Int → Int → Bool → Bool → Option (Int × Int × Int × Int × Int × Bool × Bool)
  | 0, _, _, _, _, _, _, _, _, _, _ => none
  | k + 1, x0, x3, x4, x461000, x461001, x461002, x461003, x461004, x461005, x461006 => (spinnakerref03_HasB.f k x3).bind fun t465 => (if t465 = true then ((spinnakerref05_bits.f k x0 20 5 0).bind fun t466 => (spinnakerref05_Decode.j3 k x0 x3 x4 x461000 x461001 x461002 t466 x461004 x461005 x461006)) else (spinnakerref05_Decode.j3 k x0 x3 x4 x461000 x461001 x461002 x461003 x461004 x461005 x461006))
def spinnakerref05_Decode.j3 : Nat → Int → Int → Int → Int → Int → Int → Int → Int → Bool → Bool → Option (Int × Int × Int × Int × Int × Bool × Bool)
  | 0, _, _, _, _, _, _, _, _, _, _ => none
  | k + 1, x0, x3, x4, x461000, x461001, x461002, x461003, x461004, x461005, x461006 => if x4 = 10 then (spinnakerref05_Decode.j4 k x0 x3 true x461000 x461001 x461002 x461003 x461004 x461005 x461006) else (spinnakerref05_Decode.j4 k x0 x3 (x4 == 11) x461000 x461001 x461002 x461003 x461004 x461005 x461006)
def spinnakerref05_Decode.j4 : Nat → Int → Int → Bool → Int → Int → Int → Int → Int → Bool → Bool → Option (Int × Int × Int × Int × Int × Bool × Bool)
  | 0, _, _, _, _, _, _, _, _, _, _ => none
  | k + 1, x0, x3, x43, x461000, x461001, x461002, x461003, x461004, x461005, x461006 => if x43 = true then ((spinnakerref01_Bit.f k (IntKind.u64.wrap (x0)) 26).bind fun t467 => ((spinnakerref01_Bit.f k (IntKind.u64.wrap (x0)) 25).bind fun t468 => (spinnakerref05_Decode.j5 k x0 x3 x461000 x461001 x461002 x461003 x461004 (t467 == 1) (t468 == 1)))) else (spinnakerref05_Decode.j5 k x0 x3 x461000 x461001 x461002 x461003 x461004 x461005 x461006)
def spinnakerref05_Decode.j5 : Nat → Int → Int → Int → Int → Int → Int → Int → Bool → Bool → Option (Int × Int × Int × Int × Int × Bool × Bool)
  | 0, _, _, _, _, _, _, _, _, _ => none
  | k + 1, x0, x3, x461000, x461001, x461002, x461003, x461004, x461005, x461006 => (spinnakerref03_May.f k x461000 x461001 x461002 x461003 x461004 x461005 x461006).bind fun t469 => (if t469 = true then ((spinnakerref04_Encode.f k x461000 x461001 x461002 x461003 x461004 x461005 x461006).bind fun t470 => (if t470 = x0 then (some (x461000, x461001, x461002, x461003, x461004, x461005, x461006)) else (spinnakerref05_Decode.l0 k x0 (wrap64 (x3 + 1))))) else (spinnakerref05_Decode.l0 k x0 (wrap64 (x3 + 1))))
end
def spinnakerref05_Decode.f (k : Nat) (a0 : Int) : Option (Int × Int × Int × Int × Int × Bool × Bool) := spinnakerref05_Decode.l0 k a0 1
theorem spinnakerref05_Decode.mono_l : ∀ k, (∀ y0 y1, LeO (spinnakerref05_Decode.l0 k y0 y1) (spinnakerref05_Decode.l0 (k + 1) y0 y1)) ∧ (∀ y0 y1 y2 y3 y4 y5 y6 y7 y8 y9, LeO (spinnakerref05_Decode.j1 k y0 y1 y2 y3 y4 y5 y6 y7 y8 y9) (spinnakerref05_Decode.j1 (k + 1) y0 y1 y2 y3 y4 y5 y6 y7 y8 y9)) ∧ (∀ y0 y1 y2 y3 y4 y5 y6 y7 y8 y9, LeO (spinnakerref05_Decode.j2 k y0 y1 y2 y3 y4 y5 y6 y7 y8 y9) (spinnakerref05_Decode.j2 (k + 1) y0 y1 y2 y3 y4 y5 y6 y7 y8 y9)) ∧ (∀ y0 y1 y2 y3 y4 y5 y6 y7 y8 y9, LeO (spinnakerref05_Decode.j3 k y0 y1 y2 y3 y4 y5 y6 y7 y8 y9) (spinnakerref05_Decode.j3 (k + 1) y0 y1 y2 y3 y4 y5 y6 y7 y8 y9)) ∧ (∀ y0 y1 y2 y3 y4 y5 y6 y7 y8 y9, LeO (spinnakerref05_Decode.j4 k y0 y1 y2 y3 y4 y5 y6 y7 y8 y9) (spinnakerref05_Decode.j4 (k + 1) y0 y1 y2 y3 y4 y5 y6 y7 y8 y9)) ∧ (∀ y0 y1 y2 y3 y4 y5 y6 y7 y8, LeO (spinnakerref05_Decode.j5 k y0 y1 y2 y3 y4 y5 y6 y7 y8) (spinnakerref05_Decode.j5 (k + 1) y0 y1 y2 y3 y4 y5 y6 y7 y8))
 | 0 => ⟨fun _ _ r h => by simp [spinnakerref05_Decode.l0] at h, fun _ _ _ _ _ _ _ _ _ _ r h => by simp [spinnakerref05_Decode.j1] at h, fun _ _ _ _ _ _ _ _ _ _ r h => by simp [spinnakerref05_Decode.j2] at h, fun _ _ _ _ _ _ _ _ _ _ r h => by simp [spinnakerref05_Decode.j3] at h, fun _ _ _ _ _ _ _ _ _ _ r h => by simp [spinnakerref05_Decode.j4] at h, fun _ _ _ _ _ _ _ _ _ r h => by simp [spinnakerref05_Decode.j5] at h⟩
 | k + 1 => by
  obtain ⟨ih0, ih1, ih2, ih3, ih4, ih5⟩ := spinnakerref05_Decode.mono_l k
  refine ⟨?_, ?_, ?_, ?_, ?_, ?_⟩
  all_goals (intros; (first | unfold spinnakerref05_Decode.l0 | unfold spinnakerref05_Decode.j1 | unfold spinnakerref05_Decode.j2 | unfold spinnakerref05_Decode.j3 | unfold spinnakerref05_Decode.j4 | unfold spinnakerref05_Decode.j5); repeat' first | (with_reducible first | exact ih0 _ _ | exact ih1 _ _ _ _ _ _ _ _ _ _ | exact ih2 _ _ _ _ _ _ _ _ _ _ | exact ih3 _ _ _ _ _ _ _ _ _ _ | exact ih4 _ _ _ _ _ _ _ _ _ _ | exact ih5 _ _ _ _ _ _ _ _ _ | exact spinnakerref01_Bit.mono _ _ _ | exact spinnakerref03_HasA.mono _ _ | exact spinnakerref03_HasB.mono _ _ | exact spinnakerref03_HasRd.mono _ _ | exact spinnakerref03_May.mono _ _ _ _ _ _ _ _ | exact spinnakerref04_Encode.mono _ _ _ _ _ _ _ _ | exact spinnakerref05_bits.mono _ _ _ _ _ | exact spinnakerref05_imm.mono _ _ _ | exact LeO.refl _ | exact LeO.none _ | refine LeO.ite ?_ ?_ | refine LeO.bind ?_ (fun _ => ?_)) | exact ih0 _ _ | exact ih1 _ _ _ _ _ _ _ _ _ _ | exact ih2 _ _ _ _ _ _ _ _ _ _ | exact ih3 _ _ _ _ _ _ _ _ _ _ | exact ih4 _ _ _ _ _ _ _ _ _ _ | exact ih5 _ _ _ _ _ _ _ _ _ | exact spinnakerref01_Bit.mono _ _ _ | exact spinnakerref03_HasA.mono _ _ | exact spinnakerref03_HasB.mono _ _ | exact spinnakerref03_HasRd.mono _ _ | exact spinnakerref03_May.mono _ _ _ _ _ _ _ _ | exact spinnakerref04_Encode.mono _ _ _ _ _ _ _ _ | exact spinnakerref05_bits.mono _ _ _ _ _ | exact spinnakerref05_imm.mono _ _ _ | exact LeO.none _ | refine LeO.ite ?_ ?_ | refine LeO.bind ?_ (fun _ => ?_))
theorem spinnakerref05_Decode.mono : ∀ a0 k, LeO (spinnakerref05_Decode.f k a0) (spinnakerref05_Decode.f (k + 1) a0) := by
 intro a0 k
 obtain ⟨ih0, ih1, ih2, ih3, ih4, ih5⟩ := spinnakerref05_Decode.mono_l k
 unfold spinnakerref05_Decode.f
 repeat' first | (with_reducible first | exact ih0 _ _ | exact ih1 _ _ _ _ _ _ _ _ _ _ | exact ih2 _ _ _ _ _ _ _ _ _ _ | exact ih3 _ _ _ _ _ _ _ _ _ _ | exact ih4 _ _ _ _ _ _ _ _ _ _ | exact ih5 _ _ _ _ _ _ _ _ _ | exact spinnakerref01_Bit.mono _ _ _ | exact spinnakerref03_HasA.mono _ _ | exact spinnakerref03_HasB.mono _ _ | exact spinnakerref03_HasRd.mono _ _ | exact spinnakerref03_May.mono _ _ _ _ _ _ _ _ | exact spinnakerref04_Encode.mono _ _ _ _ _ _ _ _ | exact spinnakerref05_bits.mono _ _ _ _ _ | exact spinnakerref05_imm.mono _ _ _ | exact LeO.refl _ | exact LeO.none _ | refine LeO.ite ?_ ?_ | refine LeO.bind ?_ (fun _ => ?_)) | exact ih0 _ _ | exact ih1 _ _ _ _ _ _ _ _ _ _ | exact ih2 _ _ _ _ _ _ _ _ _ _ | exact ih3 _ _ _ _ _ _ _ _ _ _ | exact ih4 _ _ _ _ _ _ _ _ _ _ | exact ih5 _ _ _ _ _ _ _ _ _ | exact spinnakerref01_Bit.mono _ _ _ | exact spinnakerref03_HasA.mono _ _ | exact spinnakerref03_HasB.mono _ _ | exact spinnakerref03_HasRd.mono _ _ | exact spinnakerref03_May.mono _ _ _ _ _ _ _ _ | exact spinnakerref04_Encode.mono _ _ _ _ _ _ _ _ | exact spinnakerref05_bits.mono _ _ _ _ _ | exact spinnakerref05_imm.mono _ _ _ | exact LeO.none _ | refine LeO.ite ?_ ?_ | refine LeO.bind ?_ (fun _ => ?_)
set_option maxHeartbeats 8000000 in
set_option maxRecDepth 100000 in
theorem spinnakerref05_Decode.calls (k : Nat) (a0 : Int) (r1 : Int) (r2 : Int) (r3 : Int) (r4 : Int) (r5 : Int) (r6 : Bool) (r7 : Bool) (w : World) (h : spinnakerref05_Decode.f k a0 = some (r1, r2, r3, r4, r5, r6, r7)) :
  Calls Tryd.prog 10 #[.int .u32 a0] w fun e w' => e = .returned (.agg #[.int .i64 r1, .int .i64 r2, .int .i64 r3, .int .i64 r4, .int .i64 r5, .bool r6, .bool r7]) ∧ Below w.heap.size w w' := by
 have hu24 := Tryd.underlying24
 have HB := Aside0.mk (Below.refl w.heap.size w)
 have H : (spinnakerref05_Decode.l0 k a0 1) = some (r1, r2, r3, r4, r5, r6, r7) := h
 clear h
 have H' := Aside0.mk H
 clear H
 go_enter Tryd.func10, Tryd.ntmps10
 go_wp2_with (first | ((with_reducible refine gate_dst (N := 2) rfl ?_); refine box_event ?hg (N := 2) ?hd (cs := #[.int .i64 0, .int .i64 0, .int .i64 0, .int .i64 0, .int .i64 0, .bool false, .bool false]) (t := 24) ?hr ?_; (case hd => rfl); (case hg => rfl); (case hr => first | (go_simp; done) | (go_simp; rfl)); intro gb456 hg w2 hbox hb; obtain ⟨n0_, GW456⟩ := nb (w := w) hg hb; clear HB; have HB := n0_; have BK456 := Aside0.mk hbox; have GE456 := GW456; clear n0_ hb hbox hg))
 go_loopg [3] k (fun kq v3 w' => ∃ (x3_1 : Int) (x457000_1 : Int) (x457001_1 : Int) (x457002_1 : Int) (x457003_1 : Int) (x457004_1 : Int) (x457005_1 : Bool) (x457006_1 : Bool), v3 = .int .i64 x3_1 ∧ Aside0 (spinnakerref05_Decode.l0 kq a0 x3_1 = some (r1, r2, r3, r4, r5, r6, r7)) ∧ Aside0 (kq ≤ k) ∧ Aside0 (w'.heap[gb456]? = some (.cells #[.int .i64 x457000_1, .int .i64 x457001_1, .int .i64 x457002_1, .int .i64 x457003_1, .int .i64 x457004_1, .bool x457005_1, .bool x457006_1] 24 (0, 0))) ∧ Aside0 (Below w.heap.size w w'))
 case atStart => exact ⟨(1), (0), (0), (0), (0), (0), (false), (false), fj, H', ⟨Nat.le_refl _⟩, ⟨by refine bx ?_; exact BK456.out⟩, ⟨bl⟩⟩
 case round =>
  clear H'
  try clear c1
  try clear p2
  obtain ⟨x3_1, x457000_1, x457001_1, x457002_1, x457003_1, x457004_1, x457005_1, x457006_1, rfl, HA, HK1, BK456, HB⟩ := hrel
  cases gk with
  | zero => exact absurd HA.out (by simp [spinnakerref05_Decode.l0])
  | succ k1 =>
   have H := HA.out
   clear HA
   simp only [spinnakerref05_Decode.l0] at H
   by_cases c3 : x3_1 ≤ 87
   ·rw [if_pos c3] at H
    have c3b0 := decide_eq_true c3
    clear c3
    replace H := be H
    obtain ⟨t457, A4, H⟩ := H
    by_cases c5 : (Int.tmod t457 128) = (Int.tmod a0 128)
    ·rw [if_pos c5] at H
     have c5b0 : ((Int.tmod t457 128) == (Int.tmod a0 128)) = true := beq_iff_eq.mpr c5
     have c5b1 : ((Int.tmod t457 128) != (Int.tmod a0 128)) = false := bne_eq_false_iff_eq.mpr c5
     clear c5
     replace H := be H
     obtain ⟨t458, A6, H⟩ := H
     replace H := be H
     obtain ⟨t459, A7, H⟩ := H
     replace H := be H
     obtain ⟨t461, A8, H⟩ := H
     have HC9 := Aside0.mk H
     clear H
     go_upto_if 24 with (first | ((with_reducible refine gate_callee (f := 28) rfl ?_); refine goesL_ (some 11) rfl rfl Tryd.func28 (by kernel_rfl) rfl #[.int .i64 x3_1] rfl ga ?_; (with_reducible refine (spinnakerref04_Word.calls x3_1 t457 _ A4.out).mono ?_); rintro e w10 ⟨rfl, hb⟩; refine ⟨_, rfl, ?_⟩; have n0_ := Aside0.mk (blk_below (g := gb456) (o := .cells #[.int .i64 x457000_1, .int .i64 x457001_1, .int .i64 x457002_1, .int .i64 x457003_1, .int .i64 x457004_1, .bool x457005_1, .bool x457006_1] 24 (0, 0)) (bk BK456.out) hb); have n1_ := Aside0.mk (below_step bl hb); clear BK456; clear HB; have BK456 := n0_; have HB := n1_; clear n0_ n1_; (try clear hb)) | ((with_reducible refine gate_callee (f := 29) rfl ?_); refine goesL_ (some 17) rfl rfl Tryd.func29 (by kernel_rfl) rfl #[.int .i64 x3_1] rfl ga ?_; (with_reducible refine (spinnakerref03_Form.calls x3_1 t458 _ A6.out).mono ?_); rintro e w' ⟨rfl, ⟨nd, rfl⟩⟩; refine ⟨_, rfl, ?_⟩; (try (rw [drewN_self w10]; generalize hq_ : World.drewN w10 _ = w10; have n0_ : Aside0 (w10.heap[gb456]? = some (.cells #[.int .i64 x457000_1, .int .i64 x457001_1, .int .i64 x457002_1, .int .i64 x457003_1, .int .i64 x457004_1, .bool x457005_1, .bool x457006_1] 24 (0, 0))) := ⟨by rw [← hq_]; exact (bk BK456.out)⟩; have n1_ : Aside0 (Below w.heap.size w w10) := ⟨by rw [← hq_]; exact bl⟩; clear BK456 HB hq_; have BK456 := n0_; have HB := n1_; clear n0_ n1_))) | ((with_reducible refine gate_callee (f := 30) rfl ?_); refine goesL_ (some 21) rfl rfl Tryd.func30 (by kernel_rfl) rfl #[.int .u32 a0, .int .i64 t458] rfl ga ?_; (with_reducible refine (spinnakerref05_imm.calls k1 a0 t458 t459 _ A7.out).mono ?_); rintro e w' ⟨rfl, ⟨nd, rfl⟩⟩; refine ⟨_, rfl, ?_⟩; (try (rw [drewN_self w10]; generalize hq_ : World.drewN w10 _ = w10; have n0_ : Aside0 (w10.heap[gb456]? = some (.cells #[.int .i64 x457000_1, .int .i64 x457001_1, .int .i64 x457002_1, .int .i64 x457003_1, .int .i64 x457004_1, .bool x457005_1, .bool x457006_1] 24 (0, 0))) := ⟨by rw [← hq_]; exact (bk BK456.out)⟩; have n1_ : Aside0 (Below w.heap.size w w10) := ⟨by rw [← hq_]; exact bl⟩; clear BK456 HB hq_; have BK456 := n0_; have HB := n1_; clear n0_ n1_))) | ((with_reducible refine gate_dst (N := 5) rfl ?_); refine box_event ?hg (N := 5) ?hd (cs := #[.int .i64 0, .int .i64 0, .int .i64 0, .int .i64 0, .int .i64 0, .bool false, .bool false]) (t := 24) ?hr ?_; (case hd => rfl); (case hg => rfl); (case hr => first | (go_simp; done) | (go_simp; rfl)); intro gb460 hg w11 hbox hb; have n0_ := Aside0.mk (blk_below (g := gb456) (o := .cells #[.int .i64 x457000_1, .int .i64 x457001_1, .int .i64 x457002_1, .int .i64 x457003_1, .int .i64 x457004_1, .bool x457005_1, .bool x457006_1] 24 (0, 0)) (bk BK456.out) hb); have n1_ := Aside0.mk (below_step bl hb); have n2_ := Aside0.mk (hbox); have n3_ := Aside0.mk ((by rw [hg]; exact (below_size bl) : w.heap.size ≤ gb460)); have n4_ := Aside0.mk ((by rw [hg]; exact (below_size bl) : w.heap.size ≤ gb460)); have n5_ := Aside0.mk ((by rw [hg]; exact Nat.ne_of_lt (blk_lt (g := gb456) (o := .cells #[.int .i64 x457000_1, .int .i64 x457001_1, .int .i64 x457002_1, .int .i64 x457003_1, .int .i64 x457004_1, .bool x457005_1, .bool x457006_1] 24 (0, 0)) (bk BK456.out)) : gb456 ≠ gb460)); have n6_ := Aside0.mk ((by rw [hg]; exact Nat.ne_of_gt (blk_lt (g := gb456) (o := .cells #[.int .i64 x457000_1, .int .i64 x457001_1, .int .i64 x457002_1, .int .i64 x457003_1, .int .i64 x457004_1, .bool x457005_1, .bool x457006_1] 24 (0, 0)) (bk BK456.out)) : gb460 ≠ gb456)); clear BK456; clear HB; have BK456 := n0_; have HB := n1_; have BK460 := n2_; have GW460 := n3_; have GE460 := n4_; have NB456_460 := n5_; have NB460_456 := n6_; clear n0_ n1_ n2_ n3_ n4_ n5_ n6_; clear hb hbox hg; have hnb12 := NB460_456.out; have hnc12 := NB456_460.out; obtain ⟨hcz13_0, hcz13_1, hcz13_2, hcz13_3, hcz13_4, hcz13_5, hcz13_6, hfz13_0, hfz13_1, hfz13_2, hfz13_3, hfz13_4, hfz13_5, hfz13_6⟩ := cz7 (w := w11) BK460.out) | ((with_reducible refine gate_callee (f := 31) rfl ?_); refine goesL_ (some 24) rfl rfl Tryd.func31 (by kernel_rfl) rfl #[.int .i64 x3_1] rfl ga ?_; (with_reducible refine (spinnakerref03_HasRd.calls k1 x3_1 t461 _ A8.out).mono ?_); rintro e w' ⟨rfl, ⟨nd, rfl⟩⟩; refine ⟨_, rfl, ?_⟩))
     (try simp only [Act.put, List.setIfInBounds_toArray, List.set_cons_zero, List.set_cons_succ])
     go_cut [] (fun wc => ∃ (kq : Nat) (x461001_8 : Int), Aside0 (spinnakerref05_Decode.j1 kq a0 x3_1 t458 x3_1 x461001_8 0 0 t459 false false = some (r1, r2, r3, r4, r5, r6, r7)) ∧ Aside0 (kq ≤ k1) ∧ Aside0 (wc.heap[gb456]? = some (.cells #[.int .i64 x457000_1, .int .i64 x457001_1, .int .i64 x457002_1, .int .i64 x457003_1, .int .i64 x457004_1, .bool x457005_1, .bool x457006_1] 24 (0, 0))) ∧ Aside0 (wc.heap[gb460]? = some (.cells #[.int .i64 x3_1, .int .i64 x461001_8, .int .i64 0, .int .i64 0, .int .i64 t459, .bool false, .bool false] 24 (0, 0))) ∧ Aside0 (Below w.heap.size w wc))
     case first =>
      have H := HC9.out
      clear HC9
      by_cases c14 : t461 = true
      ·subst c14
       have H1 : ((spinnakerref05_bits.f k1 a0 7 5 0).bind fun t462 => (spinnakerref05_Decode.j1 k1 a0 x3_1 t458 x3_1 t462 0 0 t459 false false)) = some (r1, r2, r3, r4, r5, r6, r7) := by rw [if_pos rfl] at H; exact H
       clear H
       have H := H1
       clear H1
       replace H := be H
       obtain ⟨t462, A15, H⟩ := H
       have H' := Aside0.mk H
       clear H
       go_wp2_with (first | ((with_reducible refine gate_callee (f := 32) rfl ?_); refine goesL_ (some 26) rfl rfl Tryd.func32 (by kernel_rfl) rfl #[.int .u32 a0, .int .i64 7, .int .i64 5, .int .i64 0] rfl ga ?_; (with_reducible refine (spinnakerref05_bits.calls k1 a0 7 5 0 t462 _ A15.out).mono ?_); rintro e w' ⟨rfl, ⟨nd, rfl⟩⟩; refine ⟨_, rfl, ?_⟩; have hnb16 := NB460_456.out; have hnc16 := NB456_460.out; obtain ⟨hcz17_0, hcz17_1, hcz17_2, hcz17_3, hcz17_4, hcz17_5, hcz17_6, hfz17_0, hfz17_1, hfz17_2, hfz17_3, hfz17_4, hfz17_5, hfz17_6⟩ := cz7 (w := w11) BK460.out))
       go_meet
       case rel => exact ⟨_, (t462), H', ⟨by have := HK1.out; first | omega | exact Nat.le_refl _⟩, ⟨by refine bx ?_; refine blk_far ?_ NB456_460.out _; refine bx ?_; refine blk_far ?_ NB456_460.out _; refine bx ?_; refine blk_far ?_ NB456_460.out _; refine bx ?_; refine blk_far ?_ NB456_460.out _; refine bx ?_; refine blk_far ?_ NB456_460.out _; refine bx ?_; refine blk_far ?_ NB456_460.out _; refine bx ?_; refine blk_far ?_ NB456_460.out _; refine bx ?_; refine blk_far ?_ NB456_460.out _; refine bx ?_; exact BK456.out⟩, ⟨by refine bx ?_; refine blk_put (cs := #[.int .i64 x3_1, .int .i64 0, .int .i64 0, .int .i64 0, .int .i64 t459, .bool false, .bool false]) ?_ 1 _ rfl; refine bx ?_; refine blk_put (cs := #[.int .i64 x3_1, .int .i64 0, .int .i64 0, .int .i64 0, .int .i64 t459, .bool false, .bool false]) ?_ 6 _ rfl; refine bx ?_; refine blk_put (cs := #[.int .i64 x3_1, .int .i64 0, .int .i64 0, .int .i64 0, .int .i64 t459, .bool false, .bool false]) ?_ 5 _ rfl; refine bx ?_; refine blk_put (cs := #[.int .i64 x3_1, .int .i64 0, .int .i64 0, .int .i64 0, .int .i64 0, .bool false, .bool false]) ?_ 4 _ rfl; refine bx ?_; refine blk_put (cs := #[.int .i64 x3_1, .int .i64 0, .int .i64 0, .int .i64 0, .int .i64 0, .bool false, .bool false]) ?_ 3 _ rfl; refine bx ?_; refine blk_put (cs := #[.int .i64 x3_1, .int .i64 0, .int .i64 0, .int .i64 0, .int .i64 0, .bool false, .bool false]) ?_ 2 _ rfl; refine bx ?_; refine blk_put (cs := #[.int .i64 x3_1, .int .i64 0, .int .i64 0, .int .i64 0, .int .i64 0, .bool false, .bool false]) ?_ 1 _ rfl; refine bx ?_; refine blk_put (cs := #[.int .i64 0, .int .i64 0, .int .i64 0, .int .i64 0, .int .i64 0, .bool false, .bool false]) ?_ 0 _ rfl; refine bx ?_; exact BK460.out⟩, ⟨bl⟩⟩
      ·replace c14 := Bool.eq_false_iff.mpr c14
       subst c14
       have H1 : (spinnakerref05_Decode.j1 k1 a0 x3_1 t458 x3_1 0 0 0 t459 false false) = some (r1, r2, r3, r4, r5, r6, r7) := by rw [if_neg (show ¬ (false = true) by decide)] at H; exact H
       clear H
       have H := H1
       clear H1
       have H' := Aside0.mk H
       clear H
       go_wp2
       go_meet
       case rel => exact ⟨_, (0), H', ⟨by have := HK1.out; first | omega | exact Nat.le_refl _⟩, ⟨by refine bx ?_; refine blk_far ?_ NB456_460.out _; refine bx ?_; refine blk_far ?_ NB456_460.out _; refine bx ?_; refine blk_far ?_ NB456_460.out _; refine bx ?_; refine blk_far ?_ NB456_460.out _; refine bx ?_; refine blk_far ?_ NB456_460.out _; refine bx ?_; refine blk_far ?_ NB456_460.out _; refine bx ?_; refine blk_far ?_ NB456_460.out _; refine bx ?_; exact BK456.out⟩, ⟨by refine bx ?_; refine blk_put (cs := #[.int .i64 x3_1, .int .i64 0, .int .i64 0, .int .i64 0, .int .i64 t459, .bool false, .bool false]) ?_ 6 _ rfl; refine bx ?_; refine blk_put (cs := #[.int .i64 x3_1, .int .i64 0, .int .i64 0, .int .i64 0, .int .i64 t459, .bool false, .bool false]) ?_ 5 _ rfl; refine bx ?_; refine blk_put (cs := #[.int .i64 x3_1, .int .i64 0, .int .i64 0, .int .i64 0, .int .i64 0, .bool false, .bool false]) ?_ 4 _ rfl; refine bx ?_; refine blk_put (cs := #[.int .i64 x3_1, .int .i64 0, .int .i64 0, .int .i64 0, .int .i64 0, .bool false, .bool false]) ?_ 3 _ rfl; refine bx ?_; refine blk_put (cs := #[.int .i64 x3_1, .int .i64 0, .int .i64 0, .int .i64 0, .int .i64 0, .bool false, .bool false]) ?_ 2 _ rfl; refine bx ?_; refine blk_put (cs := #[.int .i64 x3_1, .int .i64 0, .int .i64 0, .int .i64 0, .int .i64 0, .bool false, .bool false]) ?_ 1 _ rfl; refine bx ?_; refine blk_put (cs := #[.int .i64 0, .int .i64 0, .int .i64 0, .int .i64 0, .int .i64 0, .bool false, .bool false]) ?_ 0 _ rfl; refine bx ?_; exact BK460.out⟩, ⟨bl⟩⟩
     case rest =>
      clear HC9
      try clear c1
      try clear c2
      try clear p2
      try clear c3
      try clear c3b0
      try clear c5
      try clear c5b0
      try clear c5b1
      try clear p6
      try clear c10
      try clear c12
      try clear c14
      try clear c16
      try clear hcz13_0 hcz13_1 hcz13_2 hcz13_3 hcz13_4 hcz13_5 hcz13_6
      try clear hcz17_0 hcz17_1 hcz17_2 hcz17_3 hcz17_4 hcz17_5 hcz17_6
      try clear hfz13_0 hfz13_1 hfz13_2 hfz13_3 hfz13_4 hfz13_5 hfz13_6
      try clear hfz17_0 hfz17_1 hfz17_2 hfz17_3 hfz17_4 hfz17_5 hfz17_6
      try clear p2
      obtain ⟨kq, x461001_8, HA, HJ8, BK456, BK460, HB⟩ := hcut
      cases kq with
      | zero => exact absurd HA.out (by simp [spinnakerref05_Decode.j1])
      | succ kj8 =>
       have H := HA.out
       clear HA
       simp only [spinnakerref05_Decode.j1] at H
       replace H := be H
       obtain ⟨t463, A18, H⟩ := H
       have HC19 := Aside0.mk H
       clear H
       go_upto_if 29 with (first | ((with_reducible refine gate_callee (f := 33) rfl ?_); refine goesL_ (some 29) rfl rfl Tryd.func33 (by kernel_rfl) rfl #[.int .i64 x3_1] rfl ga ?_; (with_reducible refine (spinnakerref03_HasA.calls kj8 x3_1 t463 _ A18.out).mono ?_); rintro e w' ⟨rfl, ⟨nd, rfl⟩⟩; refine ⟨_, rfl, ?_⟩))
       (try simp only [Act.put, List.setIfInBounds_toArray, List.set_cons_zero, List.set_cons_succ])
       go_cut [] (fun wc => ∃ (kq : Nat) (x461002_18 : Int), Aside0 (spinnakerref05_Decode.j2 kq a0 x3_1 t458 x3_1 x461001_8 x461002_18 0 t459 false false = some (r1, r2, r3, r4, r5, r6, r7)) ∧ Aside0 (kq ≤ kj8) ∧ Aside0 (wc.heap[gb456]? = some (.cells #[.int .i64 x457000_1, .int .i64 x457001_1, .int .i64 x457002_1, .int .i64 x457003_1, .int .i64 x457004_1, .bool x457005_1, .bool x457006_1] 24 (0, 0))) ∧ Aside0 (wc.heap[gb460]? = some (.cells #[.int .i64 x3_1, .int .i64 x461001_8, .int .i64 x461002_18, .int .i64 0, .int .i64 t459, .bool false, .bool false] 24 (0, 0))) ∧ Aside0 (Below w.heap.size w wc))
       case first =>
        have H := HC19.out
        clear HC19
        by_cases c20 : t463 = true
        ·subst c20
         have H1 : ((spinnakerref05_bits.f kj8 a0 15 5 0).bind fun t464 => (spinnakerref05_Decode.j2 kj8 a0 x3_1 t458 x3_1 x461001_8 t464 0 t459 false false)) = some (r1, r2, r3, r4, r5, r6, r7) := by rw [if_pos rfl] at H; exact H
         clear H
         have H := H1
         clear H1
         replace H := be H
         obtain ⟨t464, A21, H⟩ := H
         have H' := Aside0.mk H
         clear H
         go_wp2_with (first | ((with_reducible refine gate_callee (f := 32) rfl ?_); refine goesL_ (some 31) rfl rfl Tryd.func32 (by kernel_rfl) rfl #[.int .u32 a0, .int .i64 15, .int .i64 5, .int .i64 0] rfl ga ?_; (with_reducible refine (spinnakerref05_bits.calls kj8 a0 15 5 0 t464 _ A21.out).mono ?_); rintro e w' ⟨rfl, ⟨nd, rfl⟩⟩; refine ⟨_, rfl, ?_⟩; (try (rw [drewN_self wc]; generalize hq_ : World.drewN wc _ = wc; have n0_ : Aside0 (wc.heap[gb456]? = some (.cells #[.int .i64 x457000_1, .int .i64 x457001_1, .int .i64 x457002_1, .int .i64 x457003_1, .int .i64 x457004_1, .bool x457005_1, .bool x457006_1] 24 (0, 0))) := ⟨by rw [← hq_]; exact (bk BK456.out)⟩; have n1_ : Aside0 (wc.heap[gb460]? = some (.cells #[.int .i64 x3_1, .int .i64 x461001_8, .int .i64 0, .int .i64 0, .int .i64 t459, .bool false, .bool false] 24 (0, 0))) := ⟨by rw [← hq_]; exact (bk BK460.out)⟩; have n2_ : Aside0 (Below w.heap.size w wc) := ⟨by rw [← hq_]; exact bl⟩; clear BK456 BK460 HB hq_; have BK456 := n0_; have BK460 := n1_; have HB := n2_; clear n0_ n1_ n2_)); have hnb22 := NB460_456.out; have hnc22 := NB456_460.out; obtain ⟨hcz23_0, hcz23_1, hcz23_2, hcz23_3, hcz23_4, hcz23_5, hcz23_6, hfz23_0, hfz23_1, hfz23_2, hfz23_3, hfz23_4, hfz23_5, hfz23_6⟩ := cz7 (w := wc) BK460.out))
         go_meet
         case rel => exact ⟨_, (t464), H', ⟨by have := HK1.out; have := HJ8.out; first | omega | exact Nat.le_refl _⟩, ⟨by refine bx ?_; refine blk_far ?_ NB456_460.out _; refine bx ?_; exact BK456.out⟩, ⟨by refine bx ?_; refine blk_put (cs := #[.int .i64 x3_1, .int .i64 x461001_8, .int .i64 0, .int .i64 0, .int .i64 t459, .bool false, .bool false]) ?_ 2 _ rfl; refine bx ?_; exact BK460.out⟩, ⟨bl⟩⟩
        ·replace c20 := Bool.eq_false_iff.mpr c20
         subst c20
         have H1 : (spinnakerref05_Decode.j2 kj8 a0 x3_1 t458 x3_1 x461001_8 0 0 t459 false false) = some (r1, r2, r3, r4, r5, r6, r7) := by rw [if_neg (show ¬ (false = true) by decide)] at H; exact H
         clear H
         have H := H1
         clear H1
         have H' := Aside0.mk H
         clear H
         go_wp2
         go_meet
         case rel => exact ⟨_, (0), H', ⟨by have := HK1.out; have := HJ8.out; first | omega | exact Nat.le_refl _⟩, ⟨by refine bx ?_; exact BK456.out⟩, ⟨by refine bx ?_; exact BK460.out⟩, ⟨bl⟩⟩
       case rest =>
        clear HC19
        try clear c1
        try clear c2
        try clear p2
        try clear c3
        try clear c3b0
        try clear c5
        try clear c5b0
        try clear c5b1
        try clear p6
        try clear c10
        try clear c12
        try clear c14
        try clear c16
        try clear c20
        try clear c22
        try clear hcz13_0 hcz13_1 hcz13_2 hcz13_3 hcz13_4 hcz13_5 hcz13_6
        try clear hcz17_0 hcz17_1 hcz17_2 hcz17_3 hcz17_4 hcz17_5 hcz17_6
        try clear hcz23_0 hcz23_1 hcz23_2 hcz23_3 hcz23_4 hcz23_5 hcz23_6
        try clear hfz13_0 hfz13_1 hfz13_2 hfz13_3 hfz13_4 hfz13_5 hfz13_6
        try clear hfz17_0 hfz17_1 hfz17_2 hfz17_3 hfz17_4 hfz17_5 hfz17_6
        try clear hfz23_0 hfz23_1 hfz23_2 hfz23_3 hfz23_4 hfz23_5 hfz23_6
        try clear p2
        try clear p6
        obtain ⟨kq, x461002_18, HA, HJ18, BK456, BK460, HB⟩ := hcut
        cases kq with
        | zero => exact absurd HA.out (by simp [spinnakerref05_Decode.j2])
        | succ kj18 =>
         have H := HA.out
         clear HA
         simp only [spinnakerref05_Decode.j2] at H
         replace H := be H
         obtain ⟨t465, A24, H⟩ := H
         have HC25 := Aside0.mk H
         clear H
         go_upto_if 34 with (first | ((with_reducible refine gate_callee (f := 34) rfl ?_); refine goesL_ (some 34) rfl rfl Tryd.func34 (by kernel_rfl) rfl #[.int .i64 x3_1] rfl ga ?_; (with_reducible refine (spinnakerref03_HasB.calls kj18 x3_1 t465 _ A24.out).mono ?_); rintro e w' ⟨rfl, ⟨nd, rfl⟩⟩; refine ⟨_, rfl, ?_⟩))
         (try simp only [Act.put, List.setIfInBounds_toArray, List.set_cons_zero, List.set_cons_succ])
         go_cut [] (fun wc => ∃ (kq : Nat) (x461003_24 : Int), Aside0 (spinnakerref05_Decode.j3 kq a0 x3_1 t458 x3_1 x461001_8 x461002_18 x461003_24 t459 false false = some (r1, r2, r3, r4, r5, r6, r7)) ∧ Aside0 (kq ≤ kj18) ∧ Aside0 (wc.heap[gb456]? = some (.cells #[.int .i64 x457000_1, .int .i64 x457001_1, .int .i64 x457002_1, .int .i64 x457003_1, .int .i64 x457004_1, .bool x457005_1, .bool x457006_1] 24 (0, 0))) ∧ Aside0 (wc.heap[gb460]? = some (.cells #[.int .i64 x3_1, .int .i64 x461001_8, .int .i64 x461002_18, .int .i64 x461003_24, .int .i64 t459, .bool false, .bool false] 24 (0, 0))) ∧ Aside0 (Below w.heap.size w wc))
         case first =>
          have H := HC25.out
          clear HC25
          by_cases c26 : t465 = true
          ·subst c26
           have H1 : ((spinnakerref05_bits.f kj18 a0 20 5 0).bind fun t466 => (spinnakerref05_Decode.j3 kj18 a0 x3_1 t458 x3_1 x461001_8 x461002_18 t466 t459 false false)) = some (r1, r2, r3, r4, r5, r6, r7) := by rw [if_pos rfl] at H; exact H
           clear H
           have H := H1
           clear H1
           replace H := be H
           obtain ⟨t466, A27, H⟩ := H
           have H' := Aside0.mk H
           clear H
           go_wp2_with (first | ((with_reducible refine gate_callee (f := 32) rfl ?_); refine goesL_ (some 36) rfl rfl Tryd.func32 (by kernel_rfl) rfl #[.int .u32 a0, .int .i64 20, .int .i64 5, .int .i64 0] rfl ga ?_; (with_reducible refine (spinnakerref05_bits.calls kj18 a0 20 5 0 t466 _ A27.out).mono ?_); rintro e w' ⟨rfl, ⟨nd, rfl⟩⟩; refine ⟨_, rfl, ?_⟩; (try (rw [drewN_self wc]; generalize hq_ : World.drewN wc _ = wc; have n0_ : Aside0 (wc.heap[gb456]? = some (.cells #[.int .i64 x457000_1, .int .i64 x457001_1, .int .i64 x457002_1, .int .i64 x457003_1, .int .i64 x457004_1, .bool x457005_1, .bool x457006_1] 24 (0, 0))) := ⟨by rw [← hq_]; exact (bk BK456.out)⟩; have n1_ : Aside0 (wc.heap[gb460]? = some (.cells #[.int .i64 x3_1, .int .i64 x461001_8, .int .i64 x461002_18, .int .i64 0, .int .i64 t459, .bool false, .bool false] 24 (0, 0))) := ⟨by rw [← hq_]; exact (bk BK460.out)⟩; have n2_ : Aside0 (Below w.heap.size w wc) := ⟨by rw [← hq_]; exact bl⟩; clear BK456 BK460 HB hq_; have BK456 := n0_; have BK460 := n1_; have HB := n2_; clear n0_ n1_ n2_)); have hnb28 := NB460_456.out; have hnc28 := NB456_460.out; obtain ⟨hcz29_0, hcz29_1, hcz29_2, hcz29_3, hcz29_4, hcz29_5, hcz29_6, hfz29_0, hfz29_1, hfz29_2, hfz29_3, hfz29_4, hfz29_5, hfz29_6⟩ := cz7 (w := wc) BK460.out))
           go_meet
           case rel => exact ⟨_, (t466), H', ⟨by have := HK1.out; have := HJ8.out; have := HJ18.out; first | omega | exact Nat.le_refl _⟩, ⟨by refine bx ?_; refine blk_far ?_ NB456_460.out _; refine bx ?_; exact BK456.out⟩, ⟨by refine bx ?_; refine blk_put (cs := #[.int .i64 x3_1, .int .i64 x461001_8, .int .i64 x461002_18, .int .i64 0, .int .i64 t459, .bool false, .bool false]) ?_ 3 _ rfl; refine bx ?_; exact BK460.out⟩, ⟨bl⟩⟩
          ·replace c26 := Bool.eq_false_iff.mpr c26
           subst c26
           have H1 : (spinnakerref05_Decode.j3 kj18 a0 x3_1 t458 x3_1 x461001_8 x461002_18 0 t459 false false) = some (r1, r2, r3, r4, r5, r6, r7) := by rw [if_neg (show ¬ (false = true) by decide)] at H; exact H
           clear H
           have H := H1
           clear H1
           have H' := Aside0.mk H
           clear H
           go_wp2
           go_meet
           case rel => exact ⟨_, (0), H', ⟨by have := HK1.out; have := HJ8.out; have := HJ18.out; first | omega | exact Nat.le_refl _⟩, ⟨by refine bx ?_; exact BK456.out⟩, ⟨by refine bx ?_; exact BK460.out⟩, ⟨bl⟩⟩
         case rest =>
          clear HC25
          try clear c1
          try clear c2
          try clear p2
          try clear c3
          try clear c3b0
          try clear c5
          try clear c5b0
          try clear c5b1
          try clear p6
          try clear c10
          try clear c12
          try clear c14
          try clear c16
          try clear c20
          try clear c22
          try clear c26
          try clear c28
          try clear c29
          try clear hcz13_0 hcz13_1 hcz13_2 hcz13_3 hcz13_4 hcz13_5 hcz13_6
          try clear hcz17_0 hcz17_1 hcz17_2 hcz17_3 hcz17_4 hcz17_5 hcz17_6
          try clear hcz23_0 hcz23_1 hcz23_2 hcz23_3 hcz23_4 hcz23_5 hcz23_6
          try clear hcz29_0 hcz29_1 hcz29_2 hcz29_3 hcz29_4 hcz29_5 hcz29_6
          try clear hfz13_0 hfz13_1 hfz13_2 hfz13_3 hfz13_4 hfz13_5 hfz13_6
          try clear hfz17_0 hfz17_1 hfz17_2 hfz17_3 hfz17_4 hfz17_5 hfz17_6
          try clear hfz23_0 hfz23_1 hfz23_2 hfz23_3 hfz23_4 hfz23_5 hfz23_6
          try clear hfz29_0 hfz29_1 hfz29_2 hfz29_3 hfz29_4 hfz29_5 hfz29_6
          try clear p2
          try clear p6
          obtain ⟨kq, x461003_24, HA, HJ24, BK456, BK460, HB⟩ := hcut
          cases kq with
          | zero => exact absurd HA.out (by simp [spinnakerref05_Decode.j3])
          | succ kj24 =>
           have H := HA.out
           clear HA
           simp only [spinnakerref05_Decode.j3] at H
           have HC30 := Aside0.mk H
           clear H
           go_upto_region 13 with (fail)
           go_cut [43] (fun v43 wc => ∃ (kq : Nat) (x43_29 : Bool), v43 = .bool x43_29 ∧ Aside0 (spinnakerref05_Decode.j4 kq a0 x3_1 x43_29 x3_1 x461001_8 x461002_18 x461003_24 t459 false false = some (r1, r2, r3, r4, r5, r6, r7)) ∧ Aside0 (kq ≤ kj24) ∧ Aside0 (wc.heap[gb456]? = some (.cells #[.int .i64 x457000_1, .int .i64 x457001_1, .int .i64 x457002_1, .int .i64 x457003_1, .int .i64 x457004_1, .bool x457005_1, .bool x457006_1] 24 (0, 0))) ∧ Aside0 (wc.heap[gb460]? = some (.cells #[.int .i64 x3_1, .int .i64 x461001_8, .int .i64 x461002_18, .int .i64 x461003_24, .int .i64 t459, .bool false, .bool false] 24 (0, 0))) ∧ Aside0 (Below w.heap.size w wc))
           case first =>
            have H := HC30.out
            clear HC30
            by_cases c31 : t458 = 10
            ·rw [if_pos c31] at H
             obtain ⟨c31b0, c31b1⟩ := eqs c31
             clear c31
             (first | rw [c31b0] | (simp only [i64_w, i32_w]; rw [c31b0]) | skip)
             have H' := Aside0.mk H
             clear H
             go_wp2
             go_meet
             case rel => exact ⟨_, (true), fj, H', ⟨by have := HK1.out; have := HJ8.out; have := HJ18.out; have := HJ24.out; first | omega | exact Nat.le_refl _⟩, ⟨by refine bx ?_; exact BK456.out⟩, ⟨by refine bx ?_; exact BK460.out⟩, ⟨bl⟩⟩
            ·rw [if_neg c31] at H
             have c31b0 : (t458 == 10) = false := beq_eq_false_iff_ne.mpr c31
             have c31b1 : (t458 != 10) = true := bne_iff_ne.mpr c31
             (first | rw [c31b0] | (simp only [i64_w, i32_w]; rw [c31b0]) | skip)
             have H' := Aside0.mk H
             clear H
             go_wp2
             go_meet
             case rel => exact ⟨_, ((t458 == 11)), fj, H', ⟨by have := HK1.out; have := HJ8.out; have := HJ18.out; have := HJ24.out; first | omega | exact Nat.le_refl _⟩, ⟨by refine bx ?_; exact BK456.out⟩, ⟨by refine bx ?_; exact BK460.out⟩, ⟨bl⟩⟩
           case rest =>
            clear HC30
            try clear c1
            try clear c2
            try clear p2
            try clear c3
            try clear c3b0
            try clear c5
            try clear c5b0
            try clear c5b1
            try clear p6
            try clear c10
            try clear c12
            try clear c14
            try clear c16
            try clear c20
            try clear c22
            try clear c26
            try clear c28
            try clear c29
            try clear c30
            try clear c31
            try clear c31b0
            try clear c31b1
            try clear hcz13_0 hcz13_1 hcz13_2 hcz13_3 hcz13_4 hcz13_5 hcz13_6
            try clear hcz17_0 hcz17_1 hcz17_2 hcz17_3 hcz17_4 hcz17_5 hcz17_6
            try clear hcz23_0 hcz23_1 hcz23_2 hcz23_3 hcz23_4 hcz23_5 hcz23_6
            try clear hcz29_0 hcz29_1 hcz29_2 hcz29_3 hcz29_4 hcz29_5 hcz29_6
            try clear hfz13_0 hfz13_1 hfz13_2 hfz13_3 hfz13_4 hfz13_5 hfz13_6
            try clear hfz17_0 hfz17_1 hfz17_2 hfz17_3 hfz17_4 hfz17_5 hfz17_6
            try clear hfz23_0 hfz23_1 hfz23_2 hfz23_3 hfz23_4 hfz23_5 hfz23_6
            try clear hfz29_0 hfz29_1 hfz29_2 hfz29_3 hfz29_4 hfz29_5 hfz29_6
            try clear p2
            try clear p6
            obtain ⟨kq, x43_29, rfl, HA, HJ29, BK456, BK460, HB⟩ := hcut
            cases kq with
            | zero => exact absurd HA.out (by simp [spinnakerref05_Decode.j4])
            | succ kj29 =>
             have H := HA.out
             clear HA
             simp only [spinnakerref05_Decode.j4] at H
             have HC32 := Aside0.mk H
             clear H
             go_upto_if 43 with (fail)
             go_cut [] (fun wc => ∃ (kq : Nat) (x461005_31 : Bool) (x461006_31 : Bool), Aside0 (spinnakerref05_Decode.j5 kq a0 x3_1 x3_1 x461001_8 x461002_18 x461003_24 t459 x461005_31 x461006_31 = some (r1, r2, r3, r4, r5, r6, r7)) ∧ Aside0 (kq ≤ kj29) ∧ Aside0 (wc.heap[gb456]? = some (.cells #[.int .i64 x457000_1, .int .i64 x457001_1, .int .i64 x457002_1, .int .i64 x457003_1, .int .i64 x457004_1, .bool x457005_1, .bool x457006_1] 24 (0, 0))) ∧ Aside0 (wc.heap[gb460]? = some (.cells #[.int .i64 x3_1, .int .i64 x461001_8, .int .i64 x461002_18, .int .i64 x461003_24, .int .i64 t459, .bool x461005_31, .bool x461006_31] 24 (0, 0))) ∧ Aside0 (Below w.heap.size w wc))
             case first =>
              have H := HC32.out
              clear HC32
              by_cases c33 : x43_29 = true
              ·subst c33
               have H1 : ((spinnakerref01_Bit.f kj29 (IntKind.u64.wrap (a0)) 26).bind fun t467 => ((spinnakerref01_Bit.f kj29 (IntKind.u64.wrap (a0)) 25).bind fun t468 => (spinnakerref05_Decode.j5 kj29 a0 x3_1 x3_1 x461001_8 x461002_18 x461003_24 t459 (t467 == 1) (t468 == 1)))) = some (r1, r2, r3, r4, r5, r6, r7) := by rw [if_pos rfl] at H; exact H
               clear H
               have H := H1
               clear H1
               replace H := be H
               obtain ⟨t467, A34, H⟩ := H
               replace H := be H
               obtain ⟨t468, A35, H⟩ := H
               have H' := Aside0.mk H
               clear H
               go_wp2_with (first | ((with_reducible refine gate_callee (f := 35) rfl ?_); refine goesL_ (some 46) rfl rfl Tryd.func35 (by kernel_rfl) rfl #[.int .u64 (IntKind.u64.wrap (a0)), .int .i64 26] rfl ga ?_; (with_reducible refine (spinnakerref01_Bit.calls kj29 (IntKind.u64.wrap (a0)) 26 t467 _ A34.out).mono ?_); rintro e w' ⟨rfl, ⟨nd, rfl⟩⟩; refine ⟨_, rfl, ?_⟩; (try (rw [drewN_self wc]; generalize hq_ : World.drewN wc _ = wc; have n0_ : Aside0 (wc.heap[gb456]? = some (.cells #[.int .i64 x457000_1, .int .i64 x457001_1, .int .i64 x457002_1, .int .i64 x457003_1, .int .i64 x457004_1, .bool x457005_1, .bool x457006_1] 24 (0, 0))) := ⟨by rw [← hq_]; exact (bk BK456.out)⟩; have n1_ : Aside0 (wc.heap[gb460]? = some (.cells #[.int .i64 x3_1, .int .i64 x461001_8, .int .i64 x461002_18, .int .i64 x461003_24, .int .i64 t459, .bool false, .bool false] 24 (0, 0))) := ⟨by rw [← hq_]; exact (bk BK460.out)⟩; have n2_ : Aside0 (Below w.heap.size w wc) := ⟨by rw [← hq_]; exact bl⟩; clear BK456 BK460 HB hq_; have BK456 := n0_; have BK460 := n1_; have HB := n2_; clear n0_ n1_ n2_)); have hnb36 := NB460_456.out; have hnc36 := NB456_460.out; obtain ⟨hcz37_0, hcz37_1, hcz37_2, hcz37_3, hcz37_4, hcz37_5, hcz37_6, hfz37_0, hfz37_1, hfz37_2, hfz37_3, hfz37_4, hfz37_5, hfz37_6⟩ := cz7 (w := wc) BK460.out) | ((with_reducible refine gate_callee (f := 35) rfl ?_); refine goesL_ (some 51) rfl rfl Tryd.func35 (by kernel_rfl) rfl #[.int .u64 (IntKind.u64.wrap (a0)), .int .i64 25] rfl ga ?_; (with_reducible refine (spinnakerref01_Bit.calls kj29 (IntKind.u64.wrap (a0)) 25 t468 _ A35.out).mono ?_); rintro e w' ⟨rfl, ⟨nd, rfl⟩⟩; refine ⟨_, rfl, ?_⟩))
               go_meet
               case rel => exact ⟨_, ((t467 == 1)), ((t468 == 1)), H', ⟨by have := HK1.out; have := HJ8.out; have := HJ18.out; have := HJ24.out; have := HJ29.out; first | omega | exact Nat.le_refl _⟩, ⟨by refine bx ?_; refine blk_far ?_ NB456_460.out _; refine bx ?_; refine blk_far ?_ NB456_460.out _; refine bx ?_; exact BK456.out⟩, ⟨by refine bx ?_; refine blk_put (cs := #[.int .i64 x3_1, .int .i64 x461001_8, .int .i64 x461002_18, .int .i64 x461003_24, .int .i64 t459, .bool (t467 == 1), .bool false]) ?_ 6 _ rfl; refine bx ?_; refine blk_put (cs := #[.int .i64 x3_1, .int .i64 x461001_8, .int .i64 x461002_18, .int .i64 x461003_24, .int .i64 t459, .bool false, .bool false]) ?_ 5 _ rfl; refine bx ?_; exact BK460.out⟩, ⟨bl⟩⟩
              ·replace c33 := Bool.eq_false_iff.mpr c33
               subst c33
               have H1 : (spinnakerref05_Decode.j5 kj29 a0 x3_1 x3_1 x461001_8 x461002_18 x461003_24 t459 false false) = some (r1, r2, r3, r4, r5, r6, r7) := by rw [if_neg (show ¬ (false = true) by decide)] at H; exact H
               clear H
               have H := H1
               clear H1
               have H' := Aside0.mk H
               clear H
               go_wp2
               go_meet
               case rel => exact ⟨_, (false), (false), H', ⟨by have := HK1.out; have := HJ8.out; have := HJ18.out; have := HJ24.out; have := HJ29.out; first | omega | exact Nat.le_refl _⟩, ⟨by refine bx ?_; exact BK456.out⟩, ⟨by refine bx ?_; exact BK460.out⟩, ⟨bl⟩⟩
             case rest =>
              clear HC32
              try clear c1
              try clear c2
              try clear p2
              try clear c3
              try clear c3b0
              try clear c5
              try clear c5b0
              try clear c5b1
              try clear p6
              try clear c10
              try clear c12
              try clear c14
              try clear c16
              try clear c20
              try clear c22
              try clear c26
              try clear c28
              try clear c29
              try clear c30
              try clear c31
              try clear c31b0
              try clear c31b1
              try clear c32
              try clear c33
              try clear c34
              try clear c35
              try clear c36
              try clear hcz13_0 hcz13_1 hcz13_2 hcz13_3 hcz13_4 hcz13_5 hcz13_6
              try clear hcz17_0 hcz17_1 hcz17_2 hcz17_3 hcz17_4 hcz17_5 hcz17_6
              try clear hcz23_0 hcz23_1 hcz23_2 hcz23_3 hcz23_4 hcz23_5 hcz23_6
              try clear hcz29_0 hcz29_1 hcz29_2 hcz29_3 hcz29_4 hcz29_5 hcz29_6
              try clear hcz37_0 hcz37_1 hcz37_2 hcz37_3 hcz37_4 hcz37_5 hcz37_6
              try clear hfz13_0 hfz13_1 hfz13_2 hfz13_3 hfz13_4 hfz13_5 hfz13_6
              try clear hfz17_0 hfz17_1 hfz17_2 hfz17_3 hfz17_4 hfz17_5 hfz17_6
              try clear hfz23_0 hfz23_1 hfz23_2 hfz23_3 hfz23_4 hfz23_5 hfz23_6
              try clear hfz29_0 hfz29_1 hfz29_2 hfz29_3 hfz29_4 hfz29_5 hfz29_6
              try clear hfz37_0 hfz37_1 hfz37_2 hfz37_3 hfz37_4 hfz37_5 hfz37_6
              try clear p2
              try clear p6
              obtain ⟨kq, x461005_31, x461006_31, HA, HJ31, BK456, BK460, HB⟩ := hcut
              cases kq with
              | zero => exact absurd HA.out (by simp [spinnakerref05_Decode.j5])
              | succ kj31 =>
               have H := HA.out
               clear HA
               simp only [spinnakerref05_Decode.j5] at H
               replace H := be H
               obtain ⟨t469, A38, H⟩ := H
               by_cases c39 : t469 = true
               ·subst c39
                have H1 : ((spinnakerref04_Encode.f kj31 x3_1 x461001_8 x461002_18 x461003_24 t459 x461005_31 x461006_31).bind fun t470 => (if t470 = a0 then (some (x3_1, x461001_8, x461002_18, x461003_24, t459, x461005_31, x461006_31)) else (spinnakerref05_Decode.l0 kj31 a0 (wrap64 (x3_1 + 1))))) = some (r1, r2, r3, r4, r5, r6, r7) := by rw [if_pos rfl] at H; exact H
                clear H
                have H := H1
                clear H1
                replace H := be H
                obtain ⟨t470, A40, H⟩ := H
                by_cases c41 : t470 = a0
                ·rw [if_pos c41] at H
                 have c41b0 : (t470 == a0) = true := beq_iff_eq.mpr c41
                 have c41b1 : (t470 != a0) = false := bne_eq_false_iff_eq.mpr c41
                 clear c41
                 simp only [Option.some.injEq, Prod.mk.injEq] at H
                 obtain ⟨rfl, rfl, rfl, rfl, rfl, rfl, rfl⟩ := H
                 have hnb42 := NB460_456.out
                 have hnc42 := NB456_460.out
                 obtain ⟨hcz43_0, hcz43_1, hcz43_2, hcz43_3, hcz43_4, hcz43_5, hcz43_6, hfz43_0, hfz43_1, hfz43_2, hfz43_3, hfz43_4, hfz43_5, hfz43_6⟩ := cz7 (w := wc) BK460.out
                 go_wp2_with (first | ((with_reducible refine gate_callee (f := 14) rfl ?_); refine goesL_ (some 55) rfl rfl Tryd.func14 (by kernel_rfl) rfl #[.agg #[.int .i64 x3_1, .int .i64 x461001_8, .int .i64 x461002_18, .int .i64 x461003_24, .int .i64 t459, .bool x461005_31, .bool x461006_31]] rfl ga ?_; (with_reducible refine (spinnakerref03_May.calls kj31 x3_1 x461001_8 x461002_18 x461003_24 t459 x461005_31 x461006_31 true _ A38.out).mono ?_); rintro e w44 ⟨rfl, hb⟩; refine ⟨_, rfl, ?_⟩; have n0_ := Aside0.mk (blk_below (g := gb456) (o := .cells #[.int .i64 x457000_1, .int .i64 x457001_1, .int .i64 x457002_1, .int .i64 x457003_1, .int .i64 x457004_1, .bool x457005_1, .bool x457006_1] 24 (0, 0)) (bk BK456.out) hb); have n1_ := Aside0.mk (blk_below (g := gb460) (o := .cells #[.int .i64 x3_1, .int .i64 x461001_8, .int .i64 x461002_18, .int .i64 x461003_24, .int .i64 t459, .bool x461005_31, .bool x461006_31] 24 (0, 0)) (bk BK460.out) hb); have n2_ := Aside0.mk (below_step bl hb); clear BK456; clear BK460; clear HB; have BK456 := n0_; have BK460 := n1_; have HB := n2_; clear n0_ n1_ n2_; (try clear hb); obtain ⟨hcz45_0, hcz45_1, hcz45_2, hcz45_3, hcz45_4, hcz45_5, hcz45_6, hfz45_0, hfz45_1, hfz45_2, hfz45_3, hfz45_4, hfz45_5, hfz45_6⟩ := cz7 (w := w44) BK460.out) | (go_at_call 36; (with_reducible refine (spinnakerref04_Encode.calls kj31 x3_1 x461001_8 x461002_18 x461003_24 t459 x461005_31 x461006_31 t470 _ A40.out).mono ?_); rintro e w46 ⟨rfl, hb⟩; have n0_ := Aside0.mk (blk_below (g := gb456) (o := .cells #[.int .i64 x457000_1, .int .i64 x457001_1, .int .i64 x457002_1, .int .i64 x457003_1, .int .i64 x457004_1, .bool x457005_1, .bool x457006_1] 24 (0, 0)) (bk BK456.out) hb); have n1_ := Aside0.mk (blk_below (g := gb460) (o := .cells #[.int .i64 x3_1, .int .i64 x461001_8, .int .i64 x461002_18, .int .i64 x461003_24, .int .i64 t459, .bool x461005_31, .bool x461006_31] 24 (0, 0)) (bk BK460.out) hb); have n2_ := Aside0.mk (below_step bl hb); clear BK456; clear BK460; clear HB; have BK456 := n0_; have BK460 := n1_; have HB := n2_; clear n0_ n1_ n2_; (try clear hb); obtain ⟨hcz47_0, hcz47_1, hcz47_2, hcz47_3, hcz47_4, hcz47_5, hcz47_6, hfz47_0, hfz47_1, hfz47_2, hfz47_3, hfz47_4, hfz47_5, hfz47_6⟩ := cz7 (w := w46) BK460.out; obtain ⟨hcz48_0, hcz48_1, hcz48_2, hcz48_3, hcz48_4, hcz48_5, hcz48_6, hfz48_0, hfz48_1, hfz48_2, hfz48_3, hfz48_4, hfz48_5, hfz48_6⟩ := cz7 (w := w46) BK456.out))
                 refine bodyPost_ret (results_cell_row rfl _ _ gb456 24 #[.int .i64 x3_1, .int .i64 x461001_8, .int .i64 x461002_18, .int .i64 x461003_24, .int .i64 t459, .bool x461005_31, .bool x461006_31] (0, 0) _ rfl (by refine bx ?_; refine blk_put (cs := #[.int .i64 x3_1, .int .i64 x461001_8, .int .i64 x461002_18, .int .i64 x461003_24, .int .i64 t459, .bool x461005_31, .bool x457006_1]) ?_ 6 _ rfl; refine bx ?_; refine blk_put (cs := #[.int .i64 x3_1, .int .i64 x461001_8, .int .i64 x461002_18, .int .i64 x461003_24, .int .i64 t459, .bool x457005_1, .bool x457006_1]) ?_ 5 _ rfl; refine bx ?_; refine blk_put (cs := #[.int .i64 x3_1, .int .i64 x461001_8, .int .i64 x461002_18, .int .i64 x461003_24, .int .i64 x457004_1, .bool x457005_1, .bool x457006_1]) ?_ 4 _ rfl; refine bx ?_; refine blk_put (cs := #[.int .i64 x3_1, .int .i64 x461001_8, .int .i64 x461002_18, .int .i64 x457003_1, .int .i64 x457004_1, .bool x457005_1, .bool x457006_1]) ?_ 3 _ rfl; refine bx ?_; refine blk_put (cs := #[.int .i64 x3_1, .int .i64 x461001_8, .int .i64 x457002_1, .int .i64 x457003_1, .int .i64 x457004_1, .bool x457005_1, .bool x457006_1]) ?_ 2 _ rfl; refine bx ?_; refine blk_put (cs := #[.int .i64 x3_1, .int .i64 x457001_1, .int .i64 x457002_1, .int .i64 x457003_1, .int .i64 x457004_1, .bool x457005_1, .bool x457006_1]) ?_ 1 _ rfl; refine bx ?_; refine blk_put (cs := #[.int .i64 x457000_1, .int .i64 x457001_1, .int .i64 x457002_1, .int .i64 x457003_1, .int .i64 x457004_1, .bool x457005_1, .bool x457006_1]) ?_ 0 _ rfl; refine bx ?_; exact BK456.out) Tryd.underlying24 rfl (by kernel_rfl)) rfl ?_
                 exact ⟨fi, bl⟩
                ·rw [if_neg c41] at H
                 have c41b0 : (t470 == a0) = false := beq_eq_false_iff_ne.mpr c41
                 have c41b1 : (t470 != a0) = true := bne_iff_ne.mpr c41
                 have H' := Aside0.mk H
                 clear H
                 have hnb49 := NB460_456.out
                 have hnc49 := NB456_460.out
                 obtain ⟨hcz50_0, hcz50_1, hcz50_2, hcz50_3, hcz50_4, hcz50_5, hcz50_6, hfz50_0, hfz50_1, hfz50_2, hfz50_3, hfz50_4, hfz50_5, hfz50_6⟩ := cz7 (w := wc) BK460.out
                 go_wp2_with (first | ((with_reducible refine gate_callee (f := 14) rfl ?_); refine goesL_ (some 55) rfl rfl Tryd.func14 (by kernel_rfl) rfl #[.agg #[.int .i64 x3_1, .int .i64 x461001_8, .int .i64 x461002_18, .int .i64 x461003_24, .int .i64 t459, .bool x461005_31, .bool x461006_31]] rfl ga ?_; (with_reducible refine (spinnakerref03_May.calls kj31 x3_1 x461001_8 x461002_18 x461003_24 t459 x461005_31 x461006_31 true _ A38.out).mono ?_); rintro e w51 ⟨rfl, hb⟩; refine ⟨_, rfl, ?_⟩; have n0_ := Aside0.mk (blk_below (g := gb456) (o := .cells #[.int .i64 x457000_1, .int .i64 x457001_1, .int .i64 x457002_1, .int .i64 x457003_1, .int .i64 x457004_1, .bool x457005_1, .bool x457006_1] 24 (0, 0)) (bk BK456.out) hb); have n1_ := Aside0.mk (blk_below (g := gb460) (o := .cells #[.int .i64 x3_1, .int .i64 x461001_8, .int .i64 x461002_18, .int .i64 x461003_24, .int .i64 t459, .bool x461005_31, .bool x461006_31] 24 (0, 0)) (bk BK460.out) hb); have n2_ := Aside0.mk (below_step bl hb); clear BK456; clear BK460; clear HB; have BK456 := n0_; have BK460 := n1_; have HB := n2_; clear n0_ n1_ n2_; (try clear hb); obtain ⟨hcz52_0, hcz52_1, hcz52_2, hcz52_3, hcz52_4, hcz52_5, hcz52_6, hfz52_0, hfz52_1, hfz52_2, hfz52_3, hfz52_4, hfz52_5, hfz52_6⟩ := cz7 (w := w51) BK460.out) | (go_at_call 36; (with_reducible refine (spinnakerref04_Encode.calls kj31 x3_1 x461001_8 x461002_18 x461003_24 t459 x461005_31 x461006_31 t470 _ A40.out).mono ?_); rintro e w53 ⟨rfl, hb⟩; have n0_ := Aside0.mk (blk_below (g := gb456) (o := .cells #[.int .i64 x457000_1, .int .i64 x457001_1, .int .i64 x457002_1, .int .i64 x457003_1, .int .i64 x457004_1, .bool x457005_1, .bool x457006_1] 24 (0, 0)) (bk BK456.out) hb); have n1_ := Aside0.mk (blk_below (g := gb460) (o := .cells #[.int .i64 x3_1, .int .i64 x461001_8, .int .i64 x461002_18, .int .i64 x461003_24, .int .i64 t459, .bool x461005_31, .bool x461006_31] 24 (0, 0)) (bk BK460.out) hb); have n2_ := Aside0.mk (below_step bl hb); clear BK456; clear BK460; clear HB; have BK456 := n0_; have BK460 := n1_; have HB := n2_; clear n0_ n1_ n2_; (try clear hb)))
                 go_roundg kj31
                 case measure => have := HK1.out; have := HJ8.out; have := HJ18.out; have := HJ24.out; have := HJ29.out; have := HJ31.out; omega
                 case rel => exact ⟨(wrap64 (x3_1 + 1)), (x457000_1), (x457001_1), (x457002_1), (x457003_1), (x457004_1), (x457005_1), (x457006_1), fj, H', ⟨by have := HK1.out; have := HJ8.out; have := HJ18.out; have := HJ24.out; have := HJ29.out; have := HJ31.out; omega⟩, ⟨by refine bx ?_; exact BK456.out⟩, ⟨bl⟩⟩
               ·replace c39 := Bool.eq_false_iff.mpr c39
                subst c39
                have H1 : (spinnakerref05_Decode.l0 kj31 a0 (wrap64 (x3_1 + 1))) = some (r1, r2, r3, r4, r5, r6, r7) := by rw [if_neg (show ¬ (false = true) by decide)] at H; exact H
                clear H
                have H := H1
                clear H1
                have H' := Aside0.mk H
                clear H
                have hnb54 := NB460_456.out
                have hnc54 := NB456_460.out
                obtain ⟨hcz55_0, hcz55_1, hcz55_2, hcz55_3, hcz55_4, hcz55_5, hcz55_6, hfz55_0, hfz55_1, hfz55_2, hfz55_3, hfz55_4, hfz55_5, hfz55_6⟩ := cz7 (w := wc) BK460.out
                go_wp2_with (first | ((with_reducible refine gate_callee (f := 14) rfl ?_); refine goesL_ (some 55) rfl rfl Tryd.func14 (by kernel_rfl) rfl #[.agg #[.int .i64 x3_1, .int .i64 x461001_8, .int .i64 x461002_18, .int .i64 x461003_24, .int .i64 t459, .bool x461005_31, .bool x461006_31]] rfl ga ?_; (with_reducible refine (spinnakerref03_May.calls kj31 x3_1 x461001_8 x461002_18 x461003_24 t459 x461005_31 x461006_31 false _ A38.out).mono ?_); rintro e w56 ⟨rfl, hb⟩; refine ⟨_, rfl, ?_⟩; have n0_ := Aside0.mk (blk_below (g := gb456) (o := .cells #[.int .i64 x457000_1, .int .i64 x457001_1, .int .i64 x457002_1, .int .i64 x457003_1, .int .i64 x457004_1, .bool x457005_1, .bool x457006_1] 24 (0, 0)) (bk BK456.out) hb); have n1_ := Aside0.mk (blk_below (g := gb460) (o := .cells #[.int .i64 x3_1, .int .i64 x461001_8, .int .i64 x461002_18, .int .i64 x461003_24, .int .i64 t459, .bool x461005_31, .bool x461006_31] 24 (0, 0)) (bk BK460.out) hb); have n2_ := Aside0.mk (below_step bl hb); clear BK456; clear BK460; clear HB; have BK456 := n0_; have BK460 := n1_; have HB := n2_; clear n0_ n1_ n2_; (try clear hb)))
                go_roundg kj31
                case measure => have := HK1.out; have := HJ8.out; have := HJ18.out; have := HJ24.out; have := HJ29.out; have := HJ31.out; omega
                case rel => exact ⟨(wrap64 (x3_1 + 1)), (x457000_1), (x457001_1), (x457002_1), (x457003_1), (x457004_1), (x457005_1), (x457006_1), fj, H', ⟨by have := HK1.out; have := HJ8.out; have := HJ18.out; have := HJ24.out; have := HJ29.out; have := HJ31.out; omega⟩, ⟨by refine bx ?_; exact BK456.out⟩, ⟨bl⟩⟩
    ·rw [if_neg c5] at H
     have c5b0 : ((Int.tmod t457 128) == (Int.tmod a0 128)) = false := beq_eq_false_iff_ne.mpr c5
     have c5b1 : ((Int.tmod t457 128) != (Int.tmod a0 128)) = true := bne_iff_ne.mpr c5
     have H' := Aside0.mk H
     clear H
     go_wp2_with (first | ((with_reducible refine gate_callee (f := 28) rfl ?_); refine goesL_ (some 11) rfl rfl Tryd.func28 (by kernel_rfl) rfl #[.int .i64 x3_1] rfl ga ?_; (with_reducible refine (spinnakerref04_Word.calls x3_1 t457 _ A4.out).mono ?_); rintro e w57 ⟨rfl, hb⟩; refine ⟨_, rfl, ?_⟩; have n0_ := Aside0.mk (blk_below (g := gb456) (o := .cells #[.int .i64 x457000_1, .int .i64 x457001_1, .int .i64 x457002_1, .int .i64 x457003_1, .int .i64 x457004_1, .bool x457005_1, .bool x457006_1] 24 (0, 0)) (bk BK456.out) hb); have n1_ := Aside0.mk (below_step bl hb); clear BK456; clear HB; have BK456 := n0_; have HB := n1_; clear n0_ n1_; (try clear hb)))
     go_roundg k1
     case measure => have := HK1.out; omega
     case rel => exact ⟨(wrap64 (x3_1 + 1)), (x457000_1), (x457001_1), (x457002_1), (x457003_1), (x457004_1), (x457005_1), (x457006_1), fj, H', ⟨by have := HK1.out; omega⟩, ⟨by refine bx ?_; exact BK456.out⟩, ⟨bl⟩⟩
   ·rw [if_neg c3] at H
    have c3b0 := decide_eq_false c3
    clear c3
    simp only [Option.some.injEq, Prod.mk.injEq] at H
    obtain ⟨rfl, rfl, rfl, rfl, rfl, rfl, rfl⟩ := H
    obtain ⟨hcz58_0, hcz58_1, hcz58_2, hcz58_3, hcz58_4, hcz58_5, hcz58_6, hfz58_0, hfz58_1, hfz58_2, hfz58_3, hfz58_4, hfz58_5, hfz58_6⟩ := cz7 (w := wr) BK456.out
    go_wp2
    refine bodyPost_ret (results_cell_row rfl _ _ gb456 24 #[.int .i64 0, .int .i64 0, .int .i64 0, .int .i64 0, .int .i64 (wrap64 (a0)), .bool false, .bool false] (0, 0) _ rfl (by refine bx ?_; refine blk_put (cs := #[.int .i64 0, .int .i64 0, .int .i64 0, .int .i64 0, .int .i64 (wrap64 (a0)), .bool false, .bool x457006_1]) ?_ 6 _ rfl; refine bx ?_; refine blk_put (cs := #[.int .i64 0, .int .i64 0, .int .i64 0, .int .i64 0, .int .i64 (wrap64 (a0)), .bool x457005_1, .bool x457006_1]) ?_ 5 _ rfl; refine bx ?_; refine blk_put (cs := #[.int .i64 0, .int .i64 0, .int .i64 0, .int .i64 0, .int .i64 x457004_1, .bool x457005_1, .bool x457006_1]) ?_ 4 _ rfl; refine bx ?_; refine blk_put (cs := #[.int .i64 0, .int .i64 0, .int .i64 0, .int .i64 x457003_1, .int .i64 x457004_1, .bool x457005_1, .bool x457006_1]) ?_ 3 _ rfl; refine bx ?_; refine blk_put (cs := #[.int .i64 0, .int .i64 0, .int .i64 x457002_1, .int .i64 x457003_1, .int .i64 x457004_1, .bool x457005_1, .bool x457006_1]) ?_ 2 _ rfl; refine bx ?_; refine blk_put (cs := #[.int .i64 0, .int .i64 x457001_1, .int .i64 x457002_1, .int .i64 x457003_1, .int .i64 x457004_1, .bool x457005_1, .bool x457006_1]) ?_ 1 _ rfl; refine bx ?_; refine blk_put (cs := #[.int .i64 x457000_1, .int .i64 x457001_1, .int .i64 x457002_1, .int .i64 x457003_1, .int .i64 x457004_1, .bool x457005_1, .bool x457006_1]) ?_ 0 _ rfl; refine bx ?_; exact BK456.out) Tryd.underlying24 rfl (by kernel_rfl)) rfl ?_
    exact ⟨fi, bl⟩

end Go.Proofs.YtffehgfjjagibaaDoor.GImagePlaces
