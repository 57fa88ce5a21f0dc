-- Written by wip/stub.py of this repo.
import Derived.Test.YtmkcnbaknnohgaaGAluEvalsx0
import Derived.Test.YtmkcnbaknnohgaaGAluEvalsx4
import Derived.Test.YtmkcnbaknnohgaaGAluEvalsx5
namespace Go.Proofs.Ytmkcnbaknnohgaa.GAluEvals
open Go.RowKit Go.Proofs.YtmkcnbaknnohgaaW.PrintWords Go.Proofs.YtmkcnbaknnohgaaW.PrintLast Go.Proofs.YtmkcnbaknnohgaaW.PrintMore
attribute [local go_sem] max2_int min2_int max_two min_two max_three min_three max_four min_four   -- for this text's walks alone
set_option linter.unusedVariables false
set_option linter.unusedSimpArgs false

/-! ### spinnakerref07_shorts: function 16 -/
def spinnakerref07_shorts.f (k : Nat) (a0 : ByteArray) (a1 : Int) (a2 : Int) : Option (Int) := (spinnakerref07_Half.f k a1).bind fun t162 => ((spinnakerref07_Half.f k a2).bind fun t163 => ((spinnakerref07_Div.f t162 t163).bind fun bt164 => ((spinnakerref07_DivU.f (Int.tmod (IntKind.u64.wrap (a1)) 4294967296) (Int.tmod (IntKind.u64.wrap (a2)) 4294967296)).bind fun bt166 => (if a0.toList = ([97, 100, 100, 119] : List UInt8) then ((spinnakerref07_Half.f k (wrap64 (a1 + a2))).bind fun t168 => (some t168)) else (if a0.toList = ([115, 117, 98, 119] : List UInt8) then ((spinnakerref07_Half.f k (wrap64 (a1 - a2))).bind fun t169 => (some t169)) else (if a0.toList = ([115, 108, 108, 119] : List UInt8) then ((spinnakerref07_moved.f k a1 (wrap64 (Int.tmod (IntKind.u64.wrap (a2)) 32)) true 0 32).bind fun t170 => ((spinnakerref07_Half.f k t170).bind fun t171 => (some t171))) else (if a0.toList = ([115, 114, 108, 119] : List UInt8) then ((spinnakerref07_moved.f k a1 (wrap64 (Int.tmod (IntKind.u64.wrap (a2)) 32)) false 0 32).bind fun t172 => ((spinnakerref07_Half.f k t172).bind fun t173 => (some t173))) else (if a0.toList = ([115, 114, 97, 119] : List UInt8) then ((spinnakerref01_Bit.f k (IntKind.u64.wrap (a1)) 31).bind fun t174 => ((spinnakerref07_moved.f k a1 (wrap64 (Int.tmod (IntKind.u64.wrap (a2)) 32)) false t174 32).bind fun t175 => ((spinnakerref07_Half.f k t175).bind fun t176 => (some t176)))) else (if a0.toList = ([109, 117, 108, 119] : List UInt8) then ((spinnakerref07_Half.f k (wrap64 (a1 * a2))).bind fun t177 => (some t177)) else (if a0.toList = ([100, 105, 118, 119] : List UInt8) then ((spinnakerref07_Half.f k bt164.1).bind fun t178 => (some t178)) else (if a0.toList = ([100, 105, 118, 117, 119] : List UInt8) then ((spinnakerref07_Half.f k bt166.1).bind fun t179 => (some t179)) else (if a0.toList = ([114, 101, 109, 119] : List UInt8) then ((spinnakerref07_Half.f k bt164.2).bind fun t180 => (some t180)) else ((spinnakerref07_Half.f k bt166.2).bind fun t181 => (some t181))))))))))))))
theorem spinnakerref07_shorts.mono : ∀ a0 a1 a2 k, LeO (spinnakerref07_shorts.f k a0 a1 a2) (spinnakerref07_shorts.f (k + 1) a0 a1 a2) := by
 intro a0 a1 a2 k
 unfold spinnakerref07_shorts.f
 repeat' first | (with_reducible first | exact spinnakerref01_Bit.mono _ _ _ | exact spinnakerref07_Half.mono _ _ | exact spinnakerref07_moved.mono _ _ _ _ _ _ | exact LeO.refl _ | exact LeO.none _ | refine LeO.ite ?_ ?_ | refine LeO.bind ?_ (fun _ => ?_)) | exact spinnakerref01_Bit.mono _ _ _ | exact spinnakerref07_Half.mono _ _ | exact spinnakerref07_moved.mono _ _ _ _ _ _ | exact LeO.none _ | refine LeO.ite ?_ ?_ | refine LeO.bind ?_ (fun _ => ?_)
set_option maxHeartbeats 8000000 in
set_option maxRecDepth 100000 in
theorem spinnakerref07_shorts.calls (k : Nat) (a0 : ByteArray) (a1 : Int) (a2 : Int) (r : Int) (w : World) (h : spinnakerref07_shorts.f k a0 a1 a2 = some r) :
  Calls Try.prog 16 #[.string a0, .int .i64 a1, .int .i64 a2] w fun e w' => e = .returned (.int .i64 r) ∧ Below w.heap.size w w' := by
 have HB := Aside0.mk (Below.refl w.heap.size w)
 have H : ((spinnakerref07_Half.f k a1).bind fun t162 => ((spinnakerref07_Half.f k a2).bind fun t163 => ((spinnakerref07_Div.f t162 t163).bind fun bt164 => ((spinnakerref07_DivU.f (Int.tmod (IntKind.u64.wrap (a1)) 4294967296) (Int.tmod (IntKind.u64.wrap (a2)) 4294967296)).bind fun bt166 => (if a0.toList = ([97, 100, 100, 119] : List UInt8) then ((spinnakerref07_Half.f k (wrap64 (a1 + a2))).bind fun t168 => (some t168)) else (if a0.toList = ([115, 117, 98, 119] : List UInt8) then ((spinnakerref07_Half.f k (wrap64 (a1 - a2))).bind fun t169 => (some t169)) else (if a0.toList = ([115, 108, 108, 119] : List UInt8) then ((spinnakerref07_moved.f k a1 (wrap64 (Int.tmod (IntKind.u64.wrap (a2)) 32)) true 0 32).bind fun t170 => ((spinnakerref07_Half.f k t170).bind fun t171 => (some t171))) else (if a0.toList = ([115, 114, 108, 119] : List UInt8) then ((spinnakerref07_moved.f k a1 (wrap64 (Int.tmod (IntKind.u64.wrap (a2)) 32)) false 0 32).bind fun t172 => ((spinnakerref07_Half.f k t172).bind fun t173 => (some t173))) else (if a0.toList = ([115, 114, 97, 119] : List UInt8) then ((spinnakerref01_Bit.f k (IntKind.u64.wrap (a1)) 31).bind fun t174 => ((spinnakerref07_moved.f k a1 (wrap64 (Int.tmod (IntKind.u64.wrap (a2)) 32)) false t174 32).bind fun t175 => ((spinnakerref07_Half.f k t175).bind fun t176 => (some t176)))) else (if a0.toList = ([109, 117, 108, 119] : List UInt8) then ((spinnakerref07_Half.f k (wrap64 (a1 * a2))).bind fun t177 => (some t177)) else (if a0.toList = ([100, 105, 118, 119] : List UInt8) then ((spinnakerref07_Half.f k bt164.1).bind fun t178 => (some t178)) else (if a0.toList = ([100, 105, 118, 117, 119] : List UInt8) then ((spinnakerref07_Half.f k bt166.1).bind fun t179 => (some t179)) else (if a0.toList = ([114, 101, 109, 119] : List UInt8) then ((spinnakerref07_Half.f k bt164.2).bind fun t180 => (some t180)) else ((spinnakerref07_Half.f k bt166.2).bind fun t181 => (some t181))))))))))))))) = some r := h
 clear h
 replace H := be H
 obtain ⟨t162, A4, H⟩ := H
 replace H := be H
 obtain ⟨t163, A5, H⟩ := H
 replace H := be H
 obtain ⟨⟨t164, t165⟩, A6, H⟩ := H
 dsimp only at H
 replace H := be H
 obtain ⟨⟨t166, t167⟩, A7, H⟩ := H
 dsimp only at H
 by_cases c8 : a0.toList = ([97, 100, 100, 119] : List UInt8)
 ·rw [if_pos c8] at H
  have c8b0 : (a0.toList == ([97, 100, 100, 119] : List UInt8)) = true := beq_iff_eq.mpr c8
  have c8b1 : (a0.toList != ([97, 100, 100, 119] : List UInt8)) = false := bne_eq_false_iff_eq.mpr c8
  clear c8
  replace H := be H
  obtain ⟨t168, A9, H⟩ := H
  obtain rfl := Option.some.inj H
  go_enter Try.func16, Try.ntmps16
  go_wp2_with (first | ((with_reducible refine gate_callee (f := 26) rfl ?_); refine goesL_ (some 18) rfl rfl Try.func26 (by kernel_rfl) rfl #[.int .i64 a1] rfl ga ?_; (with_reducible refine (spinnakerref07_Half.calls k a1 t162 _ A4.out).mono ?_); rintro e w' ⟨rfl, ⟨nd, rfl⟩⟩; refine ⟨_, rfl, ?_⟩) | ((with_reducible refine gate_callee (f := 26) rfl ?_); refine goesL_ (some 20) rfl rfl Try.func26 (by kernel_rfl) rfl #[.int .i64 a2] rfl ga ?_; (with_reducible refine (spinnakerref07_Half.calls k a2 t163 _ A5.out).mono ?_); rintro e w' ⟨rfl, ⟨nd, rfl⟩⟩; refine ⟨_, rfl, ?_⟩) | ((with_reducible refine gate_callee (f := 25) rfl ?_); refine goesL_ (some 21) rfl rfl Try.func25 (by kernel_rfl) rfl #[.int .i64 t162, .int .i64 t163] rfl ga ?_; (with_reducible refine (spinnakerref07_Div.calls t162 t163 t164 t165 _ A6.out).mono ?_); rintro e w' ⟨rfl, ⟨nd, rfl⟩⟩; refine ⟨_, rfl, ?_⟩) | ((with_reducible refine gate_callee (f := 27) rfl ?_); refine goesL_ (some 31) rfl rfl Try.func27 (by kernel_rfl) rfl #[.int .u64 (Int.tmod (IntKind.u64.wrap (a1)) 4294967296), .int .u64 (Int.tmod (IntKind.u64.wrap (a2)) 4294967296)] rfl ga ?_; (with_reducible refine (spinnakerref07_DivU.calls (Int.tmod (IntKind.u64.wrap (a1)) 4294967296) (Int.tmod (IntKind.u64.wrap (a2)) 4294967296) t166 t167 _ A7.out).mono ?_); rintro e w' ⟨rfl, ⟨nd, rfl⟩⟩; refine ⟨_, rfl, ?_⟩) | ((with_reducible refine gate_callee (f := 26) rfl ?_); refine goesL_ (some 40) rfl rfl Try.func26 (by kernel_rfl) rfl #[.int .i64 (wrap64 (a1 + a2))] rfl ga ?_; (with_reducible refine (spinnakerref07_Half.calls k (wrap64 (a1 + a2)) t168 _ A9.out).mono ?_); rintro e w' ⟨rfl, ⟨nd, rfl⟩⟩; refine ⟨_, rfl, ?_⟩))
  go_ret
  exact ⟨fi, bl⟩
 ·rw [if_neg c8] at H
  have c8b0 : (a0.toList == ([97, 100, 100, 119] : List UInt8)) = false := beq_eq_false_iff_ne.mpr c8
  have c8b1 : (a0.toList != ([97, 100, 100, 119] : List UInt8)) = true := bne_iff_ne.mpr c8
  by_cases c10 : a0.toList = ([115, 117, 98, 119] : List UInt8)
  ·rw [if_pos c10] at H
   have c10b0 : (a0.toList == ([115, 117, 98, 119] : List UInt8)) = true := beq_iff_eq.mpr c10
   have c10b1 : (a0.toList != ([115, 117, 98, 119] : List UInt8)) = false := bne_eq_false_iff_eq.mpr c10
   clear c10
   replace H := be H
   obtain ⟨t169, A11, H⟩ := H
   obtain rfl := Option.some.inj H
   go_enter Try.func16, Try.ntmps16
   go_wp2_with (first | ((with_reducible refine gate_callee (f := 26) rfl ?_); refine goesL_ (some 18) rfl rfl Try.func26 (by kernel_rfl) rfl #[.int .i64 a1] rfl ga ?_; (with_reducible refine (spinnakerref07_Half.calls k a1 t162 _ A4.out).mono ?_); rintro e w' ⟨rfl, ⟨nd, rfl⟩⟩; refine ⟨_, rfl, ?_⟩) | ((with_reducible refine gate_callee (f := 26) rfl ?_); refine goesL_ (some 20) rfl rfl Try.func26 (by kernel_rfl) rfl #[.int .i64 a2] rfl ga ?_; (with_reducible refine (spinnakerref07_Half.calls k a2 t163 _ A5.out).mono ?_); rintro e w' ⟨rfl, ⟨nd, rfl⟩⟩; refine ⟨_, rfl, ?_⟩) | ((with_reducible refine gate_callee (f := 25) rfl ?_); refine goesL_ (some 21) rfl rfl Try.func25 (by kernel_rfl) rfl #[.int .i64 t162, .int .i64 t163] rfl ga ?_; (with_reducible refine (spinnakerref07_Div.calls t162 t163 t164 t165 _ A6.out).mono ?_); rintro e w' ⟨rfl, ⟨nd, rfl⟩⟩; refine ⟨_, rfl, ?_⟩) | ((with_reducible refine gate_callee (f := 27) rfl ?_); refine goesL_ (some 31) rfl rfl Try.func27 (by kernel_rfl) rfl #[.int .u64 (Int.tmod (IntKind.u64.wrap (a1)) 4294967296), .int .u64 (Int.tmod (IntKind.u64.wrap (a2)) 4294967296)] rfl ga ?_; (with_reducible refine (spinnakerref07_DivU.calls (Int.tmod (IntKind.u64.wrap (a1)) 4294967296) (Int.tmod (IntKind.u64.wrap (a2)) 4294967296) t166 t167 _ A7.out).mono ?_); rintro e w' ⟨rfl, ⟨nd, rfl⟩⟩; refine ⟨_, rfl, ?_⟩) | ((with_reducible refine gate_callee (f := 26) rfl ?_); refine goesL_ (some 46) rfl rfl Try.func26 (by kernel_rfl) rfl #[.int .i64 (wrap64 (a1 - a2))] rfl ga ?_; (with_reducible refine (spinnakerref07_Half.calls k (wrap64 (a1 - a2)) t169 _ A11.out).mono ?_); rintro e w' ⟨rfl, ⟨nd, rfl⟩⟩; refine ⟨_, rfl, ?_⟩))
   go_ret
   exact ⟨fi, bl⟩
  ·rw [if_neg c10] at H
   have c10b0 : (a0.toList == ([115, 117, 98, 119] : List UInt8)) = false := beq_eq_false_iff_ne.mpr c10
   have c10b1 : (a0.toList != ([115, 117, 98, 119] : List UInt8)) = true := bne_iff_ne.mpr c10
   by_cases c12 : a0.toList = ([115, 108, 108, 119] : List UInt8)
   ·rw [if_pos c12] at H
    have c12b0 : (a0.toList == ([115, 108, 108, 119] : List UInt8)) = true := beq_iff_eq.mpr c12
    have c12b1 : (a0.toList != ([115, 108, 108, 119] : List UInt8)) = false := bne_eq_false_iff_eq.mpr c12
    clear c12
    replace H := be H
    obtain ⟨t170, A13, H⟩ := H
    replace H := be H
    obtain ⟨t171, A14, H⟩ := H
    obtain rfl := Option.some.inj H
    go_enter Try.func16, Try.ntmps16
    go_wp2_with (first | ((with_reducible refine gate_callee (f := 26) rfl ?_); refine goesL_ (some 18) rfl rfl Try.func26 (by kernel_rfl) rfl #[.int .i64 a1] rfl ga ?_; (with_reducible refine (spinnakerref07_Half.calls k a1 t162 _ A4.out).mono ?_); rintro e w' ⟨rfl, ⟨nd, rfl⟩⟩; refine ⟨_, rfl, ?_⟩) | ((with_reducible refine gate_callee (f := 26) rfl ?_); refine goesL_ (some 20) rfl rfl Try.func26 (by kernel_rfl) rfl #[.int .i64 a2] rfl ga ?_; (with_reducible refine (spinnakerref07_Half.calls k a2 t163 _ A5.out).mono ?_); rintro e w' ⟨rfl, ⟨nd, rfl⟩⟩; refine ⟨_, rfl, ?_⟩) | ((with_reducible refine gate_callee (f := 25) rfl ?_); refine goesL_ (some 21) rfl rfl Try.func25 (by kernel_rfl) rfl #[.int .i64 t162, .int .i64 t163] rfl ga ?_; (with_reducible refine (spinnakerref07_Div.calls t162 t163 t164 t165 _ A6.out).mono ?_); rintro e w' ⟨rfl, ⟨nd, rfl⟩⟩; refine ⟨_, rfl, ?_⟩) | ((with_reducible refine gate_callee (f := 27) rfl ?_); refine goesL_ (some 31) rfl rfl Try.func27 (by kernel_rfl) rfl #[.int .u64 (Int.tmod (IntKind.u64.wrap (a1)) 4294967296), .int .u64 (Int.tmod (IntKind.u64.wrap (a2)) 4294967296)] rfl ga ?_; (with_reducible refine (spinnakerref07_DivU.calls (Int.tmod (IntKind.u64.wrap (a1)) 4294967296) (Int.tmod (IntKind.u64.wrap (a2)) 4294967296) t166 t167 _ A7.out).mono ?_); rintro e w' ⟨rfl, ⟨nd, rfl⟩⟩; refine ⟨_, rfl, ?_⟩) | ((with_reducible refine gate_callee (f := 13) rfl ?_); refine goesL_ (some 51) rfl rfl Try.func13 (by kernel_rfl) rfl #[.int .i64 a1, .int .i64 (wrap64 (Int.tmod (IntKind.u64.wrap (a2)) 32)), .bool true, .int .i64 0, .int .i64 32] rfl ga ?_; (with_reducible refine (spinnakerref07_moved.calls k a1 (wrap64 (Int.tmod (IntKind.u64.wrap (a2)) 32)) true 0 32 t170 _ A13.out).mono ?_); rintro e w15 ⟨rfl, hb⟩; refine ⟨_, rfl, ?_⟩; have n0_ := Aside0.mk (below_step bl hb); clear HB; have HB := n0_; clear n0_; (try clear hb)) | ((with_reducible refine gate_callee (f := 26) rfl ?_); refine goesL_ (some 52) rfl rfl Try.func26 (by kernel_rfl) rfl #[.int .i64 t170] rfl ga ?_; (with_reducible refine (spinnakerref07_Half.calls k t170 t171 _ A14.out).mono ?_); rintro e w' ⟨rfl, ⟨nd, rfl⟩⟩; refine ⟨_, rfl, ?_⟩))
    go_ret
    exact ⟨fi, bl⟩
   ·rw [if_neg c12] at H
    have c12b0 : (a0.toList == ([115, 108, 108, 119] : List UInt8)) = false := beq_eq_false_iff_ne.mpr c12
    have c12b1 : (a0.toList != ([115, 108, 108, 119] : List UInt8)) = true := bne_iff_ne.mpr c12
    by_cases c16 : a0.toList = ([115, 114, 108, 119] : List UInt8)
    ·rw [if_pos c16] at H
     have c16b0 : (a0.toList == ([115, 114, 108, 119] : List UInt8)) = true := beq_iff_eq.mpr c16
     have c16b1 : (a0.toList != ([115, 114, 108, 119] : List UInt8)) = false := bne_eq_false_iff_eq.mpr c16
     clear c16
     replace H := be H
     obtain ⟨t172, A17, H⟩ := H
     replace H := be H
     obtain ⟨t173, A18, H⟩ := H
     obtain rfl := Option.some.inj H
     go_enter Try.func16, Try.ntmps16
     go_wp2_with (first | ((with_reducible refine gate_callee (f := 26) rfl ?_); refine goesL_ (some 18) rfl rfl Try.func26 (by kernel_rfl) rfl #[.int .i64 a1] rfl ga ?_; (with_reducible refine (spinnakerref07_Half.calls k a1 t162 _ A4.out).mono ?_); rintro e w' ⟨rfl, ⟨nd, rfl⟩⟩; refine ⟨_, rfl, ?_⟩) | ((with_reducible refine gate_callee (f := 26) rfl ?_); refine goesL_ (some 20) rfl rfl Try.func26 (by kernel_rfl) rfl #[.int .i64 a2] rfl ga ?_; (with_reducible refine (spinnakerref07_Half.calls k a2 t163 _ A5.out).mono ?_); rintro e w' ⟨rfl, ⟨nd, rfl⟩⟩; refine ⟨_, rfl, ?_⟩) | ((with_reducible refine gate_callee (f := 25) rfl ?_); refine goesL_ (some 21) rfl rfl Try.func25 (by kernel_rfl) rfl #[.int .i64 t162, .int .i64 t163] rfl ga ?_; (with_reducible refine (spinnakerref07_Div.calls t162 t163 t164 t165 _ A6.out).mono ?_); rintro e w' ⟨rfl, ⟨nd, rfl⟩⟩; refine ⟨_, rfl, ?_⟩) | ((with_reducible refine gate_callee (f := 27) rfl ?_); refine goesL_ (some 31) rfl rfl Try.func27 (by kernel_rfl) rfl #[.int .u64 (Int.tmod (IntKind.u64.wrap (a1)) 4294967296), .int .u64 (Int.tmod (IntKind.u64.wrap (a2)) 4294967296)] rfl ga ?_; (with_reducible refine (spinnakerref07_DivU.calls (Int.tmod (IntKind.u64.wrap (a1)) 4294967296) (Int.tmod (IntKind.u64.wrap (a2)) 4294967296) t166 t167 _ A7.out).mono ?_); rintro e w' ⟨rfl, ⟨nd, rfl⟩⟩; refine ⟨_, rfl, ?_⟩) | ((with_reducible refine gate_callee (f := 13) rfl ?_); refine goesL_ (some 57) rfl rfl Try.func13 (by kernel_rfl) rfl #[.int .i64 a1, .int .i64 (wrap64 (Int.tmod (IntKind.u64.wrap (a2)) 32)), .bool false, .int .i64 0, .int .i64 32] rfl ga ?_; (with_reducible refine (spinnakerref07_moved.calls k a1 (wrap64 (Int.tmod (IntKind.u64.wrap (a2)) 32)) false 0 32 t172 _ A17.out).mono ?_); rintro e w19 ⟨rfl, hb⟩; refine ⟨_, rfl, ?_⟩; have n0_ := Aside0.mk (below_step bl hb); clear HB; have HB := n0_; clear n0_; (try clear hb)) | ((with_reducible refine gate_callee (f := 26) rfl ?_); refine goesL_ (some 58) rfl rfl Try.func26 (by kernel_rfl) rfl #[.int .i64 t172] rfl ga ?_; (with_reducible refine (spinnakerref07_Half.calls k t172 t173 _ A18.out).mono ?_); rintro e w' ⟨rfl, ⟨nd, rfl⟩⟩; refine ⟨_, rfl, ?_⟩))
     go_ret
     exact ⟨fi, bl⟩
    ·rw [if_neg c16] at H
     have c16b0 : (a0.toList == ([115, 114, 108, 119] : List UInt8)) = false := beq_eq_false_iff_ne.mpr c16
     have c16b1 : (a0.toList != ([115, 114, 108, 119] : List UInt8)) = true := bne_iff_ne.mpr c16
     by_cases c20 : a0.toList = ([115, 114, 97, 119] : List UInt8)
     ·rw [if_pos c20] at H
      have c20b0 : (a0.toList == ([115, 114, 97, 119] : List UInt8)) = true := beq_iff_eq.mpr c20
      have c20b1 : (a0.toList != ([115, 114, 97, 119] : List UInt8)) = false := bne_eq_false_iff_eq.mpr c20
      clear c20
      replace H := be H
      obtain ⟨t174, A21, H⟩ := H
      replace H := be H
      obtain ⟨t175, A22, H⟩ := H
      replace H := be H
      obtain ⟨t176, A23, H⟩ := H
      obtain rfl := Option.some.inj H
      go_enter Try.func16, Try.ntmps16
      go_wp2_with (first | ((with_reducible refine gate_callee (f := 26) rfl ?_); refine goesL_ (some 18) rfl rfl Try.func26 (by kernel_rfl) rfl #[.int .i64 a1] rfl ga ?_; (with_reducible refine (spinnakerref07_Half.calls k a1 t162 _ A4.out).mono ?_); rintro e w' ⟨rfl, ⟨nd, rfl⟩⟩; refine ⟨_, rfl, ?_⟩) | ((with_reducible refine gate_callee (f := 26) rfl ?_); refine goesL_ (some 20) rfl rfl Try.func26 (by kernel_rfl) rfl #[.int .i64 a2] rfl ga ?_; (with_reducible refine (spinnakerref07_Half.calls k a2 t163 _ A5.out).mono ?_); rintro e w' ⟨rfl, ⟨nd, rfl⟩⟩; refine ⟨_, rfl, ?_⟩) | ((with_reducible refine gate_callee (f := 25) rfl ?_); refine goesL_ (some 21) rfl rfl Try.func25 (by kernel_rfl) rfl #[.int .i64 t162, .int .i64 t163] rfl ga ?_; (with_reducible refine (spinnakerref07_Div.calls t162 t163 t164 t165 _ A6.out).mono ?_); rintro e w' ⟨rfl, ⟨nd, rfl⟩⟩; refine ⟨_, rfl, ?_⟩) | ((with_reducible refine gate_callee (f := 27) rfl ?_); refine goesL_ (some 31) rfl rfl Try.func27 (by kernel_rfl) rfl #[.int .u64 (Int.tmod (IntKind.u64.wrap (a1)) 4294967296), .int .u64 (Int.tmod (IntKind.u64.wrap (a2)) 4294967296)] rfl ga ?_; (with_reducible refine (spinnakerref07_DivU.calls (Int.tmod (IntKind.u64.wrap (a1)) 4294967296) (Int.tmod (IntKind.u64.wrap (a2)) 4294967296) t166 t167 _ A7.out).mono ?_); rintro e w' ⟨rfl, ⟨nd, rfl⟩⟩; refine ⟨_, rfl, ?_⟩) | ((with_reducible refine gate_callee (f := 15) rfl ?_); refine goesL_ (some 65) rfl rfl Try.func15 (by kernel_rfl) rfl #[.int .u64 (IntKind.u64.wrap (a1)), .int .i64 31] rfl ga ?_; (with_reducible refine (spinnakerref01_Bit.calls k (IntKind.u64.wrap (a1)) 31 t174 _ A21.out).mono ?_); rintro e w' ⟨rfl, ⟨nd, rfl⟩⟩; refine ⟨_, rfl, ?_⟩) | ((with_reducible refine gate_callee (f := 13) rfl ?_); refine goesL_ (some 66) rfl rfl Try.func13 (by kernel_rfl) rfl #[.int .i64 a1, .int .i64 (wrap64 (Int.tmod (IntKind.u64.wrap (a2)) 32)), .bool false, .int .i64 t174, .int .i64 32] rfl ga ?_; (with_reducible refine (spinnakerref07_moved.calls k a1 (wrap64 (Int.tmod (IntKind.u64.wrap (a2)) 32)) false t174 32 t175 _ A22.out).mono ?_); rintro e w24 ⟨rfl, hb⟩; refine ⟨_, rfl, ?_⟩; have n0_ := Aside0.mk (below_step bl hb); clear HB; have HB := n0_; clear n0_; (try clear hb)) | ((with_reducible refine gate_callee (f := 26) rfl ?_); refine goesL_ (some 67) rfl rfl Try.func26 (by kernel_rfl) rfl #[.int .i64 t175] rfl ga ?_; (with_reducible refine (spinnakerref07_Half.calls k t175 t176 _ A23.out).mono ?_); rintro e w' ⟨rfl, ⟨nd, rfl⟩⟩; refine ⟨_, rfl, ?_⟩))
      go_ret
      exact ⟨fi, bl⟩
     ·rw [if_neg c20] at H
      have c20b0 : (a0.toList == ([115, 114, 97, 119] : List UInt8)) = false := beq_eq_false_iff_ne.mpr c20
      have c20b1 : (a0.toList != ([115, 114, 97, 119] : List UInt8)) = true := bne_iff_ne.mpr c20
      by_cases c25 : a0.toList = ([109, 117, 108, 119] : List UInt8)
      ·rw [if_pos c25] at H
       have c25b0 : (a0.toList == ([109, 117, 108, 119] : List UInt8)) = true := beq_iff_eq.mpr c25
       have c25b1 : (a0.toList != ([109, 117, 108, 119] : List UInt8)) = false := bne_eq_false_iff_eq.mpr c25
       clear c25
       replace H := be H
       obtain ⟨t177, A26, H⟩ := H
       obtain rfl := Option.some.inj H
       go_enter Try.func16, Try.ntmps16
       go_wp2_with (first | ((with_reducible refine gate_callee (f := 26) rfl ?_); refine goesL_ (some 18) rfl rfl Try.func26 (by kernel_rfl) rfl #[.int .i64 a1] rfl ga ?_; (with_reducible refine (spinnakerref07_Half.calls k a1 t162 _ A4.out).mono ?_); rintro e w' ⟨rfl, ⟨nd, rfl⟩⟩; refine ⟨_, rfl, ?_⟩) | ((with_reducible refine gate_callee (f := 26) rfl ?_); refine goesL_ (some 20) rfl rfl Try.func26 (by kernel_rfl) rfl #[.int .i64 a2] rfl ga ?_; (with_reducible refine (spinnakerref07_Half.calls k a2 t163 _ A5.out).mono ?_); rintro e w' ⟨rfl, ⟨nd, rfl⟩⟩; refine ⟨_, rfl, ?_⟩) | ((with_reducible refine gate_callee (f := 25) rfl ?_); refine goesL_ (some 21) rfl rfl Try.func25 (by kernel_rfl) rfl #[.int .i64 t162, .int .i64 t163] rfl ga ?_; (with_reducible refine (spinnakerref07_Div.calls t162 t163 t164 t165 _ A6.out).mono ?_); rintro e w' ⟨rfl, ⟨nd, rfl⟩⟩; refine ⟨_, rfl, ?_⟩) | ((with_reducible refine gate_callee (f := 27) rfl ?_); refine goesL_ (some 31) rfl rfl Try.func27 (by kernel_rfl) rfl #[.int .u64 (Int.tmod (IntKind.u64.wrap (a1)) 4294967296), .int .u64 (Int.tmod (IntKind.u64.wrap (a2)) 4294967296)] rfl ga ?_; (with_reducible refine (spinnakerref07_DivU.calls (Int.tmod (IntKind.u64.wrap (a1)) 4294967296) (Int.tmod (IntKind.u64.wrap (a2)) 4294967296) t166 t167 _ A7.out).mono ?_); rintro e w' ⟨rfl, ⟨nd, rfl⟩⟩; refine ⟨_, rfl, ?_⟩) | ((with_reducible refine gate_callee (f := 26) rfl ?_); refine goesL_ (some 73) rfl rfl Try.func26 (by kernel_rfl) rfl #[.int .i64 (wrap64 (a1 * a2))] rfl ga ?_; (with_reducible refine (spinnakerref07_Half.calls k (wrap64 (a1 * a2)) t177 _ A26.out).mono ?_); rintro e w' ⟨rfl, ⟨nd, rfl⟩⟩; refine ⟨_, rfl, ?_⟩))
       go_ret
       exact ⟨fi, bl⟩
      ·rw [if_neg c25] at H
       have c25b0 : (a0.toList == ([109, 117, 108, 119] : List UInt8)) = false := beq_eq_false_iff_ne.mpr c25
       have c25b1 : (a0.toList != ([109, 117, 108, 119] : List UInt8)) = true := bne_iff_ne.mpr c25
       by_cases c27 : a0.toList = ([100, 105, 118, 119] : List UInt8)
       ·rw [if_pos c27] at H
        have c27b0 : (a0.toList == ([100, 105, 118, 119] : List UInt8)) = true := beq_iff_eq.mpr c27
        have c27b1 : (a0.toList != ([100, 105, 118, 119] : List UInt8)) = false := bne_eq_false_iff_eq.mpr c27
        clear c27
        replace H := be H
        obtain ⟨t178, A28, H⟩ := H
        obtain rfl := Option.some.inj H
        go_enter Try.func16, Try.ntmps16
        go_wp2_with (first | ((with_reducible refine gate_callee (f := 26) rfl ?_); refine goesL_ (some 18) rfl rfl Try.func26 (by kernel_rfl) rfl #[.int .i64 a1] rfl ga ?_; (with_reducible refine (spinnakerref07_Half.calls k a1 t162 _ A4.out).mono ?_); rintro e w' ⟨rfl, ⟨nd, rfl⟩⟩; refine ⟨_, rfl, ?_⟩) | ((with_reducible refine gate_callee (f := 26) rfl ?_); refine goesL_ (some 20) rfl rfl Try.func26 (by kernel_rfl) rfl #[.int .i64 a2] rfl ga ?_; (with_reducible refine (spinnakerref07_Half.calls k a2 t163 _ A5.out).mono ?_); rintro e w' ⟨rfl, ⟨nd, rfl⟩⟩; refine ⟨_, rfl, ?_⟩) | ((with_reducible refine gate_callee (f := 25) rfl ?_); refine goesL_ (some 21) rfl rfl Try.func25 (by kernel_rfl) rfl #[.int .i64 t162, .int .i64 t163] rfl ga ?_; (with_reducible refine (spinnakerref07_Div.calls t162 t163 t164 t165 _ A6.out).mono ?_); rintro e w' ⟨rfl, ⟨nd, rfl⟩⟩; refine ⟨_, rfl, ?_⟩) | ((with_reducible refine gate_callee (f := 27) rfl ?_); refine goesL_ (some 31) rfl rfl Try.func27 (by kernel_rfl) rfl #[.int .u64 (Int.tmod (IntKind.u64.wrap (a1)) 4294967296), .int .u64 (Int.tmod (IntKind.u64.wrap (a2)) 4294967296)] rfl ga ?_; (with_reducible refine (spinnakerref07_DivU.calls (Int.tmod (IntKind.u64.wrap (a1)) 4294967296) (Int.tmod (IntKind.u64.wrap (a2)) 4294967296) t166 t167 _ A7.out).mono ?_); rintro e w' ⟨rfl, ⟨nd, rfl⟩⟩; refine ⟨_, rfl, ?_⟩) | ((with_reducible refine gate_callee (f := 26) rfl ?_); refine goesL_ (some 77) rfl rfl Try.func26 (by kernel_rfl) rfl #[.int .i64 t164] rfl ga ?_; (with_reducible refine (spinnakerref07_Half.calls k t164 t178 _ A28.out).mono ?_); rintro e w' ⟨rfl, ⟨nd, rfl⟩⟩; refine ⟨_, rfl, ?_⟩))
        go_ret
        exact ⟨fi, bl⟩
       ·rw [if_neg c27] at H
        have c27b0 : (a0.toList == ([100, 105, 118, 119] : List UInt8)) = false := beq_eq_false_iff_ne.mpr c27
        have c27b1 : (a0.toList != ([100, 105, 118, 119] : List UInt8)) = true := bne_iff_ne.mpr c27
        by_cases c29 : a0.toList = ([100, 105, 118, 117, 119] : List UInt8)
        ·rw [if_pos c29] at H
         have c29b0 : (a0.toList == ([100, 105, 118, 117, 119] : List UInt8)) = true := beq_iff_eq.mpr c29
         have c29b1 : (a0.toList != ([100, 105, 118, 117, 119] : List UInt8)) = false := bne_eq_false_iff_eq.mpr c29
         clear c29
         replace H := be H
         obtain ⟨t179, A30, H⟩ := H
         obtain rfl := Option.some.inj H
         go_enter Try.func16, Try.ntmps16
         go_wp2_with (first | ((with_reducible refine gate_callee (f := 26) rfl ?_); refine goesL_ (some 18) rfl rfl Try.func26 (by kernel_rfl) rfl #[.int .i64 a1] rfl ga ?_; (with_reducible refine (spinnakerref07_Half.calls k a1 t162 _ A4.out).mono ?_); rintro e w' ⟨rfl, ⟨nd, rfl⟩⟩; refine ⟨_, rfl, ?_⟩) | ((with_reducible refine gate_callee (f := 26) rfl ?_); refine goesL_ (some 20) rfl rfl Try.func26 (by kernel_rfl) rfl #[.int .i64 a2] rfl ga ?_; (with_reducible refine (spinnakerref07_Half.calls k a2 t163 _ A5.out).mono ?_); rintro e w' ⟨rfl, ⟨nd, rfl⟩⟩; refine ⟨_, rfl, ?_⟩) | ((with_reducible refine gate_callee (f := 25) rfl ?_); refine goesL_ (some 21) rfl rfl Try.func25 (by kernel_rfl) rfl #[.int .i64 t162, .int .i64 t163] rfl ga ?_; (with_reducible refine (spinnakerref07_Div.calls t162 t163 t164 t165 _ A6.out).mono ?_); rintro e w' ⟨rfl, ⟨nd, rfl⟩⟩; refine ⟨_, rfl, ?_⟩) | ((with_reducible refine gate_callee (f := 27) rfl ?_); refine goesL_ (some 31) rfl rfl Try.func27 (by kernel_rfl) rfl #[.int .u64 (Int.tmod (IntKind.u64.wrap (a1)) 4294967296), .int .u64 (Int.tmod (IntKind.u64.wrap (a2)) 4294967296)] rfl ga ?_; (with_reducible refine (spinnakerref07_DivU.calls (Int.tmod (IntKind.u64.wrap (a1)) 4294967296) (Int.tmod (IntKind.u64.wrap (a2)) 4294967296) t166 t167 _ A7.out).mono ?_); rintro e w' ⟨rfl, ⟨nd, rfl⟩⟩; refine ⟨_, rfl, ?_⟩) | ((with_reducible refine gate_callee (f := 26) rfl ?_); refine goesL_ (some 81) rfl rfl Try.func26 (by kernel_rfl) rfl #[.int .i64 t166] rfl ga ?_; (with_reducible refine (spinnakerref07_Half.calls k t166 t179 _ A30.out).mono ?_); rintro e w' ⟨rfl, ⟨nd, rfl⟩⟩; refine ⟨_, rfl, ?_⟩))
         go_ret
         exact ⟨fi, bl⟩
        ·rw [if_neg c29] at H
         have c29b0 : (a0.toList == ([100, 105, 118, 117, 119] : List UInt8)) = false := beq_eq_false_iff_ne.mpr c29
         have c29b1 : (a0.toList != ([100, 105, 118, 117, 119] : List UInt8)) = true := bne_iff_ne.mpr c29
         by_cases c31 : a0.toList = ([114, 101, 109, 119] : List UInt8)
         ·rw [if_pos c31] at H
          have c31b0 : (a0.toList == ([114, 101, 109, 119] : List UInt8)) = true := beq_iff_eq.mpr c31
          have c31b1 : (a0.toList != ([114, 101, 109, 119] : List UInt8)) = false := bne_eq_false_iff_eq.mpr c31
          clear c31
          replace H := be H
          obtain ⟨t180, A32, H⟩ := H
          obtain rfl := Option.some.inj H
          go_enter Try.func16, Try.ntmps16
          go_wp2_with (first | ((with_reducible refine gate_callee (f := 26) rfl ?_); refine goesL_ (some 18) rfl rfl Try.func26 (by kernel_rfl) rfl #[.int .i64 a1] rfl ga ?_; (with_reducible refine (spinnakerref07_Half.calls k a1 t162 _ A4.out).mono ?_); rintro e w' ⟨rfl, ⟨nd, rfl⟩⟩; refine ⟨_, rfl, ?_⟩) | ((with_reducible refine gate_callee (f := 26) rfl ?_); refine goesL_ (some 20) rfl rfl Try.func26 (by kernel_rfl) rfl #[.int .i64 a2] rfl ga ?_; (with_reducible refine (spinnakerref07_Half.calls k a2 t163 _ A5.out).mono ?_); rintro e w' ⟨rfl, ⟨nd, rfl⟩⟩; refine ⟨_, rfl, ?_⟩) | ((with_reducible refine gate_callee (f := 25) rfl ?_); refine goesL_ (some 21) rfl rfl Try.func25 (by kernel_rfl) rfl #[.int .i64 t162, .int .i64 t163] rfl ga ?_; (with_reducible refine (spinnakerref07_Div.calls t162 t163 t164 t165 _ A6.out).mono ?_); rintro e w' ⟨rfl, ⟨nd, rfl⟩⟩; refine ⟨_, rfl, ?_⟩) | ((with_reducible refine gate_callee (f := 27) rfl ?_); refine goesL_ (some 31) rfl rfl Try.func27 (by kernel_rfl) rfl #[.int .u64 (Int.tmod (IntKind.u64.wrap (a1)) 4294967296), .int .u64 (Int.tmod (IntKind.u64.wrap (a2)) 4294967296)] rfl ga ?_; (with_reducible refine (spinnakerref07_DivU.calls (Int.tmod (IntKind.u64.wrap (a1)) 4294967296) (Int.tmod (IntKind.u64.wrap (a2)) 4294967296) t166 t167 _ A7.out).mono ?_); rintro e w' ⟨rfl, ⟨nd, rfl⟩⟩; refine ⟨_, rfl, ?_⟩) | ((with_reducible refine gate_callee (f := 26) rfl ?_); refine goesL_ (some 85) rfl rfl Try.func26 (by kernel_rfl) rfl #[.int .i64 t165] rfl ga ?_; (with_reducible refine (spinnakerref07_Half.calls k t165 t180 _ A32.out).mono ?_); rintro e w' ⟨rfl, ⟨nd, rfl⟩⟩; refine ⟨_, rfl, ?_⟩))
          go_ret
          exact ⟨fi, bl⟩
         ·rw [if_neg c31] at H
          have c31b0 : (a0.toList == ([114, 101, 109, 119] : List UInt8)) = false := beq_eq_false_iff_ne.mpr c31
          have c31b1 : (a0.toList != ([114, 101, 109, 119] : List UInt8)) = true := bne_iff_ne.mpr c31
          replace H := be H
          obtain ⟨t181, A33, H⟩ := H
          obtain rfl := Option.some.inj H
          go_enter Try.func16, Try.ntmps16
          go_wp2_with (first | ((with_reducible refine gate_callee (f := 26) rfl ?_); refine goesL_ (some 18) rfl rfl Try.func26 (by kernel_rfl) rfl #[.int .i64 a1] rfl ga ?_; (with_reducible refine (spinnakerref07_Half.calls k a1 t162 _ A4.out).mono ?_); rintro e w' ⟨rfl, ⟨nd, rfl⟩⟩; refine ⟨_, rfl, ?_⟩) | ((with_reducible refine gate_callee (f := 26) rfl ?_); refine goesL_ (some 20) rfl rfl Try.func26 (by kernel_rfl) rfl #[.int .i64 a2] rfl ga ?_; (with_reducible refine (spinnakerref07_Half.calls k a2 t163 _ A5.out).mono ?_); rintro e w' ⟨rfl, ⟨nd, rfl⟩⟩; refine ⟨_, rfl, ?_⟩) | ((with_reducible refine gate_callee (f := 25) rfl ?_); refine goesL_ (some 21) rfl rfl Try.func25 (by kernel_rfl) rfl #[.int .i64 t162, .int .i64 t163] rfl ga ?_; (with_reducible refine (spinnakerref07_Div.calls t162 t163 t164 t165 _ A6.out).mono ?_); rintro e w' ⟨rfl, ⟨nd, rfl⟩⟩; refine ⟨_, rfl, ?_⟩) | ((with_reducible refine gate_callee (f := 27) rfl ?_); refine goesL_ (some 31) rfl rfl Try.func27 (by kernel_rfl) rfl #[.int .u64 (Int.tmod (IntKind.u64.wrap (a1)) 4294967296), .int .u64 (Int.tmod (IntKind.u64.wrap (a2)) 4294967296)] rfl ga ?_; (with_reducible refine (spinnakerref07_DivU.calls (Int.tmod (IntKind.u64.wrap (a1)) 4294967296) (Int.tmod (IntKind.u64.wrap (a2)) 4294967296) t166 t167 _ A7.out).mono ?_); rintro e w' ⟨rfl, ⟨nd, rfl⟩⟩; refine ⟨_, rfl, ?_⟩) | ((with_reducible refine gate_callee (f := 26) rfl ?_); refine goesL_ (some 87) rfl rfl Try.func26 (by kernel_rfl) rfl #[.int .i64 t167] rfl ga ?_; (with_reducible refine (spinnakerref07_Half.calls k t167 t181 _ A33.out).mono ?_); rintro e w' ⟨rfl, ⟨nd, rfl⟩⟩; refine ⟨_, rfl, ?_⟩))
          go_ret
          exact ⟨fi, bl⟩

/-! ### spinnakerref07_Mul: function 28 -/
mutual
def spinnakerref07_Mul.l0 : Nat → List Int → List Int → List Int → List Int → Int → Option (Int × Int)
  | 0, _, _, _, _, _ => none
  | k + 1, x6, x7, x8, x9, x10 => if x10 < 4 then (spinnakerref07_Mul.l1 k x6 x7 x8 x9 x10 0) else (if 4 ≤ 35184372088832 then (spinnakerref07_Mul.l2 k x6 x9 (List.replicate 4 0) 0 0) else (none))
def spinnakerref07_Mul.l1 : Nat → List Int → List Int → List Int → List Int → Int → Int → Option (Int × Int)
  | 0, _, _, _, _, _, _ => none
  | k + 1, x6, x7, x8, x9, x10, x11 => if x11 < 4 then (if 0 ≤ x10 then (if x10 < (x7.length : Int) then (if 0 ≤ x11 then (if x11 < (x8.length : Int) then (if 0 ≤ (wrap64 (x10 + x11)) then (if (wrap64 (x10 + x11)) < (x9.length : Int) then ((some (x9.set ((wrap64 (x10 + x11)) : Int).toNat (IntKind.u64.wrap ((rd x9 (wrap64 (x10 + x11))) + (Int.tmod (IntKind.u64.wrap ((rd x7 x10) * (rd x8 x11))) 65536))) : List Int)).bind fun y197 => (if 0 ≤ (wrap64 ((wrap64 (x10 + x11)) + 1)) then (if (wrap64 ((wrap64 (x10 + x11)) + 1)) < (x9.length : Int) then (spinnakerref07_Mul.l1 k x6 x7 x8 (y197.set ((wrap64 ((wrap64 (x10 + x11)) + 1)) : Int).toNat (IntKind.u64.wrap ((rd y197 (wrap64 ((wrap64 (x10 + x11)) + 1))) + (IntKind.u64.wrap (Int.tdiv (IntKind.u64.wrap ((rd x7 x10) * (rd x8 x11))) 65536))))) x10 (wrap64 (x11 + 1))) else (none)) else (none))) else (none)) else (none)) else (none)) else (none)) else (none)) else (none)) else (spinnakerref07_Mul.l0 k x6 x7 x8 x9 (wrap64 (x10 + 1)))
def spinnakerref07_Mul.l2 : Nat → List Int → List Int → List Int → Int → Int → Option (Int × Int)
  | 0, _, _, _, _, _ => none
  | k + 1, x6, x9, x13, x14, x15 => if x15 < 8 then (if 0 ≤ x15 then (if x15 < (x9.length : Int) then (if x15 < 4 then (if x15 < (x6.length : Int) then (spinnakerref07_Mul.l2 k (x6.set (x15 : Int).toNat (Int.tmod (IntKind.u64.wrap ((rd x9 x15) + x14)) 65536)) x9 x13 (IntKind.u64.wrap (Int.tdiv (IntKind.u64.wrap ((rd x9 x15) + x14)) 65536)) (wrap64 (x15 + 1))) else (none)) else (if 0 ≤ (wrap64 (x15 - 4)) then (if (wrap64 (x15 - 4)) < (x13.length : Int) then (spinnakerref07_Mul.l2 k x6 x9 (x13.set ((wrap64 (x15 - 4)) : Int).toNat (Int.tmod (IntKind.u64.wrap ((rd x9 x15) + x14)) 65536)) (IntKind.u64.wrap (Int.tdiv (IntKind.u64.wrap ((rd x9 x15) + x14)) 65536)) (wrap64 (x15 + 1))) else (none)) else (none))) else (none)) else (none)) else (if 0 < (x6.length : Int) then (if 1 < (x6.length : Int) then (if 2 < (x6.length : Int) then (if 3 < (x6.length : Int) then (if 0 < (x13.length : Int) then (if 1 < (x13.length : Int) then (if 2 < (x13.length : Int) then (if 3 < (x13.length : Int) then (some (IntKind.u64.wrap ((IntKind.u64.wrap ((IntKind.u64.wrap ((rd x6 0) + (IntKind.u64.wrap ((rd x6 1) * 65536)))) + (IntKind.u64.wrap ((rd x6 2) * 4294967296)))) + (IntKind.u64.wrap ((rd x6 3) * 281474976710656))), IntKind.u64.wrap ((IntKind.u64.wrap ((IntKind.u64.wrap ((rd x13 0) + (IntKind.u64.wrap ((rd x13 1) * 65536)))) + (IntKind.u64.wrap ((rd x13 2) * 4294967296)))) + (IntKind.u64.wrap ((rd x13 3) * 281474976710656))))) else (none)) else (none)) else (none)) else (none)) else (none)) else (none)) else (none)) else (none))
end
def spinnakerref07_Mul.f (k : Nat) (a0 : Int) (a1 : Int) : Option (Int × Int) := if 4 ≤ 35184372088832 then (if 8 ≤ 35184372088832 then (spinnakerref07_Mul.l0 k (List.replicate 4 0) (([Int.tmod a0 65536, Int.tmod (IntKind.u64.wrap (Int.tdiv a0 65536)) 65536, Int.tmod (IntKind.u64.wrap (Int.tdiv a0 4294967296)) 65536, IntKind.u64.wrap (Int.tdiv a0 281474976710656)] : List Int)) (([Int.tmod a1 65536, Int.tmod (IntKind.u64.wrap (Int.tdiv a1 65536)) 65536, Int.tmod (IntKind.u64.wrap (Int.tdiv a1 4294967296)) 65536, IntKind.u64.wrap (Int.tdiv a1 281474976710656)] : List Int)) (List.replicate 8 0) 0) else (none)) else (none)
theorem spinnakerref07_Mul.mono_l : ∀ k, (∀ y0 y1 y2 y3 y4, LeO (spinnakerref07_Mul.l0 k y0 y1 y2 y3 y4) (spinnakerref07_Mul.l0 (k + 1) y0 y1 y2 y3 y4)) ∧ (∀ y0 y1 y2 y3 y4 y5, LeO (spinnakerref07_Mul.l1 k y0 y1 y2 y3 y4 y5) (spinnakerref07_Mul.l1 (k + 1) y0 y1 y2 y3 y4 y5)) ∧ (∀ y0 y1 y2 y3 y4, LeO (spinnakerref07_Mul.l2 k y0 y1 y2 y3 y4) (spinnakerref07_Mul.l2 (k + 1) y0 y1 y2 y3 y4))
 | 0 => ⟨fun _ _ _ _ _ r h => by simp [spinnakerref07_Mul.l0] at h, fun _ _ _ _ _ _ r h => by simp [spinnakerref07_Mul.l1] at h, fun _ _ _ _ _ r h => by simp [spinnakerref07_Mul.l2] at h⟩
 | k + 1 => by
  obtain ⟨ih0, ih1, ih2⟩ := spinnakerref07_Mul.mono_l k
  refine ⟨?_, ?_, ?_⟩
  all_goals (intros; (first | unfold spinnakerref07_Mul.l0 | unfold spinnakerref07_Mul.l1 | unfold spinnakerref07_Mul.l2); repeat' first | (with_reducible first | exact ih0 _ _ _ _ _ | exact ih1 _ _ _ _ _ _ | exact ih2 _ _ _ _ _ | exact LeO.refl _ | exact LeO.none _ | refine LeO.ite ?_ ?_ | refine LeO.bind ?_ (fun _ => ?_)) | exact ih0 _ _ _ _ _ | exact ih1 _ _ _ _ _ _ | exact ih2 _ _ _ _ _ | exact LeO.none _ | refine LeO.ite ?_ ?_ | refine LeO.bind ?_ (fun _ => ?_))
theorem spinnakerref07_Mul.mono : ∀ a0 a1 k, LeO (spinnakerref07_Mul.f k a0 a1) (spinnakerref07_Mul.f (k + 1) a0 a1) := by
 intro a0 a1 k
 obtain ⟨ih0, ih1, ih2⟩ := spinnakerref07_Mul.mono_l k
 unfold spinnakerref07_Mul.f
 repeat' first | (with_reducible first | exact ih0 _ _ _ _ _ | exact ih1 _ _ _ _ _ _ | exact ih2 _ _ _ _ _ | exact LeO.refl _ | exact LeO.none _ | refine LeO.ite ?_ ?_ | refine LeO.bind ?_ (fun _ => ?_)) | exact ih0 _ _ _ _ _ | exact ih1 _ _ _ _ _ _ | exact ih2 _ _ _ _ _ | exact LeO.none _ | refine LeO.ite ?_ ?_ | refine LeO.bind ?_ (fun _ => ?_)
theorem fill_event {P : Program} {ops : Array Oper} {rest : List Oper} {o : Oper} {a : Act} {Q : Exit → Act → World → Prop} {W : World} (hgd : o.guard = none) {t : TypeId} {p : Tmp} {v : Operand} (ho : o.op = .store t (.tmp p) v) (hN : o.dst = none)
  {g : Nat} {e : TypeId} {cur cs : Array Value} (hp : a.eval (.tmp p) = .pointer (some ⟨g, 0, none⟩)) (hv : a.eval v = .agg cs) (hh : W.heap[g]? = some (.cells cur e (0, 0))) (hsz : cs.size = cur.size)
  (h1 : ∀ q ∈ cs.toList, q.oneCell' = true) (hc : (Value.agg cs).cells.toList = cs.toList) (ht : (P.info? t).map (·.size) = some cs.size)
  (h : ∀ w1, w1.heap[g]? = some (.cells cs e (0, 0)) → Below g W w1 → wpList P ops Q rest a w1) : wpList P ops Q (o :: rest) a W := by
 have hrun : (Instr.storeAt t (.pointer (some ⟨g, 0, none⟩)) (.agg cs)).run P W = .ok () (W.setCells g 0 cs.toList) :=
  run_store_run t (.agg cs) cs.toList hh hc (by rw [ht, Array.length_toList]) (by rw [Array.length_toList]; omega) h1
 refine wpList_plain hgd fun K hK => ?_
 unfold Oper.wp execOp
 simp only [ho, hp, hv, Sem.run_bind, Sem.run_pure, Result.andThen_ok, hrun]
 show K (a.put o.dst undef) _
 rw [hN]
 refine hK a _ (h _ ?_ ?_)
 ·obtain ⟨cur', h3, h4, h5⟩ := setCells_row cs.toList 0 W cur hh (by rw [Array.length_toList]; omega)
  have e : cur' = cs := by
   apply Array.ext'
   rw [h5, List.take_zero, List.nil_append, List.drop_of_length_le (by rw [Array.length_toList, Array.length_toList]; omega), List.append_nil]
  rw [e] at h3; exact h3
 ·obtain ⟨s1, s2, s3, s4⟩ := setCells_same g cs.toList 0 W
  exact ⟨s1, s2, s3, by rw [s4]; exact Nat.le_refl _, fun k hk => setCells_far _ _ k (Nat.ne_of_lt hk)⟩
/-- An array of the call's own, as a row that is full. -/
theorem arr_row {T : TypeId} {w : World} {base g : Nat} {xs : List Int} (hb : base ≤ g) (hl : xs.length ≤ 1000) (h : w.heap[g]? = some (.cells (nums .u64 xs).toArray T (0, 0))) :
  Kd.R (Kd.int .u64) T w base (fun _ => True) (.slice (some ⟨g, 0, none⟩) xs.length xs.length) xs := by
 refine Kd.R_of_own ⟨by simp [encs], .inr ⟨g, xs.length, (nums .u64 xs).toArray, rfl, hb, h, Nat.le_refl _, by simp only [maxLen]; omega, by simp [nums], ?_⟩⟩ (fun _ _ => trivial)
 have e : (nums .u64 xs).length = xs.length := nums_length _ _
 show (nums .u64 xs).take (xs.length * 1) = encs (Value.int .u64) xs
 rw [Nat.mul_one, ← e, List.take_length]
 rfl
theorem arr_make {P : Program} {ops : Array Oper} {rest : List Oper} {o : Oper} {a : Act} {Q : Exit → Act → World → Prop} {W : World} (hgd : o.guard = none) {N : Tmp} (_hd : o.dst = some N) (T : TypeId) (n : Nat) (hn : n ≤ 1000)
  (hrun : (execOp a.eval o).run P W = .ok (.value (.pointer (some ⟨W.heap.size, 0, none⟩))) (W.alloc (.cells (nums .u64 (List.replicate n 0)).toArray T (0, 0))))
  (h : ∀ g w1, Kd.R (Kd.int .u64) T w1 W.heap.size (fun _ => True) (.slice (some ⟨g, 0, none⟩) n n) (List.replicate n 0) → Below W.heap.size W w1 → W.grownBy w1 none → W.heap.size ≤ g →
   wpList P ops Q rest (a.put o.dst (.pointer (some ⟨g, 0, none⟩))) w1) : wpList P ops Q (o :: rest) a W := by
 have hR := arr_row (T := T) (w := W.alloc (.cells (nums .u64 (List.replicate n 0)).toArray T (0, 0))) (base := W.heap.size) (Nat.le_refl _) (by rw [List.length_replicate]; exact hn) (blk_new W _)
 rw [List.length_replicate] at hR
 have hb := below_alloc (Below.refl W.heap.size W) (.cells (nums .u64 (List.replicate n 0)).toArray T (0, 0))
 exact Kd.event_run hgd hrun (h _ _ hR hb (grown_of_below hb none) (Nat.le_refl _))
theorem arr_lit {P : Program} {ops : Array Oper} {rest : List Oper} {o o2 : Oper} {a : Act} {Q : Exit → Act → World → Prop} {W : World} (hgd : o.guard = none) {N : Tmp} (_hd : o.dst = some N) (hgd2 : o2.guard = none) (hn2 : o2.dst = none) (T : TypeId) (x : Operand)
  (ho2 : o2.op = .store T (.tmp N) x) (xs : List Int) (n : Nat) (hln : xs.length = n) (hl : n ≤ 1000)
  (hrun : (execOp a.eval o).run P W = .ok (.value (.pointer (some ⟨W.heap.size, 0, none⟩))) (W.alloc (.cells (nums .u64 (List.replicate xs.length 0)).toArray T (0, 0))))
  (hev : ∀ g, (a.put o.dst (.pointer (some ⟨g, 0, none⟩))).eval (.tmp N) = .pointer (some ⟨g, 0, none⟩)) (hx : ∀ g, (a.put o.dst (.pointer (some ⟨g, 0, none⟩))).eval x = .agg (nums .u64 xs).toArray)
  (ht : (P.info? T).map (·.size) = some xs.length) (hc : (Value.agg (nums .u64 xs).toArray).cells.toList = (nums .u64 xs).toArray.toList)
  (h : ∀ g w1, Kd.R (Kd.int .u64) T w1 W.heap.size (fun _ => True) (.slice (some ⟨g, 0, none⟩) n n) xs → Below W.heap.size W w1 → W.grownBy w1 none → W.heap.size ≤ g →
   wpList P ops Q rest (a.put o.dst (.pointer (some ⟨g, 0, none⟩))) w1) : wpList P ops Q (o :: o2 :: rest) a W := by
 subst hln
 have hb := below_alloc (Below.refl W.heap.size W) (.cells (nums .u64 (List.replicate xs.length 0)).toArray T (0, 0))
 refine Kd.event_run hgd hrun (fill_event hgd2 ho2 hn2 (g := W.heap.size) (hev _) (hx _) (blk_new W _) (by simp [nums]) ?_ hc (by rw [ht]; simp [nums]) fun w1 h1 h2 => ?_)
 ·intro q hq
  simp only [nums, List.mem_map] at hq
  obtain ⟨z, _, rfl⟩ := hq
  rfl
 ·have h3 := hb.trans h2
  exact h _ _ (arr_row (Nat.le_refl _) hl h1) h3 (grown_of_below h3 none) (Nat.le_refl _)
theorem arr_cell {T : TypeId} {w : World} {base g n : Nat} {ok : Nat → Prop} {xs : List Int} (h : Kd.R (Kd.int .u64) T w base ok (.slice (some ⟨g, 0, none⟩) n n) xs) (i : Int) (h0 : 0 ≤ i) (h1 : i < (xs.length : Int)) :
  w.cell? ⟨g, i.toNat, none⟩ = some (.int .u64 (rd xs i)) ∧ w.frozen? ⟨g, i.toNat, none⟩ = false ∧ (i < (n : Int)) = True := by
 have hl := (Kd.R_reads' h).1
 obtain ⟨a, b⟩ := Kd.R_celln 0 h i h0 (by omega)
 exact ⟨a, b, eq_true (by omega)⟩
theorem arr_base {T : TypeId} {w : World} {base g n : Nat} {ok : Nat → Prop} {xs : List Int} (h : Kd.R (Kd.int .u64) T w base ok (.slice (some ⟨g, 0, none⟩) n n) xs) (hn : 0 < xs.length) : base ≤ g ∧ ∃ cells, w.heap[g]? = some (.cells cells T (0, 0)) := by
 obtain ⟨g', cap, e, hb, _, hc⟩ := Kd.R_form h hn
 injection e with e
 injection e with e
 injection e with e
 subst e
 exact ⟨hb, hc⟩
set_option maxHeartbeats 8000000 in
set_option maxRecDepth 100000 in
theorem spinnakerref07_Mul.calls (k : Nat) (a0 : Int) (a1 : Int) (r1 : Int) (r2 : Int) (w : World) (h : spinnakerref07_Mul.f k a0 a1 = some (r1, r2)) :
  Calls Try.prog 28 #[.int .u64 a0, .int .u64 a1] w fun e w' => e = .returned (.tuple #[.int .u64 r1, .int .u64 r2]) ∧ Below w.heap.size w w' := by
 have hu48 := Try.underlying48
 have hu49 := Try.underlying49
 have HB := Aside0.mk (Below.refl w.heap.size w)
 have H : (if 4 ≤ 35184372088832 then (if 8 ≤ 35184372088832 then (spinnakerref07_Mul.l0 k (List.replicate 4 0) (([Int.tmod a0 65536, Int.tmod (IntKind.u64.wrap (Int.tdiv a0 65536)) 65536, Int.tmod (IntKind.u64.wrap (Int.tdiv a0 4294967296)) 65536, IntKind.u64.wrap (Int.tdiv a0 281474976710656)] : List Int)) (([Int.tmod a1 65536, Int.tmod (IntKind.u64.wrap (Int.tdiv a1 65536)) 65536, Int.tmod (IntKind.u64.wrap (Int.tdiv a1 4294967296)) 65536, IntKind.u64.wrap (Int.tdiv a1 281474976710656)] : List Int)) (List.replicate 8 0) 0) else (none)) else (none)) = some (r1, r2) := h
 clear h
 by_cases c3 : 4 ≤ 35184372088832
 ·rw [if_pos c3] at H
  have c3b0 := eq_true c3
  have c3b1 : decide (4 ≤ 35184372088832) = true := decide_eq_true c3
  clear c3
  obtain ⟨y182, hy182⟩ : ∃ y_ : List Int, y_ = (List.replicate 4 0) := ⟨_, rfl⟩
  replace H : (if 8 ≤ 35184372088832 then (spinnakerref07_Mul.l0 k y182 (([Int.tmod a0 65536, Int.tmod (IntKind.u64.wrap (Int.tdiv a0 65536)) 65536, Int.tmod (IntKind.u64.wrap (Int.tdiv a0 4294967296)) 65536, IntKind.u64.wrap (Int.tdiv a0 281474976710656)] : List Int)) (([Int.tmod a1 65536, Int.tmod (IntKind.u64.wrap (Int.tdiv a1 65536)) 65536, Int.tmod (IntKind.u64.wrap (Int.tdiv a1 4294967296)) 65536, IntKind.u64.wrap (Int.tdiv a1 281474976710656)] : List Int)) (List.replicate 8 0) 0) else (none)) = some (r1, r2) := by first | (rw [hy182]; with_reducible exact H) | (have H2_ := (Option.bind_some _ _).symm.trans H; rw [hy182]; with_reducible exact H2_) | (have H2_ := (Option.bind_some _ _).symm.trans H; with_reducible exact H2_) | with_reducible exact H | (rw [hy182]; exact H) | exact H
  have Ny182 := Aside0.mk hy182
  clear hy182
  obtain ⟨y185, hy185⟩ : ∃ y_ : List Int, y_ = (([Int.tmod a0 65536, Int.tmod (IntKind.u64.wrap (Int.tdiv a0 65536)) 65536, Int.tmod (IntKind.u64.wrap (Int.tdiv a0 4294967296)) 65536, IntKind.u64.wrap (Int.tdiv a0 281474976710656)] : List Int)) := ⟨_, rfl⟩
  replace H : (if 8 ≤ 35184372088832 then (spinnakerref07_Mul.l0 k y182 y185 (([Int.tmod a1 65536, Int.tmod (IntKind.u64.wrap (Int.tdiv a1 65536)) 65536, Int.tmod (IntKind.u64.wrap (Int.tdiv a1 4294967296)) 65536, IntKind.u64.wrap (Int.tdiv a1 281474976710656)] : List Int)) (List.replicate 8 0) 0) else (none)) = some (r1, r2) := by first | (rw [hy185]; with_reducible exact H) | (have H2_ := (Option.bind_some _ _).symm.trans H; rw [hy185]; with_reducible exact H2_) | (have H2_ := (Option.bind_some _ _).symm.trans H; with_reducible exact H2_) | with_reducible exact H | (rw [hy185]; exact H) | exact H
  have Ny185 := Aside0.mk hy185
  clear hy185
  obtain ⟨y188, hy188⟩ : ∃ y_ : List Int, y_ = (([Int.tmod a1 65536, Int.tmod (IntKind.u64.wrap (Int.tdiv a1 65536)) 65536, Int.tmod (IntKind.u64.wrap (Int.tdiv a1 4294967296)) 65536, IntKind.u64.wrap (Int.tdiv a1 281474976710656)] : List Int)) := ⟨_, rfl⟩
  replace H : (if 8 ≤ 35184372088832 then (spinnakerref07_Mul.l0 k y182 y185 y188 (List.replicate 8 0) 0) else (none)) = some (r1, r2) := by first | (rw [hy188]; with_reducible exact H) | (have H2_ := (Option.bind_some _ _).symm.trans H; rw [hy188]; with_reducible exact H2_) | (have H2_ := (Option.bind_some _ _).symm.trans H; with_reducible exact H2_) | with_reducible exact H | (rw [hy188]; exact H) | exact H
  have Ny188 := Aside0.mk hy188
  clear hy188
  by_cases c4 : 8 ≤ 35184372088832
  ·rw [if_pos c4] at H
   have c4b0 := eq_true c4
   have c4b1 : decide (8 ≤ 35184372088832) = true := decide_eq_true c4
   clear c4
   obtain ⟨y191, hy191⟩ : ∃ y_ : List Int, y_ = (List.replicate 8 0) := ⟨_, rfl⟩
   replace H : (spinnakerref07_Mul.l0 k y182 y185 y188 y191 0) = some (r1, r2) := by first | (rw [hy191]; with_reducible exact H) | (have H2_ := (Option.bind_some _ _).symm.trans H; rw [hy191]; with_reducible exact H2_) | (have H2_ := (Option.bind_some _ _).symm.trans H; with_reducible exact H2_) | with_reducible exact H | (rw [hy191]; exact H) | exact H
   have Ny191 := Aside0.mk hy191
   clear hy191
   have H' := Aside0.mk H
   clear H
   go_enter Try.func28, Try.ntmps28
   go_wp2_with (first | ((with_reducible refine gate_dst (N := 6) rfl ?_); refine arr_make ?hg (N := 6) ?hd 48 4 (by decide) ?hr ?_; (case hd => rfl); (case hg => rfl); (case hr => first | (go_simp; done) | (go_simp; rfl)); intro ga183 w5 ho6 hb hg_ hnew_; clear hg_ hnew_; rw [← Ny182.out] at ho6; have n0_ := Aside0.mk (Kd.R_lower ho6 (below_size bl)); have n1_ := Aside0.mk (below_step bl hb); clear HB; have HO184 := n0_; have HB := n1_; clear n0_ n1_; clear hb ho6) | ((with_reducible refine gate_dst (N := 7) rfl ?_); refine arr_lit ?hg (N := 7) ?hd ?hg2 ?hn2 48 (.tmp 27) ?ho2 ([Int.tmod a0 65536, Int.tmod (IntKind.u64.wrap (Int.tdiv a0 65536)) 65536, Int.tmod (IntKind.u64.wrap (Int.tdiv a0 4294967296)) 65536, IntKind.u64.wrap (Int.tdiv a0 281474976710656)] : List Int) 4 rfl (by decide) ?hr ?hev ?hx ?ht rfl ?_; (case hd => rfl); (case hg => rfl); (case hg2 => rfl); (case hn2 => rfl); (case ho2 => rfl); (case hev => intro g_; first | rfl | (go_simp; done) | (go_simp; rfl)); (case hx => intro g_; first | rfl | (go_simp; done) | (go_simp; rfl)); (case ht => kernel_rfl); (case hr => first | (go_simp; done) | (go_simp; rfl)); intro ga186 w7 ho8 hb hg_ hnew_; clear hg_ hnew_; rw [← Ny185.out] at ho8; have n0_ := Aside0.mk (Kd.R_elder' (by (with_reducible repeat (first | apply Kd.R_alloc | apply Kd.R_drewN | apply Kd.R_drew)); exact HO184.out) (Kd.R_base ho8) hb); have n1_ := Aside0.mk (Kd.R_lower (Kd.R_new' ho8 (Kd.R_lt (by (with_reducible repeat (first | apply Kd.R_alloc | apply Kd.R_drewN | apply Kd.R_drew)); exact HO184.out))) (below_size bl)); have n2_ := Aside0.mk (below_step bl hb); clear HO184; clear HB; have HO184 := n0_; have HO187 := n1_; have HB := n2_; clear n0_ n1_ n2_; clear hb ho8) | ((with_reducible refine gate_dst (N := 8) rfl ?_); refine arr_lit ?hg (N := 8) ?hd ?hg2 ?hn2 48 (.tmp 38) ?ho2 ([Int.tmod a1 65536, Int.tmod (IntKind.u64.wrap (Int.tdiv a1 65536)) 65536, Int.tmod (IntKind.u64.wrap (Int.tdiv a1 4294967296)) 65536, IntKind.u64.wrap (Int.tdiv a1 281474976710656)] : List Int) 4 rfl (by decide) ?hr ?hev ?hx ?ht rfl ?_; (case hd => rfl); (case hg => rfl); (case hg2 => rfl); (case hn2 => rfl); (case ho2 => rfl); (case hev => intro g_; first | rfl | (go_simp; done) | (go_simp; rfl)); (case hx => intro g_; first | rfl | (go_simp; done) | (go_simp; rfl)); (case ht => kernel_rfl); (case hr => first | (go_simp; done) | (go_simp; rfl)); intro ga189 w9 ho10 hb hg_ hnew_; clear hg_ hnew_; rw [← Ny188.out] at ho10; have n0_ := Aside0.mk (Kd.R_elder' (by (with_reducible repeat (first | apply Kd.R_alloc | apply Kd.R_drewN | apply Kd.R_drew)); exact HO184.out) (Kd.R_base ho10) hb); have n1_ := Aside0.mk (Kd.R_elder' (by (with_reducible repeat (first | apply Kd.R_alloc | apply Kd.R_drewN | apply Kd.R_drew)); exact HO187.out) (Kd.R_base ho10) hb); have n2_ := Aside0.mk (Kd.R_lower (Kd.R_new' (Kd.R_new' ho10 (Kd.R_lt (by (with_reducible repeat (first | apply Kd.R_alloc | apply Kd.R_drewN | apply Kd.R_drew)); exact HO184.out))) (Kd.R_lt (by (with_reducible repeat (first | apply Kd.R_alloc | apply Kd.R_drewN | apply Kd.R_drew)); exact HO187.out))) (below_size bl)); have n3_ := Aside0.mk (below_step bl hb); clear HO184; clear HO187; clear HB; have HO184 := n0_; have HO187 := n1_; have HO190 := n2_; have HB := n3_; clear n0_ n1_ n2_ n3_; clear hb ho10) | ((with_reducible refine gate_dst (N := 9) rfl ?_); refine arr_make ?hg (N := 9) ?hd 49 8 (by decide) ?hr ?_; (case hd => rfl); (case hg => rfl); (case hr => first | (go_simp; done) | (go_simp; rfl)); intro ga192 w11 ho12 hb hg_ hnew_; clear hg_ hnew_; rw [← Ny191.out] at ho12; have n0_ := Aside0.mk (Kd.R_elder' (by (with_reducible repeat (first | apply Kd.R_alloc | apply Kd.R_drewN | apply Kd.R_drew)); exact HO184.out) (Kd.R_base ho12) hb); have n1_ := Aside0.mk (Kd.R_elder' (by (with_reducible repeat (first | apply Kd.R_alloc | apply Kd.R_drewN | apply Kd.R_drew)); exact HO187.out) (Kd.R_base ho12) hb); have n2_ := Aside0.mk (Kd.R_elder' (by (with_reducible repeat (first | apply Kd.R_alloc | apply Kd.R_drewN | apply Kd.R_drew)); exact HO190.out) (Kd.R_base ho12) hb); have n3_ := Aside0.mk (Kd.R_lower (Kd.R_new' (Kd.R_new' (Kd.R_new' ho12 (Kd.R_lt (by (with_reducible repeat (first | apply Kd.R_alloc | apply Kd.R_drewN | apply Kd.R_drew)); exact HO184.out))) (Kd.R_lt (by (with_reducible repeat (first | apply Kd.R_alloc | apply Kd.R_drewN | apply Kd.R_drew)); exact HO187.out))) (Kd.R_lt (by (with_reducible repeat (first | apply Kd.R_alloc | apply Kd.R_drewN | apply Kd.R_drew)); exact HO190.out))) (below_size bl)); have n4_ := Aside0.mk (below_step bl hb); clear HO184; clear HO187; clear HO190; clear HB; have HO184 := n0_; have HO187 := n1_; have HO190 := n2_; have HO193 := n3_; have HB := n4_; clear n0_ n1_ n2_ n3_ n4_; clear hb ho12))
   repeat (go_quiet (first | ((with_reducible refine gate_dst (N := 6) rfl ?_); refine arr_make ?hg (N := 6) ?hd 48 4 (by decide) ?hr ?_; (case hd => rfl); (case hg => rfl); (case hr => first | (go_simp; done) | (go_simp; rfl)); intro ga183 w5 ho6 hb hg_ hnew_; clear hg_ hnew_; rw [← Ny182.out] at ho6; have n0_ := Aside0.mk (Kd.R_lower ho6 (below_size bl)); have n1_ := Aside0.mk (below_step bl hb); clear HB; have HO184 := n0_; have HB := n1_; clear n0_ n1_; clear hb ho6) | ((with_reducible refine gate_dst (N := 7) rfl ?_); refine arr_lit ?hg (N := 7) ?hd ?hg2 ?hn2 48 (.tmp 27) ?ho2 ([Int.tmod a0 65536, Int.tmod (IntKind.u64.wrap (Int.tdiv a0 65536)) 65536, Int.tmod (IntKind.u64.wrap (Int.tdiv a0 4294967296)) 65536, IntKind.u64.wrap (Int.tdiv a0 281474976710656)] : List Int) 4 rfl (by decide) ?hr ?hev ?hx ?ht rfl ?_; (case hd => rfl); (case hg => rfl); (case hg2 => rfl); (case hn2 => rfl); (case ho2 => rfl); (case hev => intro g_; first | rfl | (go_simp; done) | (go_simp; rfl)); (case hx => intro g_; first | rfl | (go_simp; done) | (go_simp; rfl)); (case ht => kernel_rfl); (case hr => first | (go_simp; done) | (go_simp; rfl)); intro ga186 w7 ho8 hb hg_ hnew_; clear hg_ hnew_; rw [← Ny185.out] at ho8; have n0_ := Aside0.mk (Kd.R_elder' (by (with_reducible repeat (first | apply Kd.R_alloc | apply Kd.R_drewN | apply Kd.R_drew)); exact HO184.out) (Kd.R_base ho8) hb); have n1_ := Aside0.mk (Kd.R_lower (Kd.R_new' ho8 (Kd.R_lt (by (with_reducible repeat (first | apply Kd.R_alloc | apply Kd.R_drewN | apply Kd.R_drew)); exact HO184.out))) (below_size bl)); have n2_ := Aside0.mk (below_step bl hb); clear HO184; clear HB; have HO184 := n0_; have HO187 := n1_; have HB := n2_; clear n0_ n1_ n2_; clear hb ho8) | ((with_reducible refine gate_dst (N := 8) rfl ?_); refine arr_lit ?hg (N := 8) ?hd ?hg2 ?hn2 48 (.tmp 38) ?ho2 ([Int.tmod a1 65536, Int.tmod (IntKind.u64.wrap (Int.tdiv a1 65536)) 65536, Int.tmod (IntKind.u64.wrap (Int.tdiv a1 4294967296)) 65536, IntKind.u64.wrap (Int.tdiv a1 281474976710656)] : List Int) 4 rfl (by decide) ?hr ?hev ?hx ?ht rfl ?_; (case hd => rfl); (case hg => rfl); (case hg2 => rfl); (case hn2 => rfl); (case ho2 => rfl); (case hev => intro g_; first | rfl | (go_simp; done) | (go_simp; rfl)); (case hx => intro g_; first | rfl | (go_simp; done) | (go_simp; rfl)); (case ht => kernel_rfl); (case hr => first | (go_simp; done) | (go_simp; rfl)); intro ga189 w9 ho10 hb hg_ hnew_; clear hg_ hnew_; rw [← Ny188.out] at ho10; have n0_ := Aside0.mk (Kd.R_elder' (by (with_reducible repeat (first | apply Kd.R_alloc | apply Kd.R_drewN | apply Kd.R_drew)); exact HO184.out) (Kd.R_base ho10) hb); have n1_ := Aside0.mk (Kd.R_elder' (by (with_reducible repeat (first | apply Kd.R_alloc | apply Kd.R_drewN | apply Kd.R_drew)); exact HO187.out) (Kd.R_base ho10) hb); have n2_ := Aside0.mk (Kd.R_lower (Kd.R_new' (Kd.R_new' ho10 (Kd.R_lt (by (with_reducible repeat (first | apply Kd.R_alloc | apply Kd.R_drewN | apply Kd.R_drew)); exact HO184.out))) (Kd.R_lt (by (with_reducible repeat (first | apply Kd.R_alloc | apply Kd.R_drewN | apply Kd.R_drew)); exact HO187.out))) (below_size bl)); have n3_ := Aside0.mk (below_step bl hb); clear HO184; clear HO187; clear HB; have HO184 := n0_; have HO187 := n1_; have HO190 := n2_; have HB := n3_; clear n0_ n1_ n2_ n3_; clear hb ho10) | ((with_reducible refine gate_dst (N := 9) rfl ?_); refine arr_make ?hg (N := 9) ?hd 49 8 (by decide) ?hr ?_; (case hd => rfl); (case hg => rfl); (case hr => first | (go_simp; done) | (go_simp; rfl)); intro ga192 w11 ho12 hb hg_ hnew_; clear hg_ hnew_; rw [← Ny191.out] at ho12; have n0_ := Aside0.mk (Kd.R_elder' (by (with_reducible repeat (first | apply Kd.R_alloc | apply Kd.R_drewN | apply Kd.R_drew)); exact HO184.out) (Kd.R_base ho12) hb); have n1_ := Aside0.mk (Kd.R_elder' (by (with_reducible repeat (first | apply Kd.R_alloc | apply Kd.R_drewN | apply Kd.R_drew)); exact HO187.out) (Kd.R_base ho12) hb); have n2_ := Aside0.mk (Kd.R_elder' (by (with_reducible repeat (first | apply Kd.R_alloc | apply Kd.R_drewN | apply Kd.R_drew)); exact HO190.out) (Kd.R_base ho12) hb); have n3_ := Aside0.mk (Kd.R_lower (Kd.R_new' (Kd.R_new' (Kd.R_new' ho12 (Kd.R_lt (by (with_reducible repeat (first | apply Kd.R_alloc | apply Kd.R_drewN | apply Kd.R_drew)); exact HO184.out))) (Kd.R_lt (by (with_reducible repeat (first | apply Kd.R_alloc | apply Kd.R_drewN | apply Kd.R_drew)); exact HO187.out))) (Kd.R_lt (by (with_reducible repeat (first | apply Kd.R_alloc | apply Kd.R_drewN | apply Kd.R_drew)); exact HO190.out))) (below_size bl)); have n4_ := Aside0.mk (below_step bl hb); clear HO184; clear HO187; clear HO190; clear HB; have HO184 := n0_; have HO187 := n1_; have HO190 := n2_; have HO193 := n3_; have HB := n4_; clear n0_ n1_ n2_ n3_ n4_; clear hb ho12)); try go_wp2_with (first | ((with_reducible refine gate_dst (N := 6) rfl ?_); refine arr_make ?hg (N := 6) ?hd 48 4 (by decide) ?hr ?_; (case hd => rfl); (case hg => rfl); (case hr => first | (go_simp; done) | (go_simp; rfl)); intro ga183 w5 ho6 hb hg_ hnew_; clear hg_ hnew_; rw [← Ny182.out] at ho6; have n0_ := Aside0.mk (Kd.R_lower ho6 (below_size bl)); have n1_ := Aside0.mk (below_step bl hb); clear HB; have HO184 := n0_; have HB := n1_; clear n0_ n1_; clear hb ho6) | ((with_reducible refine gate_dst (N := 7) rfl ?_); refine arr_lit ?hg (N := 7) ?hd ?hg2 ?hn2 48 (.tmp 27) ?ho2 ([Int.tmod a0 65536, Int.tmod (IntKind.u64.wrap (Int.tdiv a0 65536)) 65536, Int.tmod (IntKind.u64.wrap (Int.tdiv a0 4294967296)) 65536, IntKind.u64.wrap (Int.tdiv a0 281474976710656)] : List Int) 4 rfl (by decide) ?hr ?hev ?hx ?ht rfl ?_; (case hd => rfl); (case hg => rfl); (case hg2 => rfl); (case hn2 => rfl); (case ho2 => rfl); (case hev => intro g_; first | rfl | (go_simp; done) | (go_simp; rfl)); (case hx => intro g_; first | rfl | (go_simp; done) | (go_simp; rfl)); (case ht => kernel_rfl); (case hr => first | (go_simp; done) | (go_simp; rfl)); intro ga186 w7 ho8 hb hg_ hnew_; clear hg_ hnew_; rw [← Ny185.out] at ho8; have n0_ := Aside0.mk (Kd.R_elder' (by (with_reducible repeat (first | apply Kd.R_alloc | apply Kd.R_drewN | apply Kd.R_drew)); exact HO184.out) (Kd.R_base ho8) hb); have n1_ := Aside0.mk (Kd.R_lower (Kd.R_new' ho8 (Kd.R_lt (by (with_reducible repeat (first | apply Kd.R_alloc | apply Kd.R_drewN | apply Kd.R_drew)); exact HO184.out))) (below_size bl)); have n2_ := Aside0.mk (below_step bl hb); clear HO184; clear HB; have HO184 := n0_; have HO187 := n1_; have HB := n2_; clear n0_ n1_ n2_; clear hb ho8) | ((with_reducible refine gate_dst (N := 8) rfl ?_); refine arr_lit ?hg (N := 8) ?hd ?hg2 ?hn2 48 (.tmp 38) ?ho2 ([Int.tmod a1 65536, Int.tmod (IntKind.u64.wrap (Int.tdiv a1 65536)) 65536, Int.tmod (IntKind.u64.wrap (Int.tdiv a1 4294967296)) 65536, IntKind.u64.wrap (Int.tdiv a1 281474976710656)] : List Int) 4 rfl (by decide) ?hr ?hev ?hx ?ht rfl ?_; (case hd => rfl); (case hg => rfl); (case hg2 => rfl); (case hn2 => rfl); (case ho2 => rfl); (case hev => intro g_; first | rfl | (go_simp; done) | (go_simp; rfl)); (case hx => intro g_; first | rfl | (go_simp; done) | (go_simp; rfl)); (case ht => kernel_rfl); (case hr => first | (go_simp; done) | (go_simp; rfl)); intro ga189 w9 ho10 hb hg_ hnew_; clear hg_ hnew_; rw [← Ny188.out] at ho10; have n0_ := Aside0.mk (Kd.R_elder' (by (with_reducible repeat (first | apply Kd.R_alloc | apply Kd.R_drewN | apply Kd.R_drew)); exact HO184.out) (Kd.R_base ho10) hb); have n1_ := Aside0.mk (Kd.R_elder' (by (with_reducible repeat (first | apply Kd.R_alloc | apply Kd.R_drewN | apply Kd.R_drew)); exact HO187.out) (Kd.R_base ho10) hb); have n2_ := Aside0.mk (Kd.R_lower (Kd.R_new' (Kd.R_new' ho10 (Kd.R_lt (by (with_reducible repeat (first | apply Kd.R_alloc | apply Kd.R_drewN | apply Kd.R_drew)); exact HO184.out))) (Kd.R_lt (by (with_reducible repeat (first | apply Kd.R_alloc | apply Kd.R_drewN | apply Kd.R_drew)); exact HO187.out))) (below_size bl)); have n3_ := Aside0.mk (below_step bl hb); clear HO184; clear HO187; clear HB; have HO184 := n0_; have HO187 := n1_; have HO190 := n2_; have HB := n3_; clear n0_ n1_ n2_ n3_; clear hb ho10) | ((with_reducible refine gate_dst (N := 9) rfl ?_); refine arr_make ?hg (N := 9) ?hd 49 8 (by decide) ?hr ?_; (case hd => rfl); (case hg => rfl); (case hr => first | (go_simp; done) | (go_simp; rfl)); intro ga192 w11 ho12 hb hg_ hnew_; clear hg_ hnew_; rw [← Ny191.out] at ho12; have n0_ := Aside0.mk (Kd.R_elder' (by (with_reducible repeat (first | apply Kd.R_alloc | apply Kd.R_drewN | apply Kd.R_drew)); exact HO184.out) (Kd.R_base ho12) hb); have n1_ := Aside0.mk (Kd.R_elder' (by (with_reducible repeat (first | apply Kd.R_alloc | apply Kd.R_drewN | apply Kd.R_drew)); exact HO187.out) (Kd.R_base ho12) hb); have n2_ := Aside0.mk (Kd.R_elder' (by (with_reducible repeat (first | apply Kd.R_alloc | apply Kd.R_drewN | apply Kd.R_drew)); exact HO190.out) (Kd.R_base ho12) hb); have n3_ := Aside0.mk (Kd.R_lower (Kd.R_new' (Kd.R_new' (Kd.R_new' ho12 (Kd.R_lt (by (with_reducible repeat (first | apply Kd.R_alloc | apply Kd.R_drewN | apply Kd.R_drew)); exact HO184.out))) (Kd.R_lt (by (with_reducible repeat (first | apply Kd.R_alloc | apply Kd.R_drewN | apply Kd.R_drew)); exact HO187.out))) (Kd.R_lt (by (with_reducible repeat (first | apply Kd.R_alloc | apply Kd.R_drewN | apply Kd.R_drew)); exact HO190.out))) (below_size bl)); have n4_ := Aside0.mk (below_step bl hb); clear HO184; clear HO187; clear HO190; clear HB; have HO184 := n0_; have HO187 := n1_; have HO190 := n2_; have HO193 := n3_; have HB := n4_; clear n0_ n1_ n2_ n3_ n4_; clear hb ho12)))
   go_loopg [10] k (fun kq v10 w' => ∃ (x6_1 : List Int) (x7_1 : List Int) (x8_1 : List Int) (x9_1 : List Int) (x10_1 : Int), v10 = .int .i64 x10_1 ∧ Aside0 (spinnakerref07_Mul.l0 kq x6_1 x7_1 x8_1 x9_1 x10_1 = some (r1, r2)) ∧ Aside0 (kq ≤ k) ∧ Aside0 (Kd.R (Kd.int .u64) 48 w' w.heap.size (fun k_ => some k_ ≠ ((.slice (some ⟨ga186, 0, none⟩) 4 4) : Value).ownBlock ∧ some k_ ≠ ((.slice (some ⟨ga189, 0, none⟩) 4 4) : Value).ownBlock ∧ some k_ ≠ ((.slice (some ⟨ga192, 0, none⟩) 8 8) : Value).ownBlock) (.slice (some ⟨ga183, 0, none⟩) 4 4) x6_1) ∧ Aside0 (Kd.R (Kd.int .u64) 48 w' w.heap.size (fun k_ => some k_ ≠ ((.slice (some ⟨ga183, 0, none⟩) 4 4) : Value).ownBlock ∧ some k_ ≠ ((.slice (some ⟨ga189, 0, none⟩) 4 4) : Value).ownBlock ∧ some k_ ≠ ((.slice (some ⟨ga192, 0, none⟩) 8 8) : Value).ownBlock) (.slice (some ⟨ga186, 0, none⟩) 4 4) x7_1) ∧ Aside0 (Kd.R (Kd.int .u64) 48 w' w.heap.size (fun k_ => some k_ ≠ ((.slice (some ⟨ga183, 0, none⟩) 4 4) : Value).ownBlock ∧ some k_ ≠ ((.slice (some ⟨ga186, 0, none⟩) 4 4) : Value).ownBlock ∧ some k_ ≠ ((.slice (some ⟨ga192, 0, none⟩) 8 8) : Value).ownBlock) (.slice (some ⟨ga189, 0, none⟩) 4 4) x8_1) ∧ Aside0 (Kd.R (Kd.int .u64) 49 w' w.heap.size (fun k_ => some k_ ≠ ((.slice (some ⟨ga183, 0, none⟩) 4 4) : Value).ownBlock ∧ some k_ ≠ ((.slice (some ⟨ga186, 0, none⟩) 4 4) : Value).ownBlock ∧ some k_ ≠ ((.slice (some ⟨ga189, 0, none⟩) 4 4) : Value).ownBlock) (.slice (some ⟨ga192, 0, none⟩) 8 8) x9_1) ∧ Aside0 (Below w.heap.size w w'))
   case atStart => exact ⟨(y182), (y185), (y188), (y191), (0), fj, H', ⟨Nat.le_refl _⟩, ⟨by (with_reducible repeat (first | apply Kd.R_alloc | apply Kd.R_drewN | apply Kd.R_drew)); exact Kd.R_mono HO184.out (fun _ hk => ⟨hk.1.1.2, ⟨hk.1.2, hk.2⟩⟩)⟩, ⟨by (with_reducible repeat (first | apply Kd.R_alloc | apply Kd.R_drewN | apply Kd.R_drew)); exact Kd.R_mono HO187.out (fun _ hk => ⟨hk.1.1.2, ⟨hk.1.2, hk.2⟩⟩)⟩, ⟨by (with_reducible repeat (first | apply Kd.R_alloc | apply Kd.R_drewN | apply Kd.R_drew)); exact Kd.R_mono HO190.out (fun _ hk => ⟨hk.1.1.2, ⟨hk.1.2, hk.2⟩⟩)⟩, ⟨by (with_reducible repeat (first | apply Kd.R_alloc | apply Kd.R_drewN | apply Kd.R_drew)); exact Kd.R_mono HO193.out (fun _ hk => ⟨hk.1.1.2, ⟨hk.1.2, hk.2⟩⟩)⟩, ⟨bl⟩⟩
   case round =>
    clear H'
    try clear c2
    try clear p2
    try clear c3
    try clear c3b0
    try clear c3b1
    try clear c4
    try clear c4b0
    try clear c4b1
    obtain ⟨x6_1, x7_1, x8_1, x9_1, x10_1, rfl, HA, HK1, HO_6, HO_7, HO_8, HO_9, HB⟩ := hrel
    cases gk with
    | zero => exact absurd HA.out (by simp [spinnakerref07_Mul.l0])
    | succ k1 =>
     have H := HA.out
     clear HA
     simp only [spinnakerref07_Mul.l0] at H
     by_cases c13 : x10_1 < 4
     ·rw [if_pos c13] at H
      have c13b0 := decide_eq_true c13
      clear c13
      have H' := Aside0.mk H
      clear H
      go_wp2
      repeat (go_quiet (fail); try go_wp2)
      go_loopg [11] k1 (fun kq v11 w' => ∃ (x6_2 : List Int) (x7_2 : List Int) (x8_2 : List Int) (x9_2 : List Int) (x11_2 : Int), v11 = .int .i64 x11_2 ∧ Aside0 (spinnakerref07_Mul.l1 kq x6_2 x7_2 x8_2 x9_2 x10_1 x11_2 = some (r1, r2)) ∧ Aside0 (kq ≤ k1) ∧ Aside0 (Kd.R (Kd.int .u64) 48 w' w.heap.size (fun k_ => some k_ ≠ ((.slice (some ⟨ga186, 0, none⟩) 4 4) : Value).ownBlock ∧ some k_ ≠ ((.slice (some ⟨ga189, 0, none⟩) 4 4) : Value).ownBlock ∧ some k_ ≠ ((.slice (some ⟨ga192, 0, none⟩) 8 8) : Value).ownBlock) (.slice (some ⟨ga183, 0, none⟩) 4 4) x6_2) ∧ Aside0 (Kd.R (Kd.int .u64) 48 w' w.heap.size (fun k_ => some k_ ≠ ((.slice (some ⟨ga183, 0, none⟩) 4 4) : Value).ownBlock ∧ some k_ ≠ ((.slice (some ⟨ga189, 0, none⟩) 4 4) : Value).ownBlock ∧ some k_ ≠ ((.slice (some ⟨ga192, 0, none⟩) 8 8) : Value).ownBlock) (.slice (some ⟨ga186, 0, none⟩) 4 4) x7_2) ∧ Aside0 (Kd.R (Kd.int .u64) 48 w' w.heap.size (fun k_ => some k_ ≠ ((.slice (some ⟨ga183, 0, none⟩) 4 4) : Value).ownBlock ∧ some k_ ≠ ((.slice (some ⟨ga186, 0, none⟩) 4 4) : Value).ownBlock ∧ some k_ ≠ ((.slice (some ⟨ga192, 0, none⟩) 8 8) : Value).ownBlock) (.slice (some ⟨ga189, 0, none⟩) 4 4) x8_2) ∧ Aside0 (Kd.R (Kd.int .u64) 49 w' w.heap.size (fun k_ => some k_ ≠ ((.slice (some ⟨ga183, 0, none⟩) 4 4) : Value).ownBlock ∧ some k_ ≠ ((.slice (some ⟨ga186, 0, none⟩) 4 4) : Value).ownBlock ∧ some k_ ≠ ((.slice (some ⟨ga189, 0, none⟩) 4 4) : Value).ownBlock) (.slice (some ⟨ga192, 0, none⟩) 8 8) x9_2) ∧ Aside0 (Below w.heap.size w w'))
      case atStart => exact ⟨(x6_1), (x7_1), (x8_1), (x9_1), (0), fj, H', ⟨Nat.le_refl _⟩, ⟨by (with_reducible repeat (first | apply Kd.R_alloc | apply Kd.R_drewN | apply Kd.R_drew)); exact HO_6.out⟩, ⟨by (with_reducible repeat (first | apply Kd.R_alloc | apply Kd.R_drewN | apply Kd.R_drew)); exact HO_7.out⟩, ⟨by (with_reducible repeat (first | apply Kd.R_alloc | apply Kd.R_drewN | apply Kd.R_drew)); exact HO_8.out⟩, ⟨by (with_reducible repeat (first | apply Kd.R_alloc | apply Kd.R_drewN | apply Kd.R_drew)); exact HO_9.out⟩, ⟨bl⟩⟩
      case round =>
       clear H'
       try clear c1
       try clear c2
       try clear p2
       try clear c3
       try clear c3b0
       try clear c3b1
       try clear c4
       try clear c4b0
       try clear c4b1
       try clear c13
       try clear c13b0
       try clear p2
       obtain ⟨x6_2, x7_2, x8_2, x9_2, x11_2, rfl, HA, HK2, HO_6, HO_7, HO_8, HO_9, HB⟩ := hrel
       cases gk with
       | zero => exact absurd HA.out (by simp [spinnakerref07_Mul.l1])
       | succ k2 =>
        have H := HA.out
        clear HA
        simp only [spinnakerref07_Mul.l1] at H
        by_cases c14 : x11_2 < 4
        ·rw [if_pos c14] at H
         have c14b0 := decide_eq_true c14
         clear c14
         by_cases c15 : 0 ≤ x10_1
         ·rw [if_pos c15] at H
          have c15b0 := decide_eq_true c15
          clear c15
          by_cases c16 : x10_1 < (x7_2.length : Int)
          ·rw [if_pos c16] at H
           have c16b0 := decide_eq_true c16
           clear c16
           by_cases c17 : 0 ≤ x11_2
           ·rw [if_pos c17] at H
            have c17b0 := decide_eq_true c17
            clear c17
            by_cases c18 : x11_2 < (x8_2.length : Int)
            ·rw [if_pos c18] at H
             have c18b0 := decide_eq_true c18
             clear c18
             obtain ⟨ji19, hji19⟩ : ∃ j_ : Int, (wrap64 (x10_1 + x11_2)) = j_ := ⟨_, rfl⟩
             replace H : (if 0 ≤ (ji19) then (if (ji19) < (x9_2.length : Int) then ((some (x9_2.set ((ji19) : Int).toNat (IntKind.u64.wrap ((rd x9_2 (ji19)) + (Int.tmod (IntKind.u64.wrap ((rd x7_2 x10_1) * (rd x8_2 x11_2))) 65536))) : List Int)).bind fun y197 => (if 0 ≤ (wrap64 ((ji19) + 1)) then (if (wrap64 ((ji19) + 1)) < (x9_2.length : Int) then (spinnakerref07_Mul.l1 k2 x6_2 x7_2 x8_2 (y197.set ((wrap64 ((ji19) + 1)) : Int).toNat (IntKind.u64.wrap ((rd y197 (wrap64 ((ji19) + 1))) + (IntKind.u64.wrap (Int.tdiv (IntKind.u64.wrap ((rd x7_2 x10_1) * (rd x8_2 x11_2))) 65536))))) x10_1 (wrap64 (x11_2 + 1))) else (none)) else (none))) else (none)) else (none)) = some (r1, r2) := by first | (rw [hji19] at H; exact H) | (simp only [hji19] at H ⊢; exact H)
             have hji19w : (IntKind.i64.wrap (x10_1 + x11_2)) = ji19 := (i64_w _).trans hji19
             by_cases c20 : 0 ≤ (ji19)
             ·rw [if_pos c20] at H
              have c20b0 := decide_eq_true c20
              clear c20
              by_cases c21 : (ji19) < (x9_2.length : Int)
              ·rw [if_pos c21] at H
               have c21b0 := decide_eq_true c21
               clear c21
               obtain ⟨y197, hy197⟩ : ∃ y_ : List Int, y_ = (x9_2.set ((ji19) : Int).toNat (IntKind.u64.wrap ((rd x9_2 (ji19)) + (Int.tmod (IntKind.u64.wrap ((rd x7_2 x10_1) * (rd x8_2 x11_2))) 65536)))) := ⟨_, rfl⟩
               replace H : (if 0 ≤ (wrap64 ((ji19) + 1)) then (if (wrap64 ((ji19) + 1)) < (x9_2.length : Int) then (spinnakerref07_Mul.l1 k2 x6_2 x7_2 x8_2 (y197.set ((wrap64 ((ji19) + 1)) : Int).toNat (IntKind.u64.wrap ((rd y197 (wrap64 ((ji19) + 1))) + (IntKind.u64.wrap (Int.tdiv (IntKind.u64.wrap ((rd x7_2 x10_1) * (rd x8_2 x11_2))) 65536))))) x10_1 (wrap64 (x11_2 + 1))) else (none)) else (none)) = some (r1, r2) := by first | (rw [hy197]; with_reducible exact H) | (have H2_ := (Option.bind_some _ _).symm.trans H; rw [hy197]; with_reducible exact H2_) | (have H2_ := (Option.bind_some _ _).symm.trans H; with_reducible exact H2_) | with_reducible exact H | (rw [hy197]; exact H) | exact H
               have Ny197 := Aside0.mk hy197
               clear hy197
               obtain ⟨ji23, hji23⟩ : ∃ j_ : Int, (wrap64 ((ji19) + 1)) = j_ := ⟨_, rfl⟩
               replace H : (if 0 ≤ (ji23) then (if (ji23) < (x9_2.length : Int) then (spinnakerref07_Mul.l1 k2 x6_2 x7_2 x8_2 (y197.set ((ji23) : Int).toNat (IntKind.u64.wrap ((rd y197 (ji23)) + (IntKind.u64.wrap (Int.tdiv (IntKind.u64.wrap ((rd x7_2 x10_1) * (rd x8_2 x11_2))) 65536))))) x10_1 (wrap64 (x11_2 + 1))) else (none)) else (none)) = some (r1, r2) := by first | (rw [hji23] at H; exact H) | (simp only [hji23] at H ⊢; exact H)
               have hji23w : (IntKind.i64.wrap ((ji19) + 1)) = ji23 := (i64_w _).trans hji23
               by_cases c24 : 0 ≤ (ji23)
               ·rw [if_pos c24] at H
                have c24b0 := decide_eq_true c24
                clear c24
                by_cases c25 : (ji23) < (x9_2.length : Int)
                ·rw [if_pos c25] at H
                 have c25b0 := decide_eq_true c25
                 clear c25
                 obtain ⟨y199, hy199⟩ : ∃ y_ : List Int, y_ = (y197.set ((ji23) : Int).toNat (IntKind.u64.wrap ((rd y197 (ji23)) + (IntKind.u64.wrap (Int.tdiv (IntKind.u64.wrap ((rd x7_2 x10_1) * (rd x8_2 x11_2))) 65536))))) := ⟨_, rfl⟩
                 replace H : (spinnakerref07_Mul.l1 k2 x6_2 x7_2 x8_2 y199 x10_1 (wrap64 (x11_2 + 1))) = some (r1, r2) := by first | (rw [hy199]; with_reducible exact H) | (have H2_ := (Option.bind_some _ _).symm.trans H; rw [hy199]; with_reducible exact H2_) | (have H2_ := (Option.bind_some _ _).symm.trans H; with_reducible exact H2_) | with_reducible exact H | (rw [hy199]; exact H) | exact H
                 have Ny199 := Aside0.mk hy199
                 clear hy199
                 have H' := Aside0.mk H
                 clear H
                 have p194 : 0 ≤ (x10_1 : Int) := of_decide_eq_true (by first | (with_reducible assumption) | assumption)
                 have q194 : x10_1 < (x7_2.length : Int) := of_decide_eq_true (by first | (with_reducible assumption) | assumption)
                 obtain ⟨hx194_0, hf194_1, qa194⟩ := arr_cell HO_7.out (x10_1 : Int) p194 q194
                 rw [show ((4 : Nat) : Int) = 4 from rfl] at qa194
                 replace p194 := eq_true p194
                 replace q194 := eq_true q194
                 have p195 : 0 ≤ (x11_2 : Int) := of_decide_eq_true (by first | (with_reducible assumption) | assumption)
                 have q195 : x11_2 < (x8_2.length : Int) := of_decide_eq_true (by first | (with_reducible assumption) | assumption)
                 obtain ⟨hx195_0, hf195_1, qa195⟩ := arr_cell HO_8.out (x11_2 : Int) p195 q195
                 rw [show ((4 : Nat) : Int) = 4 from rfl] at qa195
                 replace p195 := eq_true p195
                 replace q195 := eq_true q195
                 have p196 : 0 ≤ ((ji19) : Int) := of_decide_eq_true (by first | (with_reducible assumption) | assumption)
                 have q196 : (ji19) < (x9_2.length : Int) := of_decide_eq_true (by first | (with_reducible assumption) | assumption)
                 obtain ⟨hx196_0, hf196_1, qa196⟩ := arr_cell HO_9.out ((ji19) : Int) p196 q196
                 rw [show ((8 : Nat) : Int) = 8 from rfl] at qa196
                 replace p196 := eq_true p196
                 replace q196 := eq_true q196
                 have p22 : 0 ≤ ((ji19) : Int) := of_decide_eq_true (by first | (with_reducible assumption) | assumption)
                 have q22 : ((ji19) : Int) < ((x9_2.length : Int) : Int) := of_decide_eq_true (by first | (with_reducible assumption) | assumption)
                 obtain ⟨gb22, HG22⟩ := arr_base HO_9.out (by omega)
                 have GB22 := Aside0.mk gb22
                 have GG22 := Aside0.mk HG22
                 clear gb22 HG22
                 (first | simp only [add_plain] at hx196_0 | skip)
                 obtain ⟨hx22_0, hf22_0, qa22⟩ := arr_cell HO_9.out ((ji19) : Int) p22 q22
                 rw [show ((8 : Nat) : Int) = 8 from rfl] at qa22
                 replace p22 := eq_true p22
                 replace q22 := eq_true q22
                 have HP30 := Kd.R_putg HO_9.out ((ji19) : Int) (IntKind.u64.wrap ((rd x9_2 (ji19)) + (Int.tmod (IntKind.u64.wrap ((rd x7_2 x10_1) * (rd x8_2 x11_2))) 65536)))
                 have EL9 := Aside0.mk (Kd.R_reads' HO_9.out).1
                 go_wp2_with (first | ((with_reducible refine gate_store (t := 29) (p := 65) rfl ?_); (try (rw [drewN_self wr]; generalize hq_ : World.drewN wr _ = wr; have n0_ := Aside0.mk (Kd.R_at hq_ HO_6.out); have n1_ := Aside0.mk (Kd.R_at hq_ HO_7.out); have n2_ := Aside0.mk (Kd.R_at hq_ HO_8.out); have n3_ := Aside0.mk (Kd.R_at hq_ HO_9.out); have n4_ := Aside0.mk (below_at hq_ HB.out); clear hq_ HO_6 HO_7 HO_8 HO_9 HB; have HO_6 := n0_; have HO_7 := n1_; have HO_8 := n2_; have HO_9 := n3_; have HB := n4_; clear n0_ n1_ n2_ n3_ n4_; (try (obtain ⟨hy30_, hz30_, _⟩ := arr_cell HO_9.out ((ji19) : Int) (of_decide_eq_true (by first | (with_reducible assumption) | assumption)) (of_decide_eq_true (by first | (with_reducible assumption) | assumption)))); (try (have HP30 := Kd.R_putg HO_9.out ((ji19) : Int) (IntKind.u64.wrap ((rd x9_2 (ji19)) + (Int.tmod (IntKind.u64.wrap ((rd x7_2 x10_1) * (rd x8_2 x11_2))) 65536))))))); refine store_event (t := 29) (p := 65) (v := ?vo_w31) (w1 := (wr.setCell ⟨ga192, ((ji19) : Int).toNat, none⟩ (.int .u64 (IntKind.u64.wrap ((rd x9_2 (ji19)) + (Int.tmod (IntKind.u64.wrap ((rd x7_2 x10_1) * (rd x8_2 x11_2))) 65536)))))) ?hg ?ho ?hn ?hr ?_; (case ho => rfl); (case hg => rfl); (case hn => rfl); (case hr => first | (go_simp; done) | (go_simp; rfl)); intro w31 hw; have hg : wr.grownBy w31 (some ga192) := (by rw [hw]; exact HP30.2); have hp_ : Kd.R (Kd.int .u64) 49 w31 w.heap.size (fun k_ => some k_ ≠ ((.slice (some ⟨ga183, 0, none⟩) 4 4) : Value).ownBlock ∧ some k_ ≠ (.slice (some ⟨ga186, 0, none⟩) 4 4 : Value).ownBlock ∧ some k_ ≠ (.slice (some ⟨ga189, 0, none⟩) 4 4 : Value).ownBlock) (.slice (some ⟨ga192, 0, none⟩) 8 8) y197 := (by rw [hw, Ny197.out]; exact HP30.1); clear HP30; have n0_ := Aside0.mk (Kd.R_after (v := (.slice (some ⟨ga192, 0, none⟩) 8 8)) (v1 := (.slice (some ⟨ga192, 0, none⟩) 8 8)) (ok := (fun k_ => some k_ ≠ (.slice (some ⟨ga186, 0, none⟩) 4 4 : Value).ownBlock ∧ some k_ ≠ (.slice (some ⟨ga189, 0, none⟩) 4 4 : Value).ownBlock)) (by (with_reducible repeat (first | apply Kd.R_alloc | apply Kd.R_drewN | apply Kd.R_drew)); exact Kd.R_mono HO_6.out (fun _ hk => ⟨⟨hk.1, hk.2.1⟩, hk.2.2⟩)) hg (.inl rfl)); have n1_ := Aside0.mk (Kd.R_after (v := (.slice (some ⟨ga192, 0, none⟩) 8 8)) (v1 := (.slice (some ⟨ga192, 0, none⟩) 8 8)) (ok := (fun k_ => some k_ ≠ ((.slice (some ⟨ga183, 0, none⟩) 4 4) : Value).ownBlock ∧ some k_ ≠ (.slice (some ⟨ga189, 0, none⟩) 4 4 : Value).ownBlock)) (by (with_reducible repeat (first | apply Kd.R_alloc | apply Kd.R_drewN | apply Kd.R_drew)); exact Kd.R_mono HO_7.out (fun _ hk => ⟨⟨hk.1, hk.2.1⟩, hk.2.2⟩)) hg (.inl rfl)); have n2_ := Aside0.mk (Kd.R_after (v := (.slice (some ⟨ga192, 0, none⟩) 8 8)) (v1 := (.slice (some ⟨ga192, 0, none⟩) 8 8)) (ok := (fun k_ => some k_ ≠ ((.slice (some ⟨ga183, 0, none⟩) 4 4) : Value).ownBlock ∧ some k_ ≠ (.slice (some ⟨ga186, 0, none⟩) 4 4 : Value).ownBlock)) (by (with_reducible repeat (first | apply Kd.R_alloc | apply Kd.R_drewN | apply Kd.R_drew)); exact Kd.R_mono HO_8.out (fun _ hk => ⟨⟨hk.1, hk.2.1⟩, hk.2.2⟩)) hg (.inl rfl)); have n3_ := Aside0.mk (hp_); have n4_ := Aside0.mk ((by rw [hw]; exact below_set (HB.out) GB22.out : Below w.heap.size w w31)); clear HO_6; clear HO_7; clear HO_8; clear HO_9; clear HB; have HO_6 := n0_; have HO_7 := n1_; have HO_8 := n2_; have HO_9 := n3_; have HB := n4_; clear n0_ n1_ n2_ n3_ n4_; clear hg hw hp_; have p198 : 0 ≤ ((ji23) : Int) := of_decide_eq_true (by first | (with_reducible assumption) | assumption); have q198 : (ji23) < (y197.length : Int) := (by have h_ : ((ji23) : Int) < ((x9_2.length : Int) : Int) := of_decide_eq_true (by first | (with_reducible assumption) | assumption); first | (have e_ := (Kd.R_reads' HO_9.out).1; omega) | simpa only [Ny197.out, List.length_set] using h_); have ql198 : (((ji23) : Int) < ((x9_2.length : Int) : Int)) = True := eq_true (of_decide_eq_true (by first | (with_reducible assumption) | assumption)); obtain ⟨hx198_0, hf198_1, qa198⟩ := arr_cell HO_9.out (ji23) p198 q198; rw [show ((8 : Nat) : Int) = 8 from rfl] at qa198; replace p198 := eq_true p198; replace q198 := eq_true q198; have p26 : 0 ≤ ((ji23) : Int) := of_decide_eq_true (by first | (with_reducible assumption) | assumption); have q26 : ((ji23) : Int) < ((x9_2.length : Int) : Int) := of_decide_eq_true (by first | (with_reducible assumption) | assumption); obtain ⟨hx26_0, hf26_0⟩ := Kd.R_celln 0 HO_9.out ((ji23) : Int) p26 (by have h_ := q26; have e_ := EL9.out; omega); replace p26 := eq_true p26; replace q26 := eq_true q26; obtain ⟨hy32_, hz32_⟩ := Kd.R_celln 0 HO_9.out ((ji23) : Int) (of_decide_eq_true (by first | (with_reducible assumption) | assumption)) (by have h_ := (of_decide_eq_true (by first | (with_reducible assumption) | assumption) : ((ji23) : Int) < (x9_2.length : Int)); have e_ := EL9.out; omega); have HP32 := Kd.R_putg HO_9.out ((ji23) : Int) (IntKind.u64.wrap ((rd y197 (ji23)) + (IntKind.u64.wrap (Int.tdiv (IntKind.u64.wrap ((rd x7_2 x10_1) * (rd x8_2 x11_2))) 65536))))) | ((with_reducible refine gate_store (t := 29) (p := 79) rfl ?_); (try (rw [drewN_self w31]; generalize hq_ : World.drewN w31 _ = w31; have n0_ := Aside0.mk (Kd.R_at hq_ HO_6.out); have n1_ := Aside0.mk (Kd.R_at hq_ HO_7.out); have n2_ := Aside0.mk (Kd.R_at hq_ HO_8.out); have n3_ := Aside0.mk (Kd.R_at hq_ HO_9.out); have n4_ := Aside0.mk (below_at hq_ HB.out); clear hq_ HO_6 HO_7 HO_8 HO_9 HB; have HO_6 := n0_; have HO_7 := n1_; have HO_8 := n2_; have HO_9 := n3_; have HB := n4_; clear n0_ n1_ n2_ n3_ n4_; (try (obtain ⟨hy32_, hz32_⟩ := Kd.R_celln 0 HO_9.out ((ji23) : Int) (of_decide_eq_true (by first | (with_reducible assumption) | assumption)) (by have h_ := (of_decide_eq_true (by first | (with_reducible assumption) | assumption) : ((ji23) : Int) < (x9_2.length : Int)); have e_ := EL9.out; omega))); (try (have HP32 := Kd.R_putg HO_9.out ((ji23) : Int) (IntKind.u64.wrap ((rd y197 (ji23)) + (IntKind.u64.wrap (Int.tdiv (IntKind.u64.wrap ((rd x7_2 x10_1) * (rd x8_2 x11_2))) 65536)))))))); refine store_event (t := 29) (p := 79) (v := ?vo_w33) (w1 := (w31.setCell ⟨ga192, ((ji23) : Int).toNat, none⟩ (.int .u64 (IntKind.u64.wrap ((rd y197 (ji23)) + (IntKind.u64.wrap (Int.tdiv (IntKind.u64.wrap ((rd x7_2 x10_1) * (rd x8_2 x11_2))) 65536))))))) ?hg ?ho ?hn ?hr ?_; (case ho => rfl); (case hg => rfl); (case hn => rfl); (case hr => first | (go_simp; done) | (go_simp; rfl)); intro w33 hw; have hg : w31.grownBy w33 (some ga192) := (by rw [hw]; exact HP32.2); have hp_ : Kd.R (Kd.int .u64) 49 w33 w.heap.size (fun k_ => some k_ ≠ ((.slice (some ⟨ga183, 0, none⟩) 4 4) : Value).ownBlock ∧ some k_ ≠ (.slice (some ⟨ga186, 0, none⟩) 4 4 : Value).ownBlock ∧ some k_ ≠ (.slice (some ⟨ga189, 0, none⟩) 4 4 : Value).ownBlock) (.slice (some ⟨ga192, 0, none⟩) 8 8) y199 := (by rw [hw, Ny199.out]; exact HP32.1); clear HP32; have n0_ := Aside0.mk (Kd.R_after (v := (.slice (some ⟨ga192, 0, none⟩) 8 8)) (v1 := (.slice (some ⟨ga192, 0, none⟩) 8 8)) (ok := (fun k_ => some k_ ≠ (.slice (some ⟨ga186, 0, none⟩) 4 4 : Value).ownBlock ∧ some k_ ≠ (.slice (some ⟨ga189, 0, none⟩) 4 4 : Value).ownBlock)) (by (with_reducible repeat (first | apply Kd.R_alloc | apply Kd.R_drewN | apply Kd.R_drew)); exact HO_6.out) hg (.inl rfl)); have n1_ := Aside0.mk (Kd.R_after (v := (.slice (some ⟨ga192, 0, none⟩) 8 8)) (v1 := (.slice (some ⟨ga192, 0, none⟩) 8 8)) (ok := (fun k_ => some k_ ≠ ((.slice (some ⟨ga183, 0, none⟩) 4 4) : Value).ownBlock ∧ some k_ ≠ (.slice (some ⟨ga189, 0, none⟩) 4 4 : Value).ownBlock)) (by (with_reducible repeat (first | apply Kd.R_alloc | apply Kd.R_drewN | apply Kd.R_drew)); exact HO_7.out) hg (.inl rfl)); have n2_ := Aside0.mk (Kd.R_after (v := (.slice (some ⟨ga192, 0, none⟩) 8 8)) (v1 := (.slice (some ⟨ga192, 0, none⟩) 8 8)) (ok := (fun k_ => some k_ ≠ ((.slice (some ⟨ga183, 0, none⟩) 4 4) : Value).ownBlock ∧ some k_ ≠ (.slice (some ⟨ga186, 0, none⟩) 4 4 : Value).ownBlock)) (by (with_reducible repeat (first | apply Kd.R_alloc | apply Kd.R_drewN | apply Kd.R_drew)); exact HO_8.out) hg (.inl rfl)); have n3_ := Aside0.mk (hp_); have n4_ := Aside0.mk ((by rw [hw]; exact below_set (HB.out) GB22.out : Below w.heap.size w w33)); clear HO_6; clear HO_7; clear HO_8; clear HO_9; clear HB; have HO_6 := n0_; have HO_7 := n1_; have HO_8 := n2_; have HO_9 := n3_; have HB := n4_; clear n0_ n1_ n2_ n3_ n4_; clear hg hw hp_))
                 repeat (go_quiet (first | ((with_reducible refine gate_store (t := 29) (p := 65) rfl ?_); (try (rw [drewN_self wr]; generalize hq_ : World.drewN wr _ = wr; have n0_ := Aside0.mk (Kd.R_at hq_ HO_6.out); have n1_ := Aside0.mk (Kd.R_at hq_ HO_7.out); have n2_ := Aside0.mk (Kd.R_at hq_ HO_8.out); have n3_ := Aside0.mk (Kd.R_at hq_ HO_9.out); have n4_ := Aside0.mk (below_at hq_ HB.out); clear hq_ HO_6 HO_7 HO_8 HO_9 HB; have HO_6 := n0_; have HO_7 := n1_; have HO_8 := n2_; have HO_9 := n3_; have HB := n4_; clear n0_ n1_ n2_ n3_ n4_; (try (obtain ⟨hy30_, hz30_, _⟩ := arr_cell HO_9.out ((ji19) : Int) (of_decide_eq_true (by first | (with_reducible assumption) | assumption)) (of_decide_eq_true (by first | (with_reducible assumption) | assumption)))); (try (have HP30 := Kd.R_putg HO_9.out ((ji19) : Int) (IntKind.u64.wrap ((rd x9_2 (ji19)) + (Int.tmod (IntKind.u64.wrap ((rd x7_2 x10_1) * (rd x8_2 x11_2))) 65536))))))); refine store_event (t := 29) (p := 65) (v := ?vo_w31) (w1 := (wr.setCell ⟨ga192, ((ji19) : Int).toNat, none⟩ (.int .u64 (IntKind.u64.wrap ((rd x9_2 (ji19)) + (Int.tmod (IntKind.u64.wrap ((rd x7_2 x10_1) * (rd x8_2 x11_2))) 65536)))))) ?hg ?ho ?hn ?hr ?_; (case ho => rfl); (case hg => rfl); (case hn => rfl); (case hr => first | (go_simp; done) | (go_simp; rfl)); intro w31 hw; have hg : wr.grownBy w31 (some ga192) := (by rw [hw]; exact HP30.2); have hp_ : Kd.R (Kd.int .u64) 49 w31 w.heap.size (fun k_ => some k_ ≠ ((.slice (some ⟨ga183, 0, none⟩) 4 4) : Value).ownBlock ∧ some k_ ≠ (.slice (some ⟨ga186, 0, none⟩) 4 4 : Value).ownBlock ∧ some k_ ≠ (.slice (some ⟨ga189, 0, none⟩) 4 4 : Value).ownBlock) (.slice (some ⟨ga192, 0, none⟩) 8 8) y197 := (by rw [hw, Ny197.out]; exact HP30.1); clear HP30; have n0_ := Aside0.mk (Kd.R_after (v := (.slice (some ⟨ga192, 0, none⟩) 8 8)) (v1 := (.slice (some ⟨ga192, 0, none⟩) 8 8)) (ok := (fun k_ => some k_ ≠ (.slice (some ⟨ga186, 0, none⟩) 4 4 : Value).ownBlock ∧ some k_ ≠ (.slice (some ⟨ga189, 0, none⟩) 4 4 : Value).ownBlock)) (by (with_reducible repeat (first | apply Kd.R_alloc | apply Kd.R_drewN | apply Kd.R_drew)); exact Kd.R_mono HO_6.out (fun _ hk => ⟨⟨hk.1, hk.2.1⟩, hk.2.2⟩)) hg (.inl rfl)); have n1_ := Aside0.mk (Kd.R_after (v := (.slice (some ⟨ga192, 0, none⟩) 8 8)) (v1 := (.slice (some ⟨ga192, 0, none⟩) 8 8)) (ok := (fun k_ => some k_ ≠ ((.slice (some ⟨ga183, 0, none⟩) 4 4) : Value).ownBlock ∧ some k_ ≠ (.slice (some ⟨ga189, 0, none⟩) 4 4 : Value).ownBlock)) (by (with_reducible repeat (first | apply Kd.R_alloc | apply Kd.R_drewN | apply Kd.R_drew)); exact Kd.R_mono HO_7.out (fun _ hk => ⟨⟨hk.1, hk.2.1⟩, hk.2.2⟩)) hg (.inl rfl)); have n2_ := Aside0.mk (Kd.R_after (v := (.slice (some ⟨ga192, 0, none⟩) 8 8)) (v1 := (.slice (some ⟨ga192, 0, none⟩) 8 8)) (ok := (fun k_ => some k_ ≠ ((.slice (some ⟨ga183, 0, none⟩) 4 4) : Value).ownBlock ∧ some k_ ≠ (.slice (some ⟨ga186, 0, none⟩) 4 4 : Value).ownBlock)) (by (with_reducible repeat (first | apply Kd.R_alloc | apply Kd.R_drewN | apply Kd.R_drew)); exact Kd.R_mono HO_8.out (fun _ hk => ⟨⟨hk.1, hk.2.1⟩, hk.2.2⟩)) hg (.inl rfl)); have n3_ := Aside0.mk (hp_); have n4_ := Aside0.mk ((by rw [hw]; exact below_set (HB.out) GB22.out : Below w.heap.size w w31)); clear HO_6; clear HO_7; clear HO_8; clear HO_9; clear HB; have HO_6 := n0_; have HO_7 := n1_; have HO_8 := n2_; have HO_9 := n3_; have HB := n4_; clear n0_ n1_ n2_ n3_ n4_; clear hg hw hp_; have p198 : 0 ≤ ((ji23) : Int) := of_decide_eq_true (by first | (with_reducible assumption) | assumption); have q198 : (ji23) < (y197.length : Int) := (by have h_ : ((ji23) : Int) < ((x9_2.length : Int) : Int) := of_decide_eq_true (by first | (with_reducible assumption) | assumption); first | (have e_ := (Kd.R_reads' HO_9.out).1; omega) | simpa only [Ny197.out, List.length_set] using h_); have ql198 : (((ji23) : Int) < ((x9_2.length : Int) : Int)) = True := eq_true (of_decide_eq_true (by first | (with_reducible assumption) | assumption)); obtain ⟨hx198_0, hf198_1, qa198⟩ := arr_cell HO_9.out (ji23) p198 q198; rw [show ((8 : Nat) : Int) = 8 from rfl] at qa198; replace p198 := eq_true p198; replace q198 := eq_true q198; have p26 : 0 ≤ ((ji23) : Int) := of_decide_eq_true (by first | (with_reducible assumption) | assumption); have q26 : ((ji23) : Int) < ((x9_2.length : Int) : Int) := of_decide_eq_true (by first | (with_reducible assumption) | assumption); obtain ⟨hx26_0, hf26_0⟩ := Kd.R_celln 0 HO_9.out ((ji23) : Int) p26 (by have h_ := q26; have e_ := EL9.out; omega); replace p26 := eq_true p26; replace q26 := eq_true q26; obtain ⟨hy32_, hz32_⟩ := Kd.R_celln 0 HO_9.out ((ji23) : Int) (of_decide_eq_true (by first | (with_reducible assumption) | assumption)) (by have h_ := (of_decide_eq_true (by first | (with_reducible assumption) | assumption) : ((ji23) : Int) < (x9_2.length : Int)); have e_ := EL9.out; omega); have HP32 := Kd.R_putg HO_9.out ((ji23) : Int) (IntKind.u64.wrap ((rd y197 (ji23)) + (IntKind.u64.wrap (Int.tdiv (IntKind.u64.wrap ((rd x7_2 x10_1) * (rd x8_2 x11_2))) 65536))))) | ((with_reducible refine gate_store (t := 29) (p := 79) rfl ?_); (try (rw [drewN_self w31]; generalize hq_ : World.drewN w31 _ = w31; have n0_ := Aside0.mk (Kd.R_at hq_ HO_6.out); have n1_ := Aside0.mk (Kd.R_at hq_ HO_7.out); have n2_ := Aside0.mk (Kd.R_at hq_ HO_8.out); have n3_ := Aside0.mk (Kd.R_at hq_ HO_9.out); have n4_ := Aside0.mk (below_at hq_ HB.out); clear hq_ HO_6 HO_7 HO_8 HO_9 HB; have HO_6 := n0_; have HO_7 := n1_; have HO_8 := n2_; have HO_9 := n3_; have HB := n4_; clear n0_ n1_ n2_ n3_ n4_; (try (obtain ⟨hy32_, hz32_⟩ := Kd.R_celln 0 HO_9.out ((ji23) : Int) (of_decide_eq_true (by first | (with_reducible assumption) | assumption)) (by have h_ := (of_decide_eq_true (by first | (with_reducible assumption) | assumption) : ((ji23) : Int) < (x9_2.length : Int)); have e_ := EL9.out; omega))); (try (have HP32 := Kd.R_putg HO_9.out ((ji23) : Int) (IntKind.u64.wrap ((rd y197 (ji23)) + (IntKind.u64.wrap (Int.tdiv (IntKind.u64.wrap ((rd x7_2 x10_1) * (rd x8_2 x11_2))) 65536)))))))); refine store_event (t := 29) (p := 79) (v := ?vo_w33) (w1 := (w31.setCell ⟨ga192, ((ji23) : Int).toNat, none⟩ (.int .u64 (IntKind.u64.wrap ((rd y197 (ji23)) + (IntKind.u64.wrap (Int.tdiv (IntKind.u64.wrap ((rd x7_2 x10_1) * (rd x8_2 x11_2))) 65536))))))) ?hg ?ho ?hn ?hr ?_; (case ho => rfl); (case hg => rfl); (case hn => rfl); (case hr => first | (go_simp; done) | (go_simp; rfl)); intro w33 hw; have hg : w31.grownBy w33 (some ga192) := (by rw [hw]; exact HP32.2); have hp_ : Kd.R (Kd.int .u64) 49 w33 w.heap.size (fun k_ => some k_ ≠ ((.slice (some ⟨ga183, 0, none⟩) 4 4) : Value).ownBlock ∧ some k_ ≠ (.slice (some ⟨ga186, 0, none⟩) 4 4 : Value).ownBlock ∧ some k_ ≠ (.slice (some ⟨ga189, 0, none⟩) 4 4 : Value).ownBlock) (.slice (some ⟨ga192, 0, none⟩) 8 8) y199 := (by rw [hw, Ny199.out]; exact HP32.1); clear HP32; have n0_ := Aside0.mk (Kd.R_after (v := (.slice (some ⟨ga192, 0, none⟩) 8 8)) (v1 := (.slice (some ⟨ga192, 0, none⟩) 8 8)) (ok := (fun k_ => some k_ ≠ (.slice (some ⟨ga186, 0, none⟩) 4 4 : Value).ownBlock ∧ some k_ ≠ (.slice (some ⟨ga189, 0, none⟩) 4 4 : Value).ownBlock)) (by (with_reducible repeat (first | apply Kd.R_alloc | apply Kd.R_drewN | apply Kd.R_drew)); exact HO_6.out) hg (.inl rfl)); have n1_ := Aside0.mk (Kd.R_after (v := (.slice (some ⟨ga192, 0, none⟩) 8 8)) (v1 := (.slice (some ⟨ga192, 0, none⟩) 8 8)) (ok := (fun k_ => some k_ ≠ ((.slice (some ⟨ga183, 0, none⟩) 4 4) : Value).ownBlock ∧ some k_ ≠ (.slice (some ⟨ga189, 0, none⟩) 4 4 : Value).ownBlock)) (by (with_reducible repeat (first | apply Kd.R_alloc | apply Kd.R_drewN | apply Kd.R_drew)); exact HO_7.out) hg (.inl rfl)); have n2_ := Aside0.mk (Kd.R_after (v := (.slice (some ⟨ga192, 0, none⟩) 8 8)) (v1 := (.slice (some ⟨ga192, 0, none⟩) 8 8)) (ok := (fun k_ => some k_ ≠ ((.slice (some ⟨ga183, 0, none⟩) 4 4) : Value).ownBlock ∧ some k_ ≠ (.slice (some ⟨ga186, 0, none⟩) 4 4 : Value).ownBlock)) (by (with_reducible repeat (first | apply Kd.R_alloc | apply Kd.R_drewN | apply Kd.R_drew)); exact HO_8.out) hg (.inl rfl)); have n3_ := Aside0.mk (hp_); have n4_ := Aside0.mk ((by rw [hw]; exact below_set (HB.out) GB22.out : Below w.heap.size w w33)); clear HO_6; clear HO_7; clear HO_8; clear HO_9; clear HB; have HO_6 := n0_; have HO_7 := n1_; have HO_8 := n2_; have HO_9 := n3_; have HB := n4_; clear n0_ n1_ n2_ n3_ n4_; clear hg hw hp_)); try go_wp2_with (first | ((with_reducible refine gate_store (t := 29) (p := 65) rfl ?_); (try (rw [drewN_self wr]; generalize hq_ : World.drewN wr _ = wr; have n0_ := Aside0.mk (Kd.R_at hq_ HO_6.out); have n1_ := Aside0.mk (Kd.R_at hq_ HO_7.out); have n2_ := Aside0.mk (Kd.R_at hq_ HO_8.out); have n3_ := Aside0.mk (Kd.R_at hq_ HO_9.out); have n4_ := Aside0.mk (below_at hq_ HB.out); clear hq_ HO_6 HO_7 HO_8 HO_9 HB; have HO_6 := n0_; have HO_7 := n1_; have HO_8 := n2_; have HO_9 := n3_; have HB := n4_; clear n0_ n1_ n2_ n3_ n4_; (try (obtain ⟨hy30_, hz30_, _⟩ := arr_cell HO_9.out ((ji19) : Int) (of_decide_eq_true (by first | (with_reducible assumption) | assumption)) (of_decide_eq_true (by first | (with_reducible assumption) | assumption)))); (try (have HP30 := Kd.R_putg HO_9.out ((ji19) : Int) (IntKind.u64.wrap ((rd x9_2 (ji19)) + (Int.tmod (IntKind.u64.wrap ((rd x7_2 x10_1) * (rd x8_2 x11_2))) 65536))))))); refine store_event (t := 29) (p := 65) (v := ?vo_w31) (w1 := (wr.setCell ⟨ga192, ((ji19) : Int).toNat, none⟩ (.int .u64 (IntKind.u64.wrap ((rd x9_2 (ji19)) + (Int.tmod (IntKind.u64.wrap ((rd x7_2 x10_1) * (rd x8_2 x11_2))) 65536)))))) ?hg ?ho ?hn ?hr ?_; (case ho => rfl); (case hg => rfl); (case hn => rfl); (case hr => first | (go_simp; done) | (go_simp; rfl)); intro w31 hw; have hg : wr.grownBy w31 (some ga192) := (by rw [hw]; exact HP30.2); have hp_ : Kd.R (Kd.int .u64) 49 w31 w.heap.size (fun k_ => some k_ ≠ ((.slice (some ⟨ga183, 0, none⟩) 4 4) : Value).ownBlock ∧ some k_ ≠ (.slice (some ⟨ga186, 0, none⟩) 4 4 : Value).ownBlock ∧ some k_ ≠ (.slice (some ⟨ga189, 0, none⟩) 4 4 : Value).ownBlock) (.slice (some ⟨ga192, 0, none⟩) 8 8) y197 := (by rw [hw, Ny197.out]; exact HP30.1); clear HP30; have n0_ := Aside0.mk (Kd.R_after (v := (.slice (some ⟨ga192, 0, none⟩) 8 8)) (v1 := (.slice (some ⟨ga192, 0, none⟩) 8 8)) (ok := (fun k_ => some k_ ≠ (.slice (some ⟨ga186, 0, none⟩) 4 4 : Value).ownBlock ∧ some k_ ≠ (.slice (some ⟨ga189, 0, none⟩) 4 4 : Value).ownBlock)) (by (with_reducible repeat (first | apply Kd.R_alloc | apply Kd.R_drewN | apply Kd.R_drew)); exact Kd.R_mono HO_6.out (fun _ hk => ⟨⟨hk.1, hk.2.1⟩, hk.2.2⟩)) hg (.inl rfl)); have n1_ := Aside0.mk (Kd.R_after (v := (.slice (some ⟨ga192, 0, none⟩) 8 8)) (v1 := (.slice (some ⟨ga192, 0, none⟩) 8 8)) (ok := (fun k_ => some k_ ≠ ((.slice (some ⟨ga183, 0, none⟩) 4 4) : Value).ownBlock ∧ some k_ ≠ (.slice (some ⟨ga189, 0, none⟩) 4 4 : Value).ownBlock)) (by (with_reducible repeat (first | apply Kd.R_alloc | apply Kd.R_drewN | apply Kd.R_drew)); exact Kd.R_mono HO_7.out (fun _ hk => ⟨⟨hk.1, hk.2.1⟩, hk.2.2⟩)) hg (.inl rfl)); have n2_ := Aside0.mk (Kd.R_after (v := (.slice (some ⟨ga192, 0, none⟩) 8 8)) (v1 := (.slice (some ⟨ga192, 0, none⟩) 8 8)) (ok := (fun k_ => some k_ ≠ ((.slice (some ⟨ga183, 0, none⟩) 4 4) : Value).ownBlock ∧ some k_ ≠ (.slice (some ⟨ga186, 0, none⟩) 4 4 : Value).ownBlock)) (by (with_reducible repeat (first | apply Kd.R_alloc | apply Kd.R_drewN | apply Kd.R_drew)); exact Kd.R_mono HO_8.out (fun _ hk => ⟨⟨hk.1, hk.2.1⟩, hk.2.2⟩)) hg (.inl rfl)); have n3_ := Aside0.mk (hp_); have n4_ := Aside0.mk ((by rw [hw]; exact below_set (HB.out) GB22.out : Below w.heap.size w w31)); clear HO_6; clear HO_7; clear HO_8; clear HO_9; clear HB; have HO_6 := n0_; have HO_7 := n1_; have HO_8 := n2_; have HO_9 := n3_; have HB := n4_; clear n0_ n1_ n2_ n3_ n4_; clear hg hw hp_; have p198 : 0 ≤ ((ji23) : Int) := of_decide_eq_true (by first | (with_reducible assumption) | assumption); have q198 : (ji23) < (y197.length : Int) := (by have h_ : ((ji23) : Int) < ((x9_2.length : Int) : Int) := of_decide_eq_true (by first | (with_reducible assumption) | assumption); first | (have e_ := (Kd.R_reads' HO_9.out).1; omega) | simpa only [Ny197.out, List.length_set] using h_); have ql198 : (((ji23) : Int) < ((x9_2.length : Int) : Int)) = True := eq_true (of_decide_eq_true (by first | (with_reducible assumption) | assumption)); obtain ⟨hx198_0, hf198_1, qa198⟩ := arr_cell HO_9.out (ji23) p198 q198; rw [show ((8 : Nat) : Int) = 8 from rfl] at qa198; replace p198 := eq_true p198; replace q198 := eq_true q198; have p26 : 0 ≤ ((ji23) : Int) := of_decide_eq_true (by first | (with_reducible assumption) | assumption); have q26 : ((ji23) : Int) < ((x9_2.length : Int) : Int) := of_decide_eq_true (by first | (with_reducible assumption) | assumption); obtain ⟨hx26_0, hf26_0⟩ := Kd.R_celln 0 HO_9.out ((ji23) : Int) p26 (by have h_ := q26; have e_ := EL9.out; omega); replace p26 := eq_true p26; replace q26 := eq_true q26; obtain ⟨hy32_, hz32_⟩ := Kd.R_celln 0 HO_9.out ((ji23) : Int) (of_decide_eq_true (by first | (with_reducible assumption) | assumption)) (by have h_ := (of_decide_eq_true (by first | (with_reducible assumption) | assumption) : ((ji23) : Int) < (x9_2.length : Int)); have e_ := EL9.out; omega); have HP32 := Kd.R_putg HO_9.out ((ji23) : Int) (IntKind.u64.wrap ((rd y197 (ji23)) + (IntKind.u64.wrap (Int.tdiv (IntKind.u64.wrap ((rd x7_2 x10_1) * (rd x8_2 x11_2))) 65536))))) | ((with_reducible refine gate_store (t := 29) (p := 79) rfl ?_); (try (rw [drewN_self w31]; generalize hq_ : World.drewN w31 _ = w31; have n0_ := Aside0.mk (Kd.R_at hq_ HO_6.out); have n1_ := Aside0.mk (Kd.R_at hq_ HO_7.out); have n2_ := Aside0.mk (Kd.R_at hq_ HO_8.out); have n3_ := Aside0.mk (Kd.R_at hq_ HO_9.out); have n4_ := Aside0.mk (below_at hq_ HB.out); clear hq_ HO_6 HO_7 HO_8 HO_9 HB; have HO_6 := n0_; have HO_7 := n1_; have HO_8 := n2_; have HO_9 := n3_; have HB := n4_; clear n0_ n1_ n2_ n3_ n4_; (try (obtain ⟨hy32_, hz32_⟩ := Kd.R_celln 0 HO_9.out ((ji23) : Int) (of_decide_eq_true (by first | (with_reducible assumption) | assumption)) (by have h_ := (of_decide_eq_true (by first | (with_reducible assumption) | assumption) : ((ji23) : Int) < (x9_2.length : Int)); have e_ := EL9.out; omega))); (try (have HP32 := Kd.R_putg HO_9.out ((ji23) : Int) (IntKind.u64.wrap ((rd y197 (ji23)) + (IntKind.u64.wrap (Int.tdiv (IntKind.u64.wrap ((rd x7_2 x10_1) * (rd x8_2 x11_2))) 65536)))))))); refine store_event (t := 29) (p := 79) (v := ?vo_w33) (w1 := (w31.setCell ⟨ga192, ((ji23) : Int).toNat, none⟩ (.int .u64 (IntKind.u64.wrap ((rd y197 (ji23)) + (IntKind.u64.wrap (Int.tdiv (IntKind.u64.wrap ((rd x7_2 x10_1) * (rd x8_2 x11_2))) 65536))))))) ?hg ?ho ?hn ?hr ?_; (case ho => rfl); (case hg => rfl); (case hn => rfl); (case hr => first | (go_simp; done) | (go_simp; rfl)); intro w33 hw; have hg : w31.grownBy w33 (some ga192) := (by rw [hw]; exact HP32.2); have hp_ : Kd.R (Kd.int .u64) 49 w33 w.heap.size (fun k_ => some k_ ≠ ((.slice (some ⟨ga183, 0, none⟩) 4 4) : Value).ownBlock ∧ some k_ ≠ (.slice (some ⟨ga186, 0, none⟩) 4 4 : Value).ownBlock ∧ some k_ ≠ (.slice (some ⟨ga189, 0, none⟩) 4 4 : Value).ownBlock) (.slice (some ⟨ga192, 0, none⟩) 8 8) y199 := (by rw [hw, Ny199.out]; exact HP32.1); clear HP32; have n0_ := Aside0.mk (Kd.R_after (v := (.slice (some ⟨ga192, 0, none⟩) 8 8)) (v1 := (.slice (some ⟨ga192, 0, none⟩) 8 8)) (ok := (fun k_ => some k_ ≠ (.slice (some ⟨ga186, 0, none⟩) 4 4 : Value).ownBlock ∧ some k_ ≠ (.slice (some ⟨ga189, 0, none⟩) 4 4 : Value).ownBlock)) (by (with_reducible repeat (first | apply Kd.R_alloc | apply Kd.R_drewN | apply Kd.R_drew)); exact HO_6.out) hg (.inl rfl)); have n1_ := Aside0.mk (Kd.R_after (v := (.slice (some ⟨ga192, 0, none⟩) 8 8)) (v1 := (.slice (some ⟨ga192, 0, none⟩) 8 8)) (ok := (fun k_ => some k_ ≠ ((.slice (some ⟨ga183, 0, none⟩) 4 4) : Value).ownBlock ∧ some k_ ≠ (.slice (some ⟨ga189, 0, none⟩) 4 4 : Value).ownBlock)) (by (with_reducible repeat (first | apply Kd.R_alloc | apply Kd.R_drewN | apply Kd.R_drew)); exact HO_7.out) hg (.inl rfl)); have n2_ := Aside0.mk (Kd.R_after (v := (.slice (some ⟨ga192, 0, none⟩) 8 8)) (v1 := (.slice (some ⟨ga192, 0, none⟩) 8 8)) (ok := (fun k_ => some k_ ≠ ((.slice (some ⟨ga183, 0, none⟩) 4 4) : Value).ownBlock ∧ some k_ ≠ (.slice (some ⟨ga186, 0, none⟩) 4 4 : Value).ownBlock)) (by (with_reducible repeat (first | apply Kd.R_alloc | apply Kd.R_drewN | apply Kd.R_drew)); exact HO_8.out) hg (.inl rfl)); have n3_ := Aside0.mk (hp_); have n4_ := Aside0.mk ((by rw [hw]; exact below_set (HB.out) GB22.out : Below w.heap.size w w33)); clear HO_6; clear HO_7; clear HO_8; clear HO_9; clear HB; have HO_6 := n0_; have HO_7 := n1_; have HO_8 := n2_; have HO_9 := n3_; have HB := n4_; clear n0_ n1_ n2_ n3_ n4_; clear hg hw hp_)))
                 go_roundg k2
                 case measure => have := HK1.out; have := HK2.out; omega
                 case rel => exact ⟨(x6_2), (x7_2), (x8_2), (y199), (wrap64 (x11_2 + 1)), fj, H', ⟨by have := HK1.out; have := HK2.out; omega⟩, ⟨by (with_reducible repeat (first | apply Kd.R_alloc | apply Kd.R_drewN | apply Kd.R_drew)); exact Kd.R_mono HO_6.out (fun _ hk => ⟨hk.1.1, ⟨hk.1.2, hk.2⟩⟩)⟩, ⟨by (with_reducible repeat (first | apply Kd.R_alloc | apply Kd.R_drewN | apply Kd.R_drew)); exact Kd.R_mono HO_7.out (fun _ hk => ⟨hk.1.1, ⟨hk.1.2, hk.2⟩⟩)⟩, ⟨by (with_reducible repeat (first | apply Kd.R_alloc | apply Kd.R_drewN | apply Kd.R_drew)); exact Kd.R_mono HO_8.out (fun _ hk => ⟨hk.1.1, ⟨hk.1.2, hk.2⟩⟩)⟩, ⟨by (with_reducible repeat (first | apply Kd.R_alloc | apply Kd.R_drewN | apply Kd.R_drew)); exact HO_9.out⟩, ⟨bl⟩⟩
                ·rw [if_neg c25] at H
                 exact absurd H (by simp)
               ·rw [if_neg c24] at H
                exact absurd H (by simp)
              ·rw [if_neg c21] at H
               exact absurd H (by simp)
             ·rw [if_neg c20] at H
              exact absurd H (by simp)
            ·rw [if_neg c18] at H
             exact absurd H (by simp)
           ·rw [if_neg c17] at H
            exact absurd H (by simp)
          ·rw [if_neg c16] at H
           exact absurd H (by simp)
         ·rw [if_neg c15] at H
          exact absurd H (by simp)
        ·rw [if_neg c14] at H
         have c14b0 := decide_eq_false c14
         clear c14
         have H' := Aside0.mk H
         clear H
         go_wp2
         repeat (go_quiet (fail); try go_wp2)
         go_roundg k2
         case measure => have := HK1.out; have := HK2.out; omega
         case rel => exact ⟨(x6_2), (x7_2), (x8_2), (x9_2), (wrap64 (x10_1 + 1)), fj, H', ⟨by have := HK1.out; have := HK2.out; omega⟩, ⟨by (with_reducible repeat (first | apply Kd.R_alloc | apply Kd.R_drewN | apply Kd.R_drew)); exact HO_6.out⟩, ⟨by (with_reducible repeat (first | apply Kd.R_alloc | apply Kd.R_drewN | apply Kd.R_drew)); exact HO_7.out⟩, ⟨by (with_reducible repeat (first | apply Kd.R_alloc | apply Kd.R_drewN | apply Kd.R_drew)); exact HO_8.out⟩, ⟨by (with_reducible repeat (first | apply Kd.R_alloc | apply Kd.R_drewN | apply Kd.R_drew)); exact HO_9.out⟩, ⟨bl⟩⟩
     ·rw [if_neg c13] at H
      have c13b0 := decide_eq_false c13
      clear c13
      by_cases c34 : 4 ≤ 35184372088832
      ·rw [if_pos c34] at H
       have c34b0 := eq_true c34
       have c34b1 : decide (4 ≤ 35184372088832) = true := decide_eq_true c34
       clear c34
       obtain ⟨y200, hy200⟩ : ∃ y_ : List Int, y_ = (List.replicate 4 0) := ⟨_, rfl⟩
       replace H : (spinnakerref07_Mul.l2 k1 x6_1 x9_1 y200 0 0) = some (r1, r2) := by first | (rw [hy200]; with_reducible exact H) | (have H2_ := (Option.bind_some _ _).symm.trans H; rw [hy200]; with_reducible exact H2_) | (have H2_ := (Option.bind_some _ _).symm.trans H; with_reducible exact H2_) | with_reducible exact H | (rw [hy200]; exact H) | exact H
       have Ny200 := Aside0.mk hy200
       clear hy200
       have H' := Aside0.mk H
       clear H
       go_wp2_with (first | ((with_reducible refine gate_dst (N := 13) rfl ?_); refine arr_make ?hg (N := 13) ?hd 48 4 (by decide) ?hr ?_; (case hd => rfl); (case hg => rfl); (case hr => first | (go_simp; done) | (go_simp; rfl)); intro ga201 w35 ho36 hb hg_ hnew_; clear hg_ hnew_; rw [← Ny200.out] at ho36; have n0_ := Aside0.mk (Kd.R_elder' (by (with_reducible repeat (first | apply Kd.R_alloc | apply Kd.R_drewN | apply Kd.R_drew)); exact HO_6.out) (Kd.R_base ho36) hb); have n1_ := Aside0.mk (Kd.R_elder' (by (with_reducible repeat (first | apply Kd.R_alloc | apply Kd.R_drewN | apply Kd.R_drew)); exact HO_7.out) (Kd.R_base ho36) hb); have n2_ := Aside0.mk (Kd.R_elder' (by (with_reducible repeat (first | apply Kd.R_alloc | apply Kd.R_drewN | apply Kd.R_drew)); exact HO_8.out) (Kd.R_base ho36) hb); have n3_ := Aside0.mk (Kd.R_elder' (by (with_reducible repeat (first | apply Kd.R_alloc | apply Kd.R_drewN | apply Kd.R_drew)); exact HO_9.out) (Kd.R_base ho36) hb); have n4_ := Aside0.mk (Kd.R_lower (Kd.R_new' (Kd.R_new' (Kd.R_new' (Kd.R_new' ho36 (Kd.R_lt (by (with_reducible repeat (first | apply Kd.R_alloc | apply Kd.R_drewN | apply Kd.R_drew)); exact HO_6.out))) (Kd.R_lt (by (with_reducible repeat (first | apply Kd.R_alloc | apply Kd.R_drewN | apply Kd.R_drew)); exact HO_7.out))) (Kd.R_lt (by (with_reducible repeat (first | apply Kd.R_alloc | apply Kd.R_drewN | apply Kd.R_drew)); exact HO_8.out))) (Kd.R_lt (by (with_reducible repeat (first | apply Kd.R_alloc | apply Kd.R_drewN | apply Kd.R_drew)); exact HO_9.out))) (below_size bl)); have n5_ := Aside0.mk (below_step bl hb); clear HO_6; clear HO_7; clear HO_8; clear HO_9; clear HB; have HO_6 := n0_; have HO_7 := n1_; have HO_8 := n2_; have HO_9 := n3_; have HO202 := n4_; have HB := n5_; clear n0_ n1_ n2_ n3_ n4_ n5_; clear hb ho36))
       repeat (go_quiet (first | ((with_reducible refine gate_dst (N := 13) rfl ?_); refine arr_make ?hg (N := 13) ?hd 48 4 (by decide) ?hr ?_; (case hd => rfl); (case hg => rfl); (case hr => first | (go_simp; done) | (go_simp; rfl)); intro ga201 w35 ho36 hb hg_ hnew_; clear hg_ hnew_; rw [← Ny200.out] at ho36; have n0_ := Aside0.mk (Kd.R_elder' (by (with_reducible repeat (first | apply Kd.R_alloc | apply Kd.R_drewN | apply Kd.R_drew)); exact HO_6.out) (Kd.R_base ho36) hb); have n1_ := Aside0.mk (Kd.R_elder' (by (with_reducible repeat (first | apply Kd.R_alloc | apply Kd.R_drewN | apply Kd.R_drew)); exact HO_7.out) (Kd.R_base ho36) hb); have n2_ := Aside0.mk (Kd.R_elder' (by (with_reducible repeat (first | apply Kd.R_alloc | apply Kd.R_drewN | apply Kd.R_drew)); exact HO_8.out) (Kd.R_base ho36) hb); have n3_ := Aside0.mk (Kd.R_elder' (by (with_reducible repeat (first | apply Kd.R_alloc | apply Kd.R_drewN | apply Kd.R_drew)); exact HO_9.out) (Kd.R_base ho36) hb); have n4_ := Aside0.mk (Kd.R_lower (Kd.R_new' (Kd.R_new' (Kd.R_new' (Kd.R_new' ho36 (Kd.R_lt (by (with_reducible repeat (first | apply Kd.R_alloc | apply Kd.R_drewN | apply Kd.R_drew)); exact HO_6.out))) (Kd.R_lt (by (with_reducible repeat (first | apply Kd.R_alloc | apply Kd.R_drewN | apply Kd.R_drew)); exact HO_7.out))) (Kd.R_lt (by (with_reducible repeat (first | apply Kd.R_alloc | apply Kd.R_drewN | apply Kd.R_drew)); exact HO_8.out))) (Kd.R_lt (by (with_reducible repeat (first | apply Kd.R_alloc | apply Kd.R_drewN | apply Kd.R_drew)); exact HO_9.out))) (below_size bl)); have n5_ := Aside0.mk (below_step bl hb); clear HO_6; clear HO_7; clear HO_8; clear HO_9; clear HB; have HO_6 := n0_; have HO_7 := n1_; have HO_8 := n2_; have HO_9 := n3_; have HO202 := n4_; have HB := n5_; clear n0_ n1_ n2_ n3_ n4_ n5_; clear hb ho36)); try go_wp2_with (first | ((with_reducible refine gate_dst (N := 13) rfl ?_); refine arr_make ?hg (N := 13) ?hd 48 4 (by decide) ?hr ?_; (case hd => rfl); (case hg => rfl); (case hr => first | (go_simp; done) | (go_simp; rfl)); intro ga201 w35 ho36 hb hg_ hnew_; clear hg_ hnew_; rw [← Ny200.out] at ho36; have n0_ := Aside0.mk (Kd.R_elder' (by (with_reducible repeat (first | apply Kd.R_alloc | apply Kd.R_drewN | apply Kd.R_drew)); exact HO_6.out) (Kd.R_base ho36) hb); have n1_ := Aside0.mk (Kd.R_elder' (by (with_reducible repeat (first | apply Kd.R_alloc | apply Kd.R_drewN | apply Kd.R_drew)); exact HO_7.out) (Kd.R_base ho36) hb); have n2_ := Aside0.mk (Kd.R_elder' (by (with_reducible repeat (first | apply Kd.R_alloc | apply Kd.R_drewN | apply Kd.R_drew)); exact HO_8.out) (Kd.R_base ho36) hb); have n3_ := Aside0.mk (Kd.R_elder' (by (with_reducible repeat (first | apply Kd.R_alloc | apply Kd.R_drewN | apply Kd.R_drew)); exact HO_9.out) (Kd.R_base ho36) hb); have n4_ := Aside0.mk (Kd.R_lower (Kd.R_new' (Kd.R_new' (Kd.R_new' (Kd.R_new' ho36 (Kd.R_lt (by (with_reducible repeat (first | apply Kd.R_alloc | apply Kd.R_drewN | apply Kd.R_drew)); exact HO_6.out))) (Kd.R_lt (by (with_reducible repeat (first | apply Kd.R_alloc | apply Kd.R_drewN | apply Kd.R_drew)); exact HO_7.out))) (Kd.R_lt (by (with_reducible repeat (first | apply Kd.R_alloc | apply Kd.R_drewN | apply Kd.R_drew)); exact HO_8.out))) (Kd.R_lt (by (with_reducible repeat (first | apply Kd.R_alloc | apply Kd.R_drewN | apply Kd.R_drew)); exact HO_9.out))) (below_size bl)); have n5_ := Aside0.mk (below_step bl hb); clear HO_6; clear HO_7; clear HO_8; clear HO_9; clear HB; have HO_6 := n0_; have HO_7 := n1_; have HO_8 := n2_; have HO_9 := n3_; have HO202 := n4_; have HB := n5_; clear n0_ n1_ n2_ n3_ n4_ n5_; clear hb ho36)))
       go_loopg [14, 15] k1 (fun kq v14 v15 w' => ∃ (x6_2 : List Int) (x9_2 : List Int) (x13_2 : List Int) (x14_2 : Int) (x15_2 : Int), v14 = .int .u64 x14_2 ∧ v15 = .int .i64 x15_2 ∧ Aside0 (spinnakerref07_Mul.l2 kq x6_2 x9_2 x13_2 x14_2 x15_2 = some (r1, r2)) ∧ Aside0 (kq ≤ k1) ∧ Aside0 (Kd.R (Kd.int .u64) 48 w' w.heap.size (fun k_ => some k_ ≠ ((.slice (some ⟨ga192, 0, none⟩) 8 8) : Value).ownBlock ∧ some k_ ≠ ((.slice (some ⟨ga201, 0, none⟩) 4 4) : Value).ownBlock) (.slice (some ⟨ga183, 0, none⟩) 4 4) x6_2) ∧ Aside0 (Kd.R (Kd.int .u64) 49 w' w.heap.size (fun k_ => some k_ ≠ ((.slice (some ⟨ga183, 0, none⟩) 4 4) : Value).ownBlock ∧ some k_ ≠ ((.slice (some ⟨ga201, 0, none⟩) 4 4) : Value).ownBlock) (.slice (some ⟨ga192, 0, none⟩) 8 8) x9_2) ∧ Aside0 (Kd.R (Kd.int .u64) 48 w' w.heap.size (fun k_ => some k_ ≠ ((.slice (some ⟨ga183, 0, none⟩) 4 4) : Value).ownBlock ∧ some k_ ≠ ((.slice (some ⟨ga192, 0, none⟩) 8 8) : Value).ownBlock) (.slice (some ⟨ga201, 0, none⟩) 4 4) x13_2) ∧ Aside0 (Below w.heap.size w w'))
       case atStart => exact ⟨(x6_1), (x9_1), (y200), (0), (0), fj, fj, H', ⟨Nat.le_refl _⟩, ⟨by (with_reducible repeat (first | apply Kd.R_alloc | apply Kd.R_drewN | apply Kd.R_drew)); exact Kd.R_mono HO_6.out (fun _ hk => ⟨hk.1.2.2, hk.2⟩)⟩, ⟨by (with_reducible repeat (first | apply Kd.R_alloc | apply Kd.R_drewN | apply Kd.R_drew)); exact Kd.R_mono HO_9.out (fun _ hk => ⟨hk.1.1, hk.2⟩)⟩, ⟨by (with_reducible repeat (first | apply Kd.R_alloc | apply Kd.R_drewN | apply Kd.R_drew)); exact Kd.R_mono HO202.out (fun _ hk => ⟨hk.1.1.1.2, hk.2⟩)⟩, ⟨bl⟩⟩
       case round =>
        clear H'
        try clear c1
        try clear p1
        try clear q1
        try clear hx1
        try clear c2
        try clear p2
        try clear q2
        try clear hx2
        try clear hf2
        try clear c3
        try clear c3b0
        try clear c3b1
        try clear c4
        try clear c4b0
        try clear c4b1
        try clear p6
        try clear c13
        try clear c13b0
        try clear c14
        try clear c14b0
        try clear c15
        try clear c15b0
        try clear c16
        try clear c16b0
        try clear c17
        try clear c17b0
        try clear c18
        try clear c18b0
        try clear p19
        try clear q19
        try clear hx19
        try clear c20
        try clear c20b0
        try clear c21
        try clear c21b0
        try clear p22
        try clear q22
        try clear hx22
        try clear hf22
        try clear c24
        try clear c24b0
        try clear c25
        try clear c25b0
        try clear p26
        try clear q26
        try clear hx26
        try clear hf26
        try clear c28
        try clear c34
        try clear c34b0
        try clear c34b1
        try clear hx194_0
        try clear hx195_0
        try clear hx196_0
        try clear hx198_0
        try clear hx22_0
        try clear hx26_0
        try clear p194
        try clear p195
        try clear p196
        try clear p198
        try clear p2
        try clear p22
        try clear p26
        try clear q194
        try clear q195
        try clear q196
        try clear q198
        try clear q22
        try clear q26
        obtain ⟨x6_2, x9_2, x13_2, x14_2, x15_2, rfl, rfl, HA, HK2, HO_6, HO_9, HO_13, HB⟩ := hrel
        cases gk with
        | zero => exact absurd HA.out (by simp [spinnakerref07_Mul.l2])
        | succ k2 =>
         have H := HA.out
         clear HA
         simp only [spinnakerref07_Mul.l2] at H
         by_cases c37 : x15_2 < 8
         ·rw [if_pos c37] at H
          have c37b0 := decide_eq_true c37
          clear c37
          by_cases c38 : 0 ≤ x15_2
          ·rw [if_pos c38] at H
           have c38b0 := decide_eq_true c38
           clear c38
           by_cases c39 : x15_2 < (x9_2.length : Int)
           ·rw [if_pos c39] at H
            have c39b0 := decide_eq_true c39
            clear c39
            by_cases c40 : x15_2 < 4
            ·rw [if_pos c40] at H
             have c40b0 := decide_eq_true c40
             clear c40
             by_cases c41 : x15_2 < (x6_2.length : Int)
             ·rw [if_pos c41] at H
              have c41b0 := decide_eq_true c41
              clear c41
              obtain ⟨y204, hy204⟩ : ∃ y_ : List Int, y_ = (x6_2.set (x15_2 : Int).toNat (Int.tmod (IntKind.u64.wrap ((rd x9_2 x15_2) + x14_2)) 65536)) := ⟨_, rfl⟩
              replace H : (spinnakerref07_Mul.l2 k2 y204 x9_2 x13_2 (IntKind.u64.wrap (Int.tdiv (IntKind.u64.wrap ((rd x9_2 x15_2) + x14_2)) 65536)) (wrap64 (x15_2 + 1))) = some (r1, r2) := by first | (rw [hy204]; with_reducible exact H) | (have H2_ := (Option.bind_some _ _).symm.trans H; rw [hy204]; with_reducible exact H2_) | (have H2_ := (Option.bind_some _ _).symm.trans H; with_reducible exact H2_) | with_reducible exact H | (rw [hy204]; exact H) | exact H
              have Ny204 := Aside0.mk hy204
              clear hy204
              have H' := Aside0.mk H
              clear H
              have p203 : 0 ≤ (x15_2 : Int) := of_decide_eq_true (by first | (with_reducible assumption) | assumption)
              have q203 : x15_2 < (x9_2.length : Int) := of_decide_eq_true (by first | (with_reducible assumption) | assumption)
              obtain ⟨hx203_0, hf203_1, qa203⟩ := arr_cell HO_9.out (x15_2 : Int) p203 q203
              rw [show ((8 : Nat) : Int) = 8 from rfl] at qa203
              replace p203 := eq_true p203
              replace q203 := eq_true q203
              have p42 : 0 ≤ (x15_2 : Int) := of_decide_eq_true (by first | (with_reducible assumption) | assumption)
              have q42 : (x15_2 : Int) < ((x6_2.length : Int) : Int) := of_decide_eq_true (by first | (with_reducible assumption) | assumption)
              obtain ⟨gb42, HG42⟩ := arr_base HO_6.out (by omega)
              have GB42 := Aside0.mk gb42
              have GG42 := Aside0.mk HG42
              clear gb42 HG42
              obtain ⟨hx42_0, hf42_0, qa42⟩ := arr_cell HO_6.out (x15_2 : Int) p42 q42
              rw [show ((4 : Nat) : Int) = 4 from rfl] at qa42
              replace p42 := eq_true p42
              replace q42 := eq_true q42
              have HP44 := Kd.R_putg HO_6.out (x15_2 : Int) (Int.tmod (IntKind.u64.wrap ((rd x9_2 x15_2) + x14_2)) 65536)
              go_wp2_with (first | ((with_reducible refine gate_store (t := 29) (p := 96) rfl ?_); (try (rw [drewN_self wr]; generalize hq_ : World.drewN wr _ = wr; have n0_ := Aside0.mk (Kd.R_at hq_ HO_6.out); have n1_ := Aside0.mk (Kd.R_at hq_ HO_9.out); have n2_ := Aside0.mk (Kd.R_at hq_ HO_13.out); have n3_ := Aside0.mk (below_at hq_ HB.out); clear hq_ HO_6 HO_9 HO_13 HB; have HO_6 := n0_; have HO_9 := n1_; have HO_13 := n2_; have HB := n3_; clear n0_ n1_ n2_ n3_; (try (obtain ⟨hy44_, hz44_, _⟩ := arr_cell HO_6.out (x15_2 : Int) (of_decide_eq_true (by first | (with_reducible assumption) | assumption)) (of_decide_eq_true (by first | (with_reducible assumption) | assumption)))); (try (have HP44 := Kd.R_putg HO_6.out (x15_2 : Int) (Int.tmod (IntKind.u64.wrap ((rd x9_2 x15_2) + x14_2)) 65536))))); refine store_event (t := 29) (p := 96) (v := ?vo_w45) (w1 := (wr.setCell ⟨ga183, (x15_2 : Int).toNat, none⟩ (.int .u64 (Int.tmod (IntKind.u64.wrap ((rd x9_2 x15_2) + x14_2)) 65536)))) ?hg ?ho ?hn ?hr ?_; (case ho => rfl); (case hg => rfl); (case hn => rfl); (case hr => first | (go_simp; done) | (go_simp; rfl)); intro w45 hw; have hg : wr.grownBy w45 (some ga183) := (by rw [hw]; exact HP44.2); have hp_ : Kd.R (Kd.int .u64) 48 w45 w.heap.size (fun k_ => some k_ ≠ (.slice (some ⟨ga192, 0, none⟩) 8 8 : Value).ownBlock ∧ some k_ ≠ ((.slice (some ⟨ga201, 0, none⟩) 4 4) : Value).ownBlock) (.slice (some ⟨ga183, 0, none⟩) 4 4) y204 := (by rw [hw, Ny204.out]; exact HP44.1); clear HP44; have n0_ := Aside0.mk (hp_); have n1_ := Aside0.mk (Kd.R_after (v := (.slice (some ⟨ga183, 0, none⟩) 4 4)) (v1 := (.slice (some ⟨ga183, 0, none⟩) 4 4)) (ok := (fun k_ => some k_ ≠ ((.slice (some ⟨ga201, 0, none⟩) 4 4) : Value).ownBlock)) (by (with_reducible repeat (first | apply Kd.R_alloc | apply Kd.R_drewN | apply Kd.R_drew)); exact Kd.R_mono HO_9.out (fun _ hk => ⟨hk.2, hk.1⟩)) hg (.inl rfl)); have n2_ := Aside0.mk (Kd.R_after (v := (.slice (some ⟨ga183, 0, none⟩) 4 4)) (v1 := (.slice (some ⟨ga183, 0, none⟩) 4 4)) (ok := (fun k_ => some k_ ≠ (.slice (some ⟨ga192, 0, none⟩) 8 8 : Value).ownBlock)) (by (with_reducible repeat (first | apply Kd.R_alloc | apply Kd.R_drewN | apply Kd.R_drew)); exact Kd.R_mono HO_13.out (fun _ hk => ⟨hk.2, hk.1⟩)) hg (.inl rfl)); have n3_ := Aside0.mk ((by rw [hw]; exact below_set (HB.out) GB42.out : Below w.heap.size w w45)); clear HO_6; clear HO_9; clear HO_13; clear HB; have HO_6 := n0_; have HO_9 := n1_; have HO_13 := n2_; have HB := n3_; clear n0_ n1_ n2_ n3_; clear hg hw hp_))
              repeat (go_quiet (first | ((with_reducible refine gate_store (t := 29) (p := 96) rfl ?_); (try (rw [drewN_self wr]; generalize hq_ : World.drewN wr _ = wr; have n0_ := Aside0.mk (Kd.R_at hq_ HO_6.out); have n1_ := Aside0.mk (Kd.R_at hq_ HO_9.out); have n2_ := Aside0.mk (Kd.R_at hq_ HO_13.out); have n3_ := Aside0.mk (below_at hq_ HB.out); clear hq_ HO_6 HO_9 HO_13 HB; have HO_6 := n0_; have HO_9 := n1_; have HO_13 := n2_; have HB := n3_; clear n0_ n1_ n2_ n3_; (try (obtain ⟨hy44_, hz44_, _⟩ := arr_cell HO_6.out (x15_2 : Int) (of_decide_eq_true (by first | (with_reducible assumption) | assumption)) (of_decide_eq_true (by first | (with_reducible assumption) | assumption)))); (try (have HP44 := Kd.R_putg HO_6.out (x15_2 : Int) (Int.tmod (IntKind.u64.wrap ((rd x9_2 x15_2) + x14_2)) 65536))))); refine store_event (t := 29) (p := 96) (v := ?vo_w45) (w1 := (wr.setCell ⟨ga183, (x15_2 : Int).toNat, none⟩ (.int .u64 (Int.tmod (IntKind.u64.wrap ((rd x9_2 x15_2) + x14_2)) 65536)))) ?hg ?ho ?hn ?hr ?_; (case ho => rfl); (case hg => rfl); (case hn => rfl); (case hr => first | (go_simp; done) | (go_simp; rfl)); intro w45 hw; have hg : wr.grownBy w45 (some ga183) := (by rw [hw]; exact HP44.2); have hp_ : Kd.R (Kd.int .u64) 48 w45 w.heap.size (fun k_ => some k_ ≠ (.slice (some ⟨ga192, 0, none⟩) 8 8 : Value).ownBlock ∧ some k_ ≠ ((.slice (some ⟨ga201, 0, none⟩) 4 4) : Value).ownBlock) (.slice (some ⟨ga183, 0, none⟩) 4 4) y204 := (by rw [hw, Ny204.out]; exact HP44.1); clear HP44; have n0_ := Aside0.mk (hp_); have n1_ := Aside0.mk (Kd.R_after (v := (.slice (some ⟨ga183, 0, none⟩) 4 4)) (v1 := (.slice (some ⟨ga183, 0, none⟩) 4 4)) (ok := (fun k_ => some k_ ≠ ((.slice (some ⟨ga201, 0, none⟩) 4 4) : Value).ownBlock)) (by (with_reducible repeat (first | apply Kd.R_alloc | apply Kd.R_drewN | apply Kd.R_drew)); exact Kd.R_mono HO_9.out (fun _ hk => ⟨hk.2, hk.1⟩)) hg (.inl rfl)); have n2_ := Aside0.mk (Kd.R_after (v := (.slice (some ⟨ga183, 0, none⟩) 4 4)) (v1 := (.slice (some ⟨ga183, 0, none⟩) 4 4)) (ok := (fun k_ => some k_ ≠ (.slice (some ⟨ga192, 0, none⟩) 8 8 : Value).ownBlock)) (by (with_reducible repeat (first | apply Kd.R_alloc | apply Kd.R_drewN | apply Kd.R_drew)); exact Kd.R_mono HO_13.out (fun _ hk => ⟨hk.2, hk.1⟩)) hg (.inl rfl)); have n3_ := Aside0.mk ((by rw [hw]; exact below_set (HB.out) GB42.out : Below w.heap.size w w45)); clear HO_6; clear HO_9; clear HO_13; clear HB; have HO_6 := n0_; have HO_9 := n1_; have HO_13 := n2_; have HB := n3_; clear n0_ n1_ n2_ n3_; clear hg hw hp_)); try go_wp2_with (first | ((with_reducible refine gate_store (t := 29) (p := 96) rfl ?_); (try (rw [drewN_self wr]; generalize hq_ : World.drewN wr _ = wr; have n0_ := Aside0.mk (Kd.R_at hq_ HO_6.out); have n1_ := Aside0.mk (Kd.R_at hq_ HO_9.out); have n2_ := Aside0.mk (Kd.R_at hq_ HO_13.out); have n3_ := Aside0.mk (below_at hq_ HB.out); clear hq_ HO_6 HO_9 HO_13 HB; have HO_6 := n0_; have HO_9 := n1_; have HO_13 := n2_; have HB := n3_; clear n0_ n1_ n2_ n3_; (try (obtain ⟨hy44_, hz44_, _⟩ := arr_cell HO_6.out (x15_2 : Int) (of_decide_eq_true (by first | (with_reducible assumption) | assumption)) (of_decide_eq_true (by first | (with_reducible assumption) | assumption)))); (try (have HP44 := Kd.R_putg HO_6.out (x15_2 : Int) (Int.tmod (IntKind.u64.wrap ((rd x9_2 x15_2) + x14_2)) 65536))))); refine store_event (t := 29) (p := 96) (v := ?vo_w45) (w1 := (wr.setCell ⟨ga183, (x15_2 : Int).toNat, none⟩ (.int .u64 (Int.tmod (IntKind.u64.wrap ((rd x9_2 x15_2) + x14_2)) 65536)))) ?hg ?ho ?hn ?hr ?_; (case ho => rfl); (case hg => rfl); (case hn => rfl); (case hr => first | (go_simp; done) | (go_simp; rfl)); intro w45 hw; have hg : wr.grownBy w45 (some ga183) := (by rw [hw]; exact HP44.2); have hp_ : Kd.R (Kd.int .u64) 48 w45 w.heap.size (fun k_ => some k_ ≠ (.slice (some ⟨ga192, 0, none⟩) 8 8 : Value).ownBlock ∧ some k_ ≠ ((.slice (some ⟨ga201, 0, none⟩) 4 4) : Value).ownBlock) (.slice (some ⟨ga183, 0, none⟩) 4 4) y204 := (by rw [hw, Ny204.out]; exact HP44.1); clear HP44; have n0_ := Aside0.mk (hp_); have n1_ := Aside0.mk (Kd.R_after (v := (.slice (some ⟨ga183, 0, none⟩) 4 4)) (v1 := (.slice (some ⟨ga183, 0, none⟩) 4 4)) (ok := (fun k_ => some k_ ≠ ((.slice (some ⟨ga201, 0, none⟩) 4 4) : Value).ownBlock)) (by (with_reducible repeat (first | apply Kd.R_alloc | apply Kd.R_drewN | apply Kd.R_drew)); exact Kd.R_mono HO_9.out (fun _ hk => ⟨hk.2, hk.1⟩)) hg (.inl rfl)); have n2_ := Aside0.mk (Kd.R_after (v := (.slice (some ⟨ga183, 0, none⟩) 4 4)) (v1 := (.slice (some ⟨ga183, 0, none⟩) 4 4)) (ok := (fun k_ => some k_ ≠ (.slice (some ⟨ga192, 0, none⟩) 8 8 : Value).ownBlock)) (by (with_reducible repeat (first | apply Kd.R_alloc | apply Kd.R_drewN | apply Kd.R_drew)); exact Kd.R_mono HO_13.out (fun _ hk => ⟨hk.2, hk.1⟩)) hg (.inl rfl)); have n3_ := Aside0.mk ((by rw [hw]; exact below_set (HB.out) GB42.out : Below w.heap.size w w45)); clear HO_6; clear HO_9; clear HO_13; clear HB; have HO_6 := n0_; have HO_9 := n1_; have HO_13 := n2_; have HB := n3_; clear n0_ n1_ n2_ n3_; clear hg hw hp_)))
              go_roundg k2
              case measure => have := HK1.out; have := HK2.out; omega
              case rel => exact ⟨(y204), (x9_2), (x13_2), (IntKind.u64.wrap (Int.tdiv (IntKind.u64.wrap ((rd x9_2 x15_2) + x14_2)) 65536)), (wrap64 (x15_2 + 1)), fj, fj, H', ⟨by have := HK1.out; have := HK2.out; omega⟩, ⟨by (with_reducible repeat (first | apply Kd.R_alloc | apply Kd.R_drewN | apply Kd.R_drew)); exact HO_6.out⟩, ⟨by (with_reducible repeat (first | apply Kd.R_alloc | apply Kd.R_drewN | apply Kd.R_drew)); exact Kd.R_mono HO_9.out (fun _ hk => ⟨hk.2, hk.1⟩)⟩, ⟨by (with_reducible repeat (first | apply Kd.R_alloc | apply Kd.R_drewN | apply Kd.R_drew)); exact Kd.R_mono HO_13.out (fun _ hk => ⟨hk.2, hk.1⟩)⟩, ⟨bl⟩⟩
             ·rw [if_neg c41] at H
              exact absurd H (by simp)
            ·rw [if_neg c40] at H
             have c40b0 := decide_eq_false c40
             clear c40
             obtain ⟨ji46, hji46⟩ : ∃ j_ : Int, (wrap64 (x15_2 - 4)) = j_ := ⟨_, rfl⟩
             replace H : (if 0 ≤ (ji46) then (if (ji46) < (x13_2.length : Int) then (spinnakerref07_Mul.l2 k2 x6_2 x9_2 (x13_2.set ((ji46) : Int).toNat (Int.tmod (IntKind.u64.wrap ((rd x9_2 x15_2) + x14_2)) 65536)) (IntKind.u64.wrap (Int.tdiv (IntKind.u64.wrap ((rd x9_2 x15_2) + x14_2)) 65536)) (wrap64 (x15_2 + 1))) else (none)) else (none)) = some (r1, r2) := by first | (rw [hji46] at H; exact H) | (simp only [hji46] at H ⊢; exact H)
             have hji46w : (IntKind.i64.wrap (x15_2 - 4)) = ji46 := (i64_w _).trans hji46
             by_cases c47 : 0 ≤ (ji46)
             ·rw [if_pos c47] at H
              have c47b0 := decide_eq_true c47
              clear c47
              by_cases c48 : (ji46) < (x13_2.length : Int)
              ·rw [if_pos c48] at H
               have c48b0 := decide_eq_true c48
               clear c48
               obtain ⟨y205, hy205⟩ : ∃ y_ : List Int, y_ = (x13_2.set ((ji46) : Int).toNat (Int.tmod (IntKind.u64.wrap ((rd x9_2 x15_2) + x14_2)) 65536)) := ⟨_, rfl⟩
               replace H : (spinnakerref07_Mul.l2 k2 x6_2 x9_2 y205 (IntKind.u64.wrap (Int.tdiv (IntKind.u64.wrap ((rd x9_2 x15_2) + x14_2)) 65536)) (wrap64 (x15_2 + 1))) = some (r1, r2) := by first | (rw [hy205]; with_reducible exact H) | (have H2_ := (Option.bind_some _ _).symm.trans H; rw [hy205]; with_reducible exact H2_) | (have H2_ := (Option.bind_some _ _).symm.trans H; with_reducible exact H2_) | with_reducible exact H | (rw [hy205]; exact H) | exact H
               have Ny205 := Aside0.mk hy205
               clear hy205
               have H' := Aside0.mk H
               clear H
               have p203 : 0 ≤ (x15_2 : Int) := of_decide_eq_true (by first | (with_reducible assumption) | assumption)
               have q203 : x15_2 < (x9_2.length : Int) := of_decide_eq_true (by first | (with_reducible assumption) | assumption)
               obtain ⟨hx203_0, hf203_1, qa203⟩ := arr_cell HO_9.out (x15_2 : Int) p203 q203
               rw [show ((8 : Nat) : Int) = 8 from rfl] at qa203
               replace p203 := eq_true p203
               replace q203 := eq_true q203
               have p49 : 0 ≤ ((ji46) : Int) := of_decide_eq_true (by first | (with_reducible assumption) | assumption)
               have q49 : ((ji46) : Int) < ((x13_2.length : Int) : Int) := of_decide_eq_true (by first | (with_reducible assumption) | assumption)
               obtain ⟨gb49, HG49⟩ := arr_base HO_13.out (by omega)
               have GB49 := Aside0.mk gb49
               have GG49 := Aside0.mk HG49
               clear gb49 HG49
               obtain ⟨hx49_0, hf49_0, qa49⟩ := arr_cell HO_13.out ((ji46) : Int) p49 q49
               rw [show ((4 : Nat) : Int) = 4 from rfl] at qa49
               replace p49 := eq_true p49
               replace q49 := eq_true q49
               have HP51 := Kd.R_putg HO_13.out ((ji46) : Int) (Int.tmod (IntKind.u64.wrap ((rd x9_2 x15_2) + x14_2)) 65536)
               go_wp2_with (first | ((with_reducible refine gate_store (t := 29) (p := 101) rfl ?_); (try (rw [drewN_self wr]; generalize hq_ : World.drewN wr _ = wr; have n0_ := Aside0.mk (Kd.R_at hq_ HO_6.out); have n1_ := Aside0.mk (Kd.R_at hq_ HO_9.out); have n2_ := Aside0.mk (Kd.R_at hq_ HO_13.out); have n3_ := Aside0.mk (below_at hq_ HB.out); clear hq_ HO_6 HO_9 HO_13 HB; have HO_6 := n0_; have HO_9 := n1_; have HO_13 := n2_; have HB := n3_; clear n0_ n1_ n2_ n3_; (try (obtain ⟨hy51_, hz51_, _⟩ := arr_cell HO_13.out ((ji46) : Int) (of_decide_eq_true (by first | (with_reducible assumption) | assumption)) (of_decide_eq_true (by first | (with_reducible assumption) | assumption)))); (try (have HP51 := Kd.R_putg HO_13.out ((ji46) : Int) (Int.tmod (IntKind.u64.wrap ((rd x9_2 x15_2) + x14_2)) 65536))))); refine store_event (t := 29) (p := 101) (v := ?vo_w52) (w1 := (wr.setCell ⟨ga201, ((ji46) : Int).toNat, none⟩ (.int .u64 (Int.tmod (IntKind.u64.wrap ((rd x9_2 x15_2) + x14_2)) 65536)))) ?hg ?ho ?hn ?hr ?_; (case ho => rfl); (case hg => rfl); (case hn => rfl); (case hr => first | (go_simp; done) | (go_simp; rfl)); intro w52 hw; have hg : wr.grownBy w52 (some ga201) := (by rw [hw]; exact HP51.2); have hp_ : Kd.R (Kd.int .u64) 48 w52 w.heap.size (fun k_ => some k_ ≠ ((.slice (some ⟨ga183, 0, none⟩) 4 4) : Value).ownBlock ∧ some k_ ≠ (.slice (some ⟨ga192, 0, none⟩) 8 8 : Value).ownBlock) (.slice (some ⟨ga201, 0, none⟩) 4 4) y205 := (by rw [hw, Ny205.out]; exact HP51.1); clear HP51; have n0_ := Aside0.mk (Kd.R_after (v := (.slice (some ⟨ga201, 0, none⟩) 4 4)) (v1 := (.slice (some ⟨ga201, 0, none⟩) 4 4)) (ok := (fun k_ => some k_ ≠ (.slice (some ⟨ga192, 0, none⟩) 8 8 : Value).ownBlock)) (by (with_reducible repeat (first | apply Kd.R_alloc | apply Kd.R_drewN | apply Kd.R_drew)); exact HO_6.out) hg (.inl rfl)); have n1_ := Aside0.mk (Kd.R_after (v := (.slice (some ⟨ga201, 0, none⟩) 4 4)) (v1 := (.slice (some ⟨ga201, 0, none⟩) 4 4)) (ok := (fun k_ => some k_ ≠ ((.slice (some ⟨ga183, 0, none⟩) 4 4) : Value).ownBlock)) (by (with_reducible repeat (first | apply Kd.R_alloc | apply Kd.R_drewN | apply Kd.R_drew)); exact HO_9.out) hg (.inl rfl)); have n2_ := Aside0.mk (hp_); have n3_ := Aside0.mk ((by rw [hw]; exact below_set (HB.out) GB49.out : Below w.heap.size w w52)); clear HO_6; clear HO_9; clear HO_13; clear HB; have HO_6 := n0_; have HO_9 := n1_; have HO_13 := n2_; have HB := n3_; clear n0_ n1_ n2_ n3_; clear hg hw hp_))
               repeat (go_quiet (first | ((with_reducible refine gate_store (t := 29) (p := 101) rfl ?_); (try (rw [drewN_self wr]; generalize hq_ : World.drewN wr _ = wr; have n0_ := Aside0.mk (Kd.R_at hq_ HO_6.out); have n1_ := Aside0.mk (Kd.R_at hq_ HO_9.out); have n2_ := Aside0.mk (Kd.R_at hq_ HO_13.out); have n3_ := Aside0.mk (below_at hq_ HB.out); clear hq_ HO_6 HO_9 HO_13 HB; have HO_6 := n0_; have HO_9 := n1_; have HO_13 := n2_; have HB := n3_; clear n0_ n1_ n2_ n3_; (try (obtain ⟨hy51_, hz51_, _⟩ := arr_cell HO_13.out ((ji46) : Int) (of_decide_eq_true (by first | (with_reducible assumption) | assumption)) (of_decide_eq_true (by first | (with_reducible assumption) | assumption)))); (try (have HP51 := Kd.R_putg HO_13.out ((ji46) : Int) (Int.tmod (IntKind.u64.wrap ((rd x9_2 x15_2) + x14_2)) 65536))))); refine store_event (t := 29) (p := 101) (v := ?vo_w52) (w1 := (wr.setCell ⟨ga201, ((ji46) : Int).toNat, none⟩ (.int .u64 (Int.tmod (IntKind.u64.wrap ((rd x9_2 x15_2) + x14_2)) 65536)))) ?hg ?ho ?hn ?hr ?_; (case ho => rfl); (case hg => rfl); (case hn => rfl); (case hr => first | (go_simp; done) | (go_simp; rfl)); intro w52 hw; have hg : wr.grownBy w52 (some ga201) := (by rw [hw]; exact HP51.2); have hp_ : Kd.R (Kd.int .u64) 48 w52 w.heap.size (fun k_ => some k_ ≠ ((.slice (some ⟨ga183, 0, none⟩) 4 4) : Value).ownBlock ∧ some k_ ≠ (.slice (some ⟨ga192, 0, none⟩) 8 8 : Value).ownBlock) (.slice (some ⟨ga201, 0, none⟩) 4 4) y205 := (by rw [hw, Ny205.out]; exact HP51.1); clear HP51; have n0_ := Aside0.mk (Kd.R_after (v := (.slice (some ⟨ga201, 0, none⟩) 4 4)) (v1 := (.slice (some ⟨ga201, 0, none⟩) 4 4)) (ok := (fun k_ => some k_ ≠ (.slice (some ⟨ga192, 0, none⟩) 8 8 : Value).ownBlock)) (by (with_reducible repeat (first | apply Kd.R_alloc | apply Kd.R_drewN | apply Kd.R_drew)); exact HO_6.out) hg (.inl rfl)); have n1_ := Aside0.mk (Kd.R_after (v := (.slice (some ⟨ga201, 0, none⟩) 4 4)) (v1 := (.slice (some ⟨ga201, 0, none⟩) 4 4)) (ok := (fun k_ => some k_ ≠ ((.slice (some ⟨ga183, 0, none⟩) 4 4) : Value).ownBlock)) (by (with_reducible repeat (first | apply Kd.R_alloc | apply Kd.R_drewN | apply Kd.R_drew)); exact HO_9.out) hg (.inl rfl)); have n2_ := Aside0.mk (hp_); have n3_ := Aside0.mk ((by rw [hw]; exact below_set (HB.out) GB49.out : Below w.heap.size w w52)); clear HO_6; clear HO_9; clear HO_13; clear HB; have HO_6 := n0_; have HO_9 := n1_; have HO_13 := n2_; have HB := n3_; clear n0_ n1_ n2_ n3_; clear hg hw hp_)); try go_wp2_with (first | ((with_reducible refine gate_store (t := 29) (p := 101) rfl ?_); (try (rw [drewN_self wr]; generalize hq_ : World.drewN wr _ = wr; have n0_ := Aside0.mk (Kd.R_at hq_ HO_6.out); have n1_ := Aside0.mk (Kd.R_at hq_ HO_9.out); have n2_ := Aside0.mk (Kd.R_at hq_ HO_13.out); have n3_ := Aside0.mk (below_at hq_ HB.out); clear hq_ HO_6 HO_9 HO_13 HB; have HO_6 := n0_; have HO_9 := n1_; have HO_13 := n2_; have HB := n3_; clear n0_ n1_ n2_ n3_; (try (obtain ⟨hy51_, hz51_, _⟩ := arr_cell HO_13.out ((ji46) : Int) (of_decide_eq_true (by first | (with_reducible assumption) | assumption)) (of_decide_eq_true (by first | (with_reducible assumption) | assumption)))); (try (have HP51 := Kd.R_putg HO_13.out ((ji46) : Int) (Int.tmod (IntKind.u64.wrap ((rd x9_2 x15_2) + x14_2)) 65536))))); refine store_event (t := 29) (p := 101) (v := ?vo_w52) (w1 := (wr.setCell ⟨ga201, ((ji46) : Int).toNat, none⟩ (.int .u64 (Int.tmod (IntKind.u64.wrap ((rd x9_2 x15_2) + x14_2)) 65536)))) ?hg ?ho ?hn ?hr ?_; (case ho => rfl); (case hg => rfl); (case hn => rfl); (case hr => first | (go_simp; done) | (go_simp; rfl)); intro w52 hw; have hg : wr.grownBy w52 (some ga201) := (by rw [hw]; exact HP51.2); have hp_ : Kd.R (Kd.int .u64) 48 w52 w.heap.size (fun k_ => some k_ ≠ ((.slice (some ⟨ga183, 0, none⟩) 4 4) : Value).ownBlock ∧ some k_ ≠ (.slice (some ⟨ga192, 0, none⟩) 8 8 : Value).ownBlock) (.slice (some ⟨ga201, 0, none⟩) 4 4) y205 := (by rw [hw, Ny205.out]; exact HP51.1); clear HP51; have n0_ := Aside0.mk (Kd.R_after (v := (.slice (some ⟨ga201, 0, none⟩) 4 4)) (v1 := (.slice (some ⟨ga201, 0, none⟩) 4 4)) (ok := (fun k_ => some k_ ≠ (.slice (some ⟨ga192, 0, none⟩) 8 8 : Value).ownBlock)) (by (with_reducible repeat (first | apply Kd.R_alloc | apply Kd.R_drewN | apply Kd.R_drew)); exact HO_6.out) hg (.inl rfl)); have n1_ := Aside0.mk (Kd.R_after (v := (.slice (some ⟨ga201, 0, none⟩) 4 4)) (v1 := (.slice (some ⟨ga201, 0, none⟩) 4 4)) (ok := (fun k_ => some k_ ≠ ((.slice (some ⟨ga183, 0, none⟩) 4 4) : Value).ownBlock)) (by (with_reducible repeat (first | apply Kd.R_alloc | apply Kd.R_drewN | apply Kd.R_drew)); exact HO_9.out) hg (.inl rfl)); have n2_ := Aside0.mk (hp_); have n3_ := Aside0.mk ((by rw [hw]; exact below_set (HB.out) GB49.out : Below w.heap.size w w52)); clear HO_6; clear HO_9; clear HO_13; clear HB; have HO_6 := n0_; have HO_9 := n1_; have HO_13 := n2_; have HB := n3_; clear n0_ n1_ n2_ n3_; clear hg hw hp_)))
               go_roundg k2
               case measure => have := HK1.out; have := HK2.out; omega
               case rel => exact ⟨(x6_2), (x9_2), (y205), (IntKind.u64.wrap (Int.tdiv (IntKind.u64.wrap ((rd x9_2 x15_2) + x14_2)) 65536)), (wrap64 (x15_2 + 1)), fj, fj, H', ⟨by have := HK1.out; have := HK2.out; omega⟩, ⟨by (with_reducible repeat (first | apply Kd.R_alloc | apply Kd.R_drewN | apply Kd.R_drew)); exact HO_6.out⟩, ⟨by (with_reducible repeat (first | apply Kd.R_alloc | apply Kd.R_drewN | apply Kd.R_drew)); exact HO_9.out⟩, ⟨by (with_reducible repeat (first | apply Kd.R_alloc | apply Kd.R_drewN | apply Kd.R_drew)); exact HO_13.out⟩, ⟨bl⟩⟩
              ·rw [if_neg c48] at H
               exact absurd H (by simp)
             ·rw [if_neg c47] at H
              exact absurd H (by simp)
           ·rw [if_neg c39] at H
            exact absurd H (by simp)
          ·rw [if_neg c38] at H
           exact absurd H (by simp)
         ·rw [if_neg c37] at H
          have c37b0 := decide_eq_false c37
          clear c37
          by_cases c53 : 0 < (x6_2.length : Int)
          ·rw [if_pos c53] at H
           have c53b0 := decide_eq_true c53
           have c53b1 : decide (0 < x6_2.length) = true := decide_eq_true (by omega)
           clear c53
           by_cases c54 : 1 < (x6_2.length : Int)
           ·rw [if_pos c54] at H
            have c54b0 := decide_eq_true c54
            have c54b1 : decide (1 < x6_2.length) = true := decide_eq_true (by omega)
            clear c54
            by_cases c55 : 2 < (x6_2.length : Int)
            ·rw [if_pos c55] at H
             have c55b0 := decide_eq_true c55
             have c55b1 : decide (2 < x6_2.length) = true := decide_eq_true (by omega)
             clear c55
             by_cases c56 : 3 < (x6_2.length : Int)
             ·rw [if_pos c56] at H
              have c56b0 := decide_eq_true c56
              have c56b1 : decide (3 < x6_2.length) = true := decide_eq_true (by omega)
              clear c56
              by_cases c57 : 0 < (x13_2.length : Int)
              ·rw [if_pos c57] at H
               have c57b0 := decide_eq_true c57
               have c57b1 : decide (0 < x13_2.length) = true := decide_eq_true (by omega)
               clear c57
               by_cases c58 : 1 < (x13_2.length : Int)
               ·rw [if_pos c58] at H
                have c58b0 := decide_eq_true c58
                have c58b1 : decide (1 < x13_2.length) = true := decide_eq_true (by omega)
                clear c58
                by_cases c59 : 2 < (x13_2.length : Int)
                ·rw [if_pos c59] at H
                 have c59b0 := decide_eq_true c59
                 have c59b1 : decide (2 < x13_2.length) = true := decide_eq_true (by omega)
                 clear c59
                 by_cases c60 : 3 < (x13_2.length : Int)
                 ·rw [if_pos c60] at H
                  have c60b0 := decide_eq_true c60
                  have c60b1 : decide (3 < x13_2.length) = true := decide_eq_true (by omega)
                  clear c60
                  simp only [Option.some.injEq, Prod.mk.injEq] at H
                  obtain ⟨rfl, rfl⟩ := H
                  have p206 : 0 ≤ (0 : Int) := (by omega)
                  have q206 : 0 < (x6_2.length : Int) := of_decide_eq_true (by first | (with_reducible assumption) | assumption)
                  obtain ⟨hx206_0, hf206_1, qa206⟩ := arr_cell HO_6.out (0 : Int) p206 q206
                  rw [show ((4 : Nat) : Int) = 4 from rfl] at qa206
                  have qi206 : (0 < x6_2.length) = True := eq_true (by omega)
                  (try rw [show ((0 : Int)).toNat = 0 from rfl] at hx206_0)
                  replace p206 := eq_true p206
                  replace q206 := eq_true q206
                  have p207 : 0 ≤ (1 : Int) := (by omega)
                  have q207 : 1 < (x6_2.length : Int) := of_decide_eq_true (by first | (with_reducible assumption) | assumption)
                  obtain ⟨hx207_0, hf207_1, qa207⟩ := arr_cell HO_6.out (1 : Int) p207 q207
                  rw [show ((4 : Nat) : Int) = 4 from rfl] at qa207
                  have qi207 : (1 < x6_2.length) = True := eq_true (by omega)
                  (try rw [show ((1 : Int)).toNat = 1 from rfl] at hx207_0)
                  replace p207 := eq_true p207
                  replace q207 := eq_true q207
                  have p208 : 0 ≤ (2 : Int) := (by omega)
                  have q208 : 2 < (x6_2.length : Int) := of_decide_eq_true (by first | (with_reducible assumption) | assumption)
                  obtain ⟨hx208_0, hf208_1, qa208⟩ := arr_cell HO_6.out (2 : Int) p208 q208
                  rw [show ((4 : Nat) : Int) = 4 from rfl] at qa208
                  have qi208 : (2 < x6_2.length) = True := eq_true (by omega)
                  (try rw [show ((2 : Int)).toNat = 2 from rfl] at hx208_0)
                  replace p208 := eq_true p208
                  replace q208 := eq_true q208
                  have p209 : 0 ≤ (3 : Int) := (by omega)
                  have q209 : 3 < (x6_2.length : Int) := of_decide_eq_true (by first | (with_reducible assumption) | assumption)
                  obtain ⟨hx209_0, hf209_1, qa209⟩ := arr_cell HO_6.out (3 : Int) p209 q209
                  rw [show ((4 : Nat) : Int) = 4 from rfl] at qa209
                  have qi209 : (3 < x6_2.length) = True := eq_true (by omega)
                  (try rw [show ((3 : Int)).toNat = 3 from rfl] at hx209_0)
                  replace p209 := eq_true p209
                  replace q209 := eq_true q209
                  have p210 : 0 ≤ (0 : Int) := (by omega)
                  have q210 : 0 < (x13_2.length : Int) := of_decide_eq_true (by first | (with_reducible assumption) | assumption)
                  obtain ⟨hx210_0, hf210_1, qa210⟩ := arr_cell HO_13.out (0 : Int) p210 q210
                  rw [show ((4 : Nat) : Int) = 4 from rfl] at qa210
                  have qi210 : (0 < x13_2.length) = True := eq_true (by omega)
                  (try rw [show ((0 : Int)).toNat = 0 from rfl] at hx210_0)
                  replace p210 := eq_true p210
                  replace q210 := eq_true q210
                  have p211 : 0 ≤ (1 : Int) := (by omega)
                  have q211 : 1 < (x13_2.length : Int) := of_decide_eq_true (by first | (with_reducible assumption) | assumption)
                  obtain ⟨hx211_0, hf211_1, qa211⟩ := arr_cell HO_13.out (1 : Int) p211 q211
                  rw [show ((4 : Nat) : Int) = 4 from rfl] at qa211
                  have qi211 : (1 < x13_2.length) = True := eq_true (by omega)
                  (try rw [show ((1 : Int)).toNat = 1 from rfl] at hx211_0)
                  replace p211 := eq_true p211
                  replace q211 := eq_true q211
                  have p212 : 0 ≤ (2 : Int) := (by omega)
                  have q212 : 2 < (x13_2.length : Int) := of_decide_eq_true (by first | (with_reducible assumption) | assumption)
                  obtain ⟨hx212_0, hf212_1, qa212⟩ := arr_cell HO_13.out (2 : Int) p212 q212
                  rw [show ((4 : Nat) : Int) = 4 from rfl] at qa212
                  have qi212 : (2 < x13_2.length) = True := eq_true (by omega)
                  (try rw [show ((2 : Int)).toNat = 2 from rfl] at hx212_0)
                  replace p212 := eq_true p212
                  replace q212 := eq_true q212
                  have p213 : 0 ≤ (3 : Int) := (by omega)
                  have q213 : 3 < (x13_2.length : Int) := of_decide_eq_true (by first | (with_reducible assumption) | assumption)
                  obtain ⟨hx213_0, hf213_1, qa213⟩ := arr_cell HO_13.out (3 : Int) p213 q213
                  rw [show ((4 : Nat) : Int) = 4 from rfl] at qa213
                  have qi213 : (3 < x13_2.length) = True := eq_true (by omega)
                  (try rw [show ((3 : Int)).toNat = 3 from rfl] at hx213_0)
                  replace p213 := eq_true p213
                  replace q213 := eq_true q213
                  go_wp2
                  repeat (go_quiet (fail); try go_wp2)
                  go_ret2
                  exact ⟨fi, bl⟩
                 ·rw [if_neg c60] at H
                  exact absurd H (by simp)
                ·rw [if_neg c59] at H
                 exact absurd H (by simp)
               ·rw [if_neg c58] at H
                exact absurd H (by simp)
              ·rw [if_neg c57] at H
               exact absurd H (by simp)
             ·rw [if_neg c56] at H
              exact absurd H (by simp)
            ·rw [if_neg c55] at H
             exact absurd H (by simp)
           ·rw [if_neg c54] at H
            exact absurd H (by simp)
          ·rw [if_neg c53] at H
           exact absurd H (by simp)
      ·rw [if_neg c34] at H
       exact absurd H (by simp)
  ·rw [if_neg c4] at H
   exact absurd H (by simp)
 ·rw [if_neg c3] at H
  exact absurd H (by simp)

end Go.Proofs.Ytmkcnbaknnohgaa.GAluEvals
