-- Written by wip/stub.py of this repo.
import Derived.Test.YtffehgfjjagibaaDoorGImagePlacesx0
import Derived.Test.YtffehgfjjagibaaDoorGImagePlacesx11
namespace Go.Proofs.YtffehgfjjagibaaDoor.GImagePlaces
open Go.RowKit Go.Proofs.YtffehgfjjagibaaDoorW.PrintWords Go.Proofs.YtffehgfjjagibaaDoorW.PrintLast Go.Proofs.YtffehgfjjagibaaDoorW.PrintMore
attribute [local go_sem] max2_int min2_int max_two min_two max_three min_three max_four min_four   -- for this text's walks alone
set_option linter.unusedVariables false
set_option linter.unusedSimpArgs false

-- NOT PRINTED: function 60 (spinnakerref04_words)

/-! ### spinnakerref04_Word: function 28 (by hand) -/
def wordTab : List Int := [55, 23, 111, 103, 99, 4195, 16483, 20579, 24675, 28771, 3, 4099, 8195, 12291, 16387, 20483, 24579, 35, 4131, 8227, 12323, 19, 8211, 12307, 16403, 24595, 28691, 4115, 20499, 1073762323, 27, 4123, 20507, 1073762331, 51, 1073741875, 4147, 8243, 12339, 16435, 20531, 1073762355, 24627, 28723, 59, 1073741883, 4155, 20539, 1073762363, 33554483, 33558579, 33562675, 33566771, 33570867, 33574963, 33579059, 33583155, 33554491, 33570875, 33574971, 33579067, 33583163, 15, 115, 1048691, 268443695, 402661423, 134225967, 8239, 536879151, 1610620975, 1073750063, 2147491887, 2684362799, 3221233711, 3758104623]
def wordArr : Array Value := (wordTab.map fun n => Value.int .u32 n).toArray
def wordZero : Array Value := Array.replicate 76 (.int .u32 0)
def spinnakerref04_Word.f (a0 : Int) : Option (Int) := if 1 ≤ a0 ∧ a0 < 88 then some (if a0 < 77 then rd wordTab (a0 - 1) else rd wordTab (a0 - 12) + 4096) else none
theorem wordArr_one : ∀ q ∈ wordArr.toList, q.oneCell' = true := by
 intro q hq
 obtain ⟨n, _, rfl⟩ := List.mem_map.mp hq
 rfl
theorem wordArr_at (i : Nat) (h : i < 76) : wordArr[i]? = some (.int .u32 (rd wordTab (i : Int))) := by
 have hl : wordTab.length = 76 := by decide
 unfold wordArr rd
 simp [hl, h]
theorem wordTab_small (i : Nat) (h : i < 76) : 0 ≤ rd wordTab (i : Int) + 4096 ∧ rd wordTab (i : Int) + 4096 < 4294967296 := by
 revert h; revert i; decide +kernel
set_option maxHeartbeats 8000000 in
set_option maxRecDepth 100000 in
theorem words_call (w : World) : Calls Tryd.prog 60 #[] w fun e w' => e = .returned (.agg wordArr) ∧ Below w.heap.size w w' := by
 have hu116 := Tryd.underlying79
 have HB := Aside0.mk (Below.refl w.heap.size w)
 go_enter Tryd.func60, Tryd.ntmps60
 go_wp2_with (first | ((with_reducible refine gate_dst (N := 0) rfl ?_); refine box_event ?hg (N := 0) ?hd (cs := wordZero) (t := 79) ?hr ?_; (case hd => rfl); (case hg => rfl); (case hr => first | (go_simp; done) | (go_simp; rfl)); intro gbq hg wbq hbox hb; have n0_ := Aside0.mk (below_step bl hb); have n1_ := Aside0.mk (hbox); have n2_ := Aside0.mk ((by rw [hg]; exact (below_size bl) : w.heap.size ≤ gbq)); clear HB; have HB := n0_; have BKq := n1_; have GEq := n2_; clear n0_ n1_ n2_; clear hb hbox hg) | ((with_reducible refine gate_store (t := 79) (p := 0) rfl ?_); refine fill_event rfl (t := 79) (p := 0) rfl rfl (g := gbq) (e := 79) (cur := wordZero) (cs := wordArr) ?hp ?hv (bk BKq.out) rfl wordArr_one rfl ?ht ?_; (case hp => first | rfl | (go_simp; done) | (go_simp; rfl)); (case hv => first | rfl | (go_simp; done) | (go_simp; rfl)); (case ht => kernel_rfl); intro wf hwf hb; have n0_ := Aside0.mk (below_fill bl hb GEq.out); have n1_ := Aside0.mk hwf; clear BKq HB; have BKq := n1_; have HB := n0_; clear n0_ n1_ hb hwf))
 refine bodyPost_ret (results_cell_row rfl _ _ gbq 79 wordArr (0, 0) _ rfl (bk BKq.out) Tryd.underlying79 rfl (by kernel_rfl)) rfl ?_
 exact ⟨rfl, bl⟩
set_option maxHeartbeats 8000000 in
set_option maxRecDepth 100000 in
theorem word_lo (a0 : Int) (i : Nat) (hi : i < 76) (he : wrap64 (a0 - 1) = (i : Int)) (hb : decide (77 ≤ a0) = false) (w : World) : Calls Tryd.prog 28 #[.int .i64 a0] w fun e w' => e = .returned (.int .u32 (rd wordTab (i : Int))) ∧ Below w.heap.size w w' := by
 have hi0 : (0 : Int) ≤ (i : Int) := by omega
 have hi1 : (i : Int) < 76 := by omega
 have hu116 := Tryd.underlying79
 have HB := Aside0.mk (Below.refl w.heap.size w)
 go_enter Tryd.func28, Tryd.ntmps28
 go_wp2_with (first | ((with_reducible refine gate_callee (f := 60) rfl ?_); refine goesL_ (some 4) rfl rfl Tryd.func60 (by kernel_rfl) rfl #[] rfl (by (try simp only [List.map_toArray, List.map_cons, List.map_nil]); first | done | rfl) ?_; (with_reducible refine (words_call _).mono ?_); rintro e wc ⟨rfl, hb⟩; refine ⟨_, rfl, ?_⟩; have n0_ := Aside0.mk (below_step bl hb); clear HB; have HB := n0_; clear n0_ hb) | ((with_reducible refine gate_dst (N := 3) rfl ?_); refine box_event ?hg (N := 3) ?hd (cs := wordZero) (t := 79) ?hr ?_; (case hd => rfl); (case hg => rfl); (case hr => first | (go_simp; done) | (go_simp; rfl)); intro gbq hg wbq hbox hb; have n0_ := Aside0.mk (below_step bl hb); have n1_ := Aside0.mk (hbox); have n2_ := Aside0.mk ((by rw [hg]; exact (below_size bl) : w.heap.size ≤ gbq)); clear HB; have HB := n0_; have BKq := n1_; have GEq := n2_; clear n0_ n1_ n2_; clear hb hbox hg) | ((with_reducible refine gate_store (t := 79) (p := 3) rfl ?_); refine fill_event rfl (t := 79) (p := 3) rfl rfl (g := gbq) (e := 79) (cur := wordZero) (cs := wordArr) ?hp ?hv (bk BKq.out) rfl wordArr_one rfl ?ht ?_; (case hp => first | rfl | (go_simp; done) | (go_simp; rfl)); (case hv => first | rfl | (go_simp; done) | (go_simp; rfl)); (case ht => kernel_rfl); intro wf hwf hb; have n0_ := Aside0.mk (below_fill bl hb GEq.out); have n1_ := Aside0.mk hwf; clear BKq HB; have BKq := n1_; have HB := n0_; clear n0_ n1_ hb hwf; have hcz : wf.cell? ⟨gbq, i, none⟩ = some (.int .u32 (rd wordTab (i : Int))) := (blk_cell BKq.out i).trans (wordArr_at i hi); have hfz := blk_frozen BKq.out i))
 go_ret
 exact ⟨by first | rfl | (simp; done), bl⟩
set_option maxHeartbeats 8000000 in
set_option maxRecDepth 100000 in
theorem word_hi (a0 : Int) (i : Nat) (hi : i < 76) (he : wrap64 (a0 - 12) = (i : Int)) (hb : decide (77 ≤ a0) = true) (w : World) : Calls Tryd.prog 28 #[.int .i64 a0] w fun e w' => e = .returned (.int .u32 ((rd wordTab (i : Int) + 4096) % 4294967296)) ∧ Below w.heap.size w w' := by
 have hi0 : (0 : Int) ≤ (i : Int) := by omega
 have hi1 : (i : Int) < 76 := by omega
 have hu116 := Tryd.underlying79
 have HB := Aside0.mk (Below.refl w.heap.size w)
 go_enter Tryd.func28, Tryd.ntmps28
 go_wp2_with (first | ((with_reducible refine gate_callee (f := 60) rfl ?_); refine goesL_ (some 4) rfl rfl Tryd.func60 (by kernel_rfl) rfl #[] rfl (by (try simp only [List.map_toArray, List.map_cons, List.map_nil]); first | done | rfl) ?_; (with_reducible refine (words_call _).mono ?_); rintro e wc ⟨rfl, hb⟩; refine ⟨_, rfl, ?_⟩; have n0_ := Aside0.mk (below_step bl hb); clear HB; have HB := n0_; clear n0_ hb) | ((with_reducible refine gate_dst (N := 3) rfl ?_); refine box_event ?hg (N := 3) ?hd (cs := wordZero) (t := 79) ?hr ?_; (case hd => rfl); (case hg => rfl); (case hr => first | (go_simp; done) | (go_simp; rfl)); intro gbq hg wbq hbox hb; have n0_ := Aside0.mk (below_step bl hb); have n1_ := Aside0.mk (hbox); have n2_ := Aside0.mk ((by rw [hg]; exact (below_size bl) : w.heap.size ≤ gbq)); clear HB; have HB := n0_; have BKq := n1_; have GEq := n2_; clear n0_ n1_ n2_; clear hb hbox hg) | ((with_reducible refine gate_store (t := 79) (p := 3) rfl ?_); refine fill_event rfl (t := 79) (p := 3) rfl rfl (g := gbq) (e := 79) (cur := wordZero) (cs := wordArr) ?hp ?hv (bk BKq.out) rfl wordArr_one rfl ?ht ?_; (case hp => first | rfl | (go_simp; done) | (go_simp; rfl)); (case hv => first | rfl | (go_simp; done) | (go_simp; rfl)); (case ht => kernel_rfl); intro wf hwf hb; have n0_ := Aside0.mk (below_fill bl hb GEq.out); have n1_ := Aside0.mk hwf; clear BKq HB; have BKq := n1_; have HB := n0_; clear n0_ n1_ hb hwf; have hcz : wf.cell? ⟨gbq, i, none⟩ = some (.int .u32 (rd wordTab (i : Int))) := (blk_cell BKq.out i).trans (wordArr_at i hi); have hfz := blk_frozen BKq.out i))
 go_ret
 exact ⟨by first | rfl | (simp; done), bl⟩
theorem spinnakerref04_Word.calls (a0 : Int) (r : Int) (w : World) (h : spinnakerref04_Word.f a0 = some r) :
  Calls Tryd.prog 28 #[.int .i64 a0] w fun e w' => e = .returned (.int .u32 r) ∧ Below w.heap.size w w' := by
 unfold spinnakerref04_Word.f at h
 by_cases h1 : 1 ≤ a0 ∧ a0 < 88
 ·rw [if_pos h1] at h
  obtain rfl := Option.some.inj h
  by_cases h2 : a0 < 77
  ·have e : a0 - 1 = (((a0 - 1).toNat : Nat) : Int) := by omega
   have q := word_lo a0 (a0 - 1).toNat (by omega) (by unfold wrap64; omega) (decide_eq_false (by omega)) w
   rw [if_pos h2, e]; exact q
  ·have e : a0 - 12 = (((a0 - 12).toNat : Nat) : Int) := by omega
   have q := word_hi a0 (a0 - 12).toNat (by omega) (by unfold wrap64; omega) (decide_eq_true (by omega)) w
   have q2 := wordTab_small (a0 - 12).toNat (by omega)
   rw [← e] at q q2
   rw [if_neg h2]
   rwa [Int.emod_eq_of_lt q2.1 q2.2] at q
 ·rw [if_neg h1] at h
  exact absurd h (by simp)

/-! ### spinnakerref03_Form: function 29 -/
def spinnakerref03_Form.f (a0 : Int) : Option (Int) := (spinnakerref03_letter.f a0).bind fun t406 => (if t406 = 85 then (some 1) else (if t406 = 74 then (some 2) else (if t406 = 73 then (some 3) else (if t406 = 66 then (some 4) else (if t406 = 83 then (some 5) else (if t406 = 82 then (some 6) else (if t406 = 72 then (some 7) else (if t406 = 87 then (some 8) else (if t406 = 70 then (some 9) else (if t406 = 78 then (some 0) else (if t406 = 76 then (some 10) else (if t406 = 65 then (some 11) else (some (-1))))))))))))))
set_option maxHeartbeats 8000000 in
set_option maxRecDepth 100000 in
theorem spinnakerref03_Form.calls (a0 : Int) (r : Int) (w : World) (h : spinnakerref03_Form.f a0 = some r) :
  Calls Tryd.prog 29 #[.int .i64 a0] w fun e w' => e = .returned (.int .i64 r) ∧ Drawn0 w w' := by
 have H : ((spinnakerref03_letter.f a0).bind fun t406 => (if t406 = 85 then (some 1) else (if t406 = 74 then (some 2) else (if t406 = 73 then (some 3) else (if t406 = 66 then (some 4) else (if t406 = 83 then (some 5) else (if t406 = 82 then (some 6) else (if t406 = 72 then (some 7) else (if t406 = 87 then (some 8) else (if t406 = 70 then (some 9) else (if t406 = 78 then (some 0) else (if t406 = 76 then (some 10) else (if t406 = 65 then (some 11) else (some (-1))))))))))))))) = some r := h
 clear h
 replace H := be H
 obtain ⟨t406, A2, H⟩ := H
 by_cases c3 : t406 = 85
 ·rw [if_pos c3] at H
  obtain ⟨c3b0, c3b1⟩ := eqs c3
  clear c3
  obtain rfl := Option.some.inj H
  go_enter Tryd.func29, Tryd.ntmps29
  go_wp2_with (first | ((with_reducible refine gate_callee (f := 43) rfl ?_); refine goesL_ (some 4) rfl rfl Tryd.func43 (by kernel_rfl) rfl #[.int .i64 a0] rfl ga ?_; (with_reducible refine (spinnakerref03_letter.calls a0 t406 _ A2.out).mono ?_); rintro e w' ⟨rfl, ⟨nd, rfl⟩⟩; refine ⟨_, rfl, ?_⟩))
  go_ret
  exact ⟨fj, fd⟩
 ·rw [if_neg c3] at H
  have c3b0 : (t406 == 85) = false := beq_eq_false_iff_ne.mpr c3
  have c3b1 : (t406 != 85) = true := bne_iff_ne.mpr c3
  by_cases c4 : t406 = 74
  ·rw [if_pos c4] at H
   obtain ⟨c4b0, c4b1⟩ := eqs c4
   clear c4
   obtain rfl := Option.some.inj H
   go_enter Tryd.func29, Tryd.ntmps29
   go_wp2_with (first | ((with_reducible refine gate_callee (f := 43) rfl ?_); refine goesL_ (some 4) rfl rfl Tryd.func43 (by kernel_rfl) rfl #[.int .i64 a0] rfl ga ?_; (with_reducible refine (spinnakerref03_letter.calls a0 t406 _ A2.out).mono ?_); rintro e w' ⟨rfl, ⟨nd, rfl⟩⟩; refine ⟨_, rfl, ?_⟩))
   go_ret
   exact ⟨fj, fd⟩
  ·rw [if_neg c4] at H
   have c4b0 : (t406 == 74) = false := beq_eq_false_iff_ne.mpr c4
   have c4b1 : (t406 != 74) = true := bne_iff_ne.mpr c4
   by_cases c5 : t406 = 73
   ·rw [if_pos c5] at H
    obtain ⟨c5b0, c5b1⟩ := eqs c5
    clear c5
    obtain rfl := Option.some.inj H
    go_enter Tryd.func29, Tryd.ntmps29
    go_wp2_with (first | ((with_reducible refine gate_callee (f := 43) rfl ?_); refine goesL_ (some 4) rfl rfl Tryd.func43 (by kernel_rfl) rfl #[.int .i64 a0] rfl ga ?_; (with_reducible refine (spinnakerref03_letter.calls a0 t406 _ A2.out).mono ?_); rintro e w' ⟨rfl, ⟨nd, rfl⟩⟩; refine ⟨_, rfl, ?_⟩))
    go_ret
    exact ⟨fj, fd⟩
   ·rw [if_neg c5] at H
    have c5b0 : (t406 == 73) = false := beq_eq_false_iff_ne.mpr c5
    have c5b1 : (t406 != 73) = true := bne_iff_ne.mpr c5
    by_cases c6 : t406 = 66
    ·rw [if_pos c6] at H
     obtain ⟨c6b0, c6b1⟩ := eqs c6
     clear c6
     obtain rfl := Option.some.inj H
     go_enter Tryd.func29, Tryd.ntmps29
     go_wp2_with (first | ((with_reducible refine gate_callee (f := 43) rfl ?_); refine goesL_ (some 4) rfl rfl Tryd.func43 (by kernel_rfl) rfl #[.int .i64 a0] rfl ga ?_; (with_reducible refine (spinnakerref03_letter.calls a0 t406 _ A2.out).mono ?_); rintro e w' ⟨rfl, ⟨nd, rfl⟩⟩; refine ⟨_, rfl, ?_⟩))
     go_ret
     exact ⟨fj, fd⟩
    ·rw [if_neg c6] at H
     have c6b0 : (t406 == 66) = false := beq_eq_false_iff_ne.mpr c6
     have c6b1 : (t406 != 66) = true := bne_iff_ne.mpr c6
     by_cases c7 : t406 = 83
     ·rw [if_pos c7] at H
      obtain ⟨c7b0, c7b1⟩ := eqs c7
      clear c7
      obtain rfl := Option.some.inj H
      go_enter Tryd.func29, Tryd.ntmps29
      go_wp2_with (first | ((with_reducible refine gate_callee (f := 43) rfl ?_); refine goesL_ (some 4) rfl rfl Tryd.func43 (by kernel_rfl) rfl #[.int .i64 a0] rfl ga ?_; (with_reducible refine (spinnakerref03_letter.calls a0 t406 _ A2.out).mono ?_); rintro e w' ⟨rfl, ⟨nd, rfl⟩⟩; refine ⟨_, rfl, ?_⟩))
      go_ret
      exact ⟨fj, fd⟩
     ·rw [if_neg c7] at H
      have c7b0 : (t406 == 83) = false := beq_eq_false_iff_ne.mpr c7
      have c7b1 : (t406 != 83) = true := bne_iff_ne.mpr c7
      by_cases c8 : t406 = 82
      ·rw [if_pos c8] at H
       obtain ⟨c8b0, c8b1⟩ := eqs c8
       clear c8
       obtain rfl := Option.some.inj H
       go_enter Tryd.func29, Tryd.ntmps29
       go_wp2_with (first | ((with_reducible refine gate_callee (f := 43) rfl ?_); refine goesL_ (some 4) rfl rfl Tryd.func43 (by kernel_rfl) rfl #[.int .i64 a0] rfl ga ?_; (with_reducible refine (spinnakerref03_letter.calls a0 t406 _ A2.out).mono ?_); rintro e w' ⟨rfl, ⟨nd, rfl⟩⟩; refine ⟨_, rfl, ?_⟩))
       go_ret
       exact ⟨fj, fd⟩
      ·rw [if_neg c8] at H
       have c8b0 : (t406 == 82) = false := beq_eq_false_iff_ne.mpr c8
       have c8b1 : (t406 != 82) = true := bne_iff_ne.mpr c8
       by_cases c9 : t406 = 72
       ·rw [if_pos c9] at H
        obtain ⟨c9b0, c9b1⟩ := eqs c9
        clear c9
        obtain rfl := Option.some.inj H
        go_enter Tryd.func29, Tryd.ntmps29
        go_wp2_with (first | ((with_reducible refine gate_callee (f := 43) rfl ?_); refine goesL_ (some 4) rfl rfl Tryd.func43 (by kernel_rfl) rfl #[.int .i64 a0] rfl ga ?_; (with_reducible refine (spinnakerref03_letter.calls a0 t406 _ A2.out).mono ?_); rintro e w' ⟨rfl, ⟨nd, rfl⟩⟩; refine ⟨_, rfl, ?_⟩))
        go_ret
        exact ⟨fj, fd⟩
       ·rw [if_neg c9] at H
        have c9b0 : (t406 == 72) = false := beq_eq_false_iff_ne.mpr c9
        have c9b1 : (t406 != 72) = true := bne_iff_ne.mpr c9
        by_cases c10 : t406 = 87
        ·rw [if_pos c10] at H
         obtain ⟨c10b0, c10b1⟩ := eqs c10
         clear c10
         obtain rfl := Option.some.inj H
         go_enter Tryd.func29, Tryd.ntmps29
         go_wp2_with (first | ((with_reducible refine gate_callee (f := 43) rfl ?_); refine goesL_ (some 4) rfl rfl Tryd.func43 (by kernel_rfl) rfl #[.int .i64 a0] rfl ga ?_; (with_reducible refine (spinnakerref03_letter.calls a0 t406 _ A2.out).mono ?_); rintro e w' ⟨rfl, ⟨nd, rfl⟩⟩; refine ⟨_, rfl, ?_⟩))
         go_ret
         exact ⟨fj, fd⟩
        ·rw [if_neg c10] at H
         have c10b0 : (t406 == 87) = false := beq_eq_false_iff_ne.mpr c10
         have c10b1 : (t406 != 87) = true := bne_iff_ne.mpr c10
         by_cases c11 : t406 = 70
         ·rw [if_pos c11] at H
          obtain ⟨c11b0, c11b1⟩ := eqs c11
          clear c11
          obtain rfl := Option.some.inj H
          go_enter Tryd.func29, Tryd.ntmps29
          go_wp2_with (first | ((with_reducible refine gate_callee (f := 43) rfl ?_); refine goesL_ (some 4) rfl rfl Tryd.func43 (by kernel_rfl) rfl #[.int .i64 a0] rfl ga ?_; (with_reducible refine (spinnakerref03_letter.calls a0 t406 _ A2.out).mono ?_); rintro e w' ⟨rfl, ⟨nd, rfl⟩⟩; refine ⟨_, rfl, ?_⟩))
          go_ret
          exact ⟨fj, fd⟩
         ·rw [if_neg c11] at H
          have c11b0 : (t406 == 70) = false := beq_eq_false_iff_ne.mpr c11
          have c11b1 : (t406 != 70) = true := bne_iff_ne.mpr c11
          by_cases c12 : t406 = 78
          ·rw [if_pos c12] at H
           obtain ⟨c12b0, c12b1⟩ := eqs c12
           clear c12
           obtain rfl := Option.some.inj H
           go_enter Tryd.func29, Tryd.ntmps29
           go_wp2_with (first | ((with_reducible refine gate_callee (f := 43) rfl ?_); refine goesL_ (some 4) rfl rfl Tryd.func43 (by kernel_rfl) rfl #[.int .i64 a0] rfl ga ?_; (with_reducible refine (spinnakerref03_letter.calls a0 t406 _ A2.out).mono ?_); rintro e w' ⟨rfl, ⟨nd, rfl⟩⟩; refine ⟨_, rfl, ?_⟩))
           go_ret
           exact ⟨fj, fd⟩
          ·rw [if_neg c12] at H
           have c12b0 : (t406 == 78) = false := beq_eq_false_iff_ne.mpr c12
           have c12b1 : (t406 != 78) = true := bne_iff_ne.mpr c12
           by_cases c13 : t406 = 76
           ·rw [if_pos c13] at H
            obtain ⟨c13b0, c13b1⟩ := eqs c13
            clear c13
            obtain rfl := Option.some.inj H
            go_enter Tryd.func29, Tryd.ntmps29
            go_wp2_with (first | ((with_reducible refine gate_callee (f := 43) rfl ?_); refine goesL_ (some 4) rfl rfl Tryd.func43 (by kernel_rfl) rfl #[.int .i64 a0] rfl ga ?_; (with_reducible refine (spinnakerref03_letter.calls a0 t406 _ A2.out).mono ?_); rintro e w' ⟨rfl, ⟨nd, rfl⟩⟩; refine ⟨_, rfl, ?_⟩))
            go_ret
            exact ⟨fj, fd⟩
           ·rw [if_neg c13] at H
            have c13b0 : (t406 == 76) = false := beq_eq_false_iff_ne.mpr c13
            have c13b1 : (t406 != 76) = true := bne_iff_ne.mpr c13
            by_cases c14 : t406 = 65
            ·rw [if_pos c14] at H
             obtain ⟨c14b0, c14b1⟩ := eqs c14
             clear c14
             obtain rfl := Option.some.inj H
             go_enter Tryd.func29, Tryd.ntmps29
             go_wp2_with (first | ((with_reducible refine gate_callee (f := 43) rfl ?_); refine goesL_ (some 4) rfl rfl Tryd.func43 (by kernel_rfl) rfl #[.int .i64 a0] rfl ga ?_; (with_reducible refine (spinnakerref03_letter.calls a0 t406 _ A2.out).mono ?_); rintro e w' ⟨rfl, ⟨nd, rfl⟩⟩; refine ⟨_, rfl, ?_⟩))
             go_ret
             exact ⟨fj, fd⟩
            ·rw [if_neg c14] at H
             have c14b0 : (t406 == 65) = false := beq_eq_false_iff_ne.mpr c14
             have c14b1 : (t406 != 65) = true := bne_iff_ne.mpr c14
             obtain rfl := Option.some.inj H
             go_enter Tryd.func29, Tryd.ntmps29
             go_wp2_with (first | ((with_reducible refine gate_callee (f := 43) rfl ?_); refine goesL_ (some 4) rfl rfl Tryd.func43 (by kernel_rfl) rfl #[.int .i64 a0] rfl ga ?_; (with_reducible refine (spinnakerref03_letter.calls a0 t406 _ A2.out).mono ?_); rintro e w' ⟨rfl, ⟨nd, rfl⟩⟩; refine ⟨_, rfl, ?_⟩))
             go_ret
             exact ⟨fj, fd⟩

/-! ### spinnakerref01_Bit: function 35 -/
def spinnakerref01_Bit.l0 : Nat → Int → Int → Int → Option (Int)
  | 0, _, _, _ => none
  | k + 1, x0, x1, x5 => if x5 < x1 then (spinnakerref01_Bit.l0 k (IntKind.u64.wrap (Int.tdiv x0 2)) x1 (wrap64 (x5 + 1))) else (some (wrap64 (Int.tmod x0 2)))
def spinnakerref01_Bit.f (k : Nat) (a0 : Int) (a1 : Int) : Option (Int) := spinnakerref01_Bit.l0 k a0 a1 0
theorem spinnakerref01_Bit.mono_l : ∀ k, (∀ y0 y1 y2, LeO (spinnakerref01_Bit.l0 k y0 y1 y2) (spinnakerref01_Bit.l0 (k + 1) y0 y1 y2))
 | 0 => fun _ _ _ r h => by simp [spinnakerref01_Bit.l0] at h
 | k + 1 => by
  have ih0 := spinnakerref01_Bit.mono_l k
  ·intro y0 y1 y2
   unfold spinnakerref01_Bit.l0
   repeat' first | (with_reducible first | exact ih0 _ _ _ | exact LeO.refl _ | exact LeO.none _ | refine LeO.ite ?_ ?_ | refine LeO.bind ?_ (fun _ => ?_)) | exact ih0 _ _ _ | exact LeO.none _ | refine LeO.ite ?_ ?_ | refine LeO.bind ?_ (fun _ => ?_)
theorem spinnakerref01_Bit.mono : ∀ a0 a1 k, LeO (spinnakerref01_Bit.f k a0 a1) (spinnakerref01_Bit.f (k + 1) a0 a1) := by
 intro a0 a1 k
 have ih0 := spinnakerref01_Bit.mono_l k
 unfold spinnakerref01_Bit.f
 repeat' first | (with_reducible first | exact ih0 _ _ _ | exact LeO.refl _ | exact LeO.none _ | refine LeO.ite ?_ ?_ | refine LeO.bind ?_ (fun _ => ?_)) | exact ih0 _ _ _ | exact LeO.none _ | refine LeO.ite ?_ ?_ | refine LeO.bind ?_ (fun _ => ?_)
set_option maxHeartbeats 8000000 in
set_option maxRecDepth 100000 in
theorem spinnakerref01_Bit.calls (k : Nat) (a0 : Int) (a1 : Int) (r : Int) (w : World) (h : spinnakerref01_Bit.f k a0 a1 = some r) :
  Calls Tryd.prog 35 #[.int .u64 a0, .int .i64 a1] w fun e w' => e = .returned (.int .i64 r) ∧ Drawn0 w w' := by
 have H : (spinnakerref01_Bit.l0 k a0 a1 0) = some r := h
 clear h
 have H' := Aside0.mk H
 clear H
 go_enter Tryd.func35, Tryd.ntmps35
 go_wp2
 go_loopg [0, 5] k (fun kq v0 v5 w' => ∃ (x0_1 : Int) (x5_1 : Int), v0 = .int .u64 x0_1 ∧ v5 = .int .i64 x5_1 ∧ Aside0 (spinnakerref01_Bit.l0 kq x0_1 a1 x5_1 = some r) ∧ Aside0 (kq ≤ k) ∧ Drawn0 w w')
 case atStart => exact ⟨(a0), (0), fj, fj, H', ⟨Nat.le_refl _⟩, fd⟩
 case round =>
  clear H'
  try clear p2
  obtain ⟨x0_1, x5_1, rfl, rfl, HA, HK1, ⟨m1, rfl⟩⟩ := hrel
  cases gk with
  | zero => exact absurd HA.out (by simp [spinnakerref01_Bit.l0])
  | succ k1 =>
   have H := HA.out
   clear HA
   simp only [spinnakerref01_Bit.l0] at H
   by_cases c3 : x5_1 < a1
   ·rw [if_pos c3] at H
    have c3b0 := decide_eq_true c3
    clear c3
    have H' := Aside0.mk H
    clear H
    go_wp2
    go_roundg k1
    case measure => have := HK1.out; omega
    case rel => exact ⟨(IntKind.u64.wrap (Int.tdiv x0_1 2)), (wrap64 (x5_1 + 1)), fj, fj, H', ⟨by have := HK1.out; omega⟩, fd⟩
   ·rw [if_neg c3] at H
    have c3b0 := decide_eq_false c3
    clear c3
    obtain rfl := Option.some.inj H
    go_wp2
    go_ret
    exact ⟨fj, fd⟩

/-! ### spinnakerref05_bits: function 32 -/
def spinnakerref05_bits.l0 : Nat → Int → Int → Int → Int → Int → Int → Option (Int)
  | 0, _, _, _, _, _, _ => none
  | k + 1, x0, x1, x2, x3, x9, x10 => if x10 < x2 then ((spinnakerref01_Bit.f k (IntKind.u64.wrap (x0)) (wrap64 (x1 + x10))).bind fun t407 => ((spinnakerref01_Power.f k (wrap64 (x3 + x10))).bind fun t408 => (spinnakerref05_bits.l0 k x0 x1 x2 x3 (wrap64 (x9 + (wrap64 (t407 * (wrap64 (t408)))))) (wrap64 (x10 + 1))))) else (some x9)
def spinnakerref05_bits.f (k : Nat) (a0 : Int) (a1 : Int) (a2 : Int) (a3 : Int) : Option (Int) := spinnakerref05_bits.l0 k a0 a1 a2 a3 0 0
theorem spinnakerref05_bits.mono_l : ∀ k, (∀ y0 y1 y2 y3 y4 y5, LeO (spinnakerref05_bits.l0 k y0 y1 y2 y3 y4 y5) (spinnakerref05_bits.l0 (k + 1) y0 y1 y2 y3 y4 y5))
 | 0 => fun _ _ _ _ _ _ r h => by simp [spinnakerref05_bits.l0] at h
 | k + 1 => by
  have ih0 := spinnakerref05_bits.mono_l k
  ·intro y0 y1 y2 y3 y4 y5
   unfold spinnakerref05_bits.l0
   repeat' first | (with_reducible first | exact ih0 _ _ _ _ _ _ | exact spinnakerref01_Bit.mono _ _ _ | exact spinnakerref01_Power.mono _ _ | exact LeO.refl _ | exact LeO.none _ | refine LeO.ite ?_ ?_ | refine LeO.bind ?_ (fun _ => ?_)) | exact ih0 _ _ _ _ _ _ | exact spinnakerref01_Bit.mono _ _ _ | exact spinnakerref01_Power.mono _ _ | exact LeO.none _ | refine LeO.ite ?_ ?_ | refine LeO.bind ?_ (fun _ => ?_)
theorem spinnakerref05_bits.mono : ∀ a0 a1 a2 a3 k, LeO (spinnakerref05_bits.f k a0 a1 a2 a3) (spinnakerref05_bits.f (k + 1) a0 a1 a2 a3) := by
 intro a0 a1 a2 a3 k
 have ih0 := spinnakerref05_bits.mono_l k
 unfold spinnakerref05_bits.f
 repeat' first | (with_reducible first | exact ih0 _ _ _ _ _ _ | exact spinnakerref01_Bit.mono _ _ _ | exact spinnakerref01_Power.mono _ _ | exact LeO.refl _ | exact LeO.none _ | refine LeO.ite ?_ ?_ | refine LeO.bind ?_ (fun _ => ?_)) | exact ih0 _ _ _ _ _ _ | exact spinnakerref01_Bit.mono _ _ _ | exact spinnakerref01_Power.mono _ _ | exact LeO.none _ | refine LeO.ite ?_ ?_ | refine LeO.bind ?_ (fun _ => ?_)
set_option maxHeartbeats 8000000 in
set_option maxRecDepth 100000 in
theorem spinnakerref05_bits.calls (k : Nat) (a0 : Int) (a1 : Int) (a2 : Int) (a3 : Int) (r : Int) (w : World) (h : spinnakerref05_bits.f k a0 a1 a2 a3 = some r) :
  Calls Tryd.prog 32 #[.int .u32 a0, .int .i64 a1, .int .i64 a2, .int .i64 a3] w fun e w' => e = .returned (.int .i64 r) ∧ Drawn0 w w' := by
 have H : (spinnakerref05_bits.l0 k a0 a1 a2 a3 0 0) = some r := h
 clear h
 have H' := Aside0.mk H
 clear H
 go_enter Tryd.func32, Tryd.ntmps32
 go_wp2
 go_loopg [9, 10] k (fun kq v9 v10 w' => ∃ (x9_1 : Int) (x10_1 : Int), v9 = .int .i64 x9_1 ∧ v10 = .int .i64 x10_1 ∧ Aside0 (spinnakerref05_bits.l0 kq a0 a1 a2 a3 x9_1 x10_1 = some r) ∧ Aside0 (kq ≤ k) ∧ Drawn0 w w')
 case atStart => exact ⟨(0), (0), fj, fj, H', ⟨Nat.le_refl _⟩, fd⟩
 case round =>
  clear H'
  try clear p2
  try clear c3
  obtain ⟨x9_1, x10_1, rfl, rfl, HA, HK1, ⟨m1, rfl⟩⟩ := hrel
  cases gk with
  | zero => exact absurd HA.out (by simp [spinnakerref05_bits.l0])
  | succ k1 =>
   have H := HA.out
   clear HA
   simp only [spinnakerref05_bits.l0] at H
   by_cases c5 : x10_1 < a2
   ·rw [if_pos c5] at H
    have c5b0 := decide_eq_true c5
    clear c5
    replace H := be H
    obtain ⟨t407, A6, H⟩ := H
    replace H := be H
    obtain ⟨t408, A7, H⟩ := H
    have H' := Aside0.mk H
    clear H
    go_wp2_with (first | ((with_reducible refine gate_callee (f := 35) rfl ?_); refine goesL_ (some 22) rfl rfl Tryd.func35 (by kernel_rfl) rfl #[.int .u64 (IntKind.u64.wrap (a0)), .int .i64 (wrap64 (a1 + x10_1))] rfl ga ?_; (with_reducible refine (spinnakerref01_Bit.calls k1 (IntKind.u64.wrap (a0)) (wrap64 (a1 + x10_1)) t407 _ A6.out).mono ?_); rintro e w' ⟨rfl, ⟨nd, rfl⟩⟩; refine ⟨_, rfl, ?_⟩) | ((with_reducible refine gate_callee (f := 62) rfl ?_); refine goesL_ (some 26) rfl rfl Tryd.func62 (by kernel_rfl) rfl #[.int .i64 (wrap64 (a3 + x10_1))] rfl ga ?_; (with_reducible refine (spinnakerref01_Power.calls k1 (wrap64 (a3 + x10_1)) t408 _ A7.out).mono ?_); rintro e w' ⟨rfl, ⟨nd, rfl⟩⟩; refine ⟨_, rfl, ?_⟩))
    go_roundg k1
    case measure => have := HK1.out; omega
    case rel => exact ⟨(wrap64 (x9_1 + (wrap64 (t407 * (wrap64 (t408)))))), (wrap64 (x10_1 + 1)), fj, fj, H', ⟨by have := HK1.out; omega⟩, fd⟩
   ·rw [if_neg c5] at H
    have c5b0 := decide_eq_false c5
    clear c5
    obtain rfl := Option.some.inj H
    go_wp2
    go_ret
    exact ⟨fj, fd⟩

/-! ### spinnakerref01_Sign: function 61 -/
def spinnakerref01_Sign.l0 : Nat → Int → Int → Int → Int → Int → Option (Int)
  | 0, _, _, _, _, _ => none
  | k + 1, x0, x1, x5, x6, x7 => if x7 < (wrap64 (x1 - 1)) then ((spinnakerref01_Bit.f k x0 x7).bind fun t409 => (spinnakerref01_Sign.l0 k x0 x1 (wrap64 (x5 + (wrap64 (x6 * t409)))) (wrap64 (2 * x6)) (wrap64 (x7 + 1)))) else ((spinnakerref01_Bit.f k x0 (wrap64 (x1 - 1))).bind fun t410 => (some (wrap64 (x5 - (wrap64 (x6 * t410))))))
def spinnakerref01_Sign.f (k : Nat) (a0 : Int) (a1 : Int) : Option (Int) := spinnakerref01_Sign.l0 k a0 a1 0 1 0
theorem spinnakerref01_Sign.mono_l : ∀ k, (∀ y0 y1 y2 y3 y4, LeO (spinnakerref01_Sign.l0 k y0 y1 y2 y3 y4) (spinnakerref01_Sign.l0 (k + 1) y0 y1 y2 y3 y4))
 | 0 => fun _ _ _ _ _ r h => by simp [spinnakerref01_Sign.l0] at h
 | k + 1 => by
  have ih0 := spinnakerref01_Sign.mono_l k
  ·intro y0 y1 y2 y3 y4
   unfold spinnakerref01_Sign.l0
   repeat' first | (with_reducible first | exact ih0 _ _ _ _ _ | exact spinnakerref01_Bit.mono _ _ _ | exact LeO.refl _ | exact LeO.none _ | refine LeO.ite ?_ ?_ | refine LeO.bind ?_ (fun _ => ?_)) | exact ih0 _ _ _ _ _ | exact spinnakerref01_Bit.mono _ _ _ | exact LeO.none _ | refine LeO.ite ?_ ?_ | refine LeO.bind ?_ (fun _ => ?_)
theorem spinnakerref01_Sign.mono : ∀ a0 a1 k, LeO (spinnakerref01_Sign.f k a0 a1) (spinnakerref01_Sign.f (k + 1) a0 a1) := by
 intro a0 a1 k
 have ih0 := spinnakerref01_Sign.mono_l k
 unfold spinnakerref01_Sign.f
 repeat' first | (with_reducible first | exact ih0 _ _ _ _ _ | exact spinnakerref01_Bit.mono _ _ _ | exact LeO.refl _ | exact LeO.none _ | refine LeO.ite ?_ ?_ | refine LeO.bind ?_ (fun _ => ?_)) | exact ih0 _ _ _ _ _ | exact spinnakerref01_Bit.mono _ _ _ | exact LeO.none _ | refine LeO.ite ?_ ?_ | refine LeO.bind ?_ (fun _ => ?_)
set_option maxHeartbeats 8000000 in
set_option maxRecDepth 100000 in
theorem spinnakerref01_Sign.calls (k : Nat) (a0 : Int) (a1 : Int) (r : Int) (w : World) (h : spinnakerref01_Sign.f k a0 a1 = some r) :
  Calls Tryd.prog 61 #[.int .u64 a0, .int .i64 a1] w fun e w' => e = .returned (.int .i64 r) ∧ Drawn0 w w' := by
 have H : (spinnakerref01_Sign.l0 k a0 a1 0 1 0) = some r := h
 clear h
 have H' := Aside0.mk H
 clear H
 go_enter Tryd.func61, Tryd.ntmps61
 go_wp2
 go_loopg [5, 6, 7] k (fun kq v5 v6 v7 w' => ∃ (x5_1 : Int) (x6_1 : Int) (x7_1 : Int), v5 = .int .i64 x5_1 ∧ v6 = .int .i64 x6_1 ∧ v7 = .int .i64 x7_1 ∧ Aside0 (spinnakerref01_Sign.l0 kq a0 a1 x5_1 x6_1 x7_1 = some r) ∧ Aside0 (kq ≤ k) ∧ Drawn0 w w')
 case atStart => exact ⟨(0), (1), (0), fj, fj, fj, H', ⟨Nat.le_refl _⟩, fd⟩
 case round =>
  clear H'
  try clear p2
  obtain ⟨x5_1, x6_1, x7_1, rfl, rfl, rfl, HA, HK1, ⟨m1, rfl⟩⟩ := hrel
  cases gk with
  | zero => exact absurd HA.out (by simp [spinnakerref01_Sign.l0])
  | succ k1 =>
   have H := HA.out
   clear HA
   simp only [spinnakerref01_Sign.l0] at H
   by_cases c3 : x7_1 < (wrap64 (a1 - 1))
   ·rw [if_pos c3] at H
    have c3b0 := decide_eq_true c3
    clear c3
    replace H := be H
    obtain ⟨t409, A4, H⟩ := H
    have H' := Aside0.mk H
    clear H
    go_wp2_with (first | ((with_reducible refine gate_callee (f := 35) rfl ?_); refine goesL_ (some 18) rfl rfl Tryd.func35 (by kernel_rfl) rfl #[.int .u64 a0, .int .i64 x7_1] rfl ga ?_; (with_reducible refine (spinnakerref01_Bit.calls k1 a0 x7_1 t409 _ A4.out).mono ?_); rintro e w' ⟨rfl, ⟨nd, rfl⟩⟩; refine ⟨_, rfl, ?_⟩))
    go_roundg k1
    case measure => have := HK1.out; omega
    case rel => exact ⟨(wrap64 (x5_1 + (wrap64 (x6_1 * t409)))), (wrap64 (2 * x6_1)), (wrap64 (x7_1 + 1)), fj, fj, fj, H', ⟨by have := HK1.out; omega⟩, fd⟩
   ·rw [if_neg c3] at H
    have c3b0 := decide_eq_false c3
    clear c3
    replace H := be H
    obtain ⟨t410, A5, H⟩ := H
    obtain rfl := Option.some.inj H
    go_wp2_with (first | ((with_reducible refine gate_callee (f := 35) rfl ?_); refine goesL_ (some 28) rfl rfl Tryd.func35 (by kernel_rfl) rfl #[.int .u64 a0, .int .i64 (wrap64 (a1 - 1))] rfl ga ?_; (with_reducible refine (spinnakerref01_Bit.calls k1 a0 (wrap64 (a1 - 1)) t410 _ A5.out).mono ?_); rintro e w' ⟨rfl, ⟨nd, rfl⟩⟩; refine ⟨_, rfl, ?_⟩))
    go_ret
    exact ⟨fj, fd⟩

/-! ### spinnakerref05_imm: function 30 -/
def spinnakerref05_imm.f (k : Nat) (a0 : Int) (a1 : Int) : Option (Int) := if a1 = 1 then ((spinnakerref05_bits.f k a0 12 20 0).bind fun t411 => ((spinnakerref01_Sign.f k (IntKind.u64.wrap (t411)) 20).bind fun t412 => (some t412))) else (if a1 = 2 then ((spinnakerref05_bits.f k a0 31 1 20).bind fun t413 => ((spinnakerref05_bits.f k a0 21 10 1).bind fun t414 => ((spinnakerref05_bits.f k a0 20 1 11).bind fun t415 => ((spinnakerref05_bits.f k a0 12 8 12).bind fun t416 => ((spinnakerref01_Sign.f k (IntKind.u64.wrap (wrap64 ((wrap64 ((wrap64 (t413 + t414)) + t415)) + t416))) 21).bind fun t417 => (some t417)))))) else (if a1 = 3 then ((spinnakerref05_bits.f k a0 20 12 0).bind fun t418 => ((spinnakerref01_Sign.f k (IntKind.u64.wrap (t418)) 12).bind fun t419 => (some t419))) else (if a1 = 4 then ((spinnakerref05_bits.f k a0 31 1 12).bind fun t420 => ((spinnakerref05_bits.f k a0 25 6 5).bind fun t421 => ((spinnakerref05_bits.f k a0 8 4 1).bind fun t422 => ((spinnakerref05_bits.f k a0 7 1 11).bind fun t423 => ((spinnakerref01_Sign.f k (IntKind.u64.wrap (wrap64 ((wrap64 ((wrap64 (t420 + t421)) + t422)) + t423))) 13).bind fun t424 => (some t424)))))) else (if a1 = 5 then ((spinnakerref05_bits.f k a0 25 7 5).bind fun t425 => ((spinnakerref05_bits.f k a0 7 5 0).bind fun t426 => ((spinnakerref01_Sign.f k (IntKind.u64.wrap (wrap64 (t425 + t426))) 12).bind fun t427 => (some t427)))) else (if a1 = 7 then ((spinnakerref05_bits.f k a0 20 6 0).bind fun t428 => (some t428)) else (if a1 = 8 then ((spinnakerref05_bits.f k a0 20 5 0).bind fun t429 => (some t429)) else (if a1 = 9 then ((spinnakerref05_bits.f k a0 20 8 0).bind fun t430 => (some t430)) else (some 0))))))))
theorem spinnakerref05_imm.mono : ∀ a0 a1 k, LeO (spinnakerref05_imm.f k a0 a1) (spinnakerref05_imm.f (k + 1) a0 a1) := by
 intro a0 a1 k
 unfold spinnakerref05_imm.f
 repeat' first | (with_reducible first | exact spinnakerref01_Sign.mono _ _ _ | exact spinnakerref05_bits.mono _ _ _ _ _ | exact LeO.refl _ | exact LeO.none _ | refine LeO.ite ?_ ?_ | refine LeO.bind ?_ (fun _ => ?_)) | exact spinnakerref01_Sign.mono _ _ _ | exact spinnakerref05_bits.mono _ _ _ _ _ | exact LeO.none _ | refine LeO.ite ?_ ?_ | refine LeO.bind ?_ (fun _ => ?_)
set_option maxHeartbeats 8000000 in
set_option maxRecDepth 100000 in
theorem spinnakerref05_imm.calls (k : Nat) (a0 : Int) (a1 : Int) (r : Int) (w : World) (h : spinnakerref05_imm.f k a0 a1 = some r) :
  Calls Tryd.prog 30 #[.int .u32 a0, .int .i64 a1] w fun e w' => e = .returned (.int .i64 r) ∧ Drawn0 w w' := by
 have H : (if a1 = 1 then ((spinnakerref05_bits.f k a0 12 20 0).bind fun t411 => ((spinnakerref01_Sign.f k (IntKind.u64.wrap (t411)) 20).bind fun t412 => (some t412))) else (if a1 = 2 then ((spinnakerref05_bits.f k a0 31 1 20).bind fun t413 => ((spinnakerref05_bits.f k a0 21 10 1).bind fun t414 => ((spinnakerref05_bits.f k a0 20 1 11).bind fun t415 => ((spinnakerref05_bits.f k a0 12 8 12).bind fun t416 => ((spinnakerref01_Sign.f k (IntKind.u64.wrap (wrap64 ((wrap64 ((wrap64 (t413 + t414)) + t415)) + t416))) 21).bind fun t417 => (some t417)))))) else (if a1 = 3 then ((spinnakerref05_bits.f k a0 20 12 0).bind fun t418 => ((spinnakerref01_Sign.f k (IntKind.u64.wrap (t418)) 12).bind fun t419 => (some t419))) else (if a1 = 4 then ((spinnakerref05_bits.f k a0 31 1 12).bind fun t420 => ((spinnakerref05_bits.f k a0 25 6 5).bind fun t421 => ((spinnakerref05_bits.f k a0 8 4 1).bind fun t422 => ((spinnakerref05_bits.f k a0 7 1 11).bind fun t423 => ((spinnakerref01_Sign.f k (IntKind.u64.wrap (wrap64 ((wrap64 ((wrap64 (t420 + t421)) + t422)) + t423))) 13).bind fun t424 => (some t424)))))) else (if a1 = 5 then ((spinnakerref05_bits.f k a0 25 7 5).bind fun t425 => ((spinnakerref05_bits.f k a0 7 5 0).bind fun t426 => ((spinnakerref01_Sign.f k (IntKind.u64.wrap (wrap64 (t425 + t426))) 12).bind fun t427 => (some t427)))) else (if a1 = 7 then ((spinnakerref05_bits.f k a0 20 6 0).bind fun t428 => (some t428)) else (if a1 = 8 then ((spinnakerref05_bits.f k a0 20 5 0).bind fun t429 => (some t429)) else (if a1 = 9 then ((spinnakerref05_bits.f k a0 20 8 0).bind fun t430 => (some t430)) else (some 0))))))))) = some r := h
 clear h
 by_cases c3 : a1 = 1
 ·rw [if_pos c3] at H
  obtain ⟨c3b0, c3b1⟩ := eqs c3
  clear c3
  replace H := be H
  obtain ⟨t411, A4, H⟩ := H
  replace H := be H
  obtain ⟨t412, A5, H⟩ := H
  obtain rfl := Option.some.inj H
  go_enter Tryd.func30, Tryd.ntmps30
  go_wp2_with (first | ((with_reducible refine gate_callee (f := 32) rfl ?_); refine goesL_ (some 9) rfl rfl Tryd.func32 (by kernel_rfl) rfl #[.int .u32 a0, .int .i64 12, .int .i64 20, .int .i64 0] rfl ga ?_; (with_reducible refine (spinnakerref05_bits.calls k a0 12 20 0 t411 _ A4.out).mono ?_); rintro e w' ⟨rfl, ⟨nd, rfl⟩⟩; refine ⟨_, rfl, ?_⟩) | ((with_reducible refine gate_callee (f := 61) rfl ?_); refine goesL_ (some 11) rfl rfl Tryd.func61 (by kernel_rfl) rfl #[.int .u64 (IntKind.u64.wrap (t411)), .int .i64 20] rfl ga ?_; (with_reducible refine (spinnakerref01_Sign.calls k (IntKind.u64.wrap (t411)) 20 t412 _ A5.out).mono ?_); rintro e w' ⟨rfl, ⟨nd, rfl⟩⟩; refine ⟨_, rfl, ?_⟩))
  go_ret
  exact ⟨fj, fd⟩
 ·rw [if_neg c3] at H
  have c3b0 : (a1 == 1) = false := beq_eq_false_iff_ne.mpr c3
  have c3b1 : (a1 != 1) = true := bne_iff_ne.mpr c3
  by_cases c6 : a1 = 2
  ·rw [if_pos c6] at H
   obtain ⟨c6b0, c6b1⟩ := eqs c6
   clear c6
   replace H := be H
   obtain ⟨t413, A7, H⟩ := H
   replace H := be H
   obtain ⟨t414, A8, H⟩ := H
   replace H := be H
   obtain ⟨t415, A9, H⟩ := H
   replace H := be H
   obtain ⟨t416, A10, H⟩ := H
   replace H := be H
   obtain ⟨t417, A11, H⟩ := H
   obtain rfl := Option.some.inj H
   go_enter Tryd.func30, Tryd.ntmps30
   go_wp2_with (first | ((with_reducible refine gate_callee (f := 32) rfl ?_); refine goesL_ (some 15) rfl rfl Tryd.func32 (by kernel_rfl) rfl #[.int .u32 a0, .int .i64 31, .int .i64 1, .int .i64 20] rfl ga ?_; (with_reducible refine (spinnakerref05_bits.calls k a0 31 1 20 t413 _ A7.out).mono ?_); rintro e w' ⟨rfl, ⟨nd, rfl⟩⟩; refine ⟨_, rfl, ?_⟩) | ((with_reducible refine gate_callee (f := 32) rfl ?_); refine goesL_ (some 17) rfl rfl Tryd.func32 (by kernel_rfl) rfl #[.int .u32 a0, .int .i64 21, .int .i64 10, .int .i64 1] rfl ga ?_; (with_reducible refine (spinnakerref05_bits.calls k a0 21 10 1 t414 _ A8.out).mono ?_); rintro e w' ⟨rfl, ⟨nd, rfl⟩⟩; refine ⟨_, rfl, ?_⟩) | ((with_reducible refine gate_callee (f := 32) rfl ?_); refine goesL_ (some 20) rfl rfl Tryd.func32 (by kernel_rfl) rfl #[.int .u32 a0, .int .i64 20, .int .i64 1, .int .i64 11] rfl ga ?_; (with_reducible refine (spinnakerref05_bits.calls k a0 20 1 11 t415 _ A9.out).mono ?_); rintro e w' ⟨rfl, ⟨nd, rfl⟩⟩; refine ⟨_, rfl, ?_⟩) | ((with_reducible refine gate_callee (f := 32) rfl ?_); refine goesL_ (some 23) rfl rfl Tryd.func32 (by kernel_rfl) rfl #[.int .u32 a0, .int .i64 12, .int .i64 8, .int .i64 12] rfl ga ?_; (with_reducible refine (spinnakerref05_bits.calls k a0 12 8 12 t416 _ A10.out).mono ?_); rintro e w' ⟨rfl, ⟨nd, rfl⟩⟩; refine ⟨_, rfl, ?_⟩) | ((with_reducible refine gate_callee (f := 61) rfl ?_); refine goesL_ (some 26) rfl rfl Tryd.func61 (by kernel_rfl) rfl #[.int .u64 (IntKind.u64.wrap (wrap64 ((wrap64 ((wrap64 (t413 + t414)) + t415)) + t416))), .int .i64 21] rfl ga ?_; (with_reducible refine (spinnakerref01_Sign.calls k (IntKind.u64.wrap (wrap64 ((wrap64 ((wrap64 (t413 + t414)) + t415)) + t416))) 21 t417 _ A11.out).mono ?_); rintro e w' ⟨rfl, ⟨nd, rfl⟩⟩; refine ⟨_, rfl, ?_⟩))
   go_ret
   exact ⟨fj, fd⟩
  ·rw [if_neg c6] at H
   have c6b0 : (a1 == 2) = false := beq_eq_false_iff_ne.mpr c6
   have c6b1 : (a1 != 2) = true := bne_iff_ne.mpr c6
   by_cases c12 : a1 = 3
   ·rw [if_pos c12] at H
    obtain ⟨c12b0, c12b1⟩ := eqs c12
    clear c12
    replace H := be H
    obtain ⟨t418, A13, H⟩ := H
    replace H := be H
    obtain ⟨t419, A14, H⟩ := H
    obtain rfl := Option.some.inj H
    go_enter Tryd.func30, Tryd.ntmps30
    go_wp2_with (first | ((with_reducible refine gate_callee (f := 32) rfl ?_); refine goesL_ (some 30) rfl rfl Tryd.func32 (by kernel_rfl) rfl #[.int .u32 a0, .int .i64 20, .int .i64 12, .int .i64 0] rfl ga ?_; (with_reducible refine (spinnakerref05_bits.calls k a0 20 12 0 t418 _ A13.out).mono ?_); rintro e w' ⟨rfl, ⟨nd, rfl⟩⟩; refine ⟨_, rfl, ?_⟩) | ((with_reducible refine gate_callee (f := 61) rfl ?_); refine goesL_ (some 32) rfl rfl Tryd.func61 (by kernel_rfl) rfl #[.int .u64 (IntKind.u64.wrap (t418)), .int .i64 12] rfl ga ?_; (with_reducible refine (spinnakerref01_Sign.calls k (IntKind.u64.wrap (t418)) 12 t419 _ A14.out).mono ?_); rintro e w' ⟨rfl, ⟨nd, rfl⟩⟩; refine ⟨_, rfl, ?_⟩))
    go_ret
    exact ⟨fj, fd⟩
   ·rw [if_neg c12] at H
    have c12b0 : (a1 == 3) = false := beq_eq_false_iff_ne.mpr c12
    have c12b1 : (a1 != 3) = true := bne_iff_ne.mpr c12
    by_cases c15 : a1 = 4
    ·rw [if_pos c15] at H
     obtain ⟨c15b0, c15b1⟩ := eqs c15
     clear c15
     replace H := be H
     obtain ⟨t420, A16, H⟩ := H
     replace H := be H
     obtain ⟨t421, A17, H⟩ := H
     replace H := be H
     obtain ⟨t422, A18, H⟩ := H
     replace H := be H
     obtain ⟨t423, A19, H⟩ := H
     replace H := be H
     obtain ⟨t424, A20, H⟩ := H
     obtain rfl := Option.some.inj H
     go_enter Tryd.func30, Tryd.ntmps30
     go_wp2_with (first | ((with_reducible refine gate_callee (f := 32) rfl ?_); refine goesL_ (some 36) rfl rfl Tryd.func32 (by kernel_rfl) rfl #[.int .u32 a0, .int .i64 31, .int .i64 1, .int .i64 12] rfl ga ?_; (with_reducible refine (spinnakerref05_bits.calls k a0 31 1 12 t420 _ A16.out).mono ?_); rintro e w' ⟨rfl, ⟨nd, rfl⟩⟩; refine ⟨_, rfl, ?_⟩) | ((with_reducible refine gate_callee (f := 32) rfl ?_); refine goesL_ (some 38) rfl rfl Tryd.func32 (by kernel_rfl) rfl #[.int .u32 a0, .int .i64 25, .int .i64 6, .int .i64 5] rfl ga ?_; (with_reducible refine (spinnakerref05_bits.calls k a0 25 6 5 t421 _ A17.out).mono ?_); rintro e w' ⟨rfl, ⟨nd, rfl⟩⟩; refine ⟨_, rfl, ?_⟩) | ((with_reducible refine gate_callee (f := 32) rfl ?_); refine goesL_ (some 41) rfl rfl Tryd.func32 (by kernel_rfl) rfl #[.int .u32 a0, .int .i64 8, .int .i64 4, .int .i64 1] rfl ga ?_; (with_reducible refine (spinnakerref05_bits.calls k a0 8 4 1 t422 _ A18.out).mono ?_); rintro e w' ⟨rfl, ⟨nd, rfl⟩⟩; refine ⟨_, rfl, ?_⟩) | ((with_reducible refine gate_callee (f := 32) rfl ?_); refine goesL_ (some 44) rfl rfl Tryd.func32 (by kernel_rfl) rfl #[.int .u32 a0, .int .i64 7, .int .i64 1, .int .i64 11] rfl ga ?_; (with_reducible refine (spinnakerref05_bits.calls k a0 7 1 11 t423 _ A19.out).mono ?_); rintro e w' ⟨rfl, ⟨nd, rfl⟩⟩; refine ⟨_, rfl, ?_⟩) | ((with_reducible refine gate_callee (f := 61) rfl ?_); refine goesL_ (some 47) rfl rfl Tryd.func61 (by kernel_rfl) rfl #[.int .u64 (IntKind.u64.wrap (wrap64 ((wrap64 ((wrap64 (t420 + t421)) + t422)) + t423))), .int .i64 13] rfl ga ?_; (with_reducible refine (spinnakerref01_Sign.calls k (IntKind.u64.wrap (wrap64 ((wrap64 ((wrap64 (t420 + t421)) + t422)) + t423))) 13 t424 _ A20.out).mono ?_); rintro e w' ⟨rfl, ⟨nd, rfl⟩⟩; refine ⟨_, rfl, ?_⟩))
     go_ret
     exact ⟨fj, fd⟩
    ·rw [if_neg c15] at H
     have c15b0 : (a1 == 4) = false := beq_eq_false_iff_ne.mpr c15
     have c15b1 : (a1 != 4) = true := bne_iff_ne.mpr c15
     by_cases c21 : a1 = 5
     ·rw [if_pos c21] at H
      obtain ⟨c21b0, c21b1⟩ := eqs c21
      clear c21
      replace H := be H
      obtain ⟨t425, A22, H⟩ := H
      replace H := be H
      obtain ⟨t426, A23, H⟩ := H
      replace H := be H
      obtain ⟨t427, A24, H⟩ := H
      obtain rfl := Option.some.inj H
      go_enter Tryd.func30, Tryd.ntmps30
      go_wp2_with (first | ((with_reducible refine gate_callee (f := 32) rfl ?_); refine goesL_ (some 51) rfl rfl Tryd.func32 (by kernel_rfl) rfl #[.int .u32 a0, .int .i64 25, .int .i64 7, .int .i64 5] rfl ga ?_; (with_reducible refine (spinnakerref05_bits.calls k a0 25 7 5 t425 _ A22.out).mono ?_); rintro e w' ⟨rfl, ⟨nd, rfl⟩⟩; refine ⟨_, rfl, ?_⟩) | ((with_reducible refine gate_callee (f := 32) rfl ?_); refine goesL_ (some 53) rfl rfl Tryd.func32 (by kernel_rfl) rfl #[.int .u32 a0, .int .i64 7, .int .i64 5, .int .i64 0] rfl ga ?_; (with_reducible refine (spinnakerref05_bits.calls k a0 7 5 0 t426 _ A23.out).mono ?_); rintro e w' ⟨rfl, ⟨nd, rfl⟩⟩; refine ⟨_, rfl, ?_⟩) | ((with_reducible refine gate_callee (f := 61) rfl ?_); refine goesL_ (some 56) rfl rfl Tryd.func61 (by kernel_rfl) rfl #[.int .u64 (IntKind.u64.wrap (wrap64 (t425 + t426))), .int .i64 12] rfl ga ?_; (with_reducible refine (spinnakerref01_Sign.calls k (IntKind.u64.wrap (wrap64 (t425 + t426))) 12 t427 _ A24.out).mono ?_); rintro e w' ⟨rfl, ⟨nd, rfl⟩⟩; refine ⟨_, rfl, ?_⟩))
      go_ret
      exact ⟨fj, fd⟩
     ·rw [if_neg c21] at H
      have c21b0 : (a1 == 5) = false := beq_eq_false_iff_ne.mpr c21
      have c21b1 : (a1 != 5) = true := bne_iff_ne.mpr c21
      by_cases c25 : a1 = 7
      ·rw [if_pos c25] at H
       obtain ⟨c25b0, c25b1⟩ := eqs c25
       clear c25
       replace H := be H
       obtain ⟨t428, A26, H⟩ := H
       obtain rfl := Option.some.inj H
       go_enter Tryd.func30, Tryd.ntmps30
       go_wp2_with (first | ((with_reducible refine gate_callee (f := 32) rfl ?_); refine goesL_ (some 60) rfl rfl Tryd.func32 (by kernel_rfl) rfl #[.int .u32 a0, .int .i64 20, .int .i64 6, .int .i64 0] rfl ga ?_; (with_reducible refine (spinnakerref05_bits.calls k a0 20 6 0 t428 _ A26.out).mono ?_); rintro e w' ⟨rfl, ⟨nd, rfl⟩⟩; refine ⟨_, rfl, ?_⟩))
       go_ret
       exact ⟨fj, fd⟩
      ·rw [if_neg c25] at H
       have c25b0 : (a1 == 7) = false := beq_eq_false_iff_ne.mpr c25
       have c25b1 : (a1 != 7) = true := bne_iff_ne.mpr c25
       by_cases c27 : a1 = 8
       ·rw [if_pos c27] at H
        obtain ⟨c27b0, c27b1⟩ := eqs c27
        clear c27
        replace H := be H
        obtain ⟨t429, A28, H⟩ := H
        obtain rfl := Option.some.inj H
        go_enter Tryd.func30, Tryd.ntmps30
        go_wp2_with (first | ((with_reducible refine gate_callee (f := 32) rfl ?_); refine goesL_ (some 64) rfl rfl Tryd.func32 (by kernel_rfl) rfl #[.int .u32 a0, .int .i64 20, .int .i64 5, .int .i64 0] rfl ga ?_; (with_reducible refine (spinnakerref05_bits.calls k a0 20 5 0 t429 _ A28.out).mono ?_); rintro e w' ⟨rfl, ⟨nd, rfl⟩⟩; refine ⟨_, rfl, ?_⟩))
        go_ret
        exact ⟨fj, fd⟩
       ·rw [if_neg c27] at H
        have c27b0 : (a1 == 8) = false := beq_eq_false_iff_ne.mpr c27
        have c27b1 : (a1 != 8) = true := bne_iff_ne.mpr c27
        by_cases c29 : a1 = 9
        ·rw [if_pos c29] at H
         obtain ⟨c29b0, c29b1⟩ := eqs c29
         clear c29
         replace H := be H
         obtain ⟨t430, A30, H⟩ := H
         obtain rfl := Option.some.inj H
         go_enter Tryd.func30, Tryd.ntmps30
         go_wp2_with (first | ((with_reducible refine gate_callee (f := 32) rfl ?_); refine goesL_ (some 68) rfl rfl Tryd.func32 (by kernel_rfl) rfl #[.int .u32 a0, .int .i64 20, .int .i64 8, .int .i64 0] rfl ga ?_; (with_reducible refine (spinnakerref05_bits.calls k a0 20 8 0 t430 _ A30.out).mono ?_); rintro e w' ⟨rfl, ⟨nd, rfl⟩⟩; refine ⟨_, rfl, ?_⟩))
         go_ret
         exact ⟨fj, fd⟩
        ·rw [if_neg c29] at H
         have c29b0 : (a1 == 9) = false := beq_eq_false_iff_ne.mpr c29
         have c29b1 : (a1 != 9) = true := bne_iff_ne.mpr c29
         obtain rfl := Option.some.inj H
         go_enter Tryd.func30, Tryd.ntmps30
         go_wp2
         go_ret
         exact ⟨fj, fd⟩

/-! ### spinnakerref04_bits: function 63 -/
def spinnakerref04_bits.l0 : Nat → Int → Int → Int → Int → Int → Int → Option (Int)
  | 0, _, _, _, _, _, _ => none
  | k + 1, x0, x1, x2, x3, x9, x10 => if x10 < x2 then ((spinnakerref01_Bit.f k (IntKind.u64.wrap (x0)) (wrap64 (x1 + x10))).bind fun t431 => (if t431 = 1 then ((spinnakerref01_Power.f k (wrap64 (x3 + x10))).bind fun t432 => (spinnakerref04_bits.l0 k x0 x1 x2 x3 (IntKind.u64.wrap (x9 + t432)) (wrap64 (x10 + 1)))) else (spinnakerref04_bits.l0 k x0 x1 x2 x3 x9 (wrap64 (x10 + 1))))) else (some ((x9) % 4294967296))
def spinnakerref04_bits.f (k : Nat) (a0 : Int) (a1 : Int) (a2 : Int) (a3 : Int) : Option (Int) := spinnakerref04_bits.l0 k a0 a1 a2 a3 0 0
theorem spinnakerref04_bits.mono_l : ∀ k, (∀ y0 y1 y2 y3 y4 y5, LeO (spinnakerref04_bits.l0 k y0 y1 y2 y3 y4 y5) (spinnakerref04_bits.l0 (k + 1) y0 y1 y2 y3 y4 y5))
 | 0 => fun _ _ _ _ _ _ r h => by simp [spinnakerref04_bits.l0] at h
 | k + 1 => by
  have ih0 := spinnakerref04_bits.mono_l k
  ·intro y0 y1 y2 y3 y4 y5
   unfold spinnakerref04_bits.l0
   repeat' first | (with_reducible first | exact ih0 _ _ _ _ _ _ | exact spinnakerref01_Bit.mono _ _ _ | exact spinnakerref01_Power.mono _ _ | exact LeO.refl _ | exact LeO.none _ | refine LeO.ite ?_ ?_ | refine LeO.bind ?_ (fun _ => ?_)) | exact ih0 _ _ _ _ _ _ | exact spinnakerref01_Bit.mono _ _ _ | exact spinnakerref01_Power.mono _ _ | exact LeO.none _ | refine LeO.ite ?_ ?_ | refine LeO.bind ?_ (fun _ => ?_)
theorem spinnakerref04_bits.mono : ∀ a0 a1 a2 a3 k, LeO (spinnakerref04_bits.f k a0 a1 a2 a3) (spinnakerref04_bits.f (k + 1) a0 a1 a2 a3) := by
 intro a0 a1 a2 a3 k
 have ih0 := spinnakerref04_bits.mono_l k
 unfold spinnakerref04_bits.f
 repeat' first | (with_reducible first | exact ih0 _ _ _ _ _ _ | exact spinnakerref01_Bit.mono _ _ _ | exact spinnakerref01_Power.mono _ _ | exact LeO.refl _ | exact LeO.none _ | refine LeO.ite ?_ ?_ | refine LeO.bind ?_ (fun _ => ?_)) | exact ih0 _ _ _ _ _ _ | exact spinnakerref01_Bit.mono _ _ _ | exact spinnakerref01_Power.mono _ _ | exact LeO.none _ | refine LeO.ite ?_ ?_ | refine LeO.bind ?_ (fun _ => ?_)
set_option maxHeartbeats 8000000 in
set_option maxRecDepth 100000 in
theorem spinnakerref04_bits.calls (k : Nat) (a0 : Int) (a1 : Int) (a2 : Int) (a3 : Int) (r : Int) (w : World) (h : spinnakerref04_bits.f k a0 a1 a2 a3 = some r) :
  Calls Tryd.prog 63 #[.int .i64 a0, .int .i64 a1, .int .i64 a2, .int .i64 a3] w fun e w' => e = .returned (.int .u32 r) ∧ Drawn0 w w' := by
 have H : (spinnakerref04_bits.l0 k a0 a1 a2 a3 0 0) = some r := h
 clear h
 have H' := Aside0.mk H
 clear H
 go_enter Tryd.func63, Tryd.ntmps63
 go_wp2
 go_loopg [9, 10] k (fun kq v9 v10 w' => ∃ (x9_1 : Int) (x10_1 : Int), v9 = .int .u64 x9_1 ∧ v10 = .int .i64 x10_1 ∧ Aside0 (spinnakerref04_bits.l0 kq a0 a1 a2 a3 x9_1 x10_1 = some r) ∧ Aside0 (kq ≤ k) ∧ Drawn0 w w')
 case atStart => exact ⟨(0), (0), fj, fj, H', ⟨Nat.le_refl _⟩, fd⟩
 case round =>
  clear H'
  try clear p2
  obtain ⟨x9_1, x10_1, rfl, rfl, HA, HK1, ⟨m1, rfl⟩⟩ := hrel
  cases gk with
  | zero => exact absurd HA.out (by simp [spinnakerref04_bits.l0])
  | succ k1 =>
   have H := HA.out
   clear HA
   simp only [spinnakerref04_bits.l0] at H
   by_cases c5 : x10_1 < a2
   ·rw [if_pos c5] at H
    have c5b0 := decide_eq_true c5
    clear c5
    replace H := be H
    obtain ⟨t431, A6, H⟩ := H
    by_cases c7 : t431 = 1
    ·rw [if_pos c7] at H
     obtain ⟨c7b0, c7b1⟩ := eqs c7
     clear c7
     replace H := be H
     obtain ⟨t432, A8, H⟩ := H
     have H' := Aside0.mk H
     clear H
     go_wp2_with (first | ((with_reducible refine gate_callee (f := 35) rfl ?_); refine goesL_ (some 21) rfl rfl Tryd.func35 (by kernel_rfl) rfl #[.int .u64 (IntKind.u64.wrap (a0)), .int .i64 (wrap64 (a1 + x10_1))] rfl ga ?_; (with_reducible refine (spinnakerref01_Bit.calls k1 (IntKind.u64.wrap (a0)) (wrap64 (a1 + x10_1)) t431 _ A6.out).mono ?_); rintro e w' ⟨rfl, ⟨nd, rfl⟩⟩; refine ⟨_, rfl, ?_⟩) | ((with_reducible refine gate_callee (f := 62) rfl ?_); refine goesL_ (some 27) rfl rfl Tryd.func62 (by kernel_rfl) rfl #[.int .i64 (wrap64 (a3 + x10_1))] rfl ga ?_; (with_reducible refine (spinnakerref01_Power.calls k1 (wrap64 (a3 + x10_1)) t432 _ A8.out).mono ?_); rintro e w' ⟨rfl, ⟨nd, rfl⟩⟩; refine ⟨_, rfl, ?_⟩))
     go_roundg k1
     case measure => have := HK1.out; omega
     case rel => exact ⟨(IntKind.u64.wrap (x9_1 + t432)), (wrap64 (x10_1 + 1)), fj, fj, H', ⟨by have := HK1.out; omega⟩, fd⟩
    ·rw [if_neg c7] at H
     have c7b0 : (t431 == 1) = false := beq_eq_false_iff_ne.mpr c7
     have c7b1 : (t431 != 1) = true := bne_iff_ne.mpr c7
     have H' := Aside0.mk H
     clear H
     go_wp2_with (first | ((with_reducible refine gate_callee (f := 35) rfl ?_); refine goesL_ (some 21) rfl rfl Tryd.func35 (by kernel_rfl) rfl #[.int .u64 (IntKind.u64.wrap (a0)), .int .i64 (wrap64 (a1 + x10_1))] rfl ga ?_; (with_reducible refine (spinnakerref01_Bit.calls k1 (IntKind.u64.wrap (a0)) (wrap64 (a1 + x10_1)) t431 _ A6.out).mono ?_); rintro e w' ⟨rfl, ⟨nd, rfl⟩⟩; refine ⟨_, rfl, ?_⟩))
     go_roundg k1
     case measure => have := HK1.out; omega
     case rel => exact ⟨(x9_1), (wrap64 (x10_1 + 1)), fj, fj, H', ⟨by have := HK1.out; omega⟩, fd⟩
   ·rw [if_neg c5] at H
    have c5b0 := decide_eq_false c5
    clear c5
    obtain rfl := Option.some.inj H
    go_wp2
    go_ret
    exact ⟨fj, fd⟩

end Go.Proofs.YtffehgfjjagibaaDoor.GImagePlaces
