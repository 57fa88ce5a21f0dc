-- Written by wip/stub.py of this repo.
import Derived.Test.YtbmjbidekmkboaaDoorGEncWordsx0
import Derived.Test.YtbmjbidekmkboaaDoorGEncWordsx6
import Derived.Test.YtbmjbidekmkboaaDoorGEncWordsx7
namespace Go.Proofs.YtbmjbidekmkboaaDoor.GEncWords
open Go.RowKit Go.Proofs.YtbmjbidekmkboaaDoorW.PrintWords Go.Proofs.YtbmjbidekmkboaaDoorW.PrintLast Go.Proofs.YtbmjbidekmkboaaDoorW.PrintMore
attribute [local go_sem] max2_int min2_int max_two min_two max_three min_three max_four min_four   -- for this text's walks alone
set_option linter.unusedVariables false
set_option linter.unusedSimpArgs false

/-! ### spinnakerlaw04_awake: function 40 -/
def spinnakerlaw04_awake.f (k : Nat)  : Option (Bool) := (enc_Encode.f k 22 1 0 0 (-1) false false).bind fun bt245 => (if bt245.1 = 4293918867 then (some (bt245.2 == 0)) else (some false))
theorem spinnakerlaw04_awake.mono : ∀ k, LeO (spinnakerlaw04_awake.f k ) (spinnakerlaw04_awake.f (k + 1) ) := by
  intro  k
  unfold spinnakerlaw04_awake.f
  repeat' first
      | (with_reducible exact enc_Encode.mono _ _ _ _ _ _ _ _)
      | (with_reducible exact LeO.refl _)
      | (with_reducible exact LeO.none _)
      | (with_reducible refine LeO.ite ?_ ?_)
      | (with_reducible refine LeO.bind ?_ (fun _ => ?_))
      | exact enc_Encode.mono _ _ _ _ _ _ _ _
      | exact LeO.none _
      | refine LeO.ite ?_ ?_
      | refine LeO.bind ?_ (fun _ => ?_)
set_option maxHeartbeats 8000000 in
set_option maxRecDepth 100000 in
theorem spinnakerlaw04_awake.calls (k : Nat)  (r : Bool) (w : World) (hL : Laid w) (h : spinnakerlaw04_awake.f k  = some r) :
    Calls Tryd.prog 40 #[] w fun e w' => e = .returned (.bool r) ∧ Below w.heap.size w w' := by
  have HL := Aside0.mk hL
  clear hL
  have hu51 := Tryd.underlying51
  have HB := Aside0.mk (Below.refl w.heap.size w)
  have H : ((enc_Encode.f k 22 1 0 0 (-1) false false).bind fun bt245 => (if bt245.1 = 4293918867 then (some (bt245.2 == 0)) else (some false))) = some r := h
  clear h
  replace H := Option.bind_eq_some_iff.mp H
  obtain ⟨⟨t245, t246⟩, A10, H⟩ := H
  replace H : (if t245 = 4293918867 then (some (t246 == 0)) else (some false)) = some r := H
  have A1 := Aside0.mk A10
  clear A10
  by_cases c2 : t245 = 4293918867
  · rw [if_pos c2] at H
    have c2b0 : (t245 == 4293918867) = true := beq_iff_eq.mpr c2
    have c2b1 : (t245 != 4293918867) = false := bne_eq_false_iff_eq.mpr c2
    clear c2
    obtain rfl := Option.some.inj H
    go_enter Tryd.func40, Tryd.ntmps40
    go_wp2_with (first | ((with_reducible refine gate_callee (f := 38) rfl ?_); refine goesL_ (some 5) rfl rfl Tryd.func38 (by kernel_rfl) rfl #[.agg #[.int .i64 22, .int .i64 1, .int .i64 0, .int .i64 0, .int .i64 (-1), .bool false, .bool false]] rfl (by (try simp only [List.map_toArray, List.map_cons, List.map_nil]); first | done | rfl | (simp only [List.length_drop, List.length_take]; rfl)) ?_; (with_reducible refine (enc_Encode.calls k 22 1 0 0 (-1) false false t245 t246 _ (by first | exact HL.out | exact laid_drewN HL.out | exact laid_below HL.out (by repeat (first | (with_reducible first | exact HB.out | apply below_alloc | apply pw_below_drewN | apply below_drew1) | exact HB.out)) | exact laid_below HL.out HB.out | exact laid_belowd HL.out HB.out) A1.out).mono ?_); rintro e w3 ⟨rfl, hb⟩; refine ⟨_, rfl, ?_⟩; have n0_ := Aside0.mk (below_step (by repeat (first | (with_reducible first | exact HB.out | apply below_alloc | apply pw_below_drewN | apply below_drew1) | exact HB.out)) hb); clear HB; have HB := n0_; clear n0_; (try clear hb); (try clear hb2); (try clear hk); (try clear hi)))
    go_ret
    exact ⟨by first | rfl | (simp [errW_none, errW_some] <;> rfl) | (simp [*, errW_none, errW_some] <;> rfl), by repeat (first | (with_reducible first | exact HB.out | apply below_alloc | apply pw_below_drewN | apply below_drew1) | exact HB.out)⟩
  · rw [if_neg c2] at H
    have c2b0 : (t245 == 4293918867) = false := beq_eq_false_iff_ne.mpr c2
    have c2b1 : (t245 != 4293918867) = true := bne_iff_ne.mpr c2
    obtain rfl := Option.some.inj H
    go_enter Tryd.func40, Tryd.ntmps40
    go_wp2_with (first | ((with_reducible refine gate_callee (f := 38) rfl ?_); refine goesL_ (some 5) rfl rfl Tryd.func38 (by kernel_rfl) rfl #[.agg #[.int .i64 22, .int .i64 1, .int .i64 0, .int .i64 0, .int .i64 (-1), .bool false, .bool false]] rfl (by (try simp only [List.map_toArray, List.map_cons, List.map_nil]); first | done | rfl | (simp only [List.length_drop, List.length_take]; rfl)) ?_; (with_reducible refine (enc_Encode.calls k 22 1 0 0 (-1) false false t245 t246 _ (by first | exact HL.out | exact laid_drewN HL.out | exact laid_below HL.out (by repeat (first | (with_reducible first | exact HB.out | apply below_alloc | apply pw_below_drewN | apply below_drew1) | exact HB.out)) | exact laid_below HL.out HB.out | exact laid_belowd HL.out HB.out) A1.out).mono ?_); rintro e w4 ⟨rfl, hb⟩; refine ⟨_, rfl, ?_⟩; have n0_ := Aside0.mk (below_step (by repeat (first | (with_reducible first | exact HB.out | apply below_alloc | apply pw_below_drewN | apply below_drew1) | exact HB.out)) hb); clear HB; have HB := n0_; clear n0_; (try clear hb); (try clear hb2); (try clear hk); (try clear hi)))
    go_ret
    exact ⟨by first | rfl | (simp [errW_none, errW_some] <;> rfl) | (simp [*, errW_none, errW_some] <;> rfl), by repeat (first | (with_reducible first | exact HB.out | apply below_alloc | apply pw_below_drewN | apply below_drew1) | exact HB.out)⟩

-- NOT PRINTED: function 113 (spinnakerref04_words)

/-! ### spinnakerref04_Word: function 82 (by hand) -/
def wordTab : List Int := [55, 23, 111, 103, 99, 4195, 16483, 20579, 24675, 28771, 3, 4099, 8195, 12291, 16387, 20483, 24579, 35, 4131, 8227, 12323, 19, 8211, 12307, 16403, 24595, 28691, 4115, 20499, 1073762323, 27, 4123, 20507, 1073762331, 51, 1073741875, 4147, 8243, 12339, 16435, 20531, 1073762355, 24627, 28723, 59, 1073741883, 4155, 20539, 1073762363, 33554483, 33558579, 33562675, 33566771, 33570867, 33574963, 33579059, 33583155, 33554491, 33570875, 33574971, 33579067, 33583163, 15, 115, 1048691, 268443695, 402661423, 134225967, 8239, 536879151, 1610620975, 1073750063, 2147491887, 2684362799, 3221233711, 3758104623]
def wordArr : Array Value := (wordTab.map fun n => Value.int .u32 n).toArray
def wordZero : Array Value := Array.replicate 76 (.int .u32 0)
def spinnakerref04_Word.f (a0 : Int) : Option (Int) := if 1 ≤ a0 ∧ a0 < 88 then some (if a0 < 77 then rd wordTab (a0 - 1) else rd wordTab (a0 - 12) + 4096) else none
theorem wordArr_one : ∀ q ∈ wordArr.toList, q.oneCell' = true := by
  intro q hq
  obtain ⟨n, _, rfl⟩ := List.mem_map.mp hq
  rfl
theorem wordArr_at (i : Nat) (h : i < 76) : wordArr[i]? = some (.int .u32 (rd wordTab (i : Int))) := by
  have hl : wordTab.length = 76 := by decide
  unfold wordArr rd
  simp [hl, h]
theorem wordTab_small (i : Nat) (h : i < 76) : 0 ≤ rd wordTab (i : Int) + 4096 ∧ rd wordTab (i : Int) + 4096 < 4294967296 := by
  revert h; revert i; decide +kernel
set_option maxHeartbeats 8000000 in
set_option maxRecDepth 100000 in
theorem words_call (w : World) : Calls Tryd.prog 113 #[] w fun e w' => e = .returned (.agg wordArr) ∧ Below w.heap.size w w' := by
  have hu116 := Tryd.underlying116
  have HB := Aside0.mk (Below.refl w.heap.size w)
  go_enter Tryd.func113, Tryd.ntmps113
  go_wp2_with (first | ((with_reducible refine gate_dst (N := 0) rfl ?_); refine box_event ?hg (N := 0) ?hd (cs := wordZero) (t := 116) ?hr ?_; (case hd => rfl); (case hg => rfl); (case hr => first | (go_simp; done) | (go_simp; rfl)); intro gbq hg wbq hbox hb; have n0_ := Aside0.mk (below_step (by repeat (first | (with_reducible first | exact HB.out | apply below_alloc | apply pw_below_drewN | apply below_drew1) | exact HB.out)) hb); have n1_ := Aside0.mk (hbox); have n2_ := Aside0.mk ((by rw [hg]; exact (below_size (by repeat (first | (with_reducible first | exact HB.out | apply below_alloc | apply pw_below_drewN | apply below_drew1) | exact HB.out))) : w.heap.size ≤ gbq)); clear HB; have HB := n0_; have BKq := n1_; have GEq := n2_; clear n0_ n1_ n2_; clear hb hbox hg) | ((with_reducible refine gate_store (t := 116) (p := 0) rfl ?_); refine fill_event rfl (t := 116) (p := 0) rfl rfl (g := gbq) (e := 116) (cur := wordZero) (cs := wordArr) ?hp ?hv (by (with_reducible repeat (first | refine blk_drewN ?_ _ | refine blk_drew ?_ | refine blk_alloc ?_ _)); exact BKq.out) rfl wordArr_one rfl ?ht ?_; (case hp => first | rfl | (go_simp; done) | (go_simp; rfl)); (case hv => first | rfl | (go_simp; done) | (go_simp; rfl)); (case ht => kernel_rfl); intro wf hwf hb; have n0_ := Aside0.mk (below_fill (by repeat (first | (with_reducible first | exact HB.out | apply below_alloc | apply pw_below_drewN | apply below_drew1 | refine below_set ?_ GEq.out) | exact HB.out)) hb GEq.out); have n1_ := Aside0.mk hwf; clear BKq HB; have BKq := n1_; have HB := n0_; clear n0_ n1_ hb hwf))
  refine bodyPost_ret (results_cell_row rfl _ _ gbq 116 wordArr (0, 0) _ rfl (by (with_reducible repeat (first | refine blk_drewN ?_ _ | refine blk_drew ?_ | refine blk_alloc ?_ _)); exact BKq.out) Tryd.underlying116 rfl (by kernel_rfl)) rfl ?_
  exact ⟨rfl, by repeat (first | (with_reducible first | exact HB.out | apply below_alloc | apply pw_below_drewN | apply below_drew1 | refine below_set ?_ GEq.out) | exact HB.out)⟩
set_option maxHeartbeats 8000000 in
set_option maxRecDepth 100000 in
theorem word_lo (a0 : Int) (i : Nat) (hi : i < 76) (he : wrap64 (a0 - 1) = (i : Int)) (hb : decide (77 ≤ a0) = false) (w : World) : Calls Tryd.prog 82 #[.int .i64 a0] w fun e w' => e = .returned (.int .u32 (rd wordTab (i : Int))) ∧ Below w.heap.size w w' := by
  have hi0 : (0 : Int) ≤ (i : Int) := by omega
  have hi1 : (i : Int) < 76 := by omega
  have hu116 := Tryd.underlying116
  have HB := Aside0.mk (Below.refl w.heap.size w)
  go_enter Tryd.func82, Tryd.ntmps82
  go_wp2_with (first | ((with_reducible refine gate_callee (f := 113) rfl ?_); refine goesL_ (some 4) rfl rfl Tryd.func113 (by kernel_rfl) rfl #[] rfl (by (try simp only [List.map_toArray, List.map_cons, List.map_nil]); first | done | rfl) ?_; (with_reducible refine (words_call _).mono ?_); rintro e wc ⟨rfl, hb⟩; refine ⟨_, rfl, ?_⟩; have n0_ := Aside0.mk (below_step (by repeat (first | (with_reducible first | exact HB.out | apply below_alloc | apply pw_below_drewN | apply below_drew1) | exact HB.out)) hb); clear HB; have HB := n0_; clear n0_ hb) | ((with_reducible refine gate_dst (N := 3) rfl ?_); refine box_event ?hg (N := 3) ?hd (cs := wordZero) (t := 116) ?hr ?_; (case hd => rfl); (case hg => rfl); (case hr => first | (go_simp; done) | (go_simp; rfl)); intro gbq hg wbq hbox hb; have n0_ := Aside0.mk (below_step (by repeat (first | (with_reducible first | exact HB.out | apply below_alloc | apply pw_below_drewN | apply below_drew1) | exact HB.out)) hb); have n1_ := Aside0.mk (hbox); have n2_ := Aside0.mk ((by rw [hg]; exact (below_size (by repeat (first | (with_reducible first | exact HB.out | apply below_alloc | apply pw_below_drewN | apply below_drew1) | exact HB.out))) : w.heap.size ≤ gbq)); clear HB; have HB := n0_; have BKq := n1_; have GEq := n2_; clear n0_ n1_ n2_; clear hb hbox hg) | ((with_reducible refine gate_store (t := 116) (p := 3) rfl ?_); refine fill_event rfl (t := 116) (p := 3) rfl rfl (g := gbq) (e := 116) (cur := wordZero) (cs := wordArr) ?hp ?hv (by (with_reducible repeat (first | refine blk_drewN ?_ _ | refine blk_drew ?_ | refine blk_alloc ?_ _)); exact BKq.out) rfl wordArr_one rfl ?ht ?_; (case hp => first | rfl | (go_simp; done) | (go_simp; rfl)); (case hv => first | rfl | (go_simp; done) | (go_simp; rfl)); (case ht => kernel_rfl); intro wf hwf hb; have n0_ := Aside0.mk (below_fill (by repeat (first | (with_reducible first | exact HB.out | apply below_alloc | apply pw_below_drewN | apply below_drew1 | refine below_set ?_ GEq.out) | exact HB.out)) hb GEq.out); have n1_ := Aside0.mk hwf; clear BKq HB; have BKq := n1_; have HB := n0_; clear n0_ n1_ hb hwf; have hcz : wf.cell? ⟨gbq, i, none⟩ = some (.int .u32 (rd wordTab (i : Int))) := (blk_cell BKq.out i).trans (wordArr_at i hi); have hfz := blk_frozen BKq.out i))
  go_ret
  exact ⟨by first | rfl | (simp; done), by repeat (first | (with_reducible first | exact HB.out | apply below_alloc | apply pw_below_drewN | apply below_drew1 | refine below_set ?_ GEq.out) | exact HB.out)⟩
set_option maxHeartbeats 8000000 in
set_option maxRecDepth 100000 in
theorem word_hi (a0 : Int) (i : Nat) (hi : i < 76) (he : wrap64 (a0 - 12) = (i : Int)) (hb : decide (77 ≤ a0) = true) (w : World) : Calls Tryd.prog 82 #[.int .i64 a0] w fun e w' => e = .returned (.int .u32 ((rd wordTab (i : Int) + 4096) % 4294967296)) ∧ Below w.heap.size w w' := by
  have hi0 : (0 : Int) ≤ (i : Int) := by omega
  have hi1 : (i : Int) < 76 := by omega
  have hu116 := Tryd.underlying116
  have HB := Aside0.mk (Below.refl w.heap.size w)
  go_enter Tryd.func82, Tryd.ntmps82
  go_wp2_with (first | ((with_reducible refine gate_callee (f := 113) rfl ?_); refine goesL_ (some 4) rfl rfl Tryd.func113 (by kernel_rfl) rfl #[] rfl (by (try simp only [List.map_toArray, List.map_cons, List.map_nil]); first | done | rfl) ?_; (with_reducible refine (words_call _).mono ?_); rintro e wc ⟨rfl, hb⟩; refine ⟨_, rfl, ?_⟩; have n0_ := Aside0.mk (below_step (by repeat (first | (with_reducible first | exact HB.out | apply below_alloc | apply pw_below_drewN | apply below_drew1) | exact HB.out)) hb); clear HB; have HB := n0_; clear n0_ hb) | ((with_reducible refine gate_dst (N := 3) rfl ?_); refine box_event ?hg (N := 3) ?hd (cs := wordZero) (t := 116) ?hr ?_; (case hd => rfl); (case hg => rfl); (case hr => first | (go_simp; done) | (go_simp; rfl)); intro gbq hg wbq hbox hb; have n0_ := Aside0.mk (below_step (by repeat (first | (with_reducible first | exact HB.out | apply below_alloc | apply pw_below_drewN | apply below_drew1) | exact HB.out)) hb); have n1_ := Aside0.mk (hbox); have n2_ := Aside0.mk ((by rw [hg]; exact (below_size (by repeat (first | (with_reducible first | exact HB.out | apply below_alloc | apply pw_below_drewN | apply below_drew1) | exact HB.out))) : w.heap.size ≤ gbq)); clear HB; have HB := n0_; have BKq := n1_; have GEq := n2_; clear n0_ n1_ n2_; clear hb hbox hg) | ((with_reducible refine gate_store (t := 116) (p := 3) rfl ?_); refine fill_event rfl (t := 116) (p := 3) rfl rfl (g := gbq) (e := 116) (cur := wordZero) (cs := wordArr) ?hp ?hv (by (with_reducible repeat (first | refine blk_drewN ?_ _ | refine blk_drew ?_ | refine blk_alloc ?_ _)); exact BKq.out) rfl wordArr_one rfl ?ht ?_; (case hp => first | rfl | (go_simp; done) | (go_simp; rfl)); (case hv => first | rfl | (go_simp; done) | (go_simp; rfl)); (case ht => kernel_rfl); intro wf hwf hb; have n0_ := Aside0.mk (below_fill (by repeat (first | (with_reducible first | exact HB.out | apply below_alloc | apply pw_below_drewN | apply below_drew1 | refine below_set ?_ GEq.out) | exact HB.out)) hb GEq.out); have n1_ := Aside0.mk hwf; clear BKq HB; have BKq := n1_; have HB := n0_; clear n0_ n1_ hb hwf; have hcz : wf.cell? ⟨gbq, i, none⟩ = some (.int .u32 (rd wordTab (i : Int))) := (blk_cell BKq.out i).trans (wordArr_at i hi); have hfz := blk_frozen BKq.out i))
  go_ret
  exact ⟨by first | rfl | (simp; done), by repeat (first | (with_reducible first | exact HB.out | apply below_alloc | apply pw_below_drewN | apply below_drew1 | refine below_set ?_ GEq.out) | exact HB.out)⟩
theorem spinnakerref04_Word.calls (a0 : Int) (r : Int) (w : World) (h : spinnakerref04_Word.f a0 = some r) :
    Calls Tryd.prog 82 #[.int .i64 a0] w fun e w' => e = .returned (.int .u32 r) ∧ Below w.heap.size w w' := by
  unfold spinnakerref04_Word.f at h
  by_cases h1 : 1 ≤ a0 ∧ a0 < 88
  · rw [if_pos h1] at h
    obtain rfl := Option.some.inj h
    by_cases h2 : a0 < 77
    · have e : a0 - 1 = (((a0 - 1).toNat : Nat) : Int) := by omega
      have q := word_lo a0 (a0 - 1).toNat (by omega) (by unfold wrap64; omega) (decide_eq_false (by omega)) w
      rw [if_pos h2, e]; exact q
    · have e : a0 - 12 = (((a0 - 12).toNat : Nat) : Int) := by omega
      have q := word_hi a0 (a0 - 12).toNat (by omega) (by unfold wrap64; omega) (decide_eq_true (by omega)) w
      have q2 := wordTab_small (a0 - 12).toNat (by omega)
      rw [← e] at q q2
      rw [if_neg h2]
      rwa [Int.emod_eq_of_lt q2.1 q2.2] at q
  · rw [if_neg h1] at h
    exact absurd h (by simp)

/-! ### spinnakerref01_Bit: function 37 -/
def spinnakerref01_Bit.l0 : Nat → Int → Int → Int → Option (Int)
  | 0, _, _, _ => none
  | k + 1, x0, x1, x5 => if x5 < x1 then (spinnakerref01_Bit.l0 k (IntKind.u64.wrap (Int.tdiv x0 2)) x1 (wrap64 (x5 + 1))) else (some (wrap64 (Int.tmod x0 2)))
def spinnakerref01_Bit.f (k : Nat) (a0 : Int) (a1 : Int) : Option (Int) := spinnakerref01_Bit.l0 k a0 a1 0
theorem spinnakerref01_Bit.mono_l : ∀ k, (∀ y0 y1 y2, LeO (spinnakerref01_Bit.l0 k y0 y1 y2) (spinnakerref01_Bit.l0 (k + 1) y0 y1 y2))
  | 0 => fun _ _ _ r h => by simp [spinnakerref01_Bit.l0] at h
  | k + 1 => by
    have ih0 := spinnakerref01_Bit.mono_l k
    · intro y0 y1 y2
      unfold spinnakerref01_Bit.l0
      repeat' first
      | (with_reducible exact ih0 _ _ _)
      | (with_reducible exact LeO.refl _)
      | (with_reducible exact LeO.none _)
      | (with_reducible refine LeO.ite ?_ ?_)
      | (with_reducible refine LeO.bind ?_ (fun _ => ?_))
      | exact ih0 _ _ _
      | exact LeO.none _
      | refine LeO.ite ?_ ?_
      | refine LeO.bind ?_ (fun _ => ?_)
theorem spinnakerref01_Bit.mono : ∀ a0 a1 k, LeO (spinnakerref01_Bit.f k a0 a1) (spinnakerref01_Bit.f (k + 1) a0 a1) := by
  intro a0 a1 k
  have ih0 := spinnakerref01_Bit.mono_l k
  unfold spinnakerref01_Bit.f
  repeat' first
      | (with_reducible exact ih0 _ _ _)
      | (with_reducible exact LeO.refl _)
      | (with_reducible exact LeO.none _)
      | (with_reducible refine LeO.ite ?_ ?_)
      | (with_reducible refine LeO.bind ?_ (fun _ => ?_))
      | exact ih0 _ _ _
      | exact LeO.none _
      | refine LeO.ite ?_ ?_
      | refine LeO.bind ?_ (fun _ => ?_)
set_option maxHeartbeats 8000000 in
set_option maxRecDepth 100000 in
theorem spinnakerref01_Bit.calls (k : Nat) (a0 : Int) (a1 : Int) (r : Int) (w : World) (h : spinnakerref01_Bit.f k a0 a1 = some r) :
    Calls Tryd.prog 37 #[.int .u64 a0, .int .i64 a1] w fun e w' => e = .returned (.int .i64 r) ∧ Drawn0 w w' := by
  have H : (spinnakerref01_Bit.l0 k a0 a1 0) = some r := h
  clear h
  have H' := Aside0.mk H
  clear H
  go_enter Tryd.func37, Tryd.ntmps37
  go_wp2
  go_loopg [0, 5] k (fun kq v0 v5 w' => ∃ (x0_1 : Int) (x5_1 : Int), v0 = .int .u64 x0_1 ∧ v5 = .int .i64 x5_1 ∧ Aside0 (spinnakerref01_Bit.l0 kq x0_1 a1 x5_1 = some r) ∧ Aside0 (kq ≤ k) ∧ Drawn0 w w')
  case atStart => exact ⟨(a0), (0), (by first | rfl | (simp; done) | (simp [*]; done)), (by first | rfl | (simp; done) | (simp [*]; done)), H', ⟨Nat.le_refl _⟩, by repeat (first | exact Drawn0.refl _ | apply Drawn0.step)⟩
  case round =>
    clear H'
    try clear p2
    obtain ⟨x0_1, x5_1, rfl, rfl, HA, HK1, ⟨m1, rfl⟩⟩ := hrel
    cases gk with
    | zero => exact absurd HA.out (by simp [spinnakerref01_Bit.l0])
    | succ k1 =>
      have H := HA.out
      clear HA
      simp only [spinnakerref01_Bit.l0] at H
      by_cases c3 : x5_1 < a1
      · rw [if_pos c3] at H
        have c3b0 : decide (x5_1 < a1) = true := decide_eq_true c3
        clear c3
        have H' := Aside0.mk H
        clear H
        go_wp2
        go_roundg k1
        case measure => have := HK1.out; omega
        case rel => exact ⟨(IntKind.u64.wrap (Int.tdiv x0_1 2)), (wrap64 (x5_1 + 1)), (by first | rfl | (simp; done) | (simp [*]; done)), (by first | rfl | (simp; done) | (simp [*]; done)), H', ⟨by have := HK1.out; omega⟩, by repeat (first | exact Drawn0.refl _ | apply Drawn0.step)⟩
      · rw [if_neg c3] at H
        have c3b0 : decide (x5_1 < a1) = false := decide_eq_false c3
        clear c3
        obtain rfl := Option.some.inj H
        go_wp2
        go_ret
        exact ⟨by first | rfl | (simp; done) | (simp [*]; done), by repeat (first | exact Drawn0.refl _ | apply Drawn0.step)⟩

/-! ### spinnakerref04_bits: function 83 -/
def spinnakerref04_bits.l0 : Nat → Int → Int → Int → Int → Int → Int → Option (Int)
  | 0, _, _, _, _, _, _ => none
  | k + 1, x0, x1, x2, x3, x9, x10 => if x10 < x2 then ((spinnakerref01_Bit.f k (IntKind.u64.wrap (x0)) (wrap64 (x1 + x10))).bind fun t250 => (if t250 = 1 then ((spinnakerref01_Power.f k (wrap64 (x3 + x10))).bind fun t251 => (spinnakerref04_bits.l0 k x0 x1 x2 x3 (IntKind.u64.wrap (x9 + t251)) (wrap64 (x10 + 1)))) else (spinnakerref04_bits.l0 k x0 x1 x2 x3 x9 (wrap64 (x10 + 1))))) else (some ((x9) % 4294967296))
def spinnakerref04_bits.f (k : Nat) (a0 : Int) (a1 : Int) (a2 : Int) (a3 : Int) : Option (Int) := spinnakerref04_bits.l0 k a0 a1 a2 a3 0 0
theorem spinnakerref04_bits.mono_l : ∀ k, (∀ y0 y1 y2 y3 y4 y5, LeO (spinnakerref04_bits.l0 k y0 y1 y2 y3 y4 y5) (spinnakerref04_bits.l0 (k + 1) y0 y1 y2 y3 y4 y5))
  | 0 => fun _ _ _ _ _ _ r h => by simp [spinnakerref04_bits.l0] at h
  | k + 1 => by
    have ih0 := spinnakerref04_bits.mono_l k
    · intro y0 y1 y2 y3 y4 y5
      unfold spinnakerref04_bits.l0
      repeat' first
      | (with_reducible exact ih0 _ _ _ _ _ _)
      | (with_reducible exact spinnakerref01_Bit.mono _ _ _)
      | (with_reducible exact spinnakerref01_Power.mono _ _)
      | (with_reducible exact LeO.refl _)
      | (with_reducible exact LeO.none _)
      | (with_reducible refine LeO.ite ?_ ?_)
      | (with_reducible refine LeO.bind ?_ (fun _ => ?_))
      | exact ih0 _ _ _ _ _ _
      | exact spinnakerref01_Bit.mono _ _ _
      | exact spinnakerref01_Power.mono _ _
      | exact LeO.none _
      | refine LeO.ite ?_ ?_
      | refine LeO.bind ?_ (fun _ => ?_)
theorem spinnakerref04_bits.mono : ∀ a0 a1 a2 a3 k, LeO (spinnakerref04_bits.f k a0 a1 a2 a3) (spinnakerref04_bits.f (k + 1) a0 a1 a2 a3) := by
  intro a0 a1 a2 a3 k
  have ih0 := spinnakerref04_bits.mono_l k
  unfold spinnakerref04_bits.f
  repeat' first
      | (with_reducible exact ih0 _ _ _ _ _ _)
      | (with_reducible exact spinnakerref01_Bit.mono _ _ _)
      | (with_reducible exact spinnakerref01_Power.mono _ _)
      | (with_reducible exact LeO.refl _)
      | (with_reducible exact LeO.none _)
      | (with_reducible refine LeO.ite ?_ ?_)
      | (with_reducible refine LeO.bind ?_ (fun _ => ?_))
      | exact ih0 _ _ _ _ _ _
      | exact spinnakerref01_Bit.mono _ _ _
      | exact spinnakerref01_Power.mono _ _
      | exact LeO.none _
      | refine LeO.ite ?_ ?_
      | refine LeO.bind ?_ (fun _ => ?_)
set_option maxHeartbeats 8000000 in
set_option maxRecDepth 100000 in
theorem spinnakerref04_bits.calls (k : Nat) (a0 : Int) (a1 : Int) (a2 : Int) (a3 : Int) (r : Int) (w : World) (h : spinnakerref04_bits.f k a0 a1 a2 a3 = some r) :
    Calls Tryd.prog 83 #[.int .i64 a0, .int .i64 a1, .int .i64 a2, .int .i64 a3] w fun e w' => e = .returned (.int .u32 r) ∧ Drawn0 w w' := by
  have H : (spinnakerref04_bits.l0 k a0 a1 a2 a3 0 0) = some r := h
  clear h
  have H' := Aside0.mk H
  clear H
  go_enter Tryd.func83, Tryd.ntmps83
  go_wp2
  go_loopg [9, 10] k (fun kq v9 v10 w' => ∃ (x9_1 : Int) (x10_1 : Int), v9 = .int .u64 x9_1 ∧ v10 = .int .i64 x10_1 ∧ Aside0 (spinnakerref04_bits.l0 kq a0 a1 a2 a3 x9_1 x10_1 = some r) ∧ Aside0 (kq ≤ k) ∧ Drawn0 w w')
  case atStart => exact ⟨(0), (0), (by first | rfl | (simp; done) | (simp [*]; done)), (by first | rfl | (simp; done) | (simp [*]; done)), H', ⟨Nat.le_refl _⟩, by repeat (first | exact Drawn0.refl _ | apply Drawn0.step)⟩
  case round =>
    clear H'
    try clear p2
    obtain ⟨x9_1, x10_1, rfl, rfl, HA, HK1, ⟨m1, rfl⟩⟩ := hrel
    cases gk with
    | zero => exact absurd HA.out (by simp [spinnakerref04_bits.l0])
    | succ k1 =>
      have H := HA.out
      clear HA
      simp only [spinnakerref04_bits.l0] at H
      by_cases c5 : x10_1 < a2
      · rw [if_pos c5] at H
        have c5b0 : decide (x10_1 < a2) = true := decide_eq_true c5
        clear c5
        replace H := Option.bind_eq_some_iff.mp H
        obtain ⟨t250, A60, H⟩ := H
        replace H : (if t250 = 1 then ((spinnakerref01_Power.f k1 (wrap64 (a3 + x10_1))).bind fun t251 => (spinnakerref04_bits.l0 k1 a0 a1 a2 a3 (IntKind.u64.wrap (x9_1 + t251)) (wrap64 (x10_1 + 1)))) else (spinnakerref04_bits.l0 k1 a0 a1 a2 a3 x9_1 (wrap64 (x10_1 + 1)))) = some r := H
        have A6 := Aside0.mk A60
        clear A60
        by_cases c7 : t250 = 1
        · rw [if_pos c7] at H
          have c7b0 : (t250 == 1) = true := beq_iff_eq.mpr c7
          have c7b1 : (t250 != 1) = false := bne_eq_false_iff_eq.mpr c7
          clear c7
          replace H := Option.bind_eq_some_iff.mp H
          obtain ⟨t251, A80, H⟩ := H
          replace H : (spinnakerref04_bits.l0 k1 a0 a1 a2 a3 (IntKind.u64.wrap (x9_1 + t251)) (wrap64 (x10_1 + 1))) = some r := H
          have A8 := Aside0.mk A80
          clear A80
          have H' := Aside0.mk H
          clear H
          go_wp2_with (first | ((with_reducible refine gate_callee (f := 37) rfl ?_); refine goesL_ (some 21) rfl rfl Tryd.func37 (by kernel_rfl) rfl #[.int .u64 (IntKind.u64.wrap (a0)), .int .i64 (wrap64 (a1 + x10_1))] rfl (by (try simp only [List.map_toArray, List.map_cons, List.map_nil]); first | done | rfl | (simp only [List.length_drop, List.length_take]; rfl)) ?_; (with_reducible refine (spinnakerref01_Bit.calls k1 (IntKind.u64.wrap (a0)) (wrap64 (a1 + x10_1)) t250 _ A6.out).mono ?_); rintro e w' ⟨rfl, ⟨nd, rfl⟩⟩; refine ⟨_, rfl, ?_⟩) | ((with_reducible refine gate_callee (f := 114) rfl ?_); refine goesL_ (some 27) rfl rfl Tryd.func114 (by kernel_rfl) rfl #[.int .i64 (wrap64 (a3 + x10_1))] rfl (by (try simp only [List.map_toArray, List.map_cons, List.map_nil]); first | done | rfl | (simp only [List.length_drop, List.length_take]; rfl)) ?_; (with_reducible refine (spinnakerref01_Power.calls k1 (wrap64 (a3 + x10_1)) t251 _ A8.out).mono ?_); rintro e w' ⟨rfl, ⟨nd, rfl⟩⟩; refine ⟨_, rfl, ?_⟩))
          go_roundg k1
          case measure => have := HK1.out; omega
          case rel => exact ⟨(IntKind.u64.wrap (x9_1 + t251)), (wrap64 (x10_1 + 1)), (by first | rfl | (simp; done) | (simp [*]; done)), (by first | rfl | (simp; done) | (simp [*]; done)), H', ⟨by have := HK1.out; omega⟩, by repeat (first | exact Drawn0.refl _ | apply Drawn0.step)⟩
        · rw [if_neg c7] at H
          have c7b0 : (t250 == 1) = false := beq_eq_false_iff_ne.mpr c7
          have c7b1 : (t250 != 1) = true := bne_iff_ne.mpr c7
          have H' := Aside0.mk H
          clear H
          go_wp2_with (first | ((with_reducible refine gate_callee (f := 37) rfl ?_); refine goesL_ (some 21) rfl rfl Tryd.func37 (by kernel_rfl) rfl #[.int .u64 (IntKind.u64.wrap (a0)), .int .i64 (wrap64 (a1 + x10_1))] rfl (by (try simp only [List.map_toArray, List.map_cons, List.map_nil]); first | done | rfl | (simp only [List.length_drop, List.length_take]; rfl)) ?_; (with_reducible refine (spinnakerref01_Bit.calls k1 (IntKind.u64.wrap (a0)) (wrap64 (a1 + x10_1)) t250 _ A6.out).mono ?_); rintro e w' ⟨rfl, ⟨nd, rfl⟩⟩; refine ⟨_, rfl, ?_⟩))
          go_roundg k1
          case measure => have := HK1.out; omega
          case rel => exact ⟨(x9_1), (wrap64 (x10_1 + 1)), (by first | rfl | (simp; done) | (simp [*]; done)), (by first | rfl | (simp; done) | (simp [*]; done)), H', ⟨by have := HK1.out; omega⟩, by repeat (first | exact Drawn0.refl _ | apply Drawn0.step)⟩
      · rw [if_neg c5] at H
        have c5b0 : decide (x10_1 < a2) = false := decide_eq_false c5
        clear c5
        obtain rfl := Option.some.inj H
        go_wp2
        go_ret
        exact ⟨by first | rfl | (simp; done) | (simp [*]; done), by repeat (first | exact Drawn0.refl _ | apply Drawn0.step)⟩

/-! ### spinnakerref03_Form: function 84 -/
def spinnakerref03_Form.f (a0 : Int) : Option (Int) := (spinnakerref03_letter.f a0).bind fun t252 => (if t252 = 85 then (some 1) else (if t252 = 74 then (some 2) else (if t252 = 73 then (some 3) else (if t252 = 66 then (some 4) else (if t252 = 83 then (some 5) else (if t252 = 82 then (some 6) else (if t252 = 72 then (some 7) else (if t252 = 87 then (some 8) else (if t252 = 70 then (some 9) else (if t252 = 78 then (some 0) else (if t252 = 76 then (some 10) else (if t252 = 65 then (some 11) else (some (-1))))))))))))))
set_option maxHeartbeats 8000000 in
set_option maxRecDepth 100000 in
theorem spinnakerref03_Form.calls (a0 : Int) (r : Int) (w : World) (h : spinnakerref03_Form.f a0 = some r) :
    Calls Tryd.prog 84 #[.int .i64 a0] w fun e w' => e = .returned (.int .i64 r) ∧ Drawn0 w w' := by
  have H : ((spinnakerref03_letter.f a0).bind fun t252 => (if t252 = 85 then (some 1) else (if t252 = 74 then (some 2) else (if t252 = 73 then (some 3) else (if t252 = 66 then (some 4) else (if t252 = 83 then (some 5) else (if t252 = 82 then (some 6) else (if t252 = 72 then (some 7) else (if t252 = 87 then (some 8) else (if t252 = 70 then (some 9) else (if t252 = 78 then (some 0) else (if t252 = 76 then (some 10) else (if t252 = 65 then (some 11) else (some (-1))))))))))))))) = some r := h
  clear h
  replace H := Option.bind_eq_some_iff.mp H
  obtain ⟨t252, A20, H⟩ := H
  replace H : (if t252 = 85 then (some 1) else (if t252 = 74 then (some 2) else (if t252 = 73 then (some 3) else (if t252 = 66 then (some 4) else (if t252 = 83 then (some 5) else (if t252 = 82 then (some 6) else (if t252 = 72 then (some 7) else (if t252 = 87 then (some 8) else (if t252 = 70 then (some 9) else (if t252 = 78 then (some 0) else (if t252 = 76 then (some 10) else (if t252 = 65 then (some 11) else (some (-1)))))))))))))) = some r := H
  have A2 := Aside0.mk A20
  clear A20
  by_cases c3 : t252 = 85
  · rw [if_pos c3] at H
    have c3b0 : (t252 == 85) = true := beq_iff_eq.mpr c3
    have c3b1 : (t252 != 85) = false := bne_eq_false_iff_eq.mpr c3
    clear c3
    obtain rfl := Option.some.inj H
    go_enter Tryd.func84, Tryd.ntmps84
    go_wp2_with (first | ((with_reducible refine gate_callee (f := 75) rfl ?_); refine goesL_ (some 4) rfl rfl Tryd.func75 (by kernel_rfl) rfl #[.int .i64 a0] rfl (by (try simp only [List.map_toArray, List.map_cons, List.map_nil]); first | done | rfl | (simp only [List.length_drop, List.length_take]; rfl)) ?_; (with_reducible refine (spinnakerref03_letter.calls a0 t252 _ A2.out).mono ?_); rintro e w' ⟨rfl, ⟨nd, rfl⟩⟩; refine ⟨_, rfl, ?_⟩))
    go_ret
    exact ⟨by first | rfl | (simp; done) | (simp [*]; done), by repeat (first | exact Drawn0.refl _ | apply Drawn0.step)⟩
  · rw [if_neg c3] at H
    have c3b0 : (t252 == 85) = false := beq_eq_false_iff_ne.mpr c3
    have c3b1 : (t252 != 85) = true := bne_iff_ne.mpr c3
    by_cases c4 : t252 = 74
    · rw [if_pos c4] at H
      have c4b0 : (t252 == 74) = true := beq_iff_eq.mpr c4
      have c4b1 : (t252 != 74) = false := bne_eq_false_iff_eq.mpr c4
      clear c4
      obtain rfl := Option.some.inj H
      go_enter Tryd.func84, Tryd.ntmps84
      go_wp2_with (first | ((with_reducible refine gate_callee (f := 75) rfl ?_); refine goesL_ (some 4) rfl rfl Tryd.func75 (by kernel_rfl) rfl #[.int .i64 a0] rfl (by (try simp only [List.map_toArray, List.map_cons, List.map_nil]); first | done | rfl | (simp only [List.length_drop, List.length_take]; rfl)) ?_; (with_reducible refine (spinnakerref03_letter.calls a0 t252 _ A2.out).mono ?_); rintro e w' ⟨rfl, ⟨nd, rfl⟩⟩; refine ⟨_, rfl, ?_⟩))
      go_ret
      exact ⟨by first | rfl | (simp; done) | (simp [*]; done), by repeat (first | exact Drawn0.refl _ | apply Drawn0.step)⟩
    · rw [if_neg c4] at H
      have c4b0 : (t252 == 74) = false := beq_eq_false_iff_ne.mpr c4
      have c4b1 : (t252 != 74) = true := bne_iff_ne.mpr c4
      by_cases c5 : t252 = 73
      · rw [if_pos c5] at H
        have c5b0 : (t252 == 73) = true := beq_iff_eq.mpr c5
        have c5b1 : (t252 != 73) = false := bne_eq_false_iff_eq.mpr c5
        clear c5
        obtain rfl := Option.some.inj H
        go_enter Tryd.func84, Tryd.ntmps84
        go_wp2_with (first | ((with_reducible refine gate_callee (f := 75) rfl ?_); refine goesL_ (some 4) rfl rfl Tryd.func75 (by kernel_rfl) rfl #[.int .i64 a0] rfl (by (try simp only [List.map_toArray, List.map_cons, List.map_nil]); first | done | rfl | (simp only [List.length_drop, List.length_take]; rfl)) ?_; (with_reducible refine (spinnakerref03_letter.calls a0 t252 _ A2.out).mono ?_); rintro e w' ⟨rfl, ⟨nd, rfl⟩⟩; refine ⟨_, rfl, ?_⟩))
        go_ret
        exact ⟨by first | rfl | (simp; done) | (simp [*]; done), by repeat (first | exact Drawn0.refl _ | apply Drawn0.step)⟩
      · rw [if_neg c5] at H
        have c5b0 : (t252 == 73) = false := beq_eq_false_iff_ne.mpr c5
        have c5b1 : (t252 != 73) = true := bne_iff_ne.mpr c5
        by_cases c6 : t252 = 66
        · rw [if_pos c6] at H
          have c6b0 : (t252 == 66) = true := beq_iff_eq.mpr c6
          have c6b1 : (t252 != 66) = false := bne_eq_false_iff_eq.mpr c6
          clear c6
          obtain rfl := Option.some.inj H
          go_enter Tryd.func84, Tryd.ntmps84
          go_wp2_with (first | ((with_reducible refine gate_callee (f := 75) rfl ?_); refine goesL_ (some 4) rfl rfl Tryd.func75 (by kernel_rfl) rfl #[.int .i64 a0] rfl (by (try simp only [List.map_toArray, List.map_cons, List.map_nil]); first | done | rfl | (simp only [List.length_drop, List.length_take]; rfl)) ?_; (with_reducible refine (spinnakerref03_letter.calls a0 t252 _ A2.out).mono ?_); rintro e w' ⟨rfl, ⟨nd, rfl⟩⟩; refine ⟨_, rfl, ?_⟩))
          go_ret
          exact ⟨by first | rfl | (simp; done) | (simp [*]; done), by repeat (first | exact Drawn0.refl _ | apply Drawn0.step)⟩
        · rw [if_neg c6] at H
          have c6b0 : (t252 == 66) = false := beq_eq_false_iff_ne.mpr c6
          have c6b1 : (t252 != 66) = true := bne_iff_ne.mpr c6
          by_cases c7 : t252 = 83
          · rw [if_pos c7] at H
            have c7b0 : (t252 == 83) = true := beq_iff_eq.mpr c7
            have c7b1 : (t252 != 83) = false := bne_eq_false_iff_eq.mpr c7
            clear c7
            obtain rfl := Option.some.inj H
            go_enter Tryd.func84, Tryd.ntmps84
            go_wp2_with (first | ((with_reducible refine gate_callee (f := 75) rfl ?_); refine goesL_ (some 4) rfl rfl Tryd.func75 (by kernel_rfl) rfl #[.int .i64 a0] rfl (by (try simp only [List.map_toArray, List.map_cons, List.map_nil]); first | done | rfl | (simp only [List.length_drop, List.length_take]; rfl)) ?_; (with_reducible refine (spinnakerref03_letter.calls a0 t252 _ A2.out).mono ?_); rintro e w' ⟨rfl, ⟨nd, rfl⟩⟩; refine ⟨_, rfl, ?_⟩))
            go_ret
            exact ⟨by first | rfl | (simp; done) | (simp [*]; done), by repeat (first | exact Drawn0.refl _ | apply Drawn0.step)⟩
          · rw [if_neg c7] at H
            have c7b0 : (t252 == 83) = false := beq_eq_false_iff_ne.mpr c7
            have c7b1 : (t252 != 83) = true := bne_iff_ne.mpr c7
            by_cases c8 : t252 = 82
            · rw [if_pos c8] at H
              have c8b0 : (t252 == 82) = true := beq_iff_eq.mpr c8
              have c8b1 : (t252 != 82) = false := bne_eq_false_iff_eq.mpr c8
              clear c8
              obtain rfl := Option.some.inj H
              go_enter Tryd.func84, Tryd.ntmps84
              go_wp2_with (first | ((with_reducible refine gate_callee (f := 75) rfl ?_); refine goesL_ (some 4) rfl rfl Tryd.func75 (by kernel_rfl) rfl #[.int .i64 a0] rfl (by (try simp only [List.map_toArray, List.map_cons, List.map_nil]); first | done | rfl | (simp only [List.length_drop, List.length_take]; rfl)) ?_; (with_reducible refine (spinnakerref03_letter.calls a0 t252 _ A2.out).mono ?_); rintro e w' ⟨rfl, ⟨nd, rfl⟩⟩; refine ⟨_, rfl, ?_⟩))
              go_ret
              exact ⟨by first | rfl | (simp; done) | (simp [*]; done), by repeat (first | exact Drawn0.refl _ | apply Drawn0.step)⟩
            · rw [if_neg c8] at H
              have c8b0 : (t252 == 82) = false := beq_eq_false_iff_ne.mpr c8
              have c8b1 : (t252 != 82) = true := bne_iff_ne.mpr c8
              by_cases c9 : t252 = 72
              · rw [if_pos c9] at H
                have c9b0 : (t252 == 72) = true := beq_iff_eq.mpr c9
                have c9b1 : (t252 != 72) = false := bne_eq_false_iff_eq.mpr c9
                clear c9
                obtain rfl := Option.some.inj H
                go_enter Tryd.func84, Tryd.ntmps84
                go_wp2_with (first | ((with_reducible refine gate_callee (f := 75) rfl ?_); refine goesL_ (some 4) rfl rfl Tryd.func75 (by kernel_rfl) rfl #[.int .i64 a0] rfl (by (try simp only [List.map_toArray, List.map_cons, List.map_nil]); first | done | rfl | (simp only [List.length_drop, List.length_take]; rfl)) ?_; (with_reducible refine (spinnakerref03_letter.calls a0 t252 _ A2.out).mono ?_); rintro e w' ⟨rfl, ⟨nd, rfl⟩⟩; refine ⟨_, rfl, ?_⟩))
                go_ret
                exact ⟨by first | rfl | (simp; done) | (simp [*]; done), by repeat (first | exact Drawn0.refl _ | apply Drawn0.step)⟩
              · rw [if_neg c9] at H
                have c9b0 : (t252 == 72) = false := beq_eq_false_iff_ne.mpr c9
                have c9b1 : (t252 != 72) = true := bne_iff_ne.mpr c9
                by_cases c10 : t252 = 87
                · rw [if_pos c10] at H
                  have c10b0 : (t252 == 87) = true := beq_iff_eq.mpr c10
                  have c10b1 : (t252 != 87) = false := bne_eq_false_iff_eq.mpr c10
                  clear c10
                  obtain rfl := Option.some.inj H
                  go_enter Tryd.func84, Tryd.ntmps84
                  go_wp2_with (first | ((with_reducible refine gate_callee (f := 75) rfl ?_); refine goesL_ (some 4) rfl rfl Tryd.func75 (by kernel_rfl) rfl #[.int .i64 a0] rfl (by (try simp only [List.map_toArray, List.map_cons, List.map_nil]); first | done | rfl | (simp only [List.length_drop, List.length_take]; rfl)) ?_; (with_reducible refine (spinnakerref03_letter.calls a0 t252 _ A2.out).mono ?_); rintro e w' ⟨rfl, ⟨nd, rfl⟩⟩; refine ⟨_, rfl, ?_⟩))
                  go_ret
                  exact ⟨by first | rfl | (simp; done) | (simp [*]; done), by repeat (first | exact Drawn0.refl _ | apply Drawn0.step)⟩
                · rw [if_neg c10] at H
                  have c10b0 : (t252 == 87) = false := beq_eq_false_iff_ne.mpr c10
                  have c10b1 : (t252 != 87) = true := bne_iff_ne.mpr c10
                  by_cases c11 : t252 = 70
                  · rw [if_pos c11] at H
                    have c11b0 : (t252 == 70) = true := beq_iff_eq.mpr c11
                    have c11b1 : (t252 != 70) = false := bne_eq_false_iff_eq.mpr c11
                    clear c11
                    obtain rfl := Option.some.inj H
                    go_enter Tryd.func84, Tryd.ntmps84
                    go_wp2_with (first | ((with_reducible refine gate_callee (f := 75) rfl ?_); refine goesL_ (some 4) rfl rfl Tryd.func75 (by kernel_rfl) rfl #[.int .i64 a0] rfl (by (try simp only [List.map_toArray, List.map_cons, List.map_nil]); first | done | rfl | (simp only [List.length_drop, List.length_take]; rfl)) ?_; (with_reducible refine (spinnakerref03_letter.calls a0 t252 _ A2.out).mono ?_); rintro e w' ⟨rfl, ⟨nd, rfl⟩⟩; refine ⟨_, rfl, ?_⟩))
                    go_ret
                    exact ⟨by first | rfl | (simp; done) | (simp [*]; done), by repeat (first | exact Drawn0.refl _ | apply Drawn0.step)⟩
                  · rw [if_neg c11] at H
                    have c11b0 : (t252 == 70) = false := beq_eq_false_iff_ne.mpr c11
                    have c11b1 : (t252 != 70) = true := bne_iff_ne.mpr c11
                    by_cases c12 : t252 = 78
                    · rw [if_pos c12] at H
                      have c12b0 : (t252 == 78) = true := beq_iff_eq.mpr c12
                      have c12b1 : (t252 != 78) = false := bne_eq_false_iff_eq.mpr c12
                      clear c12
                      obtain rfl := Option.some.inj H
                      go_enter Tryd.func84, Tryd.ntmps84
                      go_wp2_with (first | ((with_reducible refine gate_callee (f := 75) rfl ?_); refine goesL_ (some 4) rfl rfl Tryd.func75 (by kernel_rfl) rfl #[.int .i64 a0] rfl (by (try simp only [List.map_toArray, List.map_cons, List.map_nil]); first | done | rfl | (simp only [List.length_drop, List.length_take]; rfl)) ?_; (with_reducible refine (spinnakerref03_letter.calls a0 t252 _ A2.out).mono ?_); rintro e w' ⟨rfl, ⟨nd, rfl⟩⟩; refine ⟨_, rfl, ?_⟩))
                      go_ret
                      exact ⟨by first | rfl | (simp; done) | (simp [*]; done), by repeat (first | exact Drawn0.refl _ | apply Drawn0.step)⟩
                    · rw [if_neg c12] at H
                      have c12b0 : (t252 == 78) = false := beq_eq_false_iff_ne.mpr c12
                      have c12b1 : (t252 != 78) = true := bne_iff_ne.mpr c12
                      by_cases c13 : t252 = 76
                      · rw [if_pos c13] at H
                        have c13b0 : (t252 == 76) = true := beq_iff_eq.mpr c13
                        have c13b1 : (t252 != 76) = false := bne_eq_false_iff_eq.mpr c13
                        clear c13
                        obtain rfl := Option.some.inj H
                        go_enter Tryd.func84, Tryd.ntmps84
                        go_wp2_with (first | ((with_reducible refine gate_callee (f := 75) rfl ?_); refine goesL_ (some 4) rfl rfl Tryd.func75 (by kernel_rfl) rfl #[.int .i64 a0] rfl (by (try simp only [List.map_toArray, List.map_cons, List.map_nil]); first | done | rfl | (simp only [List.length_drop, List.length_take]; rfl)) ?_; (with_reducible refine (spinnakerref03_letter.calls a0 t252 _ A2.out).mono ?_); rintro e w' ⟨rfl, ⟨nd, rfl⟩⟩; refine ⟨_, rfl, ?_⟩))
                        go_ret
                        exact ⟨by first | rfl | (simp; done) | (simp [*]; done), by repeat (first | exact Drawn0.refl _ | apply Drawn0.step)⟩
                      · rw [if_neg c13] at H
                        have c13b0 : (t252 == 76) = false := beq_eq_false_iff_ne.mpr c13
                        have c13b1 : (t252 != 76) = true := bne_iff_ne.mpr c13
                        by_cases c14 : t252 = 65
                        · rw [if_pos c14] at H
                          have c14b0 : (t252 == 65) = true := beq_iff_eq.mpr c14
                          have c14b1 : (t252 != 65) = false := bne_eq_false_iff_eq.mpr c14
                          clear c14
                          obtain rfl := Option.some.inj H
                          go_enter Tryd.func84, Tryd.ntmps84
                          go_wp2_with (first | ((with_reducible refine gate_callee (f := 75) rfl ?_); refine goesL_ (some 4) rfl rfl Tryd.func75 (by kernel_rfl) rfl #[.int .i64 a0] rfl (by (try simp only [List.map_toArray, List.map_cons, List.map_nil]); first | done | rfl | (simp only [List.length_drop, List.length_take]; rfl)) ?_; (with_reducible refine (spinnakerref03_letter.calls a0 t252 _ A2.out).mono ?_); rintro e w' ⟨rfl, ⟨nd, rfl⟩⟩; refine ⟨_, rfl, ?_⟩))
                          go_ret
                          exact ⟨by first | rfl | (simp; done) | (simp [*]; done), by repeat (first | exact Drawn0.refl _ | apply Drawn0.step)⟩
                        · rw [if_neg c14] at H
                          have c14b0 : (t252 == 65) = false := beq_eq_false_iff_ne.mpr c14
                          have c14b1 : (t252 != 65) = true := bne_iff_ne.mpr c14
                          obtain rfl := Option.some.inj H
                          go_enter Tryd.func84, Tryd.ntmps84
                          go_wp2_with (first | ((with_reducible refine gate_callee (f := 75) rfl ?_); refine goesL_ (some 4) rfl rfl Tryd.func75 (by kernel_rfl) rfl #[.int .i64 a0] rfl (by (try simp only [List.map_toArray, List.map_cons, List.map_nil]); first | done | rfl | (simp only [List.length_drop, List.length_take]; rfl)) ?_; (with_reducible refine (spinnakerref03_letter.calls a0 t252 _ A2.out).mono ?_); rintro e w' ⟨rfl, ⟨nd, rfl⟩⟩; refine ⟨_, rfl, ?_⟩))
                          go_ret
                          exact ⟨by first | rfl | (simp; done) | (simp [*]; done), by repeat (first | exact Drawn0.refl _ | apply Drawn0.step)⟩

end Go.Proofs.YtbmjbidekmkboaaDoor.GEncWords
