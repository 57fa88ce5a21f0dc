-- Written by wip/stub.py of this repo.
import Derived.Test.YtmkcnbaknnohgaaDoorGUnitLoadsx0
import Derived.Test.YtmkcnbaknnohgaaDoorGUnitLoadsx3
import Derived.Test.YtmkcnbaknnohgaaDoorGUnitLoadsx4
namespace Go.Proofs.YtmkcnbaknnohgaaDoor.GUnitLoads
open Go.RowKit Go.Proofs.YtmkcnbaknnohgaaDoorW.PrintWords Go.Proofs.YtmkcnbaknnohgaaDoorW.PrintLast Go.Proofs.YtmkcnbaknnohgaaDoorW.PrintMore
attribute [local go_sem] max2_int min2_int max_two min_two max_three min_three max_four min_four   -- for this text's walks alone
set_option linter.unusedVariables false
set_option linter.unusedSimpArgs false

/-! ### spinnakerref03_May: function 7 -/
def spinnakerref03_May.f (k : Nat) (a0_0 : Int) (a0_1 : Int) (a0_2 : Int) (a0_3 : Int) (a0_4 : Int) (a0_5 : Bool) (a0_6 : Bool) : Option (Bool) := (spinnakerref03_letter.f a0_0).bind fun t199 => (if t199 = 0 then (some false) else ((spinnakerref03_HasRd.f k a0_0).bind fun t200 => ((spinnakerref03_register.f a0_1 t200).bind fun t201 => (if t201 = true then ((spinnakerref03_HasA.f k a0_0).bind fun t202 => ((spinnakerref03_register.f a0_2 t202).bind fun t203 => (if t203 = true then ((spinnakerref03_HasB.f k a0_0).bind fun t204 => ((spinnakerref03_register.f a0_3 t204).bind fun t205 => (if t205 = true then ((spinnakerref03_immediate.f k a0_0 a0_4).bind fun t206 => (if t206 = true then ((spinnakerref03_has.f k a0_0 (⟨#[76, 65]⟩ : ByteArray)).bind fun t207 => (if t207 = true then (some true) else (if a0_5 = true then (some false) else (some (!a0_6))))) else (some false))) else (some false)))) else (some false)))) else (some false)))))
theorem spinnakerref03_May.mono : ∀ a0 a1 a2 a3 a4 a5 a6 k, LeO (spinnakerref03_May.f k a0 a1 a2 a3 a4 a5 a6) (spinnakerref03_May.f (k + 1) a0 a1 a2 a3 a4 a5 a6) := by
 intro a0 a1 a2 a3 a4 a5 a6 k
 unfold spinnakerref03_May.f
 repeat' first | (with_reducible first | exact spinnakerref03_HasA.mono _ _ | exact spinnakerref03_HasB.mono _ _ | exact spinnakerref03_HasRd.mono _ _ | exact spinnakerref03_has.mono _ _ _ | exact spinnakerref03_immediate.mono _ _ _ | exact LeO.refl _ | exact LeO.none _ | refine LeO.ite ?_ ?_ | refine LeO.bind ?_ (fun _ => ?_)) | exact spinnakerref03_HasA.mono _ _ | exact spinnakerref03_HasB.mono _ _ | exact spinnakerref03_HasRd.mono _ _ | exact spinnakerref03_has.mono _ _ _ | exact spinnakerref03_immediate.mono _ _ _ | exact LeO.none _ | refine LeO.ite ?_ ?_ | refine LeO.bind ?_ (fun _ => ?_)
def spinnakerref03_May.T1 : Bool × List (List Nat × List Nat) := (true, [([], []), ([0], [0]), ([1], [1]), ([2], [2]), ([3, 2], [3]), ([4], [4]), ([5, 4], [4, 5]), ([4], [4]), ([7, 4], [4, 7]), ([8, 4, 4], [4, 8]), ([6, 9, 9, 4], [4, 6, 9]), ([10, 4], [4, 10]), ([4, 11], [4, 11]), ([12, 10], [12]), ([13], [13]), ([14, 13], [13, 14]), ([13], [13]), ([16, 13], [13, 16]), ([17, 13, 13], [13, 17]), ([15, 18, 18, 13], [13, 15, 18]), ([19, 13], [13, 19]), ([13, 20], [13, 20]), ([21, 19], [21]), ([22], [22]), ([23, 22], [22, 23]), ([22], [22]), ([25, 22], [22, 25]), ([26, 22, 22], [22, 26]), ([24, 27, 27, 22], [22, 24, 27]), ([28, 22], [22, 28]), ([22, 29], [22, 29]), ([30, 28], [30]), ([31], [31]), ([32, 31], [31, 32]), ([31], [31]), ([34, 31], [31, 34]), ([33, 35, 31, 31], [31, 33, 35]), ([36, 31], [31, 36]), ([31, 37], [31, 37])])
def spinnakerref03_May.B1 : List Nat := [0, 1, 3, 7, 15, 31, 63, 31, 159, 415, 1023, 2047, 4095, 8191, 16383, 32767, 16383, 81919, 212991, 524287, 1048575, 2097151, 4194303, 8388607, 16777215, 8388607, 41943039, 109051903, 268435455, 536870911, 1073741823, 2147483647, 4294967295, 8589934591, 4294967295, 21474836479, 68719476735, 137438953471, 274877906943]
theorem spinnakerref03_May.tab1 : rtab .any (opsOf Tryd.f7 1) = spinnakerref03_May.T1 := by kernel_rfl
theorem spinnakerref03_May.bits1 : waitsOk spinnakerref03_May.T1.2 spinnakerref03_May.B1 = true := by kernel_rfl
set_option maxHeartbeats 8000000 in
set_option maxRecDepth 100000 in
theorem spinnakerref03_May.calls (k : Nat) (a0_0 : Int) (a0_1 : Int) (a0_2 : Int) (a0_3 : Int) (a0_4 : Int) (a0_5 : Bool) (a0_6 : Bool) (r : Bool) (w : World) (h : spinnakerref03_May.f k a0_0 a0_1 a0_2 a0_3 a0_4 a0_5 a0_6 = some r) :
  Calls Tryd.prog 7 #[.agg #[.int .i64 a0_0, .int .i64 a0_1, .int .i64 a0_2, .int .i64 a0_3, .int .i64 a0_4, .bool a0_5, .bool a0_6]] w fun e w' => e = .returned (.bool r) ∧ Below w.heap.size w w' := by
 have hu27 := Tryd.underlying27
 have HB := Aside0.mk (Below.refl w.heap.size w)
 have H : ((spinnakerref03_letter.f a0_0).bind fun t199 => (if t199 = 0 then (some false) else ((spinnakerref03_HasRd.f k a0_0).bind fun t200 => ((spinnakerref03_register.f a0_1 t200).bind fun t201 => (if t201 = true then ((spinnakerref03_HasA.f k a0_0).bind fun t202 => ((spinnakerref03_register.f a0_2 t202).bind fun t203 => (if t203 = true then ((spinnakerref03_HasB.f k a0_0).bind fun t204 => ((spinnakerref03_register.f a0_3 t204).bind fun t205 => (if t205 = true then ((spinnakerref03_immediate.f k a0_0 a0_4).bind fun t206 => (if t206 = true then ((spinnakerref03_has.f k a0_0 (⟨#[76, 65]⟩ : ByteArray)).bind fun t207 => (if t207 = true then (some true) else (if a0_5 = true then (some false) else (some (!a0_6))))) else (some false))) else (some false)))) else (some false)))) else (some false)))))) = some r := h
 clear h
 replace H := be H
 obtain ⟨t199, A2, H⟩ := H
 by_cases c3 : t199 = 0
 ·rw [if_pos c3] at H
  obtain ⟨c3b0, c3b1⟩ := eqs c3
  clear c3
  obtain rfl := Option.some.inj H
  go_enter Tryd.func7, Tryd.ntmps7
  try go_wp2_with (first | ((with_reducible refine gate_dst (N := 1) rfl ?_); refine box_event ?hg (N := 1) ?hd (cs := #[.int .i64 a0_0, .int .i64 a0_1, .int .i64 a0_2, .int .i64 a0_3, .int .i64 a0_4, .bool a0_5, .bool a0_6]) (t := 27) ?hr ?_; (case hd => rfl); (case hg => rfl); (case hr => first | (go_simp; done) | (go_simp; rfl)); intro gb198 hg w4 hbox hb; obtain ⟨n0_, GW198⟩ := nb (w := w) hg hb; clear HB; have HB := n0_; have BK198 := Aside0.mk hbox; have GE198 := GW198; clear n0_ hb hbox hg))
  have n0_ := Aside0.mk (blk_drew BK198.out)
  have n1_ := Aside0.mk (below_drew1 HB.out)
  clear BK198
  clear HB
  have BK198 := n0_
  have HB := n1_
  clear n0_ n1_
  refine start_ (n := 39) (S := fun w' => w'.cell? ⟨gb198, 0, none⟩ = some (.int .i64 a0_0) ∧ w'.cell? ⟨gb198, 1, none⟩ = some (.int .i64 a0_1) ∧ w'.cell? ⟨gb198, 2, none⟩ = some (.int .i64 a0_2) ∧ w'.cell? ⟨gb198, 3, none⟩ = some (.int .i64 a0_3) ∧ w'.cell? ⟨gb198, 4, none⟩ = some (.int .i64 a0_4) ∧ w'.cell? ⟨gb198, 5, none⟩ = some (.bool a0_5) ∧ w'.cell? ⟨gb198, 6, none⟩ = some (.bool a0_6)) (ds := []) (fl 39 0) (by kernel_rfl) rfl rfl (cy7 BK198.out) (fun hHeld => ?_); refine with_tabW spinnakerref03_May.tab1 spinnakerref03_May.bits1 (fun HT_ HW_ => ?_)
  generalize w4.drew = w5 at BK198 HB hHeld ⊢
  refine pq 0 (some 3) ?_ (fl 39 1) HT_.out rfl rfl ?_ ?_ ?_ ?_
  rotate_left
  ·intro w'
   go_simp
   with_reducible rfl
  rotate_left
  ·refine pt ?_
   rfl
  refine pk 1 (some 4) ?_ (fl 39 2) HT_.out HW_.out rfl rfl ?_ hHeld ?_ ?_ ?_
  rotate_left
  ·rintro w' ⟨s0, s1, s2, s3, s4, s5, s6⟩
   go_simp
   with_reducible rfl
  rotate_left
  ·refine pt ?_
   rfl
  refine one_ (i := 2) (N := some 5) (fl 39 3) rfl rfl (one_of HT_.out (by kernel_rfl)) (by decide) (fun K hK => ?_)
  refine goes_ Tryd.func13 (by kernel_rfl) rfl #[.int .i64 a0_0] (by rfl) rfl rfl ga ?_
  with_reducible refine (spinnakerref03_letter.calls a0_0 t199 _ A2.out).mono ?_
  rintro e w' ⟨rfl, ⟨nd, rfl⟩⟩
  refine ⟨_, rfl, ?_⟩
  refine hK.out _ _ (cy7 BK198.out) (fun hHeld => ?_)
  clear hK K
  refine norm_ (a' := ?_) ?_ ?_
  rotate_left
  ·show Act.put _ (some 5) _ = _
   refine pt ?_
   rfl
  refine pq 3 (some 6) ?_ (fl 39 4) HT_.out rfl rfl ?_ ?_ ?_ ?_
  rotate_left
  ·intro w'
   go_simp
   with_reducible rfl
  rotate_left
  ·refine pt ?_
   rfl
  refine pq 4 (some 7) ?_ (fl 39 5) HT_.out rfl rfl ?_ ?_ ?_ ?_
  rotate_left
  ·intro w'
   go_simp
   with_reducible rfl
  rotate_left
  ·refine pt ?_
   rfl
  refine pr 5 (some 8) ?_ (fl 39 6) HT_.out rfl rfl ?_ ?_
  rotate_left
  ·refine pt ?_
   rfl
  refine pr 6 (some 9) ?_ (fl 39 7) HT_.out rfl rfl ?_ ?_
  rotate_left
  ·refine pt ?_
   rfl
  refine pr 7 (some 10) ?_ (fl 39 8) HT_.out rfl rfl ?_ ?_
  rotate_left
  ·refine pt ?_
   rfl
  refine pr 8 (some 11) ?_ (fl 39 9) HT_.out rfl rfl ?_ ?_
  rotate_left
  ·refine pt ?_
   rfl
  refine pr 9 (some 12) ?_ (fl 39 10) HT_.out rfl rfl ?_ ?_
  rotate_left
  ·refine pt ?_
   rfl
  refine pr 10 (some 13) ?_ (fl 39 11) HT_.out rfl rfl ?_ ?_
  rotate_left
  ·refine pt ?_
   rfl
  refine pr 11 (some 14) ?_ (fl 39 12) HT_.out rfl rfl ?_ ?_
  rotate_left
  ·refine pt ?_
   rfl
  refine pq 12 (some 15) ?_ (fl 39 13) HT_.out rfl rfl ?_ ?_ ?_ ?_
  rotate_left
  ·intro w'
   go_simp
   with_reducible rfl
  rotate_left
  ·refine pt ?_
   rfl
  refine pq 13 (some 16) ?_ (fl 39 14) HT_.out rfl rfl ?_ ?_ ?_ ?_
  rotate_left
  ·intro w'
   go_simp
   with_reducible rfl
  rotate_left
  ·refine pt ?_
   rfl
  refine pr 14 (some 17) ?_ (fl 39 15) HT_.out rfl rfl ?_ ?_
  rotate_left
  ·refine pt ?_
   rfl
  refine pr 15 (some 18) ?_ (fl 39 16) HT_.out rfl rfl ?_ ?_
  rotate_left
  ·refine pt ?_
   rfl
  refine pr 16 (some 19) ?_ (fl 39 17) HT_.out rfl rfl ?_ ?_
  rotate_left
  ·refine pt ?_
   rfl
  refine pr 17 (some 20) ?_ (fl 39 18) HT_.out rfl rfl ?_ ?_
  rotate_left
  ·refine pt ?_
   rfl
  refine pr 18 (some 21) ?_ (fl 39 19) HT_.out rfl rfl ?_ ?_
  rotate_left
  ·refine pt ?_
   rfl
  refine pr 19 (some 22) ?_ (fl 39 20) HT_.out rfl rfl ?_ ?_
  rotate_left
  ·refine pt ?_
   rfl
  refine pr 20 (some 23) ?_ (fl 39 21) HT_.out rfl rfl ?_ ?_
  rotate_left
  ·refine pt ?_
   rfl
  refine pq 21 (some 24) ?_ (fl 39 22) HT_.out rfl rfl ?_ ?_ ?_ ?_
  rotate_left
  ·intro w'
   go_simp
   with_reducible rfl
  rotate_left
  ·refine pt ?_
   rfl
  refine pq 22 (some 25) ?_ (fl 39 23) HT_.out rfl rfl ?_ ?_ ?_ ?_
  rotate_left
  ·intro w'
   go_simp
   with_reducible rfl
  rotate_left
  ·refine pt ?_
   rfl
  refine pr 23 (some 26) ?_ (fl 39 24) HT_.out rfl rfl ?_ ?_
  rotate_left
  ·refine pt ?_
   rfl
  refine pr 24 (some 27) ?_ (fl 39 25) HT_.out rfl rfl ?_ ?_
  rotate_left
  ·refine pt ?_
   rfl
  refine pr 25 (some 28) ?_ (fl 39 26) HT_.out rfl rfl ?_ ?_
  rotate_left
  ·refine pt ?_
   rfl
  refine pr 26 (some 29) ?_ (fl 39 27) HT_.out rfl rfl ?_ ?_
  rotate_left
  ·refine pt ?_
   rfl
  refine pr 27 (some 30) ?_ (fl 39 28) HT_.out rfl rfl ?_ ?_
  rotate_left
  ·refine pt ?_
   rfl
  refine pr 28 (some 31) ?_ (fl 39 29) HT_.out rfl rfl ?_ ?_
  rotate_left
  ·refine pt ?_
   rfl
  refine pr 29 (some 32) ?_ (fl 39 30) HT_.out rfl rfl ?_ ?_
  rotate_left
  ·refine pt ?_
   rfl
  refine pq 30 (some 33) ?_ (fl 39 31) HT_.out rfl rfl ?_ ?_ ?_ ?_
  rotate_left
  ·intro w'
   go_simp
   with_reducible rfl
  rotate_left
  ·refine pt ?_
   rfl
  refine pq 31 (some 34) ?_ (fl 39 32) HT_.out rfl rfl ?_ ?_ ?_ ?_
  rotate_left
  ·intro w'
   go_simp
   with_reducible rfl
  rotate_left
  ·refine pt ?_
   rfl
  refine pr 32 (some 35) ?_ (fl 39 33) HT_.out rfl rfl ?_ ?_
  rotate_left
  ·refine pt ?_
   rfl
  refine pr 33 (some 36) ?_ (fl 39 34) HT_.out rfl rfl ?_ ?_
  rotate_left
  ·refine pt ?_
   rfl
  refine pr 34 (some 37) ?_ (fl 39 35) HT_.out rfl rfl ?_ ?_
  rotate_left
  ·refine pt ?_
   rfl
  refine pr 35 (some 38) ?_ (fl 39 36) HT_.out rfl rfl ?_ ?_
  rotate_left
  ·refine pt ?_
   rfl
  refine pr 36 (some 39) ?_ (fl 39 37) HT_.out rfl rfl ?_ ?_
  rotate_left
  ·refine pt ?_
   rfl
  refine pr 37 (some 40) ?_ (fl 39 38) HT_.out rfl rfl ?_ ?_
  rotate_left
  ·refine pt ?_
   rfl
  refine pq 38 (some 41) ?_ (fl 39 39) HT_.out rfl rfl ?_ ?_ ?_ ?_
  rotate_left
  ·intro w'
   go_simp
   with_reducible rfl
  rotate_left
  ·refine pt ?_
   rfl
  refine done_ (done_of HT_.out (by kernel_rfl)) ?_
  try go_wp2
  go_ret
  exact ⟨fi, bl⟩
 ·rw [if_neg c3] at H
  have c3b0 : (t199 == 0) = false := beq_eq_false_iff_ne.mpr c3
  have c3b1 : (t199 != 0) = true := bne_iff_ne.mpr c3
  replace H := be H
  obtain ⟨t200, A6, H⟩ := H
  replace H := be H
  obtain ⟨t201, A7, H⟩ := H
  by_cases c8 : t201 = true
  ·subst c8
   have H1 : ((spinnakerref03_HasA.f k a0_0).bind fun t202 => ((spinnakerref03_register.f a0_2 t202).bind fun t203 => (if t203 = true then ((spinnakerref03_HasB.f k a0_0).bind fun t204 => ((spinnakerref03_register.f a0_3 t204).bind fun t205 => (if t205 = true then ((spinnakerref03_immediate.f k a0_0 a0_4).bind fun t206 => (if t206 = true then ((spinnakerref03_has.f k a0_0 (⟨#[76, 65]⟩ : ByteArray)).bind fun t207 => (if t207 = true then (some true) else (if a0_5 = true then (some false) else (some (!a0_6))))) else (some false))) else (some false)))) else (some false)))) = some r := by rw [if_pos rfl] at H; exact H
   clear H
   have H := H1
   clear H1
   replace H := be H
   obtain ⟨t202, A9, H⟩ := H
   replace H := be H
   obtain ⟨t203, A10, H⟩ := H
   by_cases c11 : t203 = true
   ·subst c11
    have H1 : ((spinnakerref03_HasB.f k a0_0).bind fun t204 => ((spinnakerref03_register.f a0_3 t204).bind fun t205 => (if t205 = true then ((spinnakerref03_immediate.f k a0_0 a0_4).bind fun t206 => (if t206 = true then ((spinnakerref03_has.f k a0_0 (⟨#[76, 65]⟩ : ByteArray)).bind fun t207 => (if t207 = true then (some true) else (if a0_5 = true then (some false) else (some (!a0_6))))) else (some false))) else (some false)))) = some r := by rw [if_pos rfl] at H; exact H
    clear H
    have H := H1
    clear H1
    replace H := be H
    obtain ⟨t204, A12, H⟩ := H
    replace H := be H
    obtain ⟨t205, A13, H⟩ := H
    by_cases c14 : t205 = true
    ·subst c14
     have H1 : ((spinnakerref03_immediate.f k a0_0 a0_4).bind fun t206 => (if t206 = true then ((spinnakerref03_has.f k a0_0 (⟨#[76, 65]⟩ : ByteArray)).bind fun t207 => (if t207 = true then (some true) else (if a0_5 = true then (some false) else (some (!a0_6))))) else (some false))) = some r := by rw [if_pos rfl] at H; exact H
     clear H
     have H := H1
     clear H1
     replace H := be H
     obtain ⟨t206, A15, H⟩ := H
     by_cases c16 : t206 = true
     ·subst c16
      have H1 : ((spinnakerref03_has.f k a0_0 (⟨#[76, 65]⟩ : ByteArray)).bind fun t207 => (if t207 = true then (some true) else (if a0_5 = true then (some false) else (some (!a0_6))))) = some r := by rw [if_pos rfl] at H; exact H
      clear H
      have H := H1
      clear H1
      replace H := be H
      obtain ⟨t207, A17, H⟩ := H
      by_cases c18 : t207 = true
      ·subst c18
       have H1 : (some true) = some r := by rw [if_pos rfl] at H; exact H
       clear H
       have H := H1
       clear H1
       obtain rfl := Option.some.inj H
       go_enter Tryd.func7, Tryd.ntmps7
       try go_wp2_with (first | ((with_reducible refine gate_dst (N := 1) rfl ?_); refine box_event ?hg (N := 1) ?hd (cs := #[.int .i64 a0_0, .int .i64 a0_1, .int .i64 a0_2, .int .i64 a0_3, .int .i64 a0_4, .bool a0_5, .bool a0_6]) (t := 27) ?hr ?_; (case hd => rfl); (case hg => rfl); (case hr => first | (go_simp; done) | (go_simp; rfl)); intro gb198 hg w19 hbox hb; obtain ⟨n0_, GW198⟩ := nb (w := w) hg hb; clear HB; have HB := n0_; have BK198 := Aside0.mk hbox; have GE198 := GW198; clear n0_ hb hbox hg))
       have n0_ := Aside0.mk (blk_drew BK198.out)
       have n1_ := Aside0.mk (below_drew1 HB.out)
       clear BK198
       clear HB
       have BK198 := n0_
       have HB := n1_
       clear n0_ n1_
       refine start_ (n := 39) (S := fun w' => w'.cell? ⟨gb198, 0, none⟩ = some (.int .i64 a0_0) ∧ w'.cell? ⟨gb198, 1, none⟩ = some (.int .i64 a0_1) ∧ w'.cell? ⟨gb198, 2, none⟩ = some (.int .i64 a0_2) ∧ w'.cell? ⟨gb198, 3, none⟩ = some (.int .i64 a0_3) ∧ w'.cell? ⟨gb198, 4, none⟩ = some (.int .i64 a0_4) ∧ w'.cell? ⟨gb198, 5, none⟩ = some (.bool a0_5) ∧ w'.cell? ⟨gb198, 6, none⟩ = some (.bool a0_6)) (ds := []) (fl 39 0) (by kernel_rfl) rfl rfl (cy7 BK198.out) (fun hHeld => ?_); refine with_tabW spinnakerref03_May.tab1 spinnakerref03_May.bits1 (fun HT_ HW_ => ?_)
       generalize w19.drew = w20 at BK198 HB hHeld ⊢
       refine pq 0 (some 3) ?_ (fl 39 1) HT_.out rfl rfl ?_ ?_ ?_ ?_
       rotate_left
       ·intro w'
        go_simp
        with_reducible rfl
       rotate_left
       ·refine pt ?_
        rfl
       refine pk 1 (some 4) ?_ (fl 39 2) HT_.out HW_.out rfl rfl ?_ hHeld ?_ ?_ ?_
       rotate_left
       ·rintro w' ⟨s0, s1, s2, s3, s4, s5, s6⟩
        go_simp
        with_reducible rfl
       rotate_left
       ·refine pt ?_
        rfl
       refine one_ (i := 2) (N := some 5) (fl 39 3) rfl rfl (one_of HT_.out (by kernel_rfl)) (by decide) (fun K hK => ?_)
       refine goes_ Tryd.func13 (by kernel_rfl) rfl #[.int .i64 a0_0] (by rfl) rfl rfl ga ?_
       with_reducible refine (spinnakerref03_letter.calls a0_0 t199 _ A2.out).mono ?_
       rintro e w' ⟨rfl, ⟨nd, rfl⟩⟩
       refine ⟨_, rfl, ?_⟩
       refine hK.out _ _ (cy7 BK198.out) (fun hHeld => ?_)
       clear hK K
       refine norm_ (a' := ?_) ?_ ?_
       rotate_left
       ·show Act.put _ (some 5) _ = _
        refine pt ?_
        rfl
       refine pq 3 (some 6) ?_ (fl 39 4) HT_.out rfl rfl ?_ ?_ ?_ ?_
       rotate_left
       ·intro w'
        go_simp
        with_reducible rfl
       rotate_left
       ·refine pt ?_
        rfl
       refine pq 4 (some 7) ?_ (fl 39 5) HT_.out rfl rfl ?_ ?_ ?_ ?_
       rotate_left
       ·intro w'
        go_simp
        with_reducible rfl
       rotate_left
       ·refine pt ?_
        rfl
       refine pq 5 (some 8) ?_ (fl 39 6) HT_.out rfl rfl ?_ ?_ ?_ ?_
       rotate_left
       ·intro w'
        go_simp
        with_reducible rfl
       rotate_left
       ·refine pt ?_
        rfl
       refine pq 7 (some 10) ?_ #[true, true, true, true, true, true, false, true, false, false, false, false, false, false, false, false, false, false, false, false, false, false, false, false, false, false, false, false, false, false, false, false, false, false, false, false, false, false, false] HT_.out rfl rfl ?_ ?_ ?_ ?_
       rotate_left
       ·intro w'
        go_simp
        with_reducible rfl
       rotate_left
       ·refine pt ?_
        rfl
       refine pk 6 (some 9) ?_ (fl 39 8) HT_.out HW_.out rfl rfl ?_ hHeld ?_ ?_ ?_
       rotate_left
       ·rintro w' ⟨s0, s1, s2, s3, s4, s5, s6⟩
        go_simp
        with_reducible rfl
       rotate_left
       ·refine pt ?_
        rfl
       refine pk 8 (some 11) ?_ (fl 39 9) HT_.out HW_.out rfl rfl ?_ hHeld ?_ ?_ ?_
       rotate_left
       ·rintro w' ⟨s0, s1, s2, s3, s4, s5, s6⟩
        go_simp
        with_reducible rfl
       rotate_left
       ·refine pt ?_
        rfl
       refine one_ (i := 9) (N := some 12) (fl 39 10) rfl rfl (one_of HT_.out (by kernel_rfl)) (by decide) (fun K hK => ?_)
       refine goes_ Tryd.func15 (by kernel_rfl) rfl #[.int .i64 a0_0] (by rfl) rfl rfl ga ?_
       with_reducible refine (spinnakerref03_HasRd.calls k a0_0 t200 _ A6.out).mono ?_
       rintro e w' ⟨rfl, ⟨nd, rfl⟩⟩
       refine ⟨_, rfl, ?_⟩
       refine hK.out _ _ (cy7 BK198.out) (fun hHeld => ?_)
       clear hK K
       refine norm_ (a' := ?_) ?_ ?_
       rotate_left
       ·show Act.put _ (some 12) _ = _
        refine pt ?_
        rfl
       refine one_ (i := 10) (N := some 13) (fl 39 11) rfl rfl (one_of HT_.out (by kernel_rfl)) (by decide) (fun K hK => ?_)
       refine goes_ Tryd.func14 (by kernel_rfl) rfl #[.int .i64 a0_1, .bool t200] (by rfl) rfl rfl ga ?_
       with_reducible refine (spinnakerref03_register.calls a0_1 t200 true _ A7.out).mono ?_
       rintro e w' ⟨rfl, ⟨nd, rfl⟩⟩
       refine ⟨_, rfl, ?_⟩
       refine hK.out _ _ (cy7 BK198.out) (fun hHeld => ?_)
       clear hK K
       refine norm_ (a' := ?_) ?_ ?_
       rotate_left
       ·show Act.put _ (some 13) _ = _
        refine pt ?_
        rfl
       refine pq 11 (some 14) ?_ (fl 39 12) HT_.out rfl rfl ?_ ?_ ?_ ?_
       rotate_left
       ·intro w'
        go_simp
        with_reducible rfl
       rotate_left
       ·refine pt ?_
        rfl
       refine pq 12 (some 15) ?_ (fl 39 13) HT_.out rfl rfl ?_ ?_ ?_ ?_
       rotate_left
       ·intro w'
        go_simp
        with_reducible rfl
       rotate_left
       ·refine pt ?_
        rfl
       refine pq 13 (some 16) ?_ (fl 39 14) HT_.out rfl rfl ?_ ?_ ?_ ?_
       rotate_left
       ·intro w'
        go_simp
        with_reducible rfl
       rotate_left
       ·refine pt ?_
        rfl
       refine pq 14 (some 17) ?_ (fl 39 15) HT_.out rfl rfl ?_ ?_ ?_ ?_
       rotate_left
       ·intro w'
        go_simp
        with_reducible rfl
       rotate_left
       ·refine pt ?_
        rfl
       refine pq 16 (some 19) ?_ #[true, true, true, true, true, true, true, true, true, true, true, true, true, true, true, false, true, false, false, false, false, false, false, false, false, false, false, false, false, false, false, false, false, false, false, false, false, false, false] HT_.out rfl rfl ?_ ?_ ?_ ?_
       rotate_left
       ·intro w'
        go_simp
        with_reducible rfl
       rotate_left
       ·refine pt ?_
        rfl
       refine pk 15 (some 18) ?_ (fl 39 17) HT_.out HW_.out rfl rfl ?_ hHeld ?_ ?_ ?_
       rotate_left
       ·rintro w' ⟨s0, s1, s2, s3, s4, s5, s6⟩
        go_simp
        with_reducible rfl
       rotate_left
       ·refine pt ?_
        rfl
       refine pk 17 (some 20) ?_ (fl 39 18) HT_.out HW_.out rfl rfl ?_ hHeld ?_ ?_ ?_
       rotate_left
       ·rintro w' ⟨s0, s1, s2, s3, s4, s5, s6⟩
        go_simp
        with_reducible rfl
       rotate_left
       ·refine pt ?_
        rfl
       refine one_ (i := 18) (N := some 21) (fl 39 19) rfl rfl (one_of HT_.out (by kernel_rfl)) (by decide) (fun K hK => ?_)
       refine goes_ Tryd.func16 (by kernel_rfl) rfl #[.int .i64 a0_0] (by rfl) rfl rfl ga ?_
       with_reducible refine (spinnakerref03_HasA.calls k a0_0 t202 _ A9.out).mono ?_
       rintro e w' ⟨rfl, ⟨nd, rfl⟩⟩
       refine ⟨_, rfl, ?_⟩
       refine hK.out _ _ (cy7 BK198.out) (fun hHeld => ?_)
       clear hK K
       refine norm_ (a' := ?_) ?_ ?_
       rotate_left
       ·show Act.put _ (some 21) _ = _
        refine pt ?_
        rfl
       refine one_ (i := 19) (N := some 22) (fl 39 20) rfl rfl (one_of HT_.out (by kernel_rfl)) (by decide) (fun K hK => ?_)
       refine goes_ Tryd.func14 (by kernel_rfl) rfl #[.int .i64 a0_2, .bool t202] (by rfl) rfl rfl ga ?_
       with_reducible refine (spinnakerref03_register.calls a0_2 t202 true _ A10.out).mono ?_
       rintro e w' ⟨rfl, ⟨nd, rfl⟩⟩
       refine ⟨_, rfl, ?_⟩
       refine hK.out _ _ (cy7 BK198.out) (fun hHeld => ?_)
       clear hK K
       refine norm_ (a' := ?_) ?_ ?_
       rotate_left
       ·show Act.put _ (some 22) _ = _
        refine pt ?_
        rfl
       refine pq 20 (some 23) ?_ (fl 39 21) HT_.out rfl rfl ?_ ?_ ?_ ?_
       rotate_left
       ·intro w'
        go_simp
        with_reducible rfl
       rotate_left
       ·refine pt ?_
        rfl
       refine pq 21 (some 24) ?_ (fl 39 22) HT_.out rfl rfl ?_ ?_ ?_ ?_
       rotate_left
       ·intro w'
        go_simp
        with_reducible rfl
       rotate_left
       ·refine pt ?_
        rfl
       refine pq 22 (some 25) ?_ (fl 39 23) HT_.out rfl rfl ?_ ?_ ?_ ?_
       rotate_left
       ·intro w'
        go_simp
        with_reducible rfl
       rotate_left
       ·refine pt ?_
        rfl
       refine pq 23 (some 26) ?_ (fl 39 24) HT_.out rfl rfl ?_ ?_ ?_ ?_
       rotate_left
       ·intro w'
        go_simp
        with_reducible rfl
       rotate_left
       ·refine pt ?_
        rfl
       refine pq 25 (some 28) ?_ #[true, true, true, true, true, true, true, true, true, true, true, true, true, true, true, true, true, true, true, true, true, true, true, true, false, true, false, false, false, false, false, false, false, false, false, false, false, false, false] HT_.out rfl rfl ?_ ?_ ?_ ?_
       rotate_left
       ·intro w'
        go_simp
        with_reducible rfl
       rotate_left
       ·refine pt ?_
        rfl
       refine pk 24 (some 27) ?_ (fl 39 26) HT_.out HW_.out rfl rfl ?_ hHeld ?_ ?_ ?_
       rotate_left
       ·rintro w' ⟨s0, s1, s2, s3, s4, s5, s6⟩
        go_simp
        with_reducible rfl
       rotate_left
       ·refine pt ?_
        rfl
       refine pk 26 (some 29) ?_ (fl 39 27) HT_.out HW_.out rfl rfl ?_ hHeld ?_ ?_ ?_
       rotate_left
       ·rintro w' ⟨s0, s1, s2, s3, s4, s5, s6⟩
        go_simp
        with_reducible rfl
       rotate_left
       ·refine pt ?_
        rfl
       refine one_ (i := 27) (N := some 30) (fl 39 28) rfl rfl (one_of HT_.out (by kernel_rfl)) (by decide) (fun K hK => ?_)
       refine goes_ Tryd.func17 (by kernel_rfl) rfl #[.int .i64 a0_0] (by rfl) rfl rfl ga ?_
       with_reducible refine (spinnakerref03_HasB.calls k a0_0 t204 _ A12.out).mono ?_
       rintro e w' ⟨rfl, ⟨nd, rfl⟩⟩
       refine ⟨_, rfl, ?_⟩
       refine hK.out _ _ (cy7 BK198.out) (fun hHeld => ?_)
       clear hK K
       refine norm_ (a' := ?_) ?_ ?_
       rotate_left
       ·show Act.put _ (some 30) _ = _
        refine pt ?_
        rfl
       refine one_ (i := 28) (N := some 31) (fl 39 29) rfl rfl (one_of HT_.out (by kernel_rfl)) (by decide) (fun K hK => ?_)
       refine goes_ Tryd.func14 (by kernel_rfl) rfl #[.int .i64 a0_3, .bool t204] (by rfl) rfl rfl ga ?_
       with_reducible refine (spinnakerref03_register.calls a0_3 t204 true _ A13.out).mono ?_
       rintro e w' ⟨rfl, ⟨nd, rfl⟩⟩
       refine ⟨_, rfl, ?_⟩
       refine hK.out _ _ (cy7 BK198.out) (fun hHeld => ?_)
       clear hK K
       refine norm_ (a' := ?_) ?_ ?_
       rotate_left
       ·show Act.put _ (some 31) _ = _
        refine pt ?_
        rfl
       refine pq 29 (some 32) ?_ (fl 39 30) HT_.out rfl rfl ?_ ?_ ?_ ?_
       rotate_left
       ·intro w'
        go_simp
        with_reducible rfl
       rotate_left
       ·refine pt ?_
        rfl
       refine pq 30 (some 33) ?_ (fl 39 31) HT_.out rfl rfl ?_ ?_ ?_ ?_
       rotate_left
       ·intro w'
        go_simp
        with_reducible rfl
       rotate_left
       ·refine pt ?_
        rfl
       refine pq 31 (some 34) ?_ (fl 39 32) HT_.out rfl rfl ?_ ?_ ?_ ?_
       rotate_left
       ·intro w'
        go_simp
        with_reducible rfl
       rotate_left
       ·refine pt ?_
        rfl
       refine pq 32 (some 35) ?_ (fl 39 33) HT_.out rfl rfl ?_ ?_ ?_ ?_
       rotate_left
       ·intro w'
        go_simp
        with_reducible rfl
       rotate_left
       ·refine pt ?_
        rfl
       refine pq 34 (some 37) ?_ #[true, true, true, true, true, true, true, true, true, true, true, true, true, true, true, true, true, true, true, true, true, true, true, true, true, true, true, true, true, true, true, true, true, false, true, false, false, false, false] HT_.out rfl rfl ?_ ?_ ?_ ?_
       rotate_left
       ·intro w'
        go_simp
        with_reducible rfl
       rotate_left
       ·refine pt ?_
        rfl
       refine pk 33 (some 36) ?_ (fl 39 35) HT_.out HW_.out rfl rfl ?_ hHeld ?_ ?_ ?_
       rotate_left
       ·rintro w' ⟨s0, s1, s2, s3, s4, s5, s6⟩
        go_simp
        with_reducible rfl
       rotate_left
       ·refine pt ?_
        rfl
       refine pk 35 (some 38) ?_ (fl 39 36) HT_.out HW_.out rfl rfl ?_ hHeld ?_ ?_ ?_
       rotate_left
       ·rintro w' ⟨s0, s1, s2, s3, s4, s5, s6⟩
        go_simp
        with_reducible rfl
       rotate_left
       ·refine pt ?_
        rfl
       refine one_ (i := 36) (N := some 39) (fl 39 37) rfl rfl (one_of HT_.out (by kernel_rfl)) (by decide) (fun K hK => ?_)
       refine goes_ Tryd.func18 (by kernel_rfl) rfl #[.int .i64 a0_0, .int .i64 a0_4] (by rfl) rfl rfl ga ?_
       with_reducible refine (spinnakerref03_immediate.calls k a0_0 a0_4 true _ A15.out).mono ?_
       rintro e w' ⟨rfl, ⟨nd, rfl⟩⟩
       refine ⟨_, rfl, ?_⟩
       refine hK.out _ _ (cy7 BK198.out) (fun hHeld => ?_)
       clear hK K
       refine norm_ (a' := ?_) ?_ ?_
       rotate_left
       ·show Act.put _ (some 39) _ = _
        refine pt ?_
        rfl
       refine pq 37 (some 40) ?_ (fl 39 38) HT_.out rfl rfl ?_ ?_ ?_ ?_
       rotate_left
       ·intro w'
        go_simp
        with_reducible rfl
       rotate_left
       ·refine pt ?_
        rfl
       refine pq 38 (some 41) ?_ (fl 39 39) HT_.out rfl rfl ?_ ?_ ?_ ?_
       rotate_left
       ·intro w'
        go_simp
        with_reducible rfl
       rotate_left
       ·refine pt ?_
        rfl
       refine done_ (done_of HT_.out (by kernel_rfl)) ?_
       obtain ⟨hcz21_0, hcz21_1, hcz21_2, hcz21_3, hcz21_4, hcz21_5, hcz21_6, hfz21_0, hfz21_1, hfz21_2, hfz21_3, hfz21_4, hfz21_5, hfz21_6⟩ := cz7 (w := w20) BK198.out
       try go_wp2_with (first | ((with_reducible refine gate_callee (f := 19) rfl ?_); refine goesL_ (some 44) rfl rfl Tryd.func19 (by kernel_rfl) rfl #[.int .i64 a0_0, .string (⟨#[76, 65]⟩ : ByteArray)] rfl ga ?_; (with_reducible refine (spinnakerref03_has.calls k a0_0 (⟨#[76, 65]⟩ : ByteArray) true _ A17.out).mono ?_); rintro e w' ⟨rfl, ⟨nd, rfl⟩⟩; refine ⟨_, rfl, ?_⟩))
       go_ret
       exact ⟨fi, bl⟩
      ·replace c18 := Bool.eq_false_iff.mpr c18
       subst c18
       have H1 : (if a0_5 = true then (some false) else (some (!a0_6))) = some r := by rw [if_neg (show ¬ (false = true) by decide)] at H; exact H
       clear H
       have H := H1
       clear H1
       by_cases c22 : a0_5 = true
       ·subst c22
        have H1 : (some false) = some r := by rw [if_pos rfl] at H; exact H
        clear H
        have H := H1
        clear H1
        obtain rfl := Option.some.inj H
        go_enter Tryd.func7, Tryd.ntmps7
        try go_wp2_with (first | ((with_reducible refine gate_dst (N := 1) rfl ?_); refine box_event ?hg (N := 1) ?hd (cs := #[.int .i64 a0_0, .int .i64 a0_1, .int .i64 a0_2, .int .i64 a0_3, .int .i64 a0_4, .bool true, .bool a0_6]) (t := 27) ?hr ?_; (case hd => rfl); (case hg => rfl); (case hr => first | (go_simp; done) | (go_simp; rfl)); intro gb198 hg w23 hbox hb; obtain ⟨n0_, GW198⟩ := nb (w := w) hg hb; clear HB; have HB := n0_; have BK198 := Aside0.mk hbox; have GE198 := GW198; clear n0_ hb hbox hg))
        have n0_ := Aside0.mk (blk_drew BK198.out)
        have n1_ := Aside0.mk (below_drew1 HB.out)
        clear BK198
        clear HB
        have BK198 := n0_
        have HB := n1_
        clear n0_ n1_
        refine start_ (n := 39) (S := fun w' => w'.cell? ⟨gb198, 0, none⟩ = some (.int .i64 a0_0) ∧ w'.cell? ⟨gb198, 1, none⟩ = some (.int .i64 a0_1) ∧ w'.cell? ⟨gb198, 2, none⟩ = some (.int .i64 a0_2) ∧ w'.cell? ⟨gb198, 3, none⟩ = some (.int .i64 a0_3) ∧ w'.cell? ⟨gb198, 4, none⟩ = some (.int .i64 a0_4) ∧ w'.cell? ⟨gb198, 5, none⟩ = some (.bool true) ∧ w'.cell? ⟨gb198, 6, none⟩ = some (.bool a0_6)) (ds := []) (fl 39 0) (by kernel_rfl) rfl rfl (cy7 BK198.out) (fun hHeld => ?_); refine with_tabW spinnakerref03_May.tab1 spinnakerref03_May.bits1 (fun HT_ HW_ => ?_)
        generalize w23.drew = w24 at BK198 HB hHeld ⊢
        refine pq 0 (some 3) ?_ (fl 39 1) HT_.out rfl rfl ?_ ?_ ?_ ?_
        rotate_left
        ·intro w'
         go_simp
         with_reducible rfl
        rotate_left
        ·refine pt ?_
         rfl
        refine pk 1 (some 4) ?_ (fl 39 2) HT_.out HW_.out rfl rfl ?_ hHeld ?_ ?_ ?_
        rotate_left
        ·rintro w' ⟨s0, s1, s2, s3, s4, s5, s6⟩
         go_simp
         with_reducible rfl
        rotate_left
        ·refine pt ?_
         rfl
        refine one_ (i := 2) (N := some 5) (fl 39 3) rfl rfl (one_of HT_.out (by kernel_rfl)) (by decide) (fun K hK => ?_)
        refine goes_ Tryd.func13 (by kernel_rfl) rfl #[.int .i64 a0_0] (by rfl) rfl rfl ga ?_
        with_reducible refine (spinnakerref03_letter.calls a0_0 t199 _ A2.out).mono ?_
        rintro e w' ⟨rfl, ⟨nd, rfl⟩⟩
        refine ⟨_, rfl, ?_⟩
        refine hK.out _ _ (cy7 BK198.out) (fun hHeld => ?_)
        clear hK K
        refine norm_ (a' := ?_) ?_ ?_
        rotate_left
        ·show Act.put _ (some 5) _ = _
         refine pt ?_
         rfl
        refine pq 3 (some 6) ?_ (fl 39 4) HT_.out rfl rfl ?_ ?_ ?_ ?_
        rotate_left
        ·intro w'
         go_simp
         with_reducible rfl
        rotate_left
        ·refine pt ?_
         rfl
        refine pq 4 (some 7) ?_ (fl 39 5) HT_.out rfl rfl ?_ ?_ ?_ ?_
        rotate_left
        ·intro w'
         go_simp
         with_reducible rfl
        rotate_left
        ·refine pt ?_
         rfl
        refine pq 5 (some 8) ?_ (fl 39 6) HT_.out rfl rfl ?_ ?_ ?_ ?_
        rotate_left
        ·intro w'
         go_simp
         with_reducible rfl
        rotate_left
        ·refine pt ?_
         rfl
        refine pq 7 (some 10) ?_ #[true, true, true, true, true, true, false, true, false, false, false, false, false, false, false, false, false, false, false, false, false, false, false, false, false, false, false, false, false, false, false, false, false, false, false, false, false, false, false] HT_.out rfl rfl ?_ ?_ ?_ ?_
        rotate_left
        ·intro w'
         go_simp
         with_reducible rfl
        rotate_left
        ·refine pt ?_
         rfl
        refine pk 6 (some 9) ?_ (fl 39 8) HT_.out HW_.out rfl rfl ?_ hHeld ?_ ?_ ?_
        rotate_left
        ·rintro w' ⟨s0, s1, s2, s3, s4, s5, s6⟩
         go_simp
         with_reducible rfl
        rotate_left
        ·refine pt ?_
         rfl
        refine pk 8 (some 11) ?_ (fl 39 9) HT_.out HW_.out rfl rfl ?_ hHeld ?_ ?_ ?_
        rotate_left
        ·rintro w' ⟨s0, s1, s2, s3, s4, s5, s6⟩
         go_simp
         with_reducible rfl
        rotate_left
        ·refine pt ?_
         rfl
        refine one_ (i := 9) (N := some 12) (fl 39 10) rfl rfl (one_of HT_.out (by kernel_rfl)) (by decide) (fun K hK => ?_)
        refine goes_ Tryd.func15 (by kernel_rfl) rfl #[.int .i64 a0_0] (by rfl) rfl rfl ga ?_
        with_reducible refine (spinnakerref03_HasRd.calls k a0_0 t200 _ A6.out).mono ?_
        rintro e w' ⟨rfl, ⟨nd, rfl⟩⟩
        refine ⟨_, rfl, ?_⟩
        refine hK.out _ _ (cy7 BK198.out) (fun hHeld => ?_)
        clear hK K
        refine norm_ (a' := ?_) ?_ ?_
        rotate_left
        ·show Act.put _ (some 12) _ = _
         refine pt ?_
         rfl
        refine one_ (i := 10) (N := some 13) (fl 39 11) rfl rfl (one_of HT_.out (by kernel_rfl)) (by decide) (fun K hK => ?_)
        refine goes_ Tryd.func14 (by kernel_rfl) rfl #[.int .i64 a0_1, .bool t200] (by rfl) rfl rfl ga ?_
        with_reducible refine (spinnakerref03_register.calls a0_1 t200 true _ A7.out).mono ?_
        rintro e w' ⟨rfl, ⟨nd, rfl⟩⟩
        refine ⟨_, rfl, ?_⟩
        refine hK.out _ _ (cy7 BK198.out) (fun hHeld => ?_)
        clear hK K
        refine norm_ (a' := ?_) ?_ ?_
        rotate_left
        ·show Act.put _ (some 13) _ = _
         refine pt ?_
         rfl
        refine pq 11 (some 14) ?_ (fl 39 12) HT_.out rfl rfl ?_ ?_ ?_ ?_
        rotate_left
        ·intro w'
         go_simp
         with_reducible rfl
        rotate_left
        ·refine pt ?_
         rfl
        refine pq 12 (some 15) ?_ (fl 39 13) HT_.out rfl rfl ?_ ?_ ?_ ?_
        rotate_left
        ·intro w'
         go_simp
         with_reducible rfl
        rotate_left
        ·refine pt ?_
         rfl
        refine pq 13 (some 16) ?_ (fl 39 14) HT_.out rfl rfl ?_ ?_ ?_ ?_
        rotate_left
        ·intro w'
         go_simp
         with_reducible rfl
        rotate_left
        ·refine pt ?_
         rfl
        refine pq 14 (some 17) ?_ (fl 39 15) HT_.out rfl rfl ?_ ?_ ?_ ?_
        rotate_left
        ·intro w'
         go_simp
         with_reducible rfl
        rotate_left
        ·refine pt ?_
         rfl
        refine pq 16 (some 19) ?_ #[true, true, true, true, true, true, true, true, true, true, true, true, true, true, true, false, true, false, false, false, false, false, false, false, false, false, false, false, false, false, false, false, false, false, false, false, false, false, false] HT_.out rfl rfl ?_ ?_ ?_ ?_
        rotate_left
        ·intro w'
         go_simp
         with_reducible rfl
        rotate_left
        ·refine pt ?_
         rfl
        refine pk 15 (some 18) ?_ (fl 39 17) HT_.out HW_.out rfl rfl ?_ hHeld ?_ ?_ ?_
        rotate_left
        ·rintro w' ⟨s0, s1, s2, s3, s4, s5, s6⟩
         go_simp
         with_reducible rfl
        rotate_left
        ·refine pt ?_
         rfl
        refine pk 17 (some 20) ?_ (fl 39 18) HT_.out HW_.out rfl rfl ?_ hHeld ?_ ?_ ?_
        rotate_left
        ·rintro w' ⟨s0, s1, s2, s3, s4, s5, s6⟩
         go_simp
         with_reducible rfl
        rotate_left
        ·refine pt ?_
         rfl
        refine one_ (i := 18) (N := some 21) (fl 39 19) rfl rfl (one_of HT_.out (by kernel_rfl)) (by decide) (fun K hK => ?_)
        refine goes_ Tryd.func16 (by kernel_rfl) rfl #[.int .i64 a0_0] (by rfl) rfl rfl ga ?_
        with_reducible refine (spinnakerref03_HasA.calls k a0_0 t202 _ A9.out).mono ?_
        rintro e w' ⟨rfl, ⟨nd, rfl⟩⟩
        refine ⟨_, rfl, ?_⟩
        refine hK.out _ _ (cy7 BK198.out) (fun hHeld => ?_)
        clear hK K
        refine norm_ (a' := ?_) ?_ ?_
        rotate_left
        ·show Act.put _ (some 21) _ = _
         refine pt ?_
         rfl
        refine one_ (i := 19) (N := some 22) (fl 39 20) rfl rfl (one_of HT_.out (by kernel_rfl)) (by decide) (fun K hK => ?_)
        refine goes_ Tryd.func14 (by kernel_rfl) rfl #[.int .i64 a0_2, .bool t202] (by rfl) rfl rfl ga ?_
        with_reducible refine (spinnakerref03_register.calls a0_2 t202 true _ A10.out).mono ?_
        rintro e w' ⟨rfl, ⟨nd, rfl⟩⟩
        refine ⟨_, rfl, ?_⟩
        refine hK.out _ _ (cy7 BK198.out) (fun hHeld => ?_)
        clear hK K
        refine norm_ (a' := ?_) ?_ ?_
        rotate_left
        ·show Act.put _ (some 22) _ = _
         refine pt ?_
         rfl
        refine pq 20 (some 23) ?_ (fl 39 21) HT_.out rfl rfl ?_ ?_ ?_ ?_
        rotate_left
        ·intro w'
         go_simp
         with_reducible rfl
        rotate_left
        ·refine pt ?_
         rfl
        refine pq 21 (some 24) ?_ (fl 39 22) HT_.out rfl rfl ?_ ?_ ?_ ?_
        rotate_left
        ·intro w'
         go_simp
         with_reducible rfl
        rotate_left
        ·refine pt ?_
         rfl
        refine pq 22 (some 25) ?_ (fl 39 23) HT_.out rfl rfl ?_ ?_ ?_ ?_
        rotate_left
        ·intro w'
         go_simp
         with_reducible rfl
        rotate_left
        ·refine pt ?_
         rfl
        refine pq 23 (some 26) ?_ (fl 39 24) HT_.out rfl rfl ?_ ?_ ?_ ?_
        rotate_left
        ·intro w'
         go_simp
         with_reducible rfl
        rotate_left
        ·refine pt ?_
         rfl
        refine pq 25 (some 28) ?_ #[true, true, true, true, true, true, true, true, true, true, true, true, true, true, true, true, true, true, true, true, true, true, true, true, false, true, false, false, false, false, false, false, false, false, false, false, false, false, false] HT_.out rfl rfl ?_ ?_ ?_ ?_
        rotate_left
        ·intro w'
         go_simp
         with_reducible rfl
        rotate_left
        ·refine pt ?_
         rfl
        refine pk 24 (some 27) ?_ (fl 39 26) HT_.out HW_.out rfl rfl ?_ hHeld ?_ ?_ ?_
        rotate_left
        ·rintro w' ⟨s0, s1, s2, s3, s4, s5, s6⟩
         go_simp
         with_reducible rfl
        rotate_left
        ·refine pt ?_
         rfl
        refine pk 26 (some 29) ?_ (fl 39 27) HT_.out HW_.out rfl rfl ?_ hHeld ?_ ?_ ?_
        rotate_left
        ·rintro w' ⟨s0, s1, s2, s3, s4, s5, s6⟩
         go_simp
         with_reducible rfl
        rotate_left
        ·refine pt ?_
         rfl
        refine one_ (i := 27) (N := some 30) (fl 39 28) rfl rfl (one_of HT_.out (by kernel_rfl)) (by decide) (fun K hK => ?_)
        refine goes_ Tryd.func17 (by kernel_rfl) rfl #[.int .i64 a0_0] (by rfl) rfl rfl ga ?_
        with_reducible refine (spinnakerref03_HasB.calls k a0_0 t204 _ A12.out).mono ?_
        rintro e w' ⟨rfl, ⟨nd, rfl⟩⟩
        refine ⟨_, rfl, ?_⟩
        refine hK.out _ _ (cy7 BK198.out) (fun hHeld => ?_)
        clear hK K
        refine norm_ (a' := ?_) ?_ ?_
        rotate_left
        ·show Act.put _ (some 30) _ = _
         refine pt ?_
         rfl
        refine one_ (i := 28) (N := some 31) (fl 39 29) rfl rfl (one_of HT_.out (by kernel_rfl)) (by decide) (fun K hK => ?_)
        refine goes_ Tryd.func14 (by kernel_rfl) rfl #[.int .i64 a0_3, .bool t204] (by rfl) rfl rfl ga ?_
        with_reducible refine (spinnakerref03_register.calls a0_3 t204 true _ A13.out).mono ?_
        rintro e w' ⟨rfl, ⟨nd, rfl⟩⟩
        refine ⟨_, rfl, ?_⟩
        refine hK.out _ _ (cy7 BK198.out) (fun hHeld => ?_)
        clear hK K
        refine norm_ (a' := ?_) ?_ ?_
        rotate_left
        ·show Act.put _ (some 31) _ = _
         refine pt ?_
         rfl
        refine pq 29 (some 32) ?_ (fl 39 30) HT_.out rfl rfl ?_ ?_ ?_ ?_
        rotate_left
        ·intro w'
         go_simp
         with_reducible rfl
        rotate_left
        ·refine pt ?_
         rfl
        refine pq 30 (some 33) ?_ (fl 39 31) HT_.out rfl rfl ?_ ?_ ?_ ?_
        rotate_left
        ·intro w'
         go_simp
         with_reducible rfl
        rotate_left
        ·refine pt ?_
         rfl
        refine pq 31 (some 34) ?_ (fl 39 32) HT_.out rfl rfl ?_ ?_ ?_ ?_
        rotate_left
        ·intro w'
         go_simp
         with_reducible rfl
        rotate_left
        ·refine pt ?_
         rfl
        refine pq 32 (some 35) ?_ (fl 39 33) HT_.out rfl rfl ?_ ?_ ?_ ?_
        rotate_left
        ·intro w'
         go_simp
         with_reducible rfl
        rotate_left
        ·refine pt ?_
         rfl
        refine pq 34 (some 37) ?_ #[true, true, true, true, true, true, true, true, true, true, true, true, true, true, true, true, true, true, true, true, true, true, true, true, true, true, true, true, true, true, true, true, true, false, true, false, false, false, false] HT_.out rfl rfl ?_ ?_ ?_ ?_
        rotate_left
        ·intro w'
         go_simp
         with_reducible rfl
        rotate_left
        ·refine pt ?_
         rfl
        refine pk 33 (some 36) ?_ (fl 39 35) HT_.out HW_.out rfl rfl ?_ hHeld ?_ ?_ ?_
        rotate_left
        ·rintro w' ⟨s0, s1, s2, s3, s4, s5, s6⟩
         go_simp
         with_reducible rfl
        rotate_left
        ·refine pt ?_
         rfl
        refine pk 35 (some 38) ?_ (fl 39 36) HT_.out HW_.out rfl rfl ?_ hHeld ?_ ?_ ?_
        rotate_left
        ·rintro w' ⟨s0, s1, s2, s3, s4, s5, s6⟩
         go_simp
         with_reducible rfl
        rotate_left
        ·refine pt ?_
         rfl
        refine one_ (i := 36) (N := some 39) (fl 39 37) rfl rfl (one_of HT_.out (by kernel_rfl)) (by decide) (fun K hK => ?_)
        refine goes_ Tryd.func18 (by kernel_rfl) rfl #[.int .i64 a0_0, .int .i64 a0_4] (by rfl) rfl rfl ga ?_
        with_reducible refine (spinnakerref03_immediate.calls k a0_0 a0_4 true _ A15.out).mono ?_
        rintro e w' ⟨rfl, ⟨nd, rfl⟩⟩
        refine ⟨_, rfl, ?_⟩
        refine hK.out _ _ (cy7 BK198.out) (fun hHeld => ?_)
        clear hK K
        refine norm_ (a' := ?_) ?_ ?_
        rotate_left
        ·show Act.put _ (some 39) _ = _
         refine pt ?_
         rfl
        refine pq 37 (some 40) ?_ (fl 39 38) HT_.out rfl rfl ?_ ?_ ?_ ?_
        rotate_left
        ·intro w'
         go_simp
         with_reducible rfl
        rotate_left
        ·refine pt ?_
         rfl
        refine pq 38 (some 41) ?_ (fl 39 39) HT_.out rfl rfl ?_ ?_ ?_ ?_
        rotate_left
        ·intro w'
         go_simp
         with_reducible rfl
        rotate_left
        ·refine pt ?_
         rfl
        refine done_ (done_of HT_.out (by kernel_rfl)) ?_
        obtain ⟨hcz25_0, hcz25_1, hcz25_2, hcz25_3, hcz25_4, hcz25_5, hcz25_6, hfz25_0, hfz25_1, hfz25_2, hfz25_3, hfz25_4, hfz25_5, hfz25_6⟩ := cz7 (w := w24) BK198.out
        try go_wp2_with (first | ((with_reducible refine gate_callee (f := 19) rfl ?_); refine goesL_ (some 44) rfl rfl Tryd.func19 (by kernel_rfl) rfl #[.int .i64 a0_0, .string (⟨#[76, 65]⟩ : ByteArray)] rfl ga ?_; (with_reducible refine (spinnakerref03_has.calls k a0_0 (⟨#[76, 65]⟩ : ByteArray) false _ A17.out).mono ?_); rintro e w' ⟨rfl, ⟨nd, rfl⟩⟩; refine ⟨_, rfl, ?_⟩))
        go_ret
        exact ⟨fi, bl⟩
       ·replace c22 := Bool.eq_false_iff.mpr c22
        subst c22
        have H1 : (some (!a0_6)) = some r := by rw [if_neg (show ¬ (false = true) by decide)] at H; exact H
        clear H
        have H := H1
        clear H1
        obtain rfl := Option.some.inj H
        go_enter Tryd.func7, Tryd.ntmps7
        try go_wp2_with (first | ((with_reducible refine gate_dst (N := 1) rfl ?_); refine box_event ?hg (N := 1) ?hd (cs := #[.int .i64 a0_0, .int .i64 a0_1, .int .i64 a0_2, .int .i64 a0_3, .int .i64 a0_4, .bool false, .bool a0_6]) (t := 27) ?hr ?_; (case hd => rfl); (case hg => rfl); (case hr => first | (go_simp; done) | (go_simp; rfl)); intro gb198 hg w26 hbox hb; obtain ⟨n0_, GW198⟩ := nb (w := w) hg hb; clear HB; have HB := n0_; have BK198 := Aside0.mk hbox; have GE198 := GW198; clear n0_ hb hbox hg))
        have n0_ := Aside0.mk (blk_drew BK198.out)
        have n1_ := Aside0.mk (below_drew1 HB.out)
        clear BK198
        clear HB
        have BK198 := n0_
        have HB := n1_
        clear n0_ n1_
        refine start_ (n := 39) (S := fun w' => w'.cell? ⟨gb198, 0, none⟩ = some (.int .i64 a0_0) ∧ w'.cell? ⟨gb198, 1, none⟩ = some (.int .i64 a0_1) ∧ w'.cell? ⟨gb198, 2, none⟩ = some (.int .i64 a0_2) ∧ w'.cell? ⟨gb198, 3, none⟩ = some (.int .i64 a0_3) ∧ w'.cell? ⟨gb198, 4, none⟩ = some (.int .i64 a0_4) ∧ w'.cell? ⟨gb198, 5, none⟩ = some (.bool false) ∧ w'.cell? ⟨gb198, 6, none⟩ = some (.bool a0_6)) (ds := []) (fl 39 0) (by kernel_rfl) rfl rfl (cy7 BK198.out) (fun hHeld => ?_); refine with_tabW spinnakerref03_May.tab1 spinnakerref03_May.bits1 (fun HT_ HW_ => ?_)
        generalize w26.drew = w27 at BK198 HB hHeld ⊢
        refine pq 0 (some 3) ?_ (fl 39 1) HT_.out rfl rfl ?_ ?_ ?_ ?_
        rotate_left
        ·intro w'
         go_simp
         with_reducible rfl
        rotate_left
        ·refine pt ?_
         rfl
        refine pk 1 (some 4) ?_ (fl 39 2) HT_.out HW_.out rfl rfl ?_ hHeld ?_ ?_ ?_
        rotate_left
        ·rintro w' ⟨s0, s1, s2, s3, s4, s5, s6⟩
         go_simp
         with_reducible rfl
        rotate_left
        ·refine pt ?_
         rfl
        refine one_ (i := 2) (N := some 5) (fl 39 3) rfl rfl (one_of HT_.out (by kernel_rfl)) (by decide) (fun K hK => ?_)
        refine goes_ Tryd.func13 (by kernel_rfl) rfl #[.int .i64 a0_0] (by rfl) rfl rfl ga ?_
        with_reducible refine (spinnakerref03_letter.calls a0_0 t199 _ A2.out).mono ?_
        rintro e w' ⟨rfl, ⟨nd, rfl⟩⟩
        refine ⟨_, rfl, ?_⟩
        refine hK.out _ _ (cy7 BK198.out) (fun hHeld => ?_)
        clear hK K
        refine norm_ (a' := ?_) ?_ ?_
        rotate_left
        ·show Act.put _ (some 5) _ = _
         refine pt ?_
         rfl
        refine pq 3 (some 6) ?_ (fl 39 4) HT_.out rfl rfl ?_ ?_ ?_ ?_
        rotate_left
        ·intro w'
         go_simp
         with_reducible rfl
        rotate_left
        ·refine pt ?_
         rfl
        refine pq 4 (some 7) ?_ (fl 39 5) HT_.out rfl rfl ?_ ?_ ?_ ?_
        rotate_left
        ·intro w'
         go_simp
         with_reducible rfl
        rotate_left
        ·refine pt ?_
         rfl
        refine pq 5 (some 8) ?_ (fl 39 6) HT_.out rfl rfl ?_ ?_ ?_ ?_
        rotate_left
        ·intro w'
         go_simp
         with_reducible rfl
        rotate_left
        ·refine pt ?_
         rfl
        refine pq 7 (some 10) ?_ #[true, true, true, true, true, true, false, true, false, false, false, false, false, false, false, false, false, false, false, false, false, false, false, false, false, false, false, false, false, false, false, false, false, false, false, false, false, false, false] HT_.out rfl rfl ?_ ?_ ?_ ?_
        rotate_left
        ·intro w'
         go_simp
         with_reducible rfl
        rotate_left
        ·refine pt ?_
         rfl
        refine pk 6 (some 9) ?_ (fl 39 8) HT_.out HW_.out rfl rfl ?_ hHeld ?_ ?_ ?_
        rotate_left
        ·rintro w' ⟨s0, s1, s2, s3, s4, s5, s6⟩
         go_simp
         with_reducible rfl
        rotate_left
        ·refine pt ?_
         rfl
        refine pk 8 (some 11) ?_ (fl 39 9) HT_.out HW_.out rfl rfl ?_ hHeld ?_ ?_ ?_
        rotate_left
        ·rintro w' ⟨s0, s1, s2, s3, s4, s5, s6⟩
         go_simp
         with_reducible rfl
        rotate_left
        ·refine pt ?_
         rfl
        refine one_ (i := 9) (N := some 12) (fl 39 10) rfl rfl (one_of HT_.out (by kernel_rfl)) (by decide) (fun K hK => ?_)
        refine goes_ Tryd.func15 (by kernel_rfl) rfl #[.int .i64 a0_0] (by rfl) rfl rfl ga ?_
        with_reducible refine (spinnakerref03_HasRd.calls k a0_0 t200 _ A6.out).mono ?_
        rintro e w' ⟨rfl, ⟨nd, rfl⟩⟩
        refine ⟨_, rfl, ?_⟩
        refine hK.out _ _ (cy7 BK198.out) (fun hHeld => ?_)
        clear hK K
        refine norm_ (a' := ?_) ?_ ?_
        rotate_left
        ·show Act.put _ (some 12) _ = _
         refine pt ?_
         rfl
        refine one_ (i := 10) (N := some 13) (fl 39 11) rfl rfl (one_of HT_.out (by kernel_rfl)) (by decide) (fun K hK => ?_)
        refine goes_ Tryd.func14 (by kernel_rfl) rfl #[.int .i64 a0_1, .bool t200] (by rfl) rfl rfl ga ?_
        with_reducible refine (spinnakerref03_register.calls a0_1 t200 true _ A7.out).mono ?_
        rintro e w' ⟨rfl, ⟨nd, rfl⟩⟩
        refine ⟨_, rfl, ?_⟩
        refine hK.out _ _ (cy7 BK198.out) (fun hHeld => ?_)
        clear hK K
        refine norm_ (a' := ?_) ?_ ?_
        rotate_left
        ·show Act.put _ (some 13) _ = _
         refine pt ?_
         rfl
        refine pq 11 (some 14) ?_ (fl 39 12) HT_.out rfl rfl ?_ ?_ ?_ ?_
        rotate_left
        ·intro w'
         go_simp
         with_reducible rfl
        rotate_left
        ·refine pt ?_
         rfl
        refine pq 12 (some 15) ?_ (fl 39 13) HT_.out rfl rfl ?_ ?_ ?_ ?_
        rotate_left
        ·intro w'
         go_simp
         with_reducible rfl
        rotate_left
        ·refine pt ?_
         rfl
        refine pq 13 (some 16) ?_ (fl 39 14) HT_.out rfl rfl ?_ ?_ ?_ ?_
        rotate_left
        ·intro w'
         go_simp
         with_reducible rfl
        rotate_left
        ·refine pt ?_
         rfl
        refine pq 14 (some 17) ?_ (fl 39 15) HT_.out rfl rfl ?_ ?_ ?_ ?_
        rotate_left
        ·intro w'
         go_simp
         with_reducible rfl
        rotate_left
        ·refine pt ?_
         rfl
        refine pq 16 (some 19) ?_ #[true, true, true, true, true, true, true, true, true, true, true, true, true, true, true, false, true, false, false, false, false, false, false, false, false, false, false, false, false, false, false, false, false, false, false, false, false, false, false] HT_.out rfl rfl ?_ ?_ ?_ ?_
        rotate_left
        ·intro w'
         go_simp
         with_reducible rfl
        rotate_left
        ·refine pt ?_
         rfl
        refine pk 15 (some 18) ?_ (fl 39 17) HT_.out HW_.out rfl rfl ?_ hHeld ?_ ?_ ?_
        rotate_left
        ·rintro w' ⟨s0, s1, s2, s3, s4, s5, s6⟩
         go_simp
         with_reducible rfl
        rotate_left
        ·refine pt ?_
         rfl
        refine pk 17 (some 20) ?_ (fl 39 18) HT_.out HW_.out rfl rfl ?_ hHeld ?_ ?_ ?_
        rotate_left
        ·rintro w' ⟨s0, s1, s2, s3, s4, s5, s6⟩
         go_simp
         with_reducible rfl
        rotate_left
        ·refine pt ?_
         rfl
        refine one_ (i := 18) (N := some 21) (fl 39 19) rfl rfl (one_of HT_.out (by kernel_rfl)) (by decide) (fun K hK => ?_)
        refine goes_ Tryd.func16 (by kernel_rfl) rfl #[.int .i64 a0_0] (by rfl) rfl rfl ga ?_
        with_reducible refine (spinnakerref03_HasA.calls k a0_0 t202 _ A9.out).mono ?_
        rintro e w' ⟨rfl, ⟨nd, rfl⟩⟩
        refine ⟨_, rfl, ?_⟩
        refine hK.out _ _ (cy7 BK198.out) (fun hHeld => ?_)
        clear hK K
        refine norm_ (a' := ?_) ?_ ?_
        rotate_left
        ·show Act.put _ (some 21) _ = _
         refine pt ?_
         rfl
        refine one_ (i := 19) (N := some 22) (fl 39 20) rfl rfl (one_of HT_.out (by kernel_rfl)) (by decide) (fun K hK => ?_)
        refine goes_ Tryd.func14 (by kernel_rfl) rfl #[.int .i64 a0_2, .bool t202] (by rfl) rfl rfl ga ?_
        with_reducible refine (spinnakerref03_register.calls a0_2 t202 true _ A10.out).mono ?_
        rintro e w' ⟨rfl, ⟨nd, rfl⟩⟩
        refine ⟨_, rfl, ?_⟩
        refine hK.out _ _ (cy7 BK198.out) (fun hHeld => ?_)
        clear hK K
        refine norm_ (a' := ?_) ?_ ?_
        rotate_left
        ·show Act.put _ (some 22) _ = _
         refine pt ?_
         rfl
        refine pq 20 (some 23) ?_ (fl 39 21) HT_.out rfl rfl ?_ ?_ ?_ ?_
        rotate_left
        ·intro w'
         go_simp
         with_reducible rfl
        rotate_left
        ·refine pt ?_
         rfl
        refine pq 21 (some 24) ?_ (fl 39 22) HT_.out rfl rfl ?_ ?_ ?_ ?_
        rotate_left
        ·intro w'
         go_simp
         with_reducible rfl
        rotate_left
        ·refine pt ?_
         rfl
        refine pq 22 (some 25) ?_ (fl 39 23) HT_.out rfl rfl ?_ ?_ ?_ ?_
        rotate_left
        ·intro w'
         go_simp
         with_reducible rfl
        rotate_left
        ·refine pt ?_
         rfl
        refine pq 23 (some 26) ?_ (fl 39 24) HT_.out rfl rfl ?_ ?_ ?_ ?_
        rotate_left
        ·intro w'
         go_simp
         with_reducible rfl
        rotate_left
        ·refine pt ?_
         rfl
        refine pq 25 (some 28) ?_ #[true, true, true, true, true, true, true, true, true, true, true, true, true, true, true, true, true, true, true, true, true, true, true, true, false, true, false, false, false, false, false, false, false, false, false, false, false, false, false] HT_.out rfl rfl ?_ ?_ ?_ ?_
        rotate_left
        ·intro w'
         go_simp
         with_reducible rfl
        rotate_left
        ·refine pt ?_
         rfl
        refine pk 24 (some 27) ?_ (fl 39 26) HT_.out HW_.out rfl rfl ?_ hHeld ?_ ?_ ?_
        rotate_left
        ·rintro w' ⟨s0, s1, s2, s3, s4, s5, s6⟩
         go_simp
         with_reducible rfl
        rotate_left
        ·refine pt ?_
         rfl
        refine pk 26 (some 29) ?_ (fl 39 27) HT_.out HW_.out rfl rfl ?_ hHeld ?_ ?_ ?_
        rotate_left
        ·rintro w' ⟨s0, s1, s2, s3, s4, s5, s6⟩
         go_simp
         with_reducible rfl
        rotate_left
        ·refine pt ?_
         rfl
        refine one_ (i := 27) (N := some 30) (fl 39 28) rfl rfl (one_of HT_.out (by kernel_rfl)) (by decide) (fun K hK => ?_)
        refine goes_ Tryd.func17 (by kernel_rfl) rfl #[.int .i64 a0_0] (by rfl) rfl rfl ga ?_
        with_reducible refine (spinnakerref03_HasB.calls k a0_0 t204 _ A12.out).mono ?_
        rintro e w' ⟨rfl, ⟨nd, rfl⟩⟩
        refine ⟨_, rfl, ?_⟩
        refine hK.out _ _ (cy7 BK198.out) (fun hHeld => ?_)
        clear hK K
        refine norm_ (a' := ?_) ?_ ?_
        rotate_left
        ·show Act.put _ (some 30) _ = _
         refine pt ?_
         rfl
        refine one_ (i := 28) (N := some 31) (fl 39 29) rfl rfl (one_of HT_.out (by kernel_rfl)) (by decide) (fun K hK => ?_)
        refine goes_ Tryd.func14 (by kernel_rfl) rfl #[.int .i64 a0_3, .bool t204] (by rfl) rfl rfl ga ?_
        with_reducible refine (spinnakerref03_register.calls a0_3 t204 true _ A13.out).mono ?_
        rintro e w' ⟨rfl, ⟨nd, rfl⟩⟩
        refine ⟨_, rfl, ?_⟩
        refine hK.out _ _ (cy7 BK198.out) (fun hHeld => ?_)
        clear hK K
        refine norm_ (a' := ?_) ?_ ?_
        rotate_left
        ·show Act.put _ (some 31) _ = _
         refine pt ?_
         rfl
        refine pq 29 (some 32) ?_ (fl 39 30) HT_.out rfl rfl ?_ ?_ ?_ ?_
        rotate_left
        ·intro w'
         go_simp
         with_reducible rfl
        rotate_left
        ·refine pt ?_
         rfl
        refine pq 30 (some 33) ?_ (fl 39 31) HT_.out rfl rfl ?_ ?_ ?_ ?_
        rotate_left
        ·intro w'
         go_simp
         with_reducible rfl
        rotate_left
        ·refine pt ?_
         rfl
        refine pq 31 (some 34) ?_ (fl 39 32) HT_.out rfl rfl ?_ ?_ ?_ ?_
        rotate_left
        ·intro w'
         go_simp
         with_reducible rfl
        rotate_left
        ·refine pt ?_
         rfl
        refine pq 32 (some 35) ?_ (fl 39 33) HT_.out rfl rfl ?_ ?_ ?_ ?_
        rotate_left
        ·intro w'
         go_simp
         with_reducible rfl
        rotate_left
        ·refine pt ?_
         rfl
        refine pq 34 (some 37) ?_ #[true, true, true, true, true, true, true, true, true, true, true, true, true, true, true, true, true, true, true, true, true, true, true, true, true, true, true, true, true, true, true, true, true, false, true, false, false, false, false] HT_.out rfl rfl ?_ ?_ ?_ ?_
        rotate_left
        ·intro w'
         go_simp
         with_reducible rfl
        rotate_left
        ·refine pt ?_
         rfl
        refine pk 33 (some 36) ?_ (fl 39 35) HT_.out HW_.out rfl rfl ?_ hHeld ?_ ?_ ?_
        rotate_left
        ·rintro w' ⟨s0, s1, s2, s3, s4, s5, s6⟩
         go_simp
         with_reducible rfl
        rotate_left
        ·refine pt ?_
         rfl
        refine pk 35 (some 38) ?_ (fl 39 36) HT_.out HW_.out rfl rfl ?_ hHeld ?_ ?_ ?_
        rotate_left
        ·rintro w' ⟨s0, s1, s2, s3, s4, s5, s6⟩
         go_simp
         with_reducible rfl
        rotate_left
        ·refine pt ?_
         rfl
        refine one_ (i := 36) (N := some 39) (fl 39 37) rfl rfl (one_of HT_.out (by kernel_rfl)) (by decide) (fun K hK => ?_)
        refine goes_ Tryd.func18 (by kernel_rfl) rfl #[.int .i64 a0_0, .int .i64 a0_4] (by rfl) rfl rfl ga ?_
        with_reducible refine (spinnakerref03_immediate.calls k a0_0 a0_4 true _ A15.out).mono ?_
        rintro e w' ⟨rfl, ⟨nd, rfl⟩⟩
        refine ⟨_, rfl, ?_⟩
        refine hK.out _ _ (cy7 BK198.out) (fun hHeld => ?_)
        clear hK K
        refine norm_ (a' := ?_) ?_ ?_
        rotate_left
        ·show Act.put _ (some 39) _ = _
         refine pt ?_
         rfl
        refine pq 37 (some 40) ?_ (fl 39 38) HT_.out rfl rfl ?_ ?_ ?_ ?_
        rotate_left
        ·intro w'
         go_simp
         with_reducible rfl
        rotate_left
        ·refine pt ?_
         rfl
        refine pq 38 (some 41) ?_ (fl 39 39) HT_.out rfl rfl ?_ ?_ ?_ ?_
        rotate_left
        ·intro w'
         go_simp
         with_reducible rfl
        rotate_left
        ·refine pt ?_
         rfl
        refine done_ (done_of HT_.out (by kernel_rfl)) ?_
        obtain ⟨hcz28_0, hcz28_1, hcz28_2, hcz28_3, hcz28_4, hcz28_5, hcz28_6, hfz28_0, hfz28_1, hfz28_2, hfz28_3, hfz28_4, hfz28_5, hfz28_6⟩ := cz7 (w := w27) BK198.out
        try go_wp2_with (first | ((with_reducible refine gate_callee (f := 19) rfl ?_); refine goesL_ (some 44) rfl rfl Tryd.func19 (by kernel_rfl) rfl #[.int .i64 a0_0, .string (⟨#[76, 65]⟩ : ByteArray)] rfl ga ?_; (with_reducible refine (spinnakerref03_has.calls k a0_0 (⟨#[76, 65]⟩ : ByteArray) false _ A17.out).mono ?_); rintro e w' ⟨rfl, ⟨nd, rfl⟩⟩; refine ⟨_, rfl, ?_⟩))
        go_ret
        exact ⟨fi, bl⟩
     ·replace c16 := Bool.eq_false_iff.mpr c16
      subst c16
      have H1 : (some false) = some r := by rw [if_neg (show ¬ (false = true) by decide)] at H; exact H
      clear H
      have H := H1
      clear H1
      obtain rfl := Option.some.inj H
      go_enter Tryd.func7, Tryd.ntmps7
      try go_wp2_with (first | ((with_reducible refine gate_dst (N := 1) rfl ?_); refine box_event ?hg (N := 1) ?hd (cs := #[.int .i64 a0_0, .int .i64 a0_1, .int .i64 a0_2, .int .i64 a0_3, .int .i64 a0_4, .bool a0_5, .bool a0_6]) (t := 27) ?hr ?_; (case hd => rfl); (case hg => rfl); (case hr => first | (go_simp; done) | (go_simp; rfl)); intro gb198 hg w29 hbox hb; obtain ⟨n0_, GW198⟩ := nb (w := w) hg hb; clear HB; have HB := n0_; have BK198 := Aside0.mk hbox; have GE198 := GW198; clear n0_ hb hbox hg))
      have n0_ := Aside0.mk (blk_drew BK198.out)
      have n1_ := Aside0.mk (below_drew1 HB.out)
      clear BK198
      clear HB
      have BK198 := n0_
      have HB := n1_
      clear n0_ n1_
      refine start_ (n := 39) (S := fun w' => w'.cell? ⟨gb198, 0, none⟩ = some (.int .i64 a0_0) ∧ w'.cell? ⟨gb198, 1, none⟩ = some (.int .i64 a0_1) ∧ w'.cell? ⟨gb198, 2, none⟩ = some (.int .i64 a0_2) ∧ w'.cell? ⟨gb198, 3, none⟩ = some (.int .i64 a0_3) ∧ w'.cell? ⟨gb198, 4, none⟩ = some (.int .i64 a0_4) ∧ w'.cell? ⟨gb198, 5, none⟩ = some (.bool a0_5) ∧ w'.cell? ⟨gb198, 6, none⟩ = some (.bool a0_6)) (ds := []) (fl 39 0) (by kernel_rfl) rfl rfl (cy7 BK198.out) (fun hHeld => ?_); refine with_tabW spinnakerref03_May.tab1 spinnakerref03_May.bits1 (fun HT_ HW_ => ?_)
      generalize w29.drew = w30 at BK198 HB hHeld ⊢
      refine pq 0 (some 3) ?_ (fl 39 1) HT_.out rfl rfl ?_ ?_ ?_ ?_
      rotate_left
      ·intro w'
       go_simp
       with_reducible rfl
      rotate_left
      ·refine pt ?_
       rfl
      refine pk 1 (some 4) ?_ (fl 39 2) HT_.out HW_.out rfl rfl ?_ hHeld ?_ ?_ ?_
      rotate_left
      ·rintro w' ⟨s0, s1, s2, s3, s4, s5, s6⟩
       go_simp
       with_reducible rfl
      rotate_left
      ·refine pt ?_
       rfl
      refine one_ (i := 2) (N := some 5) (fl 39 3) rfl rfl (one_of HT_.out (by kernel_rfl)) (by decide) (fun K hK => ?_)
      refine goes_ Tryd.func13 (by kernel_rfl) rfl #[.int .i64 a0_0] (by rfl) rfl rfl ga ?_
      with_reducible refine (spinnakerref03_letter.calls a0_0 t199 _ A2.out).mono ?_
      rintro e w' ⟨rfl, ⟨nd, rfl⟩⟩
      refine ⟨_, rfl, ?_⟩
      refine hK.out _ _ (cy7 BK198.out) (fun hHeld => ?_)
      clear hK K
      refine norm_ (a' := ?_) ?_ ?_
      rotate_left
      ·show Act.put _ (some 5) _ = _
       refine pt ?_
       rfl
      refine pq 3 (some 6) ?_ (fl 39 4) HT_.out rfl rfl ?_ ?_ ?_ ?_
      rotate_left
      ·intro w'
       go_simp
       with_reducible rfl
      rotate_left
      ·refine pt ?_
       rfl
      refine pq 4 (some 7) ?_ (fl 39 5) HT_.out rfl rfl ?_ ?_ ?_ ?_
      rotate_left
      ·intro w'
       go_simp
       with_reducible rfl
      rotate_left
      ·refine pt ?_
       rfl
      refine pq 5 (some 8) ?_ (fl 39 6) HT_.out rfl rfl ?_ ?_ ?_ ?_
      rotate_left
      ·intro w'
       go_simp
       with_reducible rfl
      rotate_left
      ·refine pt ?_
       rfl
      refine pq 7 (some 10) ?_ #[true, true, true, true, true, true, false, true, false, false, false, false, false, false, false, false, false, false, false, false, false, false, false, false, false, false, false, false, false, false, false, false, false, false, false, false, false, false, false] HT_.out rfl rfl ?_ ?_ ?_ ?_
      rotate_left
      ·intro w'
       go_simp
       with_reducible rfl
      rotate_left
      ·refine pt ?_
       rfl
      refine pk 6 (some 9) ?_ (fl 39 8) HT_.out HW_.out rfl rfl ?_ hHeld ?_ ?_ ?_
      rotate_left
      ·rintro w' ⟨s0, s1, s2, s3, s4, s5, s6⟩
       go_simp
       with_reducible rfl
      rotate_left
      ·refine pt ?_
       rfl
      refine pk 8 (some 11) ?_ (fl 39 9) HT_.out HW_.out rfl rfl ?_ hHeld ?_ ?_ ?_
      rotate_left
      ·rintro w' ⟨s0, s1, s2, s3, s4, s5, s6⟩
       go_simp
       with_reducible rfl
      rotate_left
      ·refine pt ?_
       rfl
      refine one_ (i := 9) (N := some 12) (fl 39 10) rfl rfl (one_of HT_.out (by kernel_rfl)) (by decide) (fun K hK => ?_)
      refine goes_ Tryd.func15 (by kernel_rfl) rfl #[.int .i64 a0_0] (by rfl) rfl rfl ga ?_
      with_reducible refine (spinnakerref03_HasRd.calls k a0_0 t200 _ A6.out).mono ?_
      rintro e w' ⟨rfl, ⟨nd, rfl⟩⟩
      refine ⟨_, rfl, ?_⟩
      refine hK.out _ _ (cy7 BK198.out) (fun hHeld => ?_)
      clear hK K
      refine norm_ (a' := ?_) ?_ ?_
      rotate_left
      ·show Act.put _ (some 12) _ = _
       refine pt ?_
       rfl
      refine one_ (i := 10) (N := some 13) (fl 39 11) rfl rfl (one_of HT_.out (by kernel_rfl)) (by decide) (fun K hK => ?_)
      refine goes_ Tryd.func14 (by kernel_rfl) rfl #[.int .i64 a0_1, .bool t200] (by rfl) rfl rfl ga ?_
      with_reducible refine (spinnakerref03_register.calls a0_1 t200 true _ A7.out).mono ?_
      rintro e w' ⟨rfl, ⟨nd, rfl⟩⟩
      refine ⟨_, rfl, ?_⟩
      refine hK.out _ _ (cy7 BK198.out) (fun hHeld => ?_)
      clear hK K
      refine norm_ (a' := ?_) ?_ ?_
      rotate_left
      ·show Act.put _ (some 13) _ = _
       refine pt ?_
       rfl
      refine pq 11 (some 14) ?_ (fl 39 12) HT_.out rfl rfl ?_ ?_ ?_ ?_
      rotate_left
      ·intro w'
       go_simp
       with_reducible rfl
      rotate_left
      ·refine pt ?_
       rfl
      refine pq 12 (some 15) ?_ (fl 39 13) HT_.out rfl rfl ?_ ?_ ?_ ?_
      rotate_left
      ·intro w'
       go_simp
       with_reducible rfl
      rotate_left
      ·refine pt ?_
       rfl
      refine pq 13 (some 16) ?_ (fl 39 14) HT_.out rfl rfl ?_ ?_ ?_ ?_
      rotate_left
      ·intro w'
       go_simp
       with_reducible rfl
      rotate_left
      ·refine pt ?_
       rfl
      refine pq 14 (some 17) ?_ (fl 39 15) HT_.out rfl rfl ?_ ?_ ?_ ?_
      rotate_left
      ·intro w'
       go_simp
       with_reducible rfl
      rotate_left
      ·refine pt ?_
       rfl
      refine pq 16 (some 19) ?_ #[true, true, true, true, true, true, true, true, true, true, true, true, true, true, true, false, true, false, false, false, false, false, false, false, false, false, false, false, false, false, false, false, false, false, false, false, false, false, false] HT_.out rfl rfl ?_ ?_ ?_ ?_
      rotate_left
      ·intro w'
       go_simp
       with_reducible rfl
      rotate_left
      ·refine pt ?_
       rfl
      refine pk 15 (some 18) ?_ (fl 39 17) HT_.out HW_.out rfl rfl ?_ hHeld ?_ ?_ ?_
      rotate_left
      ·rintro w' ⟨s0, s1, s2, s3, s4, s5, s6⟩
       go_simp
       with_reducible rfl
      rotate_left
      ·refine pt ?_
       rfl
      refine pk 17 (some 20) ?_ (fl 39 18) HT_.out HW_.out rfl rfl ?_ hHeld ?_ ?_ ?_
      rotate_left
      ·rintro w' ⟨s0, s1, s2, s3, s4, s5, s6⟩
       go_simp
       with_reducible rfl
      rotate_left
      ·refine pt ?_
       rfl
      refine one_ (i := 18) (N := some 21) (fl 39 19) rfl rfl (one_of HT_.out (by kernel_rfl)) (by decide) (fun K hK => ?_)
      refine goes_ Tryd.func16 (by kernel_rfl) rfl #[.int .i64 a0_0] (by rfl) rfl rfl ga ?_
      with_reducible refine (spinnakerref03_HasA.calls k a0_0 t202 _ A9.out).mono ?_
      rintro e w' ⟨rfl, ⟨nd, rfl⟩⟩
      refine ⟨_, rfl, ?_⟩
      refine hK.out _ _ (cy7 BK198.out) (fun hHeld => ?_)
      clear hK K
      refine norm_ (a' := ?_) ?_ ?_
      rotate_left
      ·show Act.put _ (some 21) _ = _
       refine pt ?_
       rfl
      refine one_ (i := 19) (N := some 22) (fl 39 20) rfl rfl (one_of HT_.out (by kernel_rfl)) (by decide) (fun K hK => ?_)
      refine goes_ Tryd.func14 (by kernel_rfl) rfl #[.int .i64 a0_2, .bool t202] (by rfl) rfl rfl ga ?_
      with_reducible refine (spinnakerref03_register.calls a0_2 t202 true _ A10.out).mono ?_
      rintro e w' ⟨rfl, ⟨nd, rfl⟩⟩
      refine ⟨_, rfl, ?_⟩
      refine hK.out _ _ (cy7 BK198.out) (fun hHeld => ?_)
      clear hK K
      refine norm_ (a' := ?_) ?_ ?_
      rotate_left
      ·show Act.put _ (some 22) _ = _
       refine pt ?_
       rfl
      refine pq 20 (some 23) ?_ (fl 39 21) HT_.out rfl rfl ?_ ?_ ?_ ?_
      rotate_left
      ·intro w'
       go_simp
       with_reducible rfl
      rotate_left
      ·refine pt ?_
       rfl
      refine pq 21 (some 24) ?_ (fl 39 22) HT_.out rfl rfl ?_ ?_ ?_ ?_
      rotate_left
      ·intro w'
       go_simp
       with_reducible rfl
      rotate_left
      ·refine pt ?_
       rfl
      refine pq 22 (some 25) ?_ (fl 39 23) HT_.out rfl rfl ?_ ?_ ?_ ?_
      rotate_left
      ·intro w'
       go_simp
       with_reducible rfl
      rotate_left
      ·refine pt ?_
       rfl
      refine pq 23 (some 26) ?_ (fl 39 24) HT_.out rfl rfl ?_ ?_ ?_ ?_
      rotate_left
      ·intro w'
       go_simp
       with_reducible rfl
      rotate_left
      ·refine pt ?_
       rfl
      refine pq 25 (some 28) ?_ #[true, true, true, true, true, true, true, true, true, true, true, true, true, true, true, true, true, true, true, true, true, true, true, true, false, true, false, false, false, false, false, false, false, false, false, false, false, false, false] HT_.out rfl rfl ?_ ?_ ?_ ?_
      rotate_left
      ·intro w'
       go_simp
       with_reducible rfl
      rotate_left
      ·refine pt ?_
       rfl
      refine pk 24 (some 27) ?_ (fl 39 26) HT_.out HW_.out rfl rfl ?_ hHeld ?_ ?_ ?_
      rotate_left
      ·rintro w' ⟨s0, s1, s2, s3, s4, s5, s6⟩
       go_simp
       with_reducible rfl
      rotate_left
      ·refine pt ?_
       rfl
      refine pk 26 (some 29) ?_ (fl 39 27) HT_.out HW_.out rfl rfl ?_ hHeld ?_ ?_ ?_
      rotate_left
      ·rintro w' ⟨s0, s1, s2, s3, s4, s5, s6⟩
       go_simp
       with_reducible rfl
      rotate_left
      ·refine pt ?_
       rfl
      refine one_ (i := 27) (N := some 30) (fl 39 28) rfl rfl (one_of HT_.out (by kernel_rfl)) (by decide) (fun K hK => ?_)
      refine goes_ Tryd.func17 (by kernel_rfl) rfl #[.int .i64 a0_0] (by rfl) rfl rfl ga ?_
      with_reducible refine (spinnakerref03_HasB.calls k a0_0 t204 _ A12.out).mono ?_
      rintro e w' ⟨rfl, ⟨nd, rfl⟩⟩
      refine ⟨_, rfl, ?_⟩
      refine hK.out _ _ (cy7 BK198.out) (fun hHeld => ?_)
      clear hK K
      refine norm_ (a' := ?_) ?_ ?_
      rotate_left
      ·show Act.put _ (some 30) _ = _
       refine pt ?_
       rfl
      refine one_ (i := 28) (N := some 31) (fl 39 29) rfl rfl (one_of HT_.out (by kernel_rfl)) (by decide) (fun K hK => ?_)
      refine goes_ Tryd.func14 (by kernel_rfl) rfl #[.int .i64 a0_3, .bool t204] (by rfl) rfl rfl ga ?_
      with_reducible refine (spinnakerref03_register.calls a0_3 t204 true _ A13.out).mono ?_
      rintro e w' ⟨rfl, ⟨nd, rfl⟩⟩
      refine ⟨_, rfl, ?_⟩
      refine hK.out _ _ (cy7 BK198.out) (fun hHeld => ?_)
      clear hK K
      refine norm_ (a' := ?_) ?_ ?_
      rotate_left
      ·show Act.put _ (some 31) _ = _
       refine pt ?_
       rfl
      refine pq 29 (some 32) ?_ (fl 39 30) HT_.out rfl rfl ?_ ?_ ?_ ?_
      rotate_left
      ·intro w'
       go_simp
       with_reducible rfl
      rotate_left
      ·refine pt ?_
       rfl
      refine pq 30 (some 33) ?_ (fl 39 31) HT_.out rfl rfl ?_ ?_ ?_ ?_
      rotate_left
      ·intro w'
       go_simp
       with_reducible rfl
      rotate_left
      ·refine pt ?_
       rfl
      refine pq 31 (some 34) ?_ (fl 39 32) HT_.out rfl rfl ?_ ?_ ?_ ?_
      rotate_left
      ·intro w'
       go_simp
       with_reducible rfl
      rotate_left
      ·refine pt ?_
       rfl
      refine pq 32 (some 35) ?_ (fl 39 33) HT_.out rfl rfl ?_ ?_ ?_ ?_
      rotate_left
      ·intro w'
       go_simp
       with_reducible rfl
      rotate_left
      ·refine pt ?_
       rfl
      refine pq 34 (some 37) ?_ #[true, true, true, true, true, true, true, true, true, true, true, true, true, true, true, true, true, true, true, true, true, true, true, true, true, true, true, true, true, true, true, true, true, false, true, false, false, false, false] HT_.out rfl rfl ?_ ?_ ?_ ?_
      rotate_left
      ·intro w'
       go_simp
       with_reducible rfl
      rotate_left
      ·refine pt ?_
       rfl
      refine pk 33 (some 36) ?_ (fl 39 35) HT_.out HW_.out rfl rfl ?_ hHeld ?_ ?_ ?_
      rotate_left
      ·rintro w' ⟨s0, s1, s2, s3, s4, s5, s6⟩
       go_simp
       with_reducible rfl
      rotate_left
      ·refine pt ?_
       rfl
      refine pk 35 (some 38) ?_ (fl 39 36) HT_.out HW_.out rfl rfl ?_ hHeld ?_ ?_ ?_
      rotate_left
      ·rintro w' ⟨s0, s1, s2, s3, s4, s5, s6⟩
       go_simp
       with_reducible rfl
      rotate_left
      ·refine pt ?_
       rfl
      refine one_ (i := 36) (N := some 39) (fl 39 37) rfl rfl (one_of HT_.out (by kernel_rfl)) (by decide) (fun K hK => ?_)
      refine goes_ Tryd.func18 (by kernel_rfl) rfl #[.int .i64 a0_0, .int .i64 a0_4] (by rfl) rfl rfl ga ?_
      with_reducible refine (spinnakerref03_immediate.calls k a0_0 a0_4 false _ A15.out).mono ?_
      rintro e w' ⟨rfl, ⟨nd, rfl⟩⟩
      refine ⟨_, rfl, ?_⟩
      refine hK.out _ _ (cy7 BK198.out) (fun hHeld => ?_)
      clear hK K
      refine norm_ (a' := ?_) ?_ ?_
      rotate_left
      ·show Act.put _ (some 39) _ = _
       refine pt ?_
       rfl
      refine pq 37 (some 40) ?_ (fl 39 38) HT_.out rfl rfl ?_ ?_ ?_ ?_
      rotate_left
      ·intro w'
       go_simp
       with_reducible rfl
      rotate_left
      ·refine pt ?_
       rfl
      refine pq 38 (some 41) ?_ (fl 39 39) HT_.out rfl rfl ?_ ?_ ?_ ?_
      rotate_left
      ·intro w'
       go_simp
       with_reducible rfl
      rotate_left
      ·refine pt ?_
       rfl
      refine done_ (done_of HT_.out (by kernel_rfl)) ?_
      try go_wp2
      go_ret
      exact ⟨fi, bl⟩
    ·replace c14 := Bool.eq_false_iff.mpr c14
     subst c14
     have H1 : (some false) = some r := by rw [if_neg (show ¬ (false = true) by decide)] at H; exact H
     clear H
     have H := H1
     clear H1
     obtain rfl := Option.some.inj H
     go_enter Tryd.func7, Tryd.ntmps7
     try go_wp2_with (first | ((with_reducible refine gate_dst (N := 1) rfl ?_); refine box_event ?hg (N := 1) ?hd (cs := #[.int .i64 a0_0, .int .i64 a0_1, .int .i64 a0_2, .int .i64 a0_3, .int .i64 a0_4, .bool a0_5, .bool a0_6]) (t := 27) ?hr ?_; (case hd => rfl); (case hg => rfl); (case hr => first | (go_simp; done) | (go_simp; rfl)); intro gb198 hg w31 hbox hb; obtain ⟨n0_, GW198⟩ := nb (w := w) hg hb; clear HB; have HB := n0_; have BK198 := Aside0.mk hbox; have GE198 := GW198; clear n0_ hb hbox hg))
     have n0_ := Aside0.mk (blk_drew BK198.out)
     have n1_ := Aside0.mk (below_drew1 HB.out)
     clear BK198
     clear HB
     have BK198 := n0_
     have HB := n1_
     clear n0_ n1_
     refine start_ (n := 39) (S := fun w' => w'.cell? ⟨gb198, 0, none⟩ = some (.int .i64 a0_0) ∧ w'.cell? ⟨gb198, 1, none⟩ = some (.int .i64 a0_1) ∧ w'.cell? ⟨gb198, 2, none⟩ = some (.int .i64 a0_2) ∧ w'.cell? ⟨gb198, 3, none⟩ = some (.int .i64 a0_3) ∧ w'.cell? ⟨gb198, 4, none⟩ = some (.int .i64 a0_4) ∧ w'.cell? ⟨gb198, 5, none⟩ = some (.bool a0_5) ∧ w'.cell? ⟨gb198, 6, none⟩ = some (.bool a0_6)) (ds := []) (fl 39 0) (by kernel_rfl) rfl rfl (cy7 BK198.out) (fun hHeld => ?_); refine with_tabW spinnakerref03_May.tab1 spinnakerref03_May.bits1 (fun HT_ HW_ => ?_)
     generalize w31.drew = w32 at BK198 HB hHeld ⊢
     refine pq 0 (some 3) ?_ (fl 39 1) HT_.out rfl rfl ?_ ?_ ?_ ?_
     rotate_left
     ·intro w'
      go_simp
      with_reducible rfl
     rotate_left
     ·refine pt ?_
      rfl
     refine pk 1 (some 4) ?_ (fl 39 2) HT_.out HW_.out rfl rfl ?_ hHeld ?_ ?_ ?_
     rotate_left
     ·rintro w' ⟨s0, s1, s2, s3, s4, s5, s6⟩
      go_simp
      with_reducible rfl
     rotate_left
     ·refine pt ?_
      rfl
     refine one_ (i := 2) (N := some 5) (fl 39 3) rfl rfl (one_of HT_.out (by kernel_rfl)) (by decide) (fun K hK => ?_)
     refine goes_ Tryd.func13 (by kernel_rfl) rfl #[.int .i64 a0_0] (by rfl) rfl rfl ga ?_
     with_reducible refine (spinnakerref03_letter.calls a0_0 t199 _ A2.out).mono ?_
     rintro e w' ⟨rfl, ⟨nd, rfl⟩⟩
     refine ⟨_, rfl, ?_⟩
     refine hK.out _ _ (cy7 BK198.out) (fun hHeld => ?_)
     clear hK K
     refine norm_ (a' := ?_) ?_ ?_
     rotate_left
     ·show Act.put _ (some 5) _ = _
      refine pt ?_
      rfl
     refine pq 3 (some 6) ?_ (fl 39 4) HT_.out rfl rfl ?_ ?_ ?_ ?_
     rotate_left
     ·intro w'
      go_simp
      with_reducible rfl
     rotate_left
     ·refine pt ?_
      rfl
     refine pq 4 (some 7) ?_ (fl 39 5) HT_.out rfl rfl ?_ ?_ ?_ ?_
     rotate_left
     ·intro w'
      go_simp
      with_reducible rfl
     rotate_left
     ·refine pt ?_
      rfl
     refine pq 5 (some 8) ?_ (fl 39 6) HT_.out rfl rfl ?_ ?_ ?_ ?_
     rotate_left
     ·intro w'
      go_simp
      with_reducible rfl
     rotate_left
     ·refine pt ?_
      rfl
     refine pq 7 (some 10) ?_ #[true, true, true, true, true, true, false, true, false, false, false, false, false, false, false, false, false, false, false, false, false, false, false, false, false, false, false, false, false, false, false, false, false, false, false, false, false, false, false] HT_.out rfl rfl ?_ ?_ ?_ ?_
     rotate_left
     ·intro w'
      go_simp
      with_reducible rfl
     rotate_left
     ·refine pt ?_
      rfl
     refine pk 6 (some 9) ?_ (fl 39 8) HT_.out HW_.out rfl rfl ?_ hHeld ?_ ?_ ?_
     rotate_left
     ·rintro w' ⟨s0, s1, s2, s3, s4, s5, s6⟩
      go_simp
      with_reducible rfl
     rotate_left
     ·refine pt ?_
      rfl
     refine pk 8 (some 11) ?_ (fl 39 9) HT_.out HW_.out rfl rfl ?_ hHeld ?_ ?_ ?_
     rotate_left
     ·rintro w' ⟨s0, s1, s2, s3, s4, s5, s6⟩
      go_simp
      with_reducible rfl
     rotate_left
     ·refine pt ?_
      rfl
     refine one_ (i := 9) (N := some 12) (fl 39 10) rfl rfl (one_of HT_.out (by kernel_rfl)) (by decide) (fun K hK => ?_)
     refine goes_ Tryd.func15 (by kernel_rfl) rfl #[.int .i64 a0_0] (by rfl) rfl rfl ga ?_
     with_reducible refine (spinnakerref03_HasRd.calls k a0_0 t200 _ A6.out).mono ?_
     rintro e w' ⟨rfl, ⟨nd, rfl⟩⟩
     refine ⟨_, rfl, ?_⟩
     refine hK.out _ _ (cy7 BK198.out) (fun hHeld => ?_)
     clear hK K
     refine norm_ (a' := ?_) ?_ ?_
     rotate_left
     ·show Act.put _ (some 12) _ = _
      refine pt ?_
      rfl
     refine one_ (i := 10) (N := some 13) (fl 39 11) rfl rfl (one_of HT_.out (by kernel_rfl)) (by decide) (fun K hK => ?_)
     refine goes_ Tryd.func14 (by kernel_rfl) rfl #[.int .i64 a0_1, .bool t200] (by rfl) rfl rfl ga ?_
     with_reducible refine (spinnakerref03_register.calls a0_1 t200 true _ A7.out).mono ?_
     rintro e w' ⟨rfl, ⟨nd, rfl⟩⟩
     refine ⟨_, rfl, ?_⟩
     refine hK.out _ _ (cy7 BK198.out) (fun hHeld => ?_)
     clear hK K
     refine norm_ (a' := ?_) ?_ ?_
     rotate_left
     ·show Act.put _ (some 13) _ = _
      refine pt ?_
      rfl
     refine pq 11 (some 14) ?_ (fl 39 12) HT_.out rfl rfl ?_ ?_ ?_ ?_
     rotate_left
     ·intro w'
      go_simp
      with_reducible rfl
     rotate_left
     ·refine pt ?_
      rfl
     refine pq 12 (some 15) ?_ (fl 39 13) HT_.out rfl rfl ?_ ?_ ?_ ?_
     rotate_left
     ·intro w'
      go_simp
      with_reducible rfl
     rotate_left
     ·refine pt ?_
      rfl
     refine pq 13 (some 16) ?_ (fl 39 14) HT_.out rfl rfl ?_ ?_ ?_ ?_
     rotate_left
     ·intro w'
      go_simp
      with_reducible rfl
     rotate_left
     ·refine pt ?_
      rfl
     refine pq 14 (some 17) ?_ (fl 39 15) HT_.out rfl rfl ?_ ?_ ?_ ?_
     rotate_left
     ·intro w'
      go_simp
      with_reducible rfl
     rotate_left
     ·refine pt ?_
      rfl
     refine pq 16 (some 19) ?_ #[true, true, true, true, true, true, true, true, true, true, true, true, true, true, true, false, true, false, false, false, false, false, false, false, false, false, false, false, false, false, false, false, false, false, false, false, false, false, false] HT_.out rfl rfl ?_ ?_ ?_ ?_
     rotate_left
     ·intro w'
      go_simp
      with_reducible rfl
     rotate_left
     ·refine pt ?_
      rfl
     refine pk 15 (some 18) ?_ (fl 39 17) HT_.out HW_.out rfl rfl ?_ hHeld ?_ ?_ ?_
     rotate_left
     ·rintro w' ⟨s0, s1, s2, s3, s4, s5, s6⟩
      go_simp
      with_reducible rfl
     rotate_left
     ·refine pt ?_
      rfl
     refine pk 17 (some 20) ?_ (fl 39 18) HT_.out HW_.out rfl rfl ?_ hHeld ?_ ?_ ?_
     rotate_left
     ·rintro w' ⟨s0, s1, s2, s3, s4, s5, s6⟩
      go_simp
      with_reducible rfl
     rotate_left
     ·refine pt ?_
      rfl
     refine one_ (i := 18) (N := some 21) (fl 39 19) rfl rfl (one_of HT_.out (by kernel_rfl)) (by decide) (fun K hK => ?_)
     refine goes_ Tryd.func16 (by kernel_rfl) rfl #[.int .i64 a0_0] (by rfl) rfl rfl ga ?_
     with_reducible refine (spinnakerref03_HasA.calls k a0_0 t202 _ A9.out).mono ?_
     rintro e w' ⟨rfl, ⟨nd, rfl⟩⟩
     refine ⟨_, rfl, ?_⟩
     refine hK.out _ _ (cy7 BK198.out) (fun hHeld => ?_)
     clear hK K
     refine norm_ (a' := ?_) ?_ ?_
     rotate_left
     ·show Act.put _ (some 21) _ = _
      refine pt ?_
      rfl
     refine one_ (i := 19) (N := some 22) (fl 39 20) rfl rfl (one_of HT_.out (by kernel_rfl)) (by decide) (fun K hK => ?_)
     refine goes_ Tryd.func14 (by kernel_rfl) rfl #[.int .i64 a0_2, .bool t202] (by rfl) rfl rfl ga ?_
     with_reducible refine (spinnakerref03_register.calls a0_2 t202 true _ A10.out).mono ?_
     rintro e w' ⟨rfl, ⟨nd, rfl⟩⟩
     refine ⟨_, rfl, ?_⟩
     refine hK.out _ _ (cy7 BK198.out) (fun hHeld => ?_)
     clear hK K
     refine norm_ (a' := ?_) ?_ ?_
     rotate_left
     ·show Act.put _ (some 22) _ = _
      refine pt ?_
      rfl
     refine pq 20 (some 23) ?_ (fl 39 21) HT_.out rfl rfl ?_ ?_ ?_ ?_
     rotate_left
     ·intro w'
      go_simp
      with_reducible rfl
     rotate_left
     ·refine pt ?_
      rfl
     refine pq 21 (some 24) ?_ (fl 39 22) HT_.out rfl rfl ?_ ?_ ?_ ?_
     rotate_left
     ·intro w'
      go_simp
      with_reducible rfl
     rotate_left
     ·refine pt ?_
      rfl
     refine pq 22 (some 25) ?_ (fl 39 23) HT_.out rfl rfl ?_ ?_ ?_ ?_
     rotate_left
     ·intro w'
      go_simp
      with_reducible rfl
     rotate_left
     ·refine pt ?_
      rfl
     refine pq 23 (some 26) ?_ (fl 39 24) HT_.out rfl rfl ?_ ?_ ?_ ?_
     rotate_left
     ·intro w'
      go_simp
      with_reducible rfl
     rotate_left
     ·refine pt ?_
      rfl
     refine pq 25 (some 28) ?_ #[true, true, true, true, true, true, true, true, true, true, true, true, true, true, true, true, true, true, true, true, true, true, true, true, false, true, false, false, false, false, false, false, false, false, false, false, false, false, false] HT_.out rfl rfl ?_ ?_ ?_ ?_
     rotate_left
     ·intro w'
      go_simp
      with_reducible rfl
     rotate_left
     ·refine pt ?_
      rfl
     refine pk 24 (some 27) ?_ (fl 39 26) HT_.out HW_.out rfl rfl ?_ hHeld ?_ ?_ ?_
     rotate_left
     ·rintro w' ⟨s0, s1, s2, s3, s4, s5, s6⟩
      go_simp
      with_reducible rfl
     rotate_left
     ·refine pt ?_
      rfl
     refine pk 26 (some 29) ?_ (fl 39 27) HT_.out HW_.out rfl rfl ?_ hHeld ?_ ?_ ?_
     rotate_left
     ·rintro w' ⟨s0, s1, s2, s3, s4, s5, s6⟩
      go_simp
      with_reducible rfl
     rotate_left
     ·refine pt ?_
      rfl
     refine one_ (i := 27) (N := some 30) (fl 39 28) rfl rfl (one_of HT_.out (by kernel_rfl)) (by decide) (fun K hK => ?_)
     refine goes_ Tryd.func17 (by kernel_rfl) rfl #[.int .i64 a0_0] (by rfl) rfl rfl ga ?_
     with_reducible refine (spinnakerref03_HasB.calls k a0_0 t204 _ A12.out).mono ?_
     rintro e w' ⟨rfl, ⟨nd, rfl⟩⟩
     refine ⟨_, rfl, ?_⟩
     refine hK.out _ _ (cy7 BK198.out) (fun hHeld => ?_)
     clear hK K
     refine norm_ (a' := ?_) ?_ ?_
     rotate_left
     ·show Act.put _ (some 30) _ = _
      refine pt ?_
      rfl
     refine one_ (i := 28) (N := some 31) (fl 39 29) rfl rfl (one_of HT_.out (by kernel_rfl)) (by decide) (fun K hK => ?_)
     refine goes_ Tryd.func14 (by kernel_rfl) rfl #[.int .i64 a0_3, .bool t204] (by rfl) rfl rfl ga ?_
     with_reducible refine (spinnakerref03_register.calls a0_3 t204 false _ A13.out).mono ?_
     rintro e w' ⟨rfl, ⟨nd, rfl⟩⟩
     refine ⟨_, rfl, ?_⟩
     refine hK.out _ _ (cy7 BK198.out) (fun hHeld => ?_)
     clear hK K
     refine norm_ (a' := ?_) ?_ ?_
     rotate_left
     ·show Act.put _ (some 31) _ = _
      refine pt ?_
      rfl
     refine pq 29 (some 32) ?_ (fl 39 30) HT_.out rfl rfl ?_ ?_ ?_ ?_
     rotate_left
     ·intro w'
      go_simp
      with_reducible rfl
     rotate_left
     ·refine pt ?_
      rfl
     refine pq 30 (some 33) ?_ (fl 39 31) HT_.out rfl rfl ?_ ?_ ?_ ?_
     rotate_left
     ·intro w'
      go_simp
      with_reducible rfl
     rotate_left
     ·refine pt ?_
      rfl
     refine pq 31 (some 34) ?_ (fl 39 32) HT_.out rfl rfl ?_ ?_ ?_ ?_
     rotate_left
     ·intro w'
      go_simp
      with_reducible rfl
     rotate_left
     ·refine pt ?_
      rfl
     refine pr 32 (some 35) ?_ (fl 39 33) HT_.out rfl rfl ?_ ?_
     rotate_left
     ·refine pt ?_
      rfl
     refine pr 33 (some 36) ?_ (fl 39 34) HT_.out rfl rfl ?_ ?_
     rotate_left
     ·refine pt ?_
      rfl
     refine pr 34 (some 37) ?_ (fl 39 35) HT_.out rfl rfl ?_ ?_
     rotate_left
     ·refine pt ?_
      rfl
     refine pr 35 (some 38) ?_ (fl 39 36) HT_.out rfl rfl ?_ ?_
     rotate_left
     ·refine pt ?_
      rfl
     refine pr 36 (some 39) ?_ (fl 39 37) HT_.out rfl rfl ?_ ?_
     rotate_left
     ·refine pt ?_
      rfl
     refine pr 37 (some 40) ?_ (fl 39 38) HT_.out rfl rfl ?_ ?_
     rotate_left
     ·refine pt ?_
      rfl
     refine pq 38 (some 41) ?_ (fl 39 39) HT_.out rfl rfl ?_ ?_ ?_ ?_
     rotate_left
     ·intro w'
      go_simp
      with_reducible rfl
     rotate_left
     ·refine pt ?_
      rfl
     refine done_ (done_of HT_.out (by kernel_rfl)) ?_
     try go_wp2
     go_ret
     exact ⟨fi, bl⟩
   ·replace c11 := Bool.eq_false_iff.mpr c11
    subst c11
    have H1 : (some false) = some r := by rw [if_neg (show ¬ (false = true) by decide)] at H; exact H
    clear H
    have H := H1
    clear H1
    obtain rfl := Option.some.inj H
    go_enter Tryd.func7, Tryd.ntmps7
    try go_wp2_with (first | ((with_reducible refine gate_dst (N := 1) rfl ?_); refine box_event ?hg (N := 1) ?hd (cs := #[.int .i64 a0_0, .int .i64 a0_1, .int .i64 a0_2, .int .i64 a0_3, .int .i64 a0_4, .bool a0_5, .bool a0_6]) (t := 27) ?hr ?_; (case hd => rfl); (case hg => rfl); (case hr => first | (go_simp; done) | (go_simp; rfl)); intro gb198 hg w33 hbox hb; obtain ⟨n0_, GW198⟩ := nb (w := w) hg hb; clear HB; have HB := n0_; have BK198 := Aside0.mk hbox; have GE198 := GW198; clear n0_ hb hbox hg))
    have n0_ := Aside0.mk (blk_drew BK198.out)
    have n1_ := Aside0.mk (below_drew1 HB.out)
    clear BK198
    clear HB
    have BK198 := n0_
    have HB := n1_
    clear n0_ n1_
    refine start_ (n := 39) (S := fun w' => w'.cell? ⟨gb198, 0, none⟩ = some (.int .i64 a0_0) ∧ w'.cell? ⟨gb198, 1, none⟩ = some (.int .i64 a0_1) ∧ w'.cell? ⟨gb198, 2, none⟩ = some (.int .i64 a0_2) ∧ w'.cell? ⟨gb198, 3, none⟩ = some (.int .i64 a0_3) ∧ w'.cell? ⟨gb198, 4, none⟩ = some (.int .i64 a0_4) ∧ w'.cell? ⟨gb198, 5, none⟩ = some (.bool a0_5) ∧ w'.cell? ⟨gb198, 6, none⟩ = some (.bool a0_6)) (ds := []) (fl 39 0) (by kernel_rfl) rfl rfl (cy7 BK198.out) (fun hHeld => ?_); refine with_tabW spinnakerref03_May.tab1 spinnakerref03_May.bits1 (fun HT_ HW_ => ?_)
    generalize w33.drew = w34 at BK198 HB hHeld ⊢
    refine pq 0 (some 3) ?_ (fl 39 1) HT_.out rfl rfl ?_ ?_ ?_ ?_
    rotate_left
    ·intro w'
     go_simp
     with_reducible rfl
    rotate_left
    ·refine pt ?_
     rfl
    refine pk 1 (some 4) ?_ (fl 39 2) HT_.out HW_.out rfl rfl ?_ hHeld ?_ ?_ ?_
    rotate_left
    ·rintro w' ⟨s0, s1, s2, s3, s4, s5, s6⟩
     go_simp
     with_reducible rfl
    rotate_left
    ·refine pt ?_
     rfl
    refine one_ (i := 2) (N := some 5) (fl 39 3) rfl rfl (one_of HT_.out (by kernel_rfl)) (by decide) (fun K hK => ?_)
    refine goes_ Tryd.func13 (by kernel_rfl) rfl #[.int .i64 a0_0] (by rfl) rfl rfl ga ?_
    with_reducible refine (spinnakerref03_letter.calls a0_0 t199 _ A2.out).mono ?_
    rintro e w' ⟨rfl, ⟨nd, rfl⟩⟩
    refine ⟨_, rfl, ?_⟩
    refine hK.out _ _ (cy7 BK198.out) (fun hHeld => ?_)
    clear hK K
    refine norm_ (a' := ?_) ?_ ?_
    rotate_left
    ·show Act.put _ (some 5) _ = _
     refine pt ?_
     rfl
    refine pq 3 (some 6) ?_ (fl 39 4) HT_.out rfl rfl ?_ ?_ ?_ ?_
    rotate_left
    ·intro w'
     go_simp
     with_reducible rfl
    rotate_left
    ·refine pt ?_
     rfl
    refine pq 4 (some 7) ?_ (fl 39 5) HT_.out rfl rfl ?_ ?_ ?_ ?_
    rotate_left
    ·intro w'
     go_simp
     with_reducible rfl
    rotate_left
    ·refine pt ?_
     rfl
    refine pq 5 (some 8) ?_ (fl 39 6) HT_.out rfl rfl ?_ ?_ ?_ ?_
    rotate_left
    ·intro w'
     go_simp
     with_reducible rfl
    rotate_left
    ·refine pt ?_
     rfl
    refine pq 7 (some 10) ?_ #[true, true, true, true, true, true, false, true, false, false, false, false, false, false, false, false, false, false, false, false, false, false, false, false, false, false, false, false, false, false, false, false, false, false, false, false, false, false, false] HT_.out rfl rfl ?_ ?_ ?_ ?_
    rotate_left
    ·intro w'
     go_simp
     with_reducible rfl
    rotate_left
    ·refine pt ?_
     rfl
    refine pk 6 (some 9) ?_ (fl 39 8) HT_.out HW_.out rfl rfl ?_ hHeld ?_ ?_ ?_
    rotate_left
    ·rintro w' ⟨s0, s1, s2, s3, s4, s5, s6⟩
     go_simp
     with_reducible rfl
    rotate_left
    ·refine pt ?_
     rfl
    refine pk 8 (some 11) ?_ (fl 39 9) HT_.out HW_.out rfl rfl ?_ hHeld ?_ ?_ ?_
    rotate_left
    ·rintro w' ⟨s0, s1, s2, s3, s4, s5, s6⟩
     go_simp
     with_reducible rfl
    rotate_left
    ·refine pt ?_
     rfl
    refine one_ (i := 9) (N := some 12) (fl 39 10) rfl rfl (one_of HT_.out (by kernel_rfl)) (by decide) (fun K hK => ?_)
    refine goes_ Tryd.func15 (by kernel_rfl) rfl #[.int .i64 a0_0] (by rfl) rfl rfl ga ?_
    with_reducible refine (spinnakerref03_HasRd.calls k a0_0 t200 _ A6.out).mono ?_
    rintro e w' ⟨rfl, ⟨nd, rfl⟩⟩
    refine ⟨_, rfl, ?_⟩
    refine hK.out _ _ (cy7 BK198.out) (fun hHeld => ?_)
    clear hK K
    refine norm_ (a' := ?_) ?_ ?_
    rotate_left
    ·show Act.put _ (some 12) _ = _
     refine pt ?_
     rfl
    refine one_ (i := 10) (N := some 13) (fl 39 11) rfl rfl (one_of HT_.out (by kernel_rfl)) (by decide) (fun K hK => ?_)
    refine goes_ Tryd.func14 (by kernel_rfl) rfl #[.int .i64 a0_1, .bool t200] (by rfl) rfl rfl ga ?_
    with_reducible refine (spinnakerref03_register.calls a0_1 t200 true _ A7.out).mono ?_
    rintro e w' ⟨rfl, ⟨nd, rfl⟩⟩
    refine ⟨_, rfl, ?_⟩
    refine hK.out _ _ (cy7 BK198.out) (fun hHeld => ?_)
    clear hK K
    refine norm_ (a' := ?_) ?_ ?_
    rotate_left
    ·show Act.put _ (some 13) _ = _
     refine pt ?_
     rfl
    refine pq 11 (some 14) ?_ (fl 39 12) HT_.out rfl rfl ?_ ?_ ?_ ?_
    rotate_left
    ·intro w'
     go_simp
     with_reducible rfl
    rotate_left
    ·refine pt ?_
     rfl
    refine pq 12 (some 15) ?_ (fl 39 13) HT_.out rfl rfl ?_ ?_ ?_ ?_
    rotate_left
    ·intro w'
     go_simp
     with_reducible rfl
    rotate_left
    ·refine pt ?_
     rfl
    refine pq 13 (some 16) ?_ (fl 39 14) HT_.out rfl rfl ?_ ?_ ?_ ?_
    rotate_left
    ·intro w'
     go_simp
     with_reducible rfl
    rotate_left
    ·refine pt ?_
     rfl
    refine pq 14 (some 17) ?_ (fl 39 15) HT_.out rfl rfl ?_ ?_ ?_ ?_
    rotate_left
    ·intro w'
     go_simp
     with_reducible rfl
    rotate_left
    ·refine pt ?_
     rfl
    refine pq 16 (some 19) ?_ #[true, true, true, true, true, true, true, true, true, true, true, true, true, true, true, false, true, false, false, false, false, false, false, false, false, false, false, false, false, false, false, false, false, false, false, false, false, false, false] HT_.out rfl rfl ?_ ?_ ?_ ?_
    rotate_left
    ·intro w'
     go_simp
     with_reducible rfl
    rotate_left
    ·refine pt ?_
     rfl
    refine pk 15 (some 18) ?_ (fl 39 17) HT_.out HW_.out rfl rfl ?_ hHeld ?_ ?_ ?_
    rotate_left
    ·rintro w' ⟨s0, s1, s2, s3, s4, s5, s6⟩
     go_simp
     with_reducible rfl
    rotate_left
    ·refine pt ?_
     rfl
    refine pk 17 (some 20) ?_ (fl 39 18) HT_.out HW_.out rfl rfl ?_ hHeld ?_ ?_ ?_
    rotate_left
    ·rintro w' ⟨s0, s1, s2, s3, s4, s5, s6⟩
     go_simp
     with_reducible rfl
    rotate_left
    ·refine pt ?_
     rfl
    refine one_ (i := 18) (N := some 21) (fl 39 19) rfl rfl (one_of HT_.out (by kernel_rfl)) (by decide) (fun K hK => ?_)
    refine goes_ Tryd.func16 (by kernel_rfl) rfl #[.int .i64 a0_0] (by rfl) rfl rfl ga ?_
    with_reducible refine (spinnakerref03_HasA.calls k a0_0 t202 _ A9.out).mono ?_
    rintro e w' ⟨rfl, ⟨nd, rfl⟩⟩
    refine ⟨_, rfl, ?_⟩
    refine hK.out _ _ (cy7 BK198.out) (fun hHeld => ?_)
    clear hK K
    refine norm_ (a' := ?_) ?_ ?_
    rotate_left
    ·show Act.put _ (some 21) _ = _
     refine pt ?_
     rfl
    refine one_ (i := 19) (N := some 22) (fl 39 20) rfl rfl (one_of HT_.out (by kernel_rfl)) (by decide) (fun K hK => ?_)
    refine goes_ Tryd.func14 (by kernel_rfl) rfl #[.int .i64 a0_2, .bool t202] (by rfl) rfl rfl ga ?_
    with_reducible refine (spinnakerref03_register.calls a0_2 t202 false _ A10.out).mono ?_
    rintro e w' ⟨rfl, ⟨nd, rfl⟩⟩
    refine ⟨_, rfl, ?_⟩
    refine hK.out _ _ (cy7 BK198.out) (fun hHeld => ?_)
    clear hK K
    refine norm_ (a' := ?_) ?_ ?_
    rotate_left
    ·show Act.put _ (some 22) _ = _
     refine pt ?_
     rfl
    refine pq 20 (some 23) ?_ (fl 39 21) HT_.out rfl rfl ?_ ?_ ?_ ?_
    rotate_left
    ·intro w'
     go_simp
     with_reducible rfl
    rotate_left
    ·refine pt ?_
     rfl
    refine pq 21 (some 24) ?_ (fl 39 22) HT_.out rfl rfl ?_ ?_ ?_ ?_
    rotate_left
    ·intro w'
     go_simp
     with_reducible rfl
    rotate_left
    ·refine pt ?_
     rfl
    refine pq 22 (some 25) ?_ (fl 39 23) HT_.out rfl rfl ?_ ?_ ?_ ?_
    rotate_left
    ·intro w'
     go_simp
     with_reducible rfl
    rotate_left
    ·refine pt ?_
     rfl
    refine pr 23 (some 26) ?_ (fl 39 24) HT_.out rfl rfl ?_ ?_
    rotate_left
    ·refine pt ?_
     rfl
    refine pr 24 (some 27) ?_ (fl 39 25) HT_.out rfl rfl ?_ ?_
    rotate_left
    ·refine pt ?_
     rfl
    refine pr 25 (some 28) ?_ (fl 39 26) HT_.out rfl rfl ?_ ?_
    rotate_left
    ·refine pt ?_
     rfl
    refine pr 26 (some 29) ?_ (fl 39 27) HT_.out rfl rfl ?_ ?_
    rotate_left
    ·refine pt ?_
     rfl
    refine pr 27 (some 30) ?_ (fl 39 28) HT_.out rfl rfl ?_ ?_
    rotate_left
    ·refine pt ?_
     rfl
    refine pr 28 (some 31) ?_ (fl 39 29) HT_.out rfl rfl ?_ ?_
    rotate_left
    ·refine pt ?_
     rfl
    refine pr 29 (some 32) ?_ (fl 39 30) HT_.out rfl rfl ?_ ?_
    rotate_left
    ·refine pt ?_
     rfl
    refine pq 30 (some 33) ?_ (fl 39 31) HT_.out rfl rfl ?_ ?_ ?_ ?_
    rotate_left
    ·intro w'
     go_simp
     with_reducible rfl
    rotate_left
    ·refine pt ?_
     rfl
    refine pq 31 (some 34) ?_ (fl 39 32) HT_.out rfl rfl ?_ ?_ ?_ ?_
    rotate_left
    ·intro w'
     go_simp
     with_reducible rfl
    rotate_left
    ·refine pt ?_
     rfl
    refine pr 32 (some 35) ?_ (fl 39 33) HT_.out rfl rfl ?_ ?_
    rotate_left
    ·refine pt ?_
     rfl
    refine pr 33 (some 36) ?_ (fl 39 34) HT_.out rfl rfl ?_ ?_
    rotate_left
    ·refine pt ?_
     rfl
    refine pr 34 (some 37) ?_ (fl 39 35) HT_.out rfl rfl ?_ ?_
    rotate_left
    ·refine pt ?_
     rfl
    refine pr 35 (some 38) ?_ (fl 39 36) HT_.out rfl rfl ?_ ?_
    rotate_left
    ·refine pt ?_
     rfl
    refine pr 36 (some 39) ?_ (fl 39 37) HT_.out rfl rfl ?_ ?_
    rotate_left
    ·refine pt ?_
     rfl
    refine pr 37 (some 40) ?_ (fl 39 38) HT_.out rfl rfl ?_ ?_
    rotate_left
    ·refine pt ?_
     rfl
    refine pq 38 (some 41) ?_ (fl 39 39) HT_.out rfl rfl ?_ ?_ ?_ ?_
    rotate_left
    ·intro w'
     go_simp
     with_reducible rfl
    rotate_left
    ·refine pt ?_
     rfl
    refine done_ (done_of HT_.out (by kernel_rfl)) ?_
    try go_wp2
    go_ret
    exact ⟨fi, bl⟩
  ·replace c8 := Bool.eq_false_iff.mpr c8
   subst c8
   have H1 : (some false) = some r := by rw [if_neg (show ¬ (false = true) by decide)] at H; exact H
   clear H
   have H := H1
   clear H1
   obtain rfl := Option.some.inj H
   go_enter Tryd.func7, Tryd.ntmps7
   try go_wp2_with (first | ((with_reducible refine gate_dst (N := 1) rfl ?_); refine box_event ?hg (N := 1) ?hd (cs := #[.int .i64 a0_0, .int .i64 a0_1, .int .i64 a0_2, .int .i64 a0_3, .int .i64 a0_4, .bool a0_5, .bool a0_6]) (t := 27) ?hr ?_; (case hd => rfl); (case hg => rfl); (case hr => first | (go_simp; done) | (go_simp; rfl)); intro gb198 hg w35 hbox hb; obtain ⟨n0_, GW198⟩ := nb (w := w) hg hb; clear HB; have HB := n0_; have BK198 := Aside0.mk hbox; have GE198 := GW198; clear n0_ hb hbox hg))
   have n0_ := Aside0.mk (blk_drew BK198.out)
   have n1_ := Aside0.mk (below_drew1 HB.out)
   clear BK198
   clear HB
   have BK198 := n0_
   have HB := n1_
   clear n0_ n1_
   refine start_ (n := 39) (S := fun w' => w'.cell? ⟨gb198, 0, none⟩ = some (.int .i64 a0_0) ∧ w'.cell? ⟨gb198, 1, none⟩ = some (.int .i64 a0_1) ∧ w'.cell? ⟨gb198, 2, none⟩ = some (.int .i64 a0_2) ∧ w'.cell? ⟨gb198, 3, none⟩ = some (.int .i64 a0_3) ∧ w'.cell? ⟨gb198, 4, none⟩ = some (.int .i64 a0_4) ∧ w'.cell? ⟨gb198, 5, none⟩ = some (.bool a0_5) ∧ w'.cell? ⟨gb198, 6, none⟩ = some (.bool a0_6)) (ds := []) (fl 39 0) (by kernel_rfl) rfl rfl (cy7 BK198.out) (fun hHeld => ?_); refine with_tabW spinnakerref03_May.tab1 spinnakerref03_May.bits1 (fun HT_ HW_ => ?_)
   generalize w35.drew = w36 at BK198 HB hHeld ⊢
   refine pq 0 (some 3) ?_ (fl 39 1) HT_.out rfl rfl ?_ ?_ ?_ ?_
   rotate_left
   ·intro w'
    go_simp
    with_reducible rfl
   rotate_left
   ·refine pt ?_
    rfl
   refine pk 1 (some 4) ?_ (fl 39 2) HT_.out HW_.out rfl rfl ?_ hHeld ?_ ?_ ?_
   rotate_left
   ·rintro w' ⟨s0, s1, s2, s3, s4, s5, s6⟩
    go_simp
    with_reducible rfl
   rotate_left
   ·refine pt ?_
    rfl
   refine one_ (i := 2) (N := some 5) (fl 39 3) rfl rfl (one_of HT_.out (by kernel_rfl)) (by decide) (fun K hK => ?_)
   refine goes_ Tryd.func13 (by kernel_rfl) rfl #[.int .i64 a0_0] (by rfl) rfl rfl ga ?_
   with_reducible refine (spinnakerref03_letter.calls a0_0 t199 _ A2.out).mono ?_
   rintro e w' ⟨rfl, ⟨nd, rfl⟩⟩
   refine ⟨_, rfl, ?_⟩
   refine hK.out _ _ (cy7 BK198.out) (fun hHeld => ?_)
   clear hK K
   refine norm_ (a' := ?_) ?_ ?_
   rotate_left
   ·show Act.put _ (some 5) _ = _
    refine pt ?_
    rfl
   refine pq 3 (some 6) ?_ (fl 39 4) HT_.out rfl rfl ?_ ?_ ?_ ?_
   rotate_left
   ·intro w'
    go_simp
    with_reducible rfl
   rotate_left
   ·refine pt ?_
    rfl
   refine pq 4 (some 7) ?_ (fl 39 5) HT_.out rfl rfl ?_ ?_ ?_ ?_
   rotate_left
   ·intro w'
    go_simp
    with_reducible rfl
   rotate_left
   ·refine pt ?_
    rfl
   refine pq 5 (some 8) ?_ (fl 39 6) HT_.out rfl rfl ?_ ?_ ?_ ?_
   rotate_left
   ·intro w'
    go_simp
    with_reducible rfl
   rotate_left
   ·refine pt ?_
    rfl
   refine pq 7 (some 10) ?_ #[true, true, true, true, true, true, false, true, false, false, false, false, false, false, false, false, false, false, false, false, false, false, false, false, false, false, false, false, false, false, false, false, false, false, false, false, false, false, false] HT_.out rfl rfl ?_ ?_ ?_ ?_
   rotate_left
   ·intro w'
    go_simp
    with_reducible rfl
   rotate_left
   ·refine pt ?_
    rfl
   refine pk 6 (some 9) ?_ (fl 39 8) HT_.out HW_.out rfl rfl ?_ hHeld ?_ ?_ ?_
   rotate_left
   ·rintro w' ⟨s0, s1, s2, s3, s4, s5, s6⟩
    go_simp
    with_reducible rfl
   rotate_left
   ·refine pt ?_
    rfl
   refine pk 8 (some 11) ?_ (fl 39 9) HT_.out HW_.out rfl rfl ?_ hHeld ?_ ?_ ?_
   rotate_left
   ·rintro w' ⟨s0, s1, s2, s3, s4, s5, s6⟩
    go_simp
    with_reducible rfl
   rotate_left
   ·refine pt ?_
    rfl
   refine one_ (i := 9) (N := some 12) (fl 39 10) rfl rfl (one_of HT_.out (by kernel_rfl)) (by decide) (fun K hK => ?_)
   refine goes_ Tryd.func15 (by kernel_rfl) rfl #[.int .i64 a0_0] (by rfl) rfl rfl ga ?_
   with_reducible refine (spinnakerref03_HasRd.calls k a0_0 t200 _ A6.out).mono ?_
   rintro e w' ⟨rfl, ⟨nd, rfl⟩⟩
   refine ⟨_, rfl, ?_⟩
   refine hK.out _ _ (cy7 BK198.out) (fun hHeld => ?_)
   clear hK K
   refine norm_ (a' := ?_) ?_ ?_
   rotate_left
   ·show Act.put _ (some 12) _ = _
    refine pt ?_
    rfl
   refine one_ (i := 10) (N := some 13) (fl 39 11) rfl rfl (one_of HT_.out (by kernel_rfl)) (by decide) (fun K hK => ?_)
   refine goes_ Tryd.func14 (by kernel_rfl) rfl #[.int .i64 a0_1, .bool t200] (by rfl) rfl rfl ga ?_
   with_reducible refine (spinnakerref03_register.calls a0_1 t200 false _ A7.out).mono ?_
   rintro e w' ⟨rfl, ⟨nd, rfl⟩⟩
   refine ⟨_, rfl, ?_⟩
   refine hK.out _ _ (cy7 BK198.out) (fun hHeld => ?_)
   clear hK K
   refine norm_ (a' := ?_) ?_ ?_
   rotate_left
   ·show Act.put _ (some 13) _ = _
    refine pt ?_
    rfl
   refine pq 11 (some 14) ?_ (fl 39 12) HT_.out rfl rfl ?_ ?_ ?_ ?_
   rotate_left
   ·intro w'
    go_simp
    with_reducible rfl
   rotate_left
   ·refine pt ?_
    rfl
   refine pq 12 (some 15) ?_ (fl 39 13) HT_.out rfl rfl ?_ ?_ ?_ ?_
   rotate_left
   ·intro w'
    go_simp
    with_reducible rfl
   rotate_left
   ·refine pt ?_
    rfl
   refine pq 13 (some 16) ?_ (fl 39 14) HT_.out rfl rfl ?_ ?_ ?_ ?_
   rotate_left
   ·intro w'
    go_simp
    with_reducible rfl
   rotate_left
   ·refine pt ?_
    rfl
   refine pr 14 (some 17) ?_ (fl 39 15) HT_.out rfl rfl ?_ ?_
   rotate_left
   ·refine pt ?_
    rfl
   refine pr 15 (some 18) ?_ (fl 39 16) HT_.out rfl rfl ?_ ?_
   rotate_left
   ·refine pt ?_
    rfl
   refine pr 16 (some 19) ?_ (fl 39 17) HT_.out rfl rfl ?_ ?_
   rotate_left
   ·refine pt ?_
    rfl
   refine pr 17 (some 20) ?_ (fl 39 18) HT_.out rfl rfl ?_ ?_
   rotate_left
   ·refine pt ?_
    rfl
   refine pr 18 (some 21) ?_ (fl 39 19) HT_.out rfl rfl ?_ ?_
   rotate_left
   ·refine pt ?_
    rfl
   refine pr 19 (some 22) ?_ (fl 39 20) HT_.out rfl rfl ?_ ?_
   rotate_left
   ·refine pt ?_
    rfl
   refine pr 20 (some 23) ?_ (fl 39 21) HT_.out rfl rfl ?_ ?_
   rotate_left
   ·refine pt ?_
    rfl
   refine pq 21 (some 24) ?_ (fl 39 22) HT_.out rfl rfl ?_ ?_ ?_ ?_
   rotate_left
   ·intro w'
    go_simp
    with_reducible rfl
   rotate_left
   ·refine pt ?_
    rfl
   refine pq 22 (some 25) ?_ (fl 39 23) HT_.out rfl rfl ?_ ?_ ?_ ?_
   rotate_left
   ·intro w'
    go_simp
    with_reducible rfl
   rotate_left
   ·refine pt ?_
    rfl
   refine pr 23 (some 26) ?_ (fl 39 24) HT_.out rfl rfl ?_ ?_
   rotate_left
   ·refine pt ?_
    rfl
   refine pr 24 (some 27) ?_ (fl 39 25) HT_.out rfl rfl ?_ ?_
   rotate_left
   ·refine pt ?_
    rfl
   refine pr 25 (some 28) ?_ (fl 39 26) HT_.out rfl rfl ?_ ?_
   rotate_left
   ·refine pt ?_
    rfl
   refine pr 26 (some 29) ?_ (fl 39 27) HT_.out rfl rfl ?_ ?_
   rotate_left
   ·refine pt ?_
    rfl
   refine pr 27 (some 30) ?_ (fl 39 28) HT_.out rfl rfl ?_ ?_
   rotate_left
   ·refine pt ?_
    rfl
   refine pr 28 (some 31) ?_ (fl 39 29) HT_.out rfl rfl ?_ ?_
   rotate_left
   ·refine pt ?_
    rfl
   refine pr 29 (some 32) ?_ (fl 39 30) HT_.out rfl rfl ?_ ?_
   rotate_left
   ·refine pt ?_
    rfl
   refine pq 30 (some 33) ?_ (fl 39 31) HT_.out rfl rfl ?_ ?_ ?_ ?_
   rotate_left
   ·intro w'
    go_simp
    with_reducible rfl
   rotate_left
   ·refine pt ?_
    rfl
   refine pq 31 (some 34) ?_ (fl 39 32) HT_.out rfl rfl ?_ ?_ ?_ ?_
   rotate_left
   ·intro w'
    go_simp
    with_reducible rfl
   rotate_left
   ·refine pt ?_
    rfl
   refine pr 32 (some 35) ?_ (fl 39 33) HT_.out rfl rfl ?_ ?_
   rotate_left
   ·refine pt ?_
    rfl
   refine pr 33 (some 36) ?_ (fl 39 34) HT_.out rfl rfl ?_ ?_
   rotate_left
   ·refine pt ?_
    rfl
   refine pr 34 (some 37) ?_ (fl 39 35) HT_.out rfl rfl ?_ ?_
   rotate_left
   ·refine pt ?_
    rfl
   refine pr 35 (some 38) ?_ (fl 39 36) HT_.out rfl rfl ?_ ?_
   rotate_left
   ·refine pt ?_
    rfl
   refine pr 36 (some 39) ?_ (fl 39 37) HT_.out rfl rfl ?_ ?_
   rotate_left
   ·refine pt ?_
    rfl
   refine pr 37 (some 40) ?_ (fl 39 38) HT_.out rfl rfl ?_ ?_
   rotate_left
   ·refine pt ?_
    rfl
   refine pq 38 (some 41) ?_ (fl 39 39) HT_.out rfl rfl ?_ ?_ ?_ ?_
   rotate_left
   ·intro w'
    go_simp
    with_reducible rfl
   rotate_left
   ·refine pt ?_
    rfl
   refine done_ (done_of HT_.out (by kernel_rfl)) ?_
   try go_wp2
   go_ret
   exact ⟨fi, bl⟩

end Go.Proofs.YtmkcnbaknnohgaaDoor.GUnitLoads
