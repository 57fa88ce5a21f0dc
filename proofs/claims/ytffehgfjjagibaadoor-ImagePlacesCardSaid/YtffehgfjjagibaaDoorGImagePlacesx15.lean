-- Written by wip/stub.py of this repo.
import Derived.Test.YtffehgfjjagibaaDoorGImagePlacesx0
import Derived.Test.YtffehgfjjagibaaDoorGImagePlacesx14
namespace Go.Proofs.YtffehgfjjagibaaDoor.GImagePlaces
open Go.RowKit Go.Proofs.YtffehgfjjagibaaDoorW.PrintWords Go.Proofs.YtffehgfjjagibaaDoorW.PrintLast Go.Proofs.YtffehgfjjagibaaDoorW.PrintMore
attribute [local go_sem] max2_int min2_int max_two min_two max_three min_three max_four min_four   -- for this text's walks alone
set_option linter.unusedVariables false
set_option linter.unusedSimpArgs false

/-! ### spinnakerref04_Encode: function 36 -/
def spinnakerref04_Encode.j0 : Nat → Int → Int → Int → Int → Int → Int → Bool → Bool → Option (Int)
  | 0, _, _, _, _, _, _, _, _ => none
  | k + 1, x3, x434000, x434001, x434002, x434003, x434004, x434005, x434006 => if x434005 = true then (if x434006 = true then (some (Go.bits .or .u32 (Go.bits .or .u32 x3 67108864) 33554432)) else (some (Go.bits .or .u32 x3 67108864))) else (if x434006 = true then (some (Go.bits .or .u32 x3 33554432)) else (some x3))
def spinnakerref04_Encode.f (k : Nat) (a0_0 : Int) (a0_1 : Int) (a0_2 : Int) (a0_3 : Int) (a0_4 : Int) (a0_5 : Bool) (a0_6 : Bool) : Option (Int) := (spinnakerref04_Word.f a0_0).bind fun t434 => ((spinnakerref04_bits.f k a0_1 0 5 7).bind fun t435 => ((spinnakerref04_bits.f k a0_2 0 5 15).bind fun t436 => ((spinnakerref04_bits.f k a0_3 0 5 20).bind fun t437 => ((spinnakerref03_Form.f a0_0).bind fun t438 => (if t438 = 1 then ((spinnakerref04_bits.f k a0_4 0 20 12).bind fun t439 => (spinnakerref04_Encode.j0 k (Go.bits .or .u32 (Go.bits .or .u32 (Go.bits .or .u32 (Go.bits .or .u32 t434 t435) t436) t437) t439) a0_0 a0_1 a0_2 a0_3 a0_4 a0_5 a0_6)) else (if t438 = 2 then ((spinnakerref04_bits.f k a0_4 20 1 31).bind fun t440 => ((spinnakerref04_bits.f k a0_4 1 10 21).bind fun t441 => ((spinnakerref04_bits.f k a0_4 11 1 20).bind fun t442 => ((spinnakerref04_bits.f k a0_4 12 8 12).bind fun t443 => (spinnakerref04_Encode.j0 k (Go.bits .or .u32 (Go.bits .or .u32 (Go.bits .or .u32 (Go.bits .or .u32 (Go.bits .or .u32 (Go.bits .or .u32 (Go.bits .or .u32 t434 t435) t436) t437) t440) t441) t442) t443) a0_0 a0_1 a0_2 a0_3 a0_4 a0_5 a0_6))))) else (if t438 = 3 then ((spinnakerref04_bits.f k a0_4 0 12 20).bind fun t444 => (spinnakerref04_Encode.j0 k (Go.bits .or .u32 (Go.bits .or .u32 (Go.bits .or .u32 (Go.bits .or .u32 t434 t435) t436) t437) t444) a0_0 a0_1 a0_2 a0_3 a0_4 a0_5 a0_6)) else (if t438 = 4 then ((spinnakerref04_bits.f k (-1) 0 5 7).bind fun t445 => ((spinnakerref04_bits.f k a0_4 12 1 31).bind fun t446 => ((spinnakerref04_bits.f k a0_4 5 6 25).bind fun t447 => ((spinnakerref04_bits.f k a0_4 1 4 8).bind fun t448 => ((spinnakerref04_bits.f k a0_4 11 1 7).bind fun t449 => (spinnakerref04_Encode.j0 k (Go.bits .or .u32 (Go.bits .or .u32 (Go.bits .or .u32 (Go.bits .or .u32 (Go.bits .andNot .u32 (Go.bits .or .u32 (Go.bits .or .u32 (Go.bits .or .u32 t434 t435) t436) t437) t445) t446) t447) t448) t449) a0_0 a0_1 a0_2 a0_3 a0_4 a0_5 a0_6)))))) else (if t438 = 5 then ((spinnakerref04_bits.f k (-1) 0 5 7).bind fun t450 => ((spinnakerref04_bits.f k a0_4 5 7 25).bind fun t451 => ((spinnakerref04_bits.f k a0_4 0 5 7).bind fun t452 => (spinnakerref04_Encode.j0 k (Go.bits .or .u32 (Go.bits .or .u32 (Go.bits .andNot .u32 (Go.bits .or .u32 (Go.bits .or .u32 (Go.bits .or .u32 t434 t435) t436) t437) t450) t451) t452) a0_0 a0_1 a0_2 a0_3 a0_4 a0_5 a0_6)))) else (if t438 = 7 then ((spinnakerref04_bits.f k a0_4 0 6 20).bind fun t453 => (spinnakerref04_Encode.j0 k (Go.bits .or .u32 (Go.bits .or .u32 (Go.bits .or .u32 (Go.bits .or .u32 t434 t435) t436) t437) t453) a0_0 a0_1 a0_2 a0_3 a0_4 a0_5 a0_6)) else (if t438 = 8 then ((spinnakerref04_bits.f k a0_4 0 5 20).bind fun t454 => (spinnakerref04_Encode.j0 k (Go.bits .or .u32 (Go.bits .or .u32 (Go.bits .or .u32 (Go.bits .or .u32 t434 t435) t436) t437) t454) a0_0 a0_1 a0_2 a0_3 a0_4 a0_5 a0_6)) else (if t438 = 9 then ((spinnakerref04_bits.f k a0_4 0 8 20).bind fun t455 => (spinnakerref04_Encode.j0 k (Go.bits .or .u32 (Go.bits .or .u32 (Go.bits .or .u32 (Go.bits .or .u32 t434 t435) t436) t437) t455) a0_0 a0_1 a0_2 a0_3 a0_4 a0_5 a0_6)) else (spinnakerref04_Encode.j0 k (Go.bits .or .u32 (Go.bits .or .u32 (Go.bits .or .u32 t434 t435) t436) t437) a0_0 a0_1 a0_2 a0_3 a0_4 a0_5 a0_6)))))))))))))
theorem spinnakerref04_Encode.mono_l : ∀ k, (∀ y0 y1 y2 y3 y4 y5 y6 y7, LeO (spinnakerref04_Encode.j0 k y0 y1 y2 y3 y4 y5 y6 y7) (spinnakerref04_Encode.j0 (k + 1) y0 y1 y2 y3 y4 y5 y6 y7))
 | 0 => fun _ _ _ _ _ _ _ _ r h => by simp [spinnakerref04_Encode.j0] at h
 | k + 1 => by
  have ih0 := spinnakerref04_Encode.mono_l k
  ·intro y0 y1 y2 y3 y4 y5 y6 y7
   unfold spinnakerref04_Encode.j0
   repeat' first | (with_reducible first | exact ih0 _ _ _ _ _ _ _ _ | exact spinnakerref04_bits.mono _ _ _ _ _ | exact LeO.refl _ | exact LeO.none _ | refine LeO.ite ?_ ?_ | refine LeO.bind ?_ (fun _ => ?_)) | exact ih0 _ _ _ _ _ _ _ _ | exact spinnakerref04_bits.mono _ _ _ _ _ | exact LeO.none _ | refine LeO.ite ?_ ?_ | refine LeO.bind ?_ (fun _ => ?_)
theorem spinnakerref04_Encode.mono : ∀ a0 a1 a2 a3 a4 a5 a6 k, LeO (spinnakerref04_Encode.f k a0 a1 a2 a3 a4 a5 a6) (spinnakerref04_Encode.f (k + 1) a0 a1 a2 a3 a4 a5 a6) := by
 intro a0 a1 a2 a3 a4 a5 a6 k
 have ih0 := spinnakerref04_Encode.mono_l k
 unfold spinnakerref04_Encode.f
 repeat' first | (with_reducible first | exact ih0 _ _ _ _ _ _ _ _ | exact spinnakerref04_bits.mono _ _ _ _ _ | exact LeO.refl _ | exact LeO.none _ | refine LeO.ite ?_ ?_ | refine LeO.bind ?_ (fun _ => ?_)) | exact ih0 _ _ _ _ _ _ _ _ | exact spinnakerref04_bits.mono _ _ _ _ _ | exact LeO.none _ | refine LeO.ite ?_ ?_ | refine LeO.bind ?_ (fun _ => ?_)
def spinnakerref04_Encode.T1 : Bool × List (List Nat × List Nat) := (true, [([], []), ([0], [0]), ([1], [1]), ([], []), ([3], [3]), ([4, 2], [4]), ([2, 5], [2, 5]), ([], []), ([7], [7]), ([8, 5], [8]), ([6, 9], [6, 9]), ([], []), ([11], [11]), ([12, 9], [12]), ([10, 13], [10, 13]), ([14, 13, 0, 1, 2, 3, 4, 5, 6, 7, 8, 9, 10, 11, 12, 13, 14], [14])])
def spinnakerref04_Encode.B1 : List Nat := [0, 1, 3, 0, 8, 31, 63, 0, 128, 447, 1023, 0, 2048, 7103, 16383, 32767]
theorem spinnakerref04_Encode.tab1 : rtab .any (opsOf Tryd.f36 1) = spinnakerref04_Encode.T1 := by kernel_rfl
theorem spinnakerref04_Encode.bits1 : waitsOk spinnakerref04_Encode.T1.2 spinnakerref04_Encode.B1 = true := by kernel_rfl
def spinnakerref04_Encode.T6 : Bool × List (List Nat × List Nat) := (true, [([], []), ([], []), ([1], [1]), ([2], [2]), ([0, 3], [0, 3]), ([], []), ([5], [5]), ([6, 3], [6]), ([4, 7], [4, 7]), ([], []), ([9], [9]), ([10, 7], [10]), ([8, 11], [8, 11]), ([], []), ([13], [13]), ([14, 11], [14]), ([12, 15], [12, 15]), ([16, 15, 0, 1, 2, 3, 4, 5, 6, 7, 8, 9, 10, 11, 12, 13, 14, 15, 16], [0, 16])])
def spinnakerref04_Encode.B6 : List Nat := [0, 0, 2, 6, 15, 0, 32, 110, 255, 0, 512, 1774, 4095, 0, 8192, 28398, 65535, 131071]
theorem spinnakerref04_Encode.tab6 : rtab .any (opsOf Tryd.f36 6) = spinnakerref04_Encode.T6 := by kernel_rfl
theorem spinnakerref04_Encode.bits6 : waitsOk spinnakerref04_Encode.T6.2 spinnakerref04_Encode.B6 = true := by kernel_rfl
def spinnakerref04_Encode.T10 : Bool × List (List Nat × List Nat) := (true, [([], []), ([], []), ([0, 1], [0, 1]), ([], []), ([3], [3]), ([4, 1], [4]), ([2, 5], [2, 5]), ([], []), ([7], [7]), ([8, 5], [8]), ([6, 9], [6, 9]), ([], []), ([11], [11]), ([12, 9], [12]), ([10, 13], [10, 13]), ([], []), ([15], [15]), ([16, 13], [16]), ([14, 17], [14, 17]), ([18, 17, 0, 1, 2, 3, 4, 5, 6, 7, 8, 9, 10, 11, 12, 13, 14, 15, 16, 17, 18], [0, 18])])
def spinnakerref04_Encode.B10 : List Nat := [0, 0, 3, 0, 8, 26, 63, 0, 128, 442, 1023, 0, 2048, 7098, 16383, 0, 32768, 113594, 262143, 524287]
theorem spinnakerref04_Encode.tab10 : rtab .any (opsOf Tryd.f36 10) = spinnakerref04_Encode.T10 := by kernel_rfl
theorem spinnakerref04_Encode.bits10 : waitsOk spinnakerref04_Encode.T10.2 spinnakerref04_Encode.B10 = true := by kernel_rfl
def spinnakerref04_Encode.T12 : Bool × List (List Nat × List Nat) := (true, [([], []), ([], []), ([0, 1], [0, 1]), ([], []), ([3], [3]), ([4, 1], [4]), ([2, 5], [2, 5]), ([], []), ([7], [7]), ([8, 5], [8]), ([6, 9], [6, 9]), ([10, 9, 0, 1, 2, 3, 4, 5, 6, 7, 8, 9, 10], [0, 10])])
def spinnakerref04_Encode.B12 : List Nat := [0, 0, 3, 0, 8, 26, 63, 0, 128, 442, 1023, 2047]
theorem spinnakerref04_Encode.tab12 : rtab .any (opsOf Tryd.f36 12) = spinnakerref04_Encode.T12 := by kernel_rfl
theorem spinnakerref04_Encode.bits12 : waitsOk spinnakerref04_Encode.T12.2 spinnakerref04_Encode.B12 = true := by kernel_rfl
set_option maxHeartbeats 8000000 in
set_option maxRecDepth 100000 in
theorem spinnakerref04_Encode.calls (k : Nat) (a0_0 : Int) (a0_1 : Int) (a0_2 : Int) (a0_3 : Int) (a0_4 : Int) (a0_5 : Bool) (a0_6 : Bool) (r : Int) (w : World) (h : spinnakerref04_Encode.f k a0_0 a0_1 a0_2 a0_3 a0_4 a0_5 a0_6 = some r) :
  Calls Tryd.prog 36 #[.agg #[.int .i64 a0_0, .int .i64 a0_1, .int .i64 a0_2, .int .i64 a0_3, .int .i64 a0_4, .bool a0_5, .bool a0_6]] w fun e w' => e = .returned (.int .u32 r) ∧ Below w.heap.size w w' := by
 have hu24 := Tryd.underlying24
 have HB := Aside0.mk (Below.refl w.heap.size w)
 have H : ((spinnakerref04_Word.f a0_0).bind fun t434 => ((spinnakerref04_bits.f k a0_1 0 5 7).bind fun t435 => ((spinnakerref04_bits.f k a0_2 0 5 15).bind fun t436 => ((spinnakerref04_bits.f k a0_3 0 5 20).bind fun t437 => ((spinnakerref03_Form.f a0_0).bind fun t438 => (if t438 = 1 then ((spinnakerref04_bits.f k a0_4 0 20 12).bind fun t439 => (spinnakerref04_Encode.j0 k (Go.bits .or .u32 (Go.bits .or .u32 (Go.bits .or .u32 (Go.bits .or .u32 t434 t435) t436) t437) t439) a0_0 a0_1 a0_2 a0_3 a0_4 a0_5 a0_6)) else (if t438 = 2 then ((spinnakerref04_bits.f k a0_4 20 1 31).bind fun t440 => ((spinnakerref04_bits.f k a0_4 1 10 21).bind fun t441 => ((spinnakerref04_bits.f k a0_4 11 1 20).bind fun t442 => ((spinnakerref04_bits.f k a0_4 12 8 12).bind fun t443 => (spinnakerref04_Encode.j0 k (Go.bits .or .u32 (Go.bits .or .u32 (Go.bits .or .u32 (Go.bits .or .u32 (Go.bits .or .u32 (Go.bits .or .u32 (Go.bits .or .u32 t434 t435) t436) t437) t440) t441) t442) t443) a0_0 a0_1 a0_2 a0_3 a0_4 a0_5 a0_6))))) else (if t438 = 3 then ((spinnakerref04_bits.f k a0_4 0 12 20).bind fun t444 => (spinnakerref04_Encode.j0 k (Go.bits .or .u32 (Go.bits .or .u32 (Go.bits .or .u32 (Go.bits .or .u32 t434 t435) t436) t437) t444) a0_0 a0_1 a0_2 a0_3 a0_4 a0_5 a0_6)) else (if t438 = 4 then ((spinnakerref04_bits.f k (-1) 0 5 7).bind fun t445 => ((spinnakerref04_bits.f k a0_4 12 1 31).bind fun t446 => ((spinnakerref04_bits.f k a0_4 5 6 25).bind fun t447 => ((spinnakerref04_bits.f k a0_4 1 4 8).bind fun t448 => ((spinnakerref04_bits.f k a0_4 11 1 7).bind fun t449 => (spinnakerref04_Encode.j0 k (Go.bits .or .u32 (Go.bits .or .u32 (Go.bits .or .u32 (Go.bits .or .u32 (Go.bits .andNot .u32 (Go.bits .or .u32 (Go.bits .or .u32 (Go.bits .or .u32 t434 t435) t436) t437) t445) t446) t447) t448) t449) a0_0 a0_1 a0_2 a0_3 a0_4 a0_5 a0_6)))))) else (if t438 = 5 then ((spinnakerref04_bits.f k (-1) 0 5 7).bind fun t450 => ((spinnakerref04_bits.f k a0_4 5 7 25).bind fun t451 => ((spinnakerref04_bits.f k a0_4 0 5 7).bind fun t452 => (spinnakerref04_Encode.j0 k (Go.bits .or .u32 (Go.bits .or .u32 (Go.bits .andNot .u32 (Go.bits .or .u32 (Go.bits .or .u32 (Go.bits .or .u32 t434 t435) t436) t437) t450) t451) t452) a0_0 a0_1 a0_2 a0_3 a0_4 a0_5 a0_6)))) else (if t438 = 7 then ((spinnakerref04_bits.f k a0_4 0 6 20).bind fun t453 => (spinnakerref04_Encode.j0 k (Go.bits .or .u32 (Go.bits .or .u32 (Go.bits .or .u32 (Go.bits .or .u32 t434 t435) t436) t437) t453) a0_0 a0_1 a0_2 a0_3 a0_4 a0_5 a0_6)) else (if t438 = 8 then ((spinnakerref04_bits.f k a0_4 0 5 20).bind fun t454 => (spinnakerref04_Encode.j0 k (Go.bits .or .u32 (Go.bits .or .u32 (Go.bits .or .u32 (Go.bits .or .u32 t434 t435) t436) t437) t454) a0_0 a0_1 a0_2 a0_3 a0_4 a0_5 a0_6)) else (if t438 = 9 then ((spinnakerref04_bits.f k a0_4 0 8 20).bind fun t455 => (spinnakerref04_Encode.j0 k (Go.bits .or .u32 (Go.bits .or .u32 (Go.bits .or .u32 (Go.bits .or .u32 t434 t435) t436) t437) t455) a0_0 a0_1 a0_2 a0_3 a0_4 a0_5 a0_6)) else (spinnakerref04_Encode.j0 k (Go.bits .or .u32 (Go.bits .or .u32 (Go.bits .or .u32 t434 t435) t436) t437) a0_0 a0_1 a0_2 a0_3 a0_4 a0_5 a0_6)))))))))))))) = some r := h
 clear h
 replace H := be H
 obtain ⟨t434, A2, H⟩ := H
 replace H := be H
 obtain ⟨t435, A3, H⟩ := H
 replace H := be H
 obtain ⟨t436, A4, H⟩ := H
 replace H := be H
 obtain ⟨t437, A5, H⟩ := H
 replace H := be H
 obtain ⟨t438, A6, H⟩ := H
 have HC7 := Aside0.mk H
 clear H
 go_enter Tryd.func36, Tryd.ntmps36
 try go_wp2_with (first | ((with_reducible refine gate_dst (N := 1) rfl ?_); refine box_event ?hg (N := 1) ?hd (cs := #[.int .i64 a0_0, .int .i64 a0_1, .int .i64 a0_2, .int .i64 a0_3, .int .i64 a0_4, .bool a0_5, .bool a0_6]) (t := 24) ?hr ?_; (case hd => rfl); (case hg => rfl); (case hr => first | (go_simp; done) | (go_simp; rfl)); intro gb433 hg w8 hbox hb; obtain ⟨n0_, GW433⟩ := nb (w := w) hg hb; clear HB; have HB := n0_; have BK433 := Aside0.mk hbox; have GE433 := GW433; clear n0_ hb hbox hg))
 have n0_ := Aside0.mk (blk_drew BK433.out)
 have n1_ := Aside0.mk (below_drew1 HB.out)
 clear BK433
 clear HB
 have BK433 := n0_
 have HB := n1_
 clear n0_ n1_
 refine start_ (n := 16) (S := fun w' => w'.cell? ⟨gb433, 0, none⟩ = some (.int .i64 a0_0) ∧ w'.cell? ⟨gb433, 1, none⟩ = some (.int .i64 a0_1) ∧ w'.cell? ⟨gb433, 2, none⟩ = some (.int .i64 a0_2) ∧ w'.cell? ⟨gb433, 3, none⟩ = some (.int .i64 a0_3) ∧ w'.cell? ⟨gb433, 4, none⟩ = some (.int .i64 a0_4) ∧ w'.cell? ⟨gb433, 5, none⟩ = some (.bool a0_5) ∧ w'.cell? ⟨gb433, 6, none⟩ = some (.bool a0_6)) (ds := []) (fl 16 0) (by kernel_rfl) rfl rfl (cy7 BK433.out) (fun hHeld => ?_); refine with_tabW spinnakerref04_Encode.tab1 spinnakerref04_Encode.bits1 (fun HT_ HW_ => ?_)
 generalize w8.drew = w9 at BK433 HB hHeld ⊢
 refine pq 0 (some 4) ?_ (fl 16 1) HT_.out rfl rfl ?_ ?_ ?_ ?_
 rotate_left
 ·intro w'
  go_simp
  with_reducible rfl
 rotate_left
 ·refine pt ?_
  rfl
 refine pq 3 (some 7) ?_ #[true, false, false, true, false, false, false, false, false, false, false, false, false, false, false, false] HT_.out rfl rfl ?_ ?_ ?_ ?_
 rotate_left
 ·intro w'
  go_simp
  with_reducible rfl
 rotate_left
 ·refine pt ?_
  rfl
 refine pq 7 (some 11) ?_ #[true, false, false, true, false, false, false, true, false, false, false, false, false, false, false, false] HT_.out rfl rfl ?_ ?_ ?_ ?_
 rotate_left
 ·intro w'
  go_simp
  with_reducible rfl
 rotate_left
 ·refine pt ?_
  rfl
 refine pq 11 (some 15) ?_ #[true, false, false, true, false, false, false, true, false, false, false, true, false, false, false, false] HT_.out rfl rfl ?_ ?_ ?_ ?_
 rotate_left
 ·intro w'
  go_simp
  with_reducible rfl
 rotate_left
 ·refine pt ?_
  rfl
 refine pk 1 (some 5) ?_ #[true, true, false, true, false, false, false, true, false, false, false, true, false, false, false, false] HT_.out HW_.out rfl rfl ?_ hHeld ?_ ?_ ?_
 rotate_left
 ·rintro w' ⟨s0, s1, s2, s3, s4, s5, s6⟩
  go_simp
  with_reducible rfl
 rotate_left
 ·refine pt ?_
  rfl
 refine pk 4 (some 8) ?_ #[true, true, false, true, true, false, false, true, false, false, false, true, false, false, false, false] HT_.out HW_.out rfl rfl ?_ hHeld ?_ ?_ ?_
 rotate_left
 ·rintro w' ⟨s0, s1, s2, s3, s4, s5, s6⟩
  go_simp
  with_reducible rfl
 rotate_left
 ·refine pt ?_
  rfl
 refine pk 8 (some 12) ?_ #[true, true, false, true, true, false, false, true, true, false, false, true, false, false, false, false] HT_.out HW_.out rfl rfl ?_ hHeld ?_ ?_ ?_
 rotate_left
 ·rintro w' ⟨s0, s1, s2, s3, s4, s5, s6⟩
  go_simp
  with_reducible rfl
 rotate_left
 ·refine pt ?_
  rfl
 refine pk 12 (some 16) ?_ #[true, true, false, true, true, false, false, true, true, false, false, true, true, false, false, false] HT_.out HW_.out rfl rfl ?_ hHeld ?_ ?_ ?_
 rotate_left
 ·rintro w' ⟨s0, s1, s2, s3, s4, s5, s6⟩
  go_simp
  with_reducible rfl
 rotate_left
 ·refine pt ?_
  rfl
 refine one_ (i := 2) (N := some 6) #[true, true, true, true, true, false, false, true, true, false, false, true, true, false, false, false] rfl rfl (one_of HT_.out (by kernel_rfl)) (by decide) (fun K hK => ?_)
 refine goes_ Tryd.func28 (by kernel_rfl) rfl #[.int .i64 a0_0] (by rfl) rfl rfl ga ?_
 with_reducible refine (spinnakerref04_Word.calls a0_0 t434 _ A2.out).mono ?_
 rintro e w10 ⟨rfl, hb⟩
 refine ⟨_, rfl, ?_⟩
 have n0_ := Aside0.mk (blk_below (g := gb433) (o := .cells #[.int .i64 a0_0, .int .i64 a0_1, .int .i64 a0_2, .int .i64 a0_3, .int .i64 a0_4, .bool a0_5, .bool a0_6] 24 (0, 0)) (bk BK433.out) hb)
 have n1_ := Aside0.mk (below_step bl hb)
 clear BK433
 clear HB
 have BK433 := n0_
 have HB := n1_
 clear n0_ n1_
 (try clear hb)
 (try clear hb2)
 (try clear hk)
 (try clear hi)
 refine hK.out _ _ (cy7 BK433.out) (fun hHeld => ?_)
 clear hK K
 refine norm_ (a' := ?_) ?_ ?_
 rotate_left
 ·show Act.put _ (some 6) _ = _
  refine pt ?_
  rfl
 refine one_ (i := 5) (N := some 9) #[true, true, true, true, true, true, false, true, true, false, false, true, true, false, false, false] rfl rfl (one_of HT_.out (by kernel_rfl)) (by decide) (fun K hK => ?_)
 refine goes_ Tryd.func63 (by kernel_rfl) rfl #[.int .i64 a0_1, .int .i64 0, .int .i64 5, .int .i64 7] (by rfl) rfl rfl ga ?_
 with_reducible refine (spinnakerref04_bits.calls k a0_1 0 5 7 t435 _ A3.out).mono ?_
 rintro e w' ⟨rfl, ⟨nd, rfl⟩⟩
 refine ⟨_, rfl, ?_⟩
 refine hK.out _ _ (cy7 BK433.out) (fun hHeld => ?_)
 clear hK K
 refine norm_ (a' := ?_) ?_ ?_
 rotate_left
 ·show Act.put _ (some 9) _ = _
  refine pt ?_
  rfl
 refine pq 6 (some 10) ?_ #[true, true, true, true, true, true, true, true, true, false, false, true, true, false, false, false] HT_.out rfl rfl ?_ ?_ ?_ ?_
 rotate_left
 ·intro w'
  go_simp
  with_reducible rfl
 rotate_left
 ·refine pt ?_
  rfl
 refine one_ (i := 9) (N := some 13) #[true, true, true, true, true, true, true, true, true, true, false, true, true, false, false, false] rfl rfl (one_of HT_.out (by kernel_rfl)) (by decide) (fun K hK => ?_)
 refine goes_ Tryd.func63 (by kernel_rfl) rfl #[.int .i64 a0_2, .int .i64 0, .int .i64 5, .int .i64 15] (by rfl) rfl rfl ga ?_
 with_reducible refine (spinnakerref04_bits.calls k a0_2 0 5 15 t436 _ A4.out).mono ?_
 rintro e w' ⟨rfl, ⟨nd, rfl⟩⟩
 refine ⟨_, rfl, ?_⟩
 refine hK.out _ _ (cy7 BK433.out) (fun hHeld => ?_)
 clear hK K
 refine norm_ (a' := ?_) ?_ ?_
 rotate_left
 ·show Act.put _ (some 13) _ = _
  refine pt ?_
  rfl
 refine pq 10 (some 14) ?_ (fl 16 13) HT_.out rfl rfl ?_ ?_ ?_ ?_
 rotate_left
 ·intro w'
  go_simp
  with_reducible rfl
 rotate_left
 ·refine pt ?_
  rfl
 refine one_ (i := 13) (N := some 17) (fl 16 14) rfl rfl (one_of HT_.out (by kernel_rfl)) (by decide) (fun K hK => ?_)
 refine goes_ Tryd.func63 (by kernel_rfl) rfl #[.int .i64 a0_3, .int .i64 0, .int .i64 5, .int .i64 20] (by rfl) rfl rfl ga ?_
 with_reducible refine (spinnakerref04_bits.calls k a0_3 0 5 20 t437 _ A5.out).mono ?_
 rintro e w' ⟨rfl, ⟨nd, rfl⟩⟩
 refine ⟨_, rfl, ?_⟩
 refine hK.out _ _ (cy7 BK433.out) (fun hHeld => ?_)
 clear hK K
 refine norm_ (a' := ?_) ?_ ?_
 rotate_left
 ·show Act.put _ (some 17) _ = _
  refine pt ?_
  rfl
 refine pq 14 (some 18) ?_ (fl 16 15) HT_.out rfl rfl ?_ ?_ ?_ ?_
 rotate_left
 ·intro w'
  go_simp
  with_reducible rfl
 rotate_left
 ·refine pt ?_
  rfl
 refine pq 15 (some 3) ?_ (fl 16 16) HT_.out rfl rfl ?_ ?_ ?_ ?_
 rotate_left
 ·intro w'
  go_simp
  with_reducible rfl
 rotate_left
 ·refine pt ?_
  rfl
 refine done_ (done_of HT_.out (by kernel_rfl)) ?_
 obtain ⟨hcz11_0, hcz11_1, hcz11_2, hcz11_3, hcz11_4, hcz11_5, hcz11_6, hfz11_0, hfz11_1, hfz11_2, hfz11_3, hfz11_4, hfz11_5, hfz11_6⟩ := cz7 (w := w10) BK433.out
 go_upto_block 0 with (first | ((with_reducible refine gate_callee (f := 29) rfl ?_); refine goesL_ (some 21) rfl rfl Tryd.func29 (by kernel_rfl) rfl #[.int .i64 a0_0] rfl ga ?_; (with_reducible refine (spinnakerref03_Form.calls a0_0 t438 _ A6.out).mono ?_); rintro e w' ⟨rfl, ⟨nd, rfl⟩⟩; refine ⟨_, rfl, ?_⟩))
 (try simp only [Act.put, List.setIfInBounds_toArray, List.set_cons_zero, List.set_cons_succ])
 go_cut [3] (fun v3 wc => ∃ (kq : Nat) (x3_6 : Int), v3 = .int .u32 x3_6 ∧ Aside0 (spinnakerref04_Encode.j0 kq x3_6 a0_0 a0_1 a0_2 a0_3 a0_4 a0_5 a0_6 = some r) ∧ Aside0 (kq ≤ k) ∧ Aside0 (wc.heap[gb433]? = some (.cells #[.int .i64 a0_0, .int .i64 a0_1, .int .i64 a0_2, .int .i64 a0_3, .int .i64 a0_4, .bool a0_5, .bool a0_6] 24 (0, 0))) ∧ Aside0 (Below w.heap.size w wc))
 case first =>
  have H := HC7.out
  clear HC7
  by_cases c12 : t438 = 1
  ·rw [if_pos c12] at H
   obtain ⟨c12b0, c12b1⟩ := eqs c12
   clear c12
   (first | rw [c12b0] | (simp only [i64_w, i32_w]; rw [c12b0]) | skip)
   replace H := be H
   obtain ⟨t439, A13, H⟩ := H
   have H' := Aside0.mk H
   clear H
   obtain ⟨hcz14_0, hcz14_1, hcz14_2, hcz14_3, hcz14_4, hcz14_5, hcz14_6, hfz14_0, hfz14_1, hfz14_2, hfz14_3, hfz14_4, hfz14_5, hfz14_6⟩ := cz7 (w := w10) BK433.out
   go_wp2_with (first | ((with_reducible refine gate_callee (f := 63) rfl ?_); refine goesL_ (some 27) rfl rfl Tryd.func63 (by kernel_rfl) rfl #[.int .i64 a0_4, .int .i64 0, .int .i64 20, .int .i64 12] rfl ga ?_; (with_reducible refine (spinnakerref04_bits.calls k a0_4 0 20 12 t439 _ A13.out).mono ?_); rintro e w' ⟨rfl, ⟨nd, rfl⟩⟩; refine ⟨_, rfl, ?_⟩))
   go_meet
   case rel => exact ⟨_, (Go.bits .or .u32 (Go.bits .or .u32 (Go.bits .or .u32 (Go.bits .or .u32 t434 t435) t436) t437) t439), fj, H', ⟨by first | omega | exact Nat.le_refl _⟩, ⟨by refine bx ?_; exact BK433.out⟩, ⟨bl⟩⟩
  ·rw [if_neg c12] at H
   have c12b0 : (t438 == 1) = false := beq_eq_false_iff_ne.mpr c12
   have c12b1 : (t438 != 1) = true := bne_iff_ne.mpr c12
   (first | rw [c12b0] | (simp only [i64_w, i32_w]; rw [c12b0]) | skip)
   by_cases c15 : t438 = 2
   ·rw [if_pos c15] at H
    obtain ⟨c15b0, c15b1⟩ := eqs c15
    clear c15
    replace H := be H
    obtain ⟨t440, A16, H⟩ := H
    replace H := be H
    obtain ⟨t441, A17, H⟩ := H
    replace H := be H
    obtain ⟨t442, A18, H⟩ := H
    replace H := be H
    obtain ⟨t443, A19, H⟩ := H
    have H' := Aside0.mk H
    clear H
    try go_wp2
    have n0_ := Aside0.mk (blk_drew BK433.out)
    have n1_ := Aside0.mk (below_drew1 HB.out)
    clear BK433
    clear HB
    have BK433 := n0_
    have HB := n1_
    clear n0_ n1_
    refine start_ (n := 18) (S := fun w' => w'.cell? ⟨gb433, 0, none⟩ = some (.int .i64 a0_0) ∧ w'.cell? ⟨gb433, 1, none⟩ = some (.int .i64 a0_1) ∧ w'.cell? ⟨gb433, 2, none⟩ = some (.int .i64 a0_2) ∧ w'.cell? ⟨gb433, 3, none⟩ = some (.int .i64 a0_3) ∧ w'.cell? ⟨gb433, 4, none⟩ = some (.int .i64 a0_4) ∧ w'.cell? ⟨gb433, 5, none⟩ = some (.bool a0_5) ∧ w'.cell? ⟨gb433, 6, none⟩ = some (.bool a0_6)) (ds := []) (fl 18 0) (by kernel_rfl) rfl rfl (cy7 BK433.out) (fun hHeld => ?_); refine with_tabW spinnakerref04_Encode.tab6 spinnakerref04_Encode.bits6 (fun HT_ HW_ => ?_)
    generalize hwq : World.drew (World.drewN _ _) = w20 at hHeld ⊢
    have n0_ : Aside0 (w20.heap[gb433]? = some (.cells #[.int .i64 a0_0, .int .i64 a0_1, .int .i64 a0_2, .int .i64 a0_3, .int .i64 a0_4, .bool a0_5, .bool a0_6] 24 (0, 0))) := ⟨by rw [← hwq]; exact BK433.out⟩
    have n1_ : Aside0 (Below w.heap.size w w20) := ⟨by rw [← hwq]; exact ⟨HB.out.os, HB.out.tape, HB.out.output, HB.out.size, HB.out.block⟩⟩
    clear BK433 HB hwq
    have BK433 := n0_
    have HB := n1_
    clear n0_ n1_
    refine pq 0 (some 31) ?_ (fl 18 1) HT_.out rfl rfl ?_ ?_ ?_ ?_
    rotate_left
    ·intro w'
     go_simp
     with_reducible rfl
    rotate_left
    ·refine pt ?_
     rfl
    refine pq 1 (some 32) ?_ (fl 18 2) HT_.out rfl rfl ?_ ?_ ?_ ?_
    rotate_left
    ·intro w'
     go_simp
     with_reducible rfl
    rotate_left
    ·refine pt ?_
     rfl
    refine pq 5 (some 36) ?_ #[true, true, false, false, false, true, false, false, false, false, false, false, false, false, false, false, false, false] HT_.out rfl rfl ?_ ?_ ?_ ?_
    rotate_left
    ·intro w'
     go_simp
     with_reducible rfl
    rotate_left
    ·refine pt ?_
     rfl
    refine pq 9 (some 40) ?_ #[true, true, false, false, false, true, false, false, false, true, false, false, false, false, false, false, false, false] HT_.out rfl rfl ?_ ?_ ?_ ?_
    rotate_left
    ·intro w'
     go_simp
     with_reducible rfl
    rotate_left
    ·refine pt ?_
     rfl
    refine pq 13 (some 44) ?_ #[true, true, false, false, false, true, false, false, false, true, false, false, false, true, false, false, false, false] HT_.out rfl rfl ?_ ?_ ?_ ?_
    rotate_left
    ·intro w'
     go_simp
     with_reducible rfl
    rotate_left
    ·refine pt ?_
     rfl
    refine pk 2 (some 33) ?_ #[true, true, true, false, false, true, false, false, false, true, false, false, false, true, false, false, false, false] HT_.out HW_.out rfl rfl ?_ hHeld ?_ ?_ ?_
    rotate_left
    ·rintro w' ⟨s0, s1, s2, s3, s4, s5, s6⟩
     go_simp
     with_reducible rfl
    rotate_left
    ·refine pt ?_
     rfl
    refine pk 6 (some 37) ?_ #[true, true, true, false, false, true, true, false, false, true, false, false, false, true, false, false, false, false] HT_.out HW_.out rfl rfl ?_ hHeld ?_ ?_ ?_
    rotate_left
    ·rintro w' ⟨s0, s1, s2, s3, s4, s5, s6⟩
     go_simp
     with_reducible rfl
    rotate_left
    ·refine pt ?_
     rfl
    refine pk 10 (some 41) ?_ #[true, true, true, false, false, true, true, false, false, true, true, false, false, true, false, false, false, false] HT_.out HW_.out rfl rfl ?_ hHeld ?_ ?_ ?_
    rotate_left
    ·rintro w' ⟨s0, s1, s2, s3, s4, s5, s6⟩
     go_simp
     with_reducible rfl
    rotate_left
    ·refine pt ?_
     rfl
    refine pk 14 (some 45) ?_ #[true, true, true, false, false, true, true, false, false, true, true, false, false, true, true, false, false, false] HT_.out HW_.out rfl rfl ?_ hHeld ?_ ?_ ?_
    rotate_left
    ·rintro w' ⟨s0, s1, s2, s3, s4, s5, s6⟩
     go_simp
     with_reducible rfl
    rotate_left
    ·refine pt ?_
     rfl
    refine one_ (i := 3) (N := some 34) #[true, true, true, true, false, true, true, false, false, true, true, false, false, true, true, false, false, false] rfl rfl (one_of HT_.out (by kernel_rfl)) (by decide) (fun K hK => ?_)
    refine goes_ Tryd.func63 (by kernel_rfl) rfl #[.int .i64 a0_4, .int .i64 20, .int .i64 1, .int .i64 31] (by rfl) rfl rfl ga ?_
    with_reducible refine (spinnakerref04_bits.calls k a0_4 20 1 31 t440 _ A16.out).mono ?_
    rintro e w' ⟨rfl, ⟨nd, rfl⟩⟩
    refine ⟨_, rfl, ?_⟩
    refine hK.out _ _ (cy7 BK433.out) (fun hHeld => ?_)
    clear hK K
    refine norm_ (a' := ?_) ?_ ?_
    rotate_left
    ·show Act.put _ (some 34) _ = _
     refine pt ?_
     rfl
    refine pq 4 (some 35) ?_ #[true, true, true, true, true, true, true, false, false, true, true, false, false, true, true, false, false, false] HT_.out rfl rfl ?_ ?_ ?_ ?_
    rotate_left
    ·intro w'
     go_simp
     with_reducible rfl
    rotate_left
    ·refine pt ?_
     rfl
    refine one_ (i := 7) (N := some 38) #[true, true, true, true, true, true, true, true, false, true, true, false, false, true, true, false, false, false] rfl rfl (one_of HT_.out (by kernel_rfl)) (by decide) (fun K hK => ?_)
    refine goes_ Tryd.func63 (by kernel_rfl) rfl #[.int .i64 a0_4, .int .i64 1, .int .i64 10, .int .i64 21] (by rfl) rfl rfl ga ?_
    with_reducible refine (spinnakerref04_bits.calls k a0_4 1 10 21 t441 _ A17.out).mono ?_
    rintro e w' ⟨rfl, ⟨nd, rfl⟩⟩
    refine ⟨_, rfl, ?_⟩
    refine hK.out _ _ (cy7 BK433.out) (fun hHeld => ?_)
    clear hK K
    refine norm_ (a' := ?_) ?_ ?_
    rotate_left
    ·show Act.put _ (some 38) _ = _
     refine pt ?_
     rfl
    refine pq 8 (some 39) ?_ #[true, true, true, true, true, true, true, true, true, true, true, false, false, true, true, false, false, false] HT_.out rfl rfl ?_ ?_ ?_ ?_
    rotate_left
    ·intro w'
     go_simp
     with_reducible rfl
    rotate_left
    ·refine pt ?_
     rfl
    refine one_ (i := 11) (N := some 42) #[true, true, true, true, true, true, true, true, true, true, true, true, false, true, true, false, false, false] rfl rfl (one_of HT_.out (by kernel_rfl)) (by decide) (fun K hK => ?_)
    refine goes_ Tryd.func63 (by kernel_rfl) rfl #[.int .i64 a0_4, .int .i64 11, .int .i64 1, .int .i64 20] (by rfl) rfl rfl ga ?_
    with_reducible refine (spinnakerref04_bits.calls k a0_4 11 1 20 t442 _ A18.out).mono ?_
    rintro e w' ⟨rfl, ⟨nd, rfl⟩⟩
    refine ⟨_, rfl, ?_⟩
    refine hK.out _ _ (cy7 BK433.out) (fun hHeld => ?_)
    clear hK K
    refine norm_ (a' := ?_) ?_ ?_
    rotate_left
    ·show Act.put _ (some 42) _ = _
     refine pt ?_
     rfl
    refine pq 12 (some 43) ?_ (fl 18 15) HT_.out rfl rfl ?_ ?_ ?_ ?_
    rotate_left
    ·intro w'
     go_simp
     with_reducible rfl
    rotate_left
    ·refine pt ?_
     rfl
    refine one_ (i := 15) (N := some 46) (fl 18 16) rfl rfl (one_of HT_.out (by kernel_rfl)) (by decide) (fun K hK => ?_)
    refine goes_ Tryd.func63 (by kernel_rfl) rfl #[.int .i64 a0_4, .int .i64 12, .int .i64 8, .int .i64 12] (by rfl) rfl rfl ga ?_
    with_reducible refine (spinnakerref04_bits.calls k a0_4 12 8 12 t443 _ A19.out).mono ?_
    rintro e w' ⟨rfl, ⟨nd, rfl⟩⟩
    refine ⟨_, rfl, ?_⟩
    refine hK.out _ _ (cy7 BK433.out) (fun hHeld => ?_)
    clear hK K
    refine norm_ (a' := ?_) ?_ ?_
    rotate_left
    ·show Act.put _ (some 46) _ = _
     refine pt ?_
     rfl
    refine pq 16 (some 47) ?_ (fl 18 17) HT_.out rfl rfl ?_ ?_ ?_ ?_
    rotate_left
    ·intro w'
     go_simp
     with_reducible rfl
    rotate_left
    ·refine pt ?_
     rfl
    refine pq 17 (some 3) ?_ (fl 18 18) HT_.out rfl rfl ?_ ?_ ?_ ?_
    rotate_left
    ·intro w'
     go_simp
     with_reducible rfl
    rotate_left
    ·refine pt ?_
     rfl
    refine done_ (done_of HT_.out (by kernel_rfl)) ?_
    try go_wp2
    go_meet
    case rel => exact ⟨_, (Go.bits .or .u32 (Go.bits .or .u32 (Go.bits .or .u32 (Go.bits .or .u32 (Go.bits .or .u32 (Go.bits .or .u32 (Go.bits .or .u32 t434 t435) t436) t437) t440) t441) t442) t443), fj, H', ⟨by first | omega | exact Nat.le_refl _⟩, ⟨by refine bx ?_; exact BK433.out⟩, ⟨bl⟩⟩
   ·rw [if_neg c15] at H
    have c15b0 : (t438 == 2) = false := beq_eq_false_iff_ne.mpr c15
    have c15b1 : (t438 != 2) = true := bne_iff_ne.mpr c15
    by_cases c21 : t438 = 3
    ·rw [if_pos c21] at H
     obtain ⟨c21b0, c21b1⟩ := eqs c21
     clear c21
     replace H := be H
     obtain ⟨t444, A22, H⟩ := H
     have H' := Aside0.mk H
     clear H
     obtain ⟨hcz23_0, hcz23_1, hcz23_2, hcz23_3, hcz23_4, hcz23_5, hcz23_6, hfz23_0, hfz23_1, hfz23_2, hfz23_3, hfz23_4, hfz23_5, hfz23_6⟩ := cz7 (w := w10) BK433.out
     go_wp2_with (first | ((with_reducible refine gate_callee (f := 63) rfl ?_); refine goesL_ (some 53) rfl rfl Tryd.func63 (by kernel_rfl) rfl #[.int .i64 a0_4, .int .i64 0, .int .i64 12, .int .i64 20] rfl ga ?_; (with_reducible refine (spinnakerref04_bits.calls k a0_4 0 12 20 t444 _ A22.out).mono ?_); rintro e w' ⟨rfl, ⟨nd, rfl⟩⟩; refine ⟨_, rfl, ?_⟩))
     go_meet
     case rel => exact ⟨_, (Go.bits .or .u32 (Go.bits .or .u32 (Go.bits .or .u32 (Go.bits .or .u32 t434 t435) t436) t437) t444), fj, H', ⟨by first | omega | exact Nat.le_refl _⟩, ⟨by refine bx ?_; exact BK433.out⟩, ⟨bl⟩⟩
    ·rw [if_neg c21] at H
     have c21b0 : (t438 == 3) = false := beq_eq_false_iff_ne.mpr c21
     have c21b1 : (t438 != 3) = true := bne_iff_ne.mpr c21
     by_cases c24 : t438 = 4
     ·rw [if_pos c24] at H
      obtain ⟨c24b0, c24b1⟩ := eqs c24
      clear c24
      replace H := be H
      obtain ⟨t445, A25, H⟩ := H
      replace H := be H
      obtain ⟨t446, A26, H⟩ := H
      replace H := be H
      obtain ⟨t447, A27, H⟩ := H
      replace H := be H
      obtain ⟨t448, A28, H⟩ := H
      replace H := be H
      obtain ⟨t449, A29, H⟩ := H
      have H' := Aside0.mk H
      clear H
      try go_wp2
      have n0_ := Aside0.mk (blk_drew BK433.out)
      have n1_ := Aside0.mk (below_drew1 HB.out)
      clear BK433
      clear HB
      have BK433 := n0_
      have HB := n1_
      clear n0_ n1_
      refine start_ (n := 20) (S := fun w' => w'.cell? ⟨gb433, 0, none⟩ = some (.int .i64 a0_0) ∧ w'.cell? ⟨gb433, 1, none⟩ = some (.int .i64 a0_1) ∧ w'.cell? ⟨gb433, 2, none⟩ = some (.int .i64 a0_2) ∧ w'.cell? ⟨gb433, 3, none⟩ = some (.int .i64 a0_3) ∧ w'.cell? ⟨gb433, 4, none⟩ = some (.int .i64 a0_4) ∧ w'.cell? ⟨gb433, 5, none⟩ = some (.bool a0_5) ∧ w'.cell? ⟨gb433, 6, none⟩ = some (.bool a0_6)) (ds := []) (fl 20 0) (by kernel_rfl) rfl rfl (cy7 BK433.out) (fun hHeld => ?_); refine with_tabW spinnakerref04_Encode.tab10 spinnakerref04_Encode.bits10 (fun HT_ HW_ => ?_)
      generalize hwq : World.drew (World.drewN _ _) = w30 at hHeld ⊢
      have n0_ : Aside0 (w30.heap[gb433]? = some (.cells #[.int .i64 a0_0, .int .i64 a0_1, .int .i64 a0_2, .int .i64 a0_3, .int .i64 a0_4, .bool a0_5, .bool a0_6] 24 (0, 0))) := ⟨by rw [← hwq]; exact BK433.out⟩
      have n1_ : Aside0 (Below w.heap.size w w30) := ⟨by rw [← hwq]; exact ⟨HB.out.os, HB.out.tape, HB.out.output, HB.out.size, HB.out.block⟩⟩
      clear BK433 HB hwq
      have BK433 := n0_
      have HB := n1_
      clear n0_ n1_
      refine pq 0 (some 57) ?_ (fl 20 1) HT_.out rfl rfl ?_ ?_ ?_ ?_
      rotate_left
      ·intro w'
       go_simp
       with_reducible rfl
      rotate_left
      ·refine pt ?_
       rfl
      refine pq 3 (some 60) ?_ #[true, false, false, true, false, false, false, false, false, false, false, false, false, false, false, false, false, false, false, false] HT_.out rfl rfl ?_ ?_ ?_ ?_
      rotate_left
      ·intro w'
       go_simp
       with_reducible rfl
      rotate_left
      ·refine pt ?_
       rfl
      refine pq 7 (some 64) ?_ #[true, false, false, true, false, false, false, true, false, false, false, false, false, false, false, false, false, false, false, false] HT_.out rfl rfl ?_ ?_ ?_ ?_
      rotate_left
      ·intro w'
       go_simp
       with_reducible rfl
      rotate_left
      ·refine pt ?_
       rfl
      refine pq 11 (some 68) ?_ #[true, false, false, true, false, false, false, true, false, false, false, true, false, false, false, false, false, false, false, false] HT_.out rfl rfl ?_ ?_ ?_ ?_
      rotate_left
      ·intro w'
       go_simp
       with_reducible rfl
      rotate_left
      ·refine pt ?_
       rfl
      refine pq 15 (some 72) ?_ #[true, false, false, true, false, false, false, true, false, false, false, true, false, false, false, true, false, false, false, false] HT_.out rfl rfl ?_ ?_ ?_ ?_
      rotate_left
      ·intro w'
       go_simp
       with_reducible rfl
      rotate_left
      ·refine pt ?_
       rfl
      refine pk 4 (some 61) ?_ #[true, false, false, true, true, false, false, true, false, false, false, true, false, false, false, true, false, false, false, false] HT_.out HW_.out rfl rfl ?_ hHeld ?_ ?_ ?_
      rotate_left
      ·rintro w' ⟨s0, s1, s2, s3, s4, s5, s6⟩
       go_simp
       with_reducible rfl
      rotate_left
      ·refine pt ?_
       rfl
      refine pk 8 (some 65) ?_ #[true, false, false, true, true, false, false, true, true, false, false, true, false, false, false, true, false, false, false, false] HT_.out HW_.out rfl rfl ?_ hHeld ?_ ?_ ?_
      rotate_left
      ·rintro w' ⟨s0, s1, s2, s3, s4, s5, s6⟩
       go_simp
       with_reducible rfl
      rotate_left
      ·refine pt ?_
       rfl
      refine pk 12 (some 69) ?_ #[true, false, false, true, true, false, false, true, true, false, false, true, true, false, false, true, false, false, false, false] HT_.out HW_.out rfl rfl ?_ hHeld ?_ ?_ ?_
      rotate_left
      ·rintro w' ⟨s0, s1, s2, s3, s4, s5, s6⟩
       go_simp
       with_reducible rfl
      rotate_left
      ·refine pt ?_
       rfl
      refine pk 16 (some 73) ?_ #[true, false, false, true, true, false, false, true, true, false, false, true, true, false, false, true, true, false, false, false] HT_.out HW_.out rfl rfl ?_ hHeld ?_ ?_ ?_
      rotate_left
      ·rintro w' ⟨s0, s1, s2, s3, s4, s5, s6⟩
       go_simp
       with_reducible rfl
      rotate_left
      ·refine pt ?_
       rfl
      refine one_ (i := 1) (N := some 58) #[true, true, false, true, true, false, false, true, true, false, false, true, true, false, false, true, true, false, false, false] rfl rfl (one_of HT_.out (by kernel_rfl)) (by decide) (fun K hK => ?_)
      refine goes_ Tryd.func63 (by kernel_rfl) rfl #[.int .i64 (-1), .int .i64 0, .int .i64 5, .int .i64 7] (by rfl) rfl rfl ga ?_
      with_reducible refine (spinnakerref04_bits.calls k (-1) 0 5 7 t445 _ A25.out).mono ?_
      rintro e w' ⟨rfl, ⟨nd, rfl⟩⟩
      refine ⟨_, rfl, ?_⟩
      refine hK.out _ _ (cy7 BK433.out) (fun hHeld => ?_)
      clear hK K
      refine norm_ (a' := ?_) ?_ ?_
      rotate_left
      ·show Act.put _ (some 58) _ = _
       refine pt ?_
       rfl
      refine pq 2 (some 59) ?_ #[true, true, true, true, true, false, false, true, true, false, false, true, true, false, false, true, true, false, false, false] HT_.out rfl rfl ?_ ?_ ?_ ?_
      rotate_left
      ·intro w'
       go_simp
       with_reducible rfl
      rotate_left
      ·refine pt ?_
       rfl
      refine one_ (i := 5) (N := some 62) #[true, true, true, true, true, true, false, true, true, false, false, true, true, false, false, true, true, false, false, false] rfl rfl (one_of HT_.out (by kernel_rfl)) (by decide) (fun K hK => ?_)
      refine goes_ Tryd.func63 (by kernel_rfl) rfl #[.int .i64 a0_4, .int .i64 12, .int .i64 1, .int .i64 31] (by rfl) rfl rfl ga ?_
      with_reducible refine (spinnakerref04_bits.calls k a0_4 12 1 31 t446 _ A26.out).mono ?_
      rintro e w' ⟨rfl, ⟨nd, rfl⟩⟩
      refine ⟨_, rfl, ?_⟩
      refine hK.out _ _ (cy7 BK433.out) (fun hHeld => ?_)
      clear hK K
      refine norm_ (a' := ?_) ?_ ?_
      rotate_left
      ·show Act.put _ (some 62) _ = _
       refine pt ?_
       rfl
      refine pq 6 (some 63) ?_ #[true, true, true, true, true, true, true, true, true, false, false, true, true, false, false, true, true, false, false, false] HT_.out rfl rfl ?_ ?_ ?_ ?_
      rotate_left
      ·intro w'
       go_simp
       with_reducible rfl
      rotate_left
      ·refine pt ?_
       rfl
      refine one_ (i := 9) (N := some 66) #[true, true, true, true, true, true, true, true, true, true, false, true, true, false, false, true, true, false, false, false] rfl rfl (one_of HT_.out (by kernel_rfl)) (by decide) (fun K hK => ?_)
      refine goes_ Tryd.func63 (by kernel_rfl) rfl #[.int .i64 a0_4, .int .i64 5, .int .i64 6, .int .i64 25] (by rfl) rfl rfl ga ?_
      with_reducible refine (spinnakerref04_bits.calls k a0_4 5 6 25 t447 _ A27.out).mono ?_
      rintro e w' ⟨rfl, ⟨nd, rfl⟩⟩
      refine ⟨_, rfl, ?_⟩
      refine hK.out _ _ (cy7 BK433.out) (fun hHeld => ?_)
      clear hK K
      refine norm_ (a' := ?_) ?_ ?_
      rotate_left
      ·show Act.put _ (some 66) _ = _
       refine pt ?_
       rfl
      refine pq 10 (some 67) ?_ #[true, true, true, true, true, true, true, true, true, true, true, true, true, false, false, true, true, false, false, false] HT_.out rfl rfl ?_ ?_ ?_ ?_
      rotate_left
      ·intro w'
       go_simp
       with_reducible rfl
      rotate_left
      ·refine pt ?_
       rfl
      refine one_ (i := 13) (N := some 70) #[true, true, true, true, true, true, true, true, true, true, true, true, true, true, false, true, true, false, false, false] rfl rfl (one_of HT_.out (by kernel_rfl)) (by decide) (fun K hK => ?_)
      refine goes_ Tryd.func63 (by kernel_rfl) rfl #[.int .i64 a0_4, .int .i64 1, .int .i64 4, .int .i64 8] (by rfl) rfl rfl ga ?_
      with_reducible refine (spinnakerref04_bits.calls k a0_4 1 4 8 t448 _ A28.out).mono ?_
      rintro e w' ⟨rfl, ⟨nd, rfl⟩⟩
      refine ⟨_, rfl, ?_⟩
      refine hK.out _ _ (cy7 BK433.out) (fun hHeld => ?_)
      clear hK K
      refine norm_ (a' := ?_) ?_ ?_
      rotate_left
      ·show Act.put _ (some 70) _ = _
       refine pt ?_
       rfl
      refine pq 14 (some 71) ?_ (fl 20 17) HT_.out rfl rfl ?_ ?_ ?_ ?_
      rotate_left
      ·intro w'
       go_simp
       with_reducible rfl
      rotate_left
      ·refine pt ?_
       rfl
      refine one_ (i := 17) (N := some 74) (fl 20 18) rfl rfl (one_of HT_.out (by kernel_rfl)) (by decide) (fun K hK => ?_)
      refine goes_ Tryd.func63 (by kernel_rfl) rfl #[.int .i64 a0_4, .int .i64 11, .int .i64 1, .int .i64 7] (by rfl) rfl rfl ga ?_
      with_reducible refine (spinnakerref04_bits.calls k a0_4 11 1 7 t449 _ A29.out).mono ?_
      rintro e w' ⟨rfl, ⟨nd, rfl⟩⟩
      refine ⟨_, rfl, ?_⟩
      refine hK.out _ _ (cy7 BK433.out) (fun hHeld => ?_)
      clear hK K
      refine norm_ (a' := ?_) ?_ ?_
      rotate_left
      ·show Act.put _ (some 74) _ = _
       refine pt ?_
       rfl
      refine pq 18 (some 75) ?_ (fl 20 19) HT_.out rfl rfl ?_ ?_ ?_ ?_
      rotate_left
      ·intro w'
       go_simp
       with_reducible rfl
      rotate_left
      ·refine pt ?_
       rfl
      refine pq 19 (some 3) ?_ (fl 20 20) HT_.out rfl rfl ?_ ?_ ?_ ?_
      rotate_left
      ·intro w'
       go_simp
       with_reducible rfl
      rotate_left
      ·refine pt ?_
       rfl
      refine done_ (done_of HT_.out (by kernel_rfl)) ?_
      try go_wp2
      go_meet
      case rel => exact ⟨_, (Go.bits .or .u32 (Go.bits .or .u32 (Go.bits .or .u32 (Go.bits .or .u32 (Go.bits .andNot .u32 (Go.bits .or .u32 (Go.bits .or .u32 (Go.bits .or .u32 t434 t435) t436) t437) t445) t446) t447) t448) t449), fj, H', ⟨by first | omega | exact Nat.le_refl _⟩, ⟨by refine bx ?_; exact BK433.out⟩, ⟨bl⟩⟩
     ·rw [if_neg c24] at H
      have c24b0 : (t438 == 4) = false := beq_eq_false_iff_ne.mpr c24
      have c24b1 : (t438 != 4) = true := bne_iff_ne.mpr c24
      by_cases c31 : t438 = 5
      ·rw [if_pos c31] at H
       obtain ⟨c31b0, c31b1⟩ := eqs c31
       clear c31
       replace H := be H
       obtain ⟨t450, A32, H⟩ := H
       replace H := be H
       obtain ⟨t451, A33, H⟩ := H
       replace H := be H
       obtain ⟨t452, A34, H⟩ := H
       have H' := Aside0.mk H
       clear H
       try go_wp2
       have n0_ := Aside0.mk (blk_drew BK433.out)
       have n1_ := Aside0.mk (below_drew1 HB.out)
       clear BK433
       clear HB
       have BK433 := n0_
       have HB := n1_
       clear n0_ n1_
       refine start_ (n := 12) (S := fun w' => w'.cell? ⟨gb433, 0, none⟩ = some (.int .i64 a0_0) ∧ w'.cell? ⟨gb433, 1, none⟩ = some (.int .i64 a0_1) ∧ w'.cell? ⟨gb433, 2, none⟩ = some (.int .i64 a0_2) ∧ w'.cell? ⟨gb433, 3, none⟩ = some (.int .i64 a0_3) ∧ w'.cell? ⟨gb433, 4, none⟩ = some (.int .i64 a0_4) ∧ w'.cell? ⟨gb433, 5, none⟩ = some (.bool a0_5) ∧ w'.cell? ⟨gb433, 6, none⟩ = some (.bool a0_6)) (ds := []) (fl 12 0) (by kernel_rfl) rfl rfl (cy7 BK433.out) (fun hHeld => ?_); refine with_tabW spinnakerref04_Encode.tab12 spinnakerref04_Encode.bits12 (fun HT_ HW_ => ?_)
       generalize hwq : World.drew (World.drewN _ _) = w35 at hHeld ⊢
       have n0_ : Aside0 (w35.heap[gb433]? = some (.cells #[.int .i64 a0_0, .int .i64 a0_1, .int .i64 a0_2, .int .i64 a0_3, .int .i64 a0_4, .bool a0_5, .bool a0_6] 24 (0, 0))) := ⟨by rw [← hwq]; exact BK433.out⟩
       have n1_ : Aside0 (Below w.heap.size w w35) := ⟨by rw [← hwq]; exact ⟨HB.out.os, HB.out.tape, HB.out.output, HB.out.size, HB.out.block⟩⟩
       clear BK433 HB hwq
       have BK433 := n0_
       have HB := n1_
       clear n0_ n1_
       refine pq 0 (some 78) ?_ (fl 12 1) HT_.out rfl rfl ?_ ?_ ?_ ?_
       rotate_left
       ·intro w'
        go_simp
        with_reducible rfl
       rotate_left
       ·refine pt ?_
        rfl
       refine pq 3 (some 81) ?_ #[true, false, false, true, false, false, false, false, false, false, false, false] HT_.out rfl rfl ?_ ?_ ?_ ?_
       rotate_left
       ·intro w'
        go_simp
        with_reducible rfl
       rotate_left
       ·refine pt ?_
        rfl
       refine pq 7 (some 85) ?_ #[true, false, false, true, false, false, false, true, false, false, false, false] HT_.out rfl rfl ?_ ?_ ?_ ?_
       rotate_left
       ·intro w'
        go_simp
        with_reducible rfl
       rotate_left
       ·refine pt ?_
        rfl
       refine pk 4 (some 82) ?_ #[true, false, false, true, true, false, false, true, false, false, false, false] HT_.out HW_.out rfl rfl ?_ hHeld ?_ ?_ ?_
       rotate_left
       ·rintro w' ⟨s0, s1, s2, s3, s4, s5, s6⟩
        go_simp
        with_reducible rfl
       rotate_left
       ·refine pt ?_
        rfl
       refine pk 8 (some 86) ?_ #[true, false, false, true, true, false, false, true, true, false, false, false] HT_.out HW_.out rfl rfl ?_ hHeld ?_ ?_ ?_
       rotate_left
       ·rintro w' ⟨s0, s1, s2, s3, s4, s5, s6⟩
        go_simp
        with_reducible rfl
       rotate_left
       ·refine pt ?_
        rfl
       refine one_ (i := 1) (N := some 79) #[true, true, false, true, true, false, false, true, true, false, false, false] rfl rfl (one_of HT_.out (by kernel_rfl)) (by decide) (fun K hK => ?_)
       refine goes_ Tryd.func63 (by kernel_rfl) rfl #[.int .i64 (-1), .int .i64 0, .int .i64 5, .int .i64 7] (by rfl) rfl rfl ga ?_
       with_reducible refine (spinnakerref04_bits.calls k (-1) 0 5 7 t450 _ A32.out).mono ?_
       rintro e w' ⟨rfl, ⟨nd, rfl⟩⟩
       refine ⟨_, rfl, ?_⟩
       refine hK.out _ _ (cy7 BK433.out) (fun hHeld => ?_)
       clear hK K
       refine norm_ (a' := ?_) ?_ ?_
       rotate_left
       ·show Act.put _ (some 79) _ = _
        refine pt ?_
        rfl
       refine pq 2 (some 80) ?_ #[true, true, true, true, true, false, false, true, true, false, false, false] HT_.out rfl rfl ?_ ?_ ?_ ?_
       rotate_left
       ·intro w'
        go_simp
        with_reducible rfl
       rotate_left
       ·refine pt ?_
        rfl
       refine one_ (i := 5) (N := some 83) #[true, true, true, true, true, true, false, true, true, false, false, false] rfl rfl (one_of HT_.out (by kernel_rfl)) (by decide) (fun K hK => ?_)
       refine goes_ Tryd.func63 (by kernel_rfl) rfl #[.int .i64 a0_4, .int .i64 5, .int .i64 7, .int .i64 25] (by rfl) rfl rfl ga ?_
       with_reducible refine (spinnakerref04_bits.calls k a0_4 5 7 25 t451 _ A33.out).mono ?_
       rintro e w' ⟨rfl, ⟨nd, rfl⟩⟩
       refine ⟨_, rfl, ?_⟩
       refine hK.out _ _ (cy7 BK433.out) (fun hHeld => ?_)
       clear hK K
       refine norm_ (a' := ?_) ?_ ?_
       rotate_left
       ·show Act.put _ (some 83) _ = _
        refine pt ?_
        rfl
       refine pq 6 (some 84) ?_ (fl 12 9) HT_.out rfl rfl ?_ ?_ ?_ ?_
       rotate_left
       ·intro w'
        go_simp
        with_reducible rfl
       rotate_left
       ·refine pt ?_
        rfl
       refine one_ (i := 9) (N := some 87) (fl 12 10) rfl rfl (one_of HT_.out (by kernel_rfl)) (by decide) (fun K hK => ?_)
       refine goes_ Tryd.func63 (by kernel_rfl) rfl #[.int .i64 a0_4, .int .i64 0, .int .i64 5, .int .i64 7] (by rfl) rfl rfl ga ?_
       with_reducible refine (spinnakerref04_bits.calls k a0_4 0 5 7 t452 _ A34.out).mono ?_
       rintro e w' ⟨rfl, ⟨nd, rfl⟩⟩
       refine ⟨_, rfl, ?_⟩
       refine hK.out _ _ (cy7 BK433.out) (fun hHeld => ?_)
       clear hK K
       refine norm_ (a' := ?_) ?_ ?_
       rotate_left
       ·show Act.put _ (some 87) _ = _
        refine pt ?_
        rfl
       refine pq 10 (some 88) ?_ (fl 12 11) HT_.out rfl rfl ?_ ?_ ?_ ?_
       rotate_left
       ·intro w'
        go_simp
        with_reducible rfl
       rotate_left
       ·refine pt ?_
        rfl
       refine pq 11 (some 3) ?_ (fl 12 12) HT_.out rfl rfl ?_ ?_ ?_ ?_
       rotate_left
       ·intro w'
        go_simp
        with_reducible rfl
       rotate_left
       ·refine pt ?_
        rfl
       refine done_ (done_of HT_.out (by kernel_rfl)) ?_
       try go_wp2
       go_meet
       case rel => exact ⟨_, (Go.bits .or .u32 (Go.bits .or .u32 (Go.bits .andNot .u32 (Go.bits .or .u32 (Go.bits .or .u32 (Go.bits .or .u32 t434 t435) t436) t437) t450) t451) t452), fj, H', ⟨by first | omega | exact Nat.le_refl _⟩, ⟨by refine bx ?_; exact BK433.out⟩, ⟨bl⟩⟩
      ·rw [if_neg c31] at H
       have c31b0 : (t438 == 5) = false := beq_eq_false_iff_ne.mpr c31
       have c31b1 : (t438 != 5) = true := bne_iff_ne.mpr c31
       by_cases c36 : t438 = 7
       ·rw [if_pos c36] at H
        obtain ⟨c36b0, c36b1⟩ := eqs c36
        clear c36
        replace H := be H
        obtain ⟨t453, A37, H⟩ := H
        have H' := Aside0.mk H
        clear H
        obtain ⟨hcz38_0, hcz38_1, hcz38_2, hcz38_3, hcz38_4, hcz38_5, hcz38_6, hfz38_0, hfz38_1, hfz38_2, hfz38_3, hfz38_4, hfz38_5, hfz38_6⟩ := cz7 (w := w10) BK433.out
        go_wp2_with (first | ((with_reducible refine gate_callee (f := 63) rfl ?_); refine goesL_ (some 94) rfl rfl Tryd.func63 (by kernel_rfl) rfl #[.int .i64 a0_4, .int .i64 0, .int .i64 6, .int .i64 20] rfl ga ?_; (with_reducible refine (spinnakerref04_bits.calls k a0_4 0 6 20 t453 _ A37.out).mono ?_); rintro e w' ⟨rfl, ⟨nd, rfl⟩⟩; refine ⟨_, rfl, ?_⟩))
        go_meet
        case rel => exact ⟨_, (Go.bits .or .u32 (Go.bits .or .u32 (Go.bits .or .u32 (Go.bits .or .u32 t434 t435) t436) t437) t453), fj, H', ⟨by first | omega | exact Nat.le_refl _⟩, ⟨by refine bx ?_; exact BK433.out⟩, ⟨bl⟩⟩
       ·rw [if_neg c36] at H
        have c36b0 : (t438 == 7) = false := beq_eq_false_iff_ne.mpr c36
        have c36b1 : (t438 != 7) = true := bne_iff_ne.mpr c36
        by_cases c39 : t438 = 8
        ·rw [if_pos c39] at H
         obtain ⟨c39b0, c39b1⟩ := eqs c39
         clear c39
         replace H := be H
         obtain ⟨t454, A40, H⟩ := H
         have H' := Aside0.mk H
         clear H
         obtain ⟨hcz41_0, hcz41_1, hcz41_2, hcz41_3, hcz41_4, hcz41_5, hcz41_6, hfz41_0, hfz41_1, hfz41_2, hfz41_3, hfz41_4, hfz41_5, hfz41_6⟩ := cz7 (w := w10) BK433.out
         go_wp2_with (first | ((with_reducible refine gate_callee (f := 63) rfl ?_); refine goesL_ (some 101) rfl rfl Tryd.func63 (by kernel_rfl) rfl #[.int .i64 a0_4, .int .i64 0, .int .i64 5, .int .i64 20] rfl ga ?_; (with_reducible refine (spinnakerref04_bits.calls k a0_4 0 5 20 t454 _ A40.out).mono ?_); rintro e w' ⟨rfl, ⟨nd, rfl⟩⟩; refine ⟨_, rfl, ?_⟩))
         go_meet
         case rel => exact ⟨_, (Go.bits .or .u32 (Go.bits .or .u32 (Go.bits .or .u32 (Go.bits .or .u32 t434 t435) t436) t437) t454), fj, H', ⟨by first | omega | exact Nat.le_refl _⟩, ⟨by refine bx ?_; exact BK433.out⟩, ⟨bl⟩⟩
        ·rw [if_neg c39] at H
         have c39b0 : (t438 == 8) = false := beq_eq_false_iff_ne.mpr c39
         have c39b1 : (t438 != 8) = true := bne_iff_ne.mpr c39
         by_cases c42 : t438 = 9
         ·rw [if_pos c42] at H
          obtain ⟨c42b0, c42b1⟩ := eqs c42
          clear c42
          replace H := be H
          obtain ⟨t455, A43, H⟩ := H
          have H' := Aside0.mk H
          clear H
          obtain ⟨hcz44_0, hcz44_1, hcz44_2, hcz44_3, hcz44_4, hcz44_5, hcz44_6, hfz44_0, hfz44_1, hfz44_2, hfz44_3, hfz44_4, hfz44_5, hfz44_6⟩ := cz7 (w := w10) BK433.out
          go_wp2_with (first | ((with_reducible refine gate_callee (f := 63) rfl ?_); refine goesL_ (some 108) rfl rfl Tryd.func63 (by kernel_rfl) rfl #[.int .i64 a0_4, .int .i64 0, .int .i64 8, .int .i64 20] rfl ga ?_; (with_reducible refine (spinnakerref04_bits.calls k a0_4 0 8 20 t455 _ A43.out).mono ?_); rintro e w' ⟨rfl, ⟨nd, rfl⟩⟩; refine ⟨_, rfl, ?_⟩))
          go_meet
          case rel => exact ⟨_, (Go.bits .or .u32 (Go.bits .or .u32 (Go.bits .or .u32 (Go.bits .or .u32 t434 t435) t436) t437) t455), fj, H', ⟨by first | omega | exact Nat.le_refl _⟩, ⟨by refine bx ?_; exact BK433.out⟩, ⟨bl⟩⟩
         ·rw [if_neg c42] at H
          have c42b0 : (t438 == 9) = false := beq_eq_false_iff_ne.mpr c42
          have c42b1 : (t438 != 9) = true := bne_iff_ne.mpr c42
          have H' := Aside0.mk H
          clear H
          go_wp2
          go_meet
          case rel => exact ⟨_, (Go.bits .or .u32 (Go.bits .or .u32 (Go.bits .or .u32 t434 t435) t436) t437), fj, H', ⟨by first | omega | exact Nat.le_refl _⟩, ⟨by refine bx ?_; exact BK433.out⟩, ⟨bl⟩⟩
 case rest =>
  clear HC7
  try clear c1
  try clear c2
  try clear p2
  try clear c3
  try clear c4
  try clear c6
  try clear c15
  try clear c15b0
  try clear c15b1
  try clear c21
  try clear c21b0
  try clear c21b1
  try clear c24
  try clear c24b0
  try clear c24b1
  try clear c31
  try clear c31b0
  try clear c31b1
  try clear c36
  try clear c36b0
  try clear c36b1
  try clear c39
  try clear c39b0
  try clear c39b1
  try clear c42
  try clear c42b0
  try clear c42b1
  try clear hcz23_0 hcz23_1 hcz23_2 hcz23_3 hcz23_4 hcz23_5 hcz23_6
  try clear hcz38_0 hcz38_1 hcz38_2 hcz38_3 hcz38_4 hcz38_5 hcz38_6
  try clear hcz41_0 hcz41_1 hcz41_2 hcz41_3 hcz41_4 hcz41_5 hcz41_6
  try clear hcz44_0 hcz44_1 hcz44_2 hcz44_3 hcz44_4 hcz44_5 hcz44_6
  try clear hfz23_0 hfz23_1 hfz23_2 hfz23_3 hfz23_4 hfz23_5 hfz23_6
  try clear hfz38_0 hfz38_1 hfz38_2 hfz38_3 hfz38_4 hfz38_5 hfz38_6
  try clear hfz41_0 hfz41_1 hfz41_2 hfz41_3 hfz41_4 hfz41_5 hfz41_6
  try clear hfz44_0 hfz44_1 hfz44_2 hfz44_3 hfz44_4 hfz44_5 hfz44_6
  obtain ⟨kq, x3_6, rfl, HA, HJ6, BK433, HB⟩ := hcut
  cases kq with
  | zero => exact absurd HA.out (by simp [spinnakerref04_Encode.j0])
  | succ kj6 =>
   have H := HA.out
   clear HA
   simp only [spinnakerref04_Encode.j0] at H
   by_cases c45 : a0_5 = true
   ·subst c45
    have H1 : (if a0_6 = true then (some (Go.bits .or .u32 (Go.bits .or .u32 x3_6 67108864) 33554432)) else (some (Go.bits .or .u32 x3_6 67108864))) = some r := by rw [if_pos rfl] at H; exact H
    clear H
    have H := H1
    clear H1
    by_cases c46 : a0_6 = true
    ·subst c46
     have H1 : (some (Go.bits .or .u32 (Go.bits .or .u32 x3_6 67108864) 33554432)) = some r := by rw [if_pos rfl] at H; exact H
     clear H
     have H := H1
     clear H1
     obtain rfl := Option.some.inj H
     obtain ⟨hcz47_0, hcz47_1, hcz47_2, hcz47_3, hcz47_4, hcz47_5, hcz47_6, hfz47_0, hfz47_1, hfz47_2, hfz47_3, hfz47_4, hfz47_5, hfz47_6⟩ := cz7 (w := wc) BK433.out
     go_wp2
     go_ret
     exact ⟨fi, bl⟩
    ·replace c46 := Bool.eq_false_iff.mpr c46
     subst c46
     have H1 : (some (Go.bits .or .u32 x3_6 67108864)) = some r := by rw [if_neg (show ¬ (false = true) by decide)] at H; exact H
     clear H
     have H := H1
     clear H1
     obtain rfl := Option.some.inj H
     obtain ⟨hcz48_0, hcz48_1, hcz48_2, hcz48_3, hcz48_4, hcz48_5, hcz48_6, hfz48_0, hfz48_1, hfz48_2, hfz48_3, hfz48_4, hfz48_5, hfz48_6⟩ := cz7 (w := wc) BK433.out
     go_wp2
     go_ret
     exact ⟨fi, bl⟩
   ·replace c45 := Bool.eq_false_iff.mpr c45
    subst c45
    have H1 : (if a0_6 = true then (some (Go.bits .or .u32 x3_6 33554432)) else (some x3_6)) = some r := by rw [if_neg (show ¬ (false = true) by decide)] at H; exact H
    clear H
    have H := H1
    clear H1
    by_cases c49 : a0_6 = true
    ·subst c49
     have H1 : (some (Go.bits .or .u32 x3_6 33554432)) = some r := by rw [if_pos rfl] at H; exact H
     clear H
     have H := H1
     clear H1
     obtain rfl := Option.some.inj H
     obtain ⟨hcz50_0, hcz50_1, hcz50_2, hcz50_3, hcz50_4, hcz50_5, hcz50_6, hfz50_0, hfz50_1, hfz50_2, hfz50_3, hfz50_4, hfz50_5, hfz50_6⟩ := cz7 (w := wc) BK433.out
     go_wp2
     go_ret
     exact ⟨fi, bl⟩
    ·replace c49 := Bool.eq_false_iff.mpr c49
     subst c49
     have H1 : (some x3_6) = some r := by rw [if_neg (show ¬ (false = true) by decide)] at H; exact H
     clear H
     have H := H1
     clear H1
     obtain rfl := Option.some.inj H
     obtain ⟨hcz51_0, hcz51_1, hcz51_2, hcz51_3, hcz51_4, hcz51_5, hcz51_6, hfz51_0, hfz51_1, hfz51_2, hfz51_3, hfz51_4, hfz51_5, hfz51_6⟩ := cz7 (w := wc) BK433.out
     go_wp2
     go_ret
     exact ⟨fi, bl⟩

end Go.Proofs.YtffehgfjjagibaaDoor.GImagePlaces
