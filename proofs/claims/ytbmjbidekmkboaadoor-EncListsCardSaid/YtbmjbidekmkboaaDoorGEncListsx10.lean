-- Written by wip/stub.py of this repo.
import Derived.Test.YtbmjbidekmkboaaDoorGEncListsx0
import Derived.Test.YtbmjbidekmkboaaDoorGEncListsx8
import Derived.Test.YtbmjbidekmkboaaDoorGEncListsx9
namespace Go.Proofs.YtbmjbidekmkboaaDoor.GEncLists
open Go.RowKit Go.Proofs.YtbmjbidekmkboaaDoorW.PrintWords Go.Proofs.YtbmjbidekmkboaaDoorW.PrintLast Go.Proofs.YtbmjbidekmkboaaDoorW.PrintMore
attribute [local go_sem] max2_int min2_int max_two min_two max_three min_three max_four min_four   -- for this text's walks alone
set_option linter.unusedVariables false
set_option linter.unusedSimpArgs false

/-! ### spinnakerref04_Encode: function 41 -/
def spinnakerref04_Encode.j0 : Nat → Int → Int → Int → Int → Int → Int → Bool → Bool → Option (Int)
  | 0, _, _, _, _, _, _, _, _ => none
  | k + 1, x3, x254000, x254001, x254002, x254003, x254004, x254005, x254006 => if x254005 = true then (if x254006 = true then (some (Go.bits .or .u32 (Go.bits .or .u32 x3 67108864) 33554432)) else (some (Go.bits .or .u32 x3 67108864))) else (if x254006 = true then (some (Go.bits .or .u32 x3 33554432)) else (some x3))
def spinnakerref04_Encode.f (k : Nat) (a0_0 : Int) (a0_1 : Int) (a0_2 : Int) (a0_3 : Int) (a0_4 : Int) (a0_5 : Bool) (a0_6 : Bool) : Option (Int) := (spinnakerref04_Word.f a0_0).bind fun t254 => ((spinnakerref04_bits.f k a0_1 0 5 7).bind fun t255 => ((spinnakerref04_bits.f k a0_2 0 5 15).bind fun t256 => ((spinnakerref04_bits.f k a0_3 0 5 20).bind fun t257 => ((spinnakerref03_Form.f a0_0).bind fun t258 => (if t258 = 1 then ((spinnakerref04_bits.f k a0_4 0 20 12).bind fun t259 => (spinnakerref04_Encode.j0 k (Go.bits .or .u32 (Go.bits .or .u32 (Go.bits .or .u32 (Go.bits .or .u32 t254 t255) t256) t257) t259) a0_0 a0_1 a0_2 a0_3 a0_4 a0_5 a0_6)) else (if t258 = 2 then ((spinnakerref04_bits.f k a0_4 20 1 31).bind fun t260 => ((spinnakerref04_bits.f k a0_4 1 10 21).bind fun t261 => ((spinnakerref04_bits.f k a0_4 11 1 20).bind fun t262 => ((spinnakerref04_bits.f k a0_4 12 8 12).bind fun t263 => (spinnakerref04_Encode.j0 k (Go.bits .or .u32 (Go.bits .or .u32 (Go.bits .or .u32 (Go.bits .or .u32 (Go.bits .or .u32 (Go.bits .or .u32 (Go.bits .or .u32 t254 t255) t256) t257) t260) t261) t262) t263) a0_0 a0_1 a0_2 a0_3 a0_4 a0_5 a0_6))))) else (if t258 = 3 then ((spinnakerref04_bits.f k a0_4 0 12 20).bind fun t264 => (spinnakerref04_Encode.j0 k (Go.bits .or .u32 (Go.bits .or .u32 (Go.bits .or .u32 (Go.bits .or .u32 t254 t255) t256) t257) t264) a0_0 a0_1 a0_2 a0_3 a0_4 a0_5 a0_6)) else (if t258 = 4 then ((spinnakerref04_bits.f k (-1) 0 5 7).bind fun t265 => ((spinnakerref04_bits.f k a0_4 12 1 31).bind fun t266 => ((spinnakerref04_bits.f k a0_4 5 6 25).bind fun t267 => ((spinnakerref04_bits.f k a0_4 1 4 8).bind fun t268 => ((spinnakerref04_bits.f k a0_4 11 1 7).bind fun t269 => (spinnakerref04_Encode.j0 k (Go.bits .or .u32 (Go.bits .or .u32 (Go.bits .or .u32 (Go.bits .or .u32 (Go.bits .andNot .u32 (Go.bits .or .u32 (Go.bits .or .u32 (Go.bits .or .u32 t254 t255) t256) t257) t265) t266) t267) t268) t269) a0_0 a0_1 a0_2 a0_3 a0_4 a0_5 a0_6)))))) else (if t258 = 5 then ((spinnakerref04_bits.f k (-1) 0 5 7).bind fun t270 => ((spinnakerref04_bits.f k a0_4 5 7 25).bind fun t271 => ((spinnakerref04_bits.f k a0_4 0 5 7).bind fun t272 => (spinnakerref04_Encode.j0 k (Go.bits .or .u32 (Go.bits .or .u32 (Go.bits .andNot .u32 (Go.bits .or .u32 (Go.bits .or .u32 (Go.bits .or .u32 t254 t255) t256) t257) t270) t271) t272) a0_0 a0_1 a0_2 a0_3 a0_4 a0_5 a0_6)))) else (if t258 = 7 then ((spinnakerref04_bits.f k a0_4 0 6 20).bind fun t273 => (spinnakerref04_Encode.j0 k (Go.bits .or .u32 (Go.bits .or .u32 (Go.bits .or .u32 (Go.bits .or .u32 t254 t255) t256) t257) t273) a0_0 a0_1 a0_2 a0_3 a0_4 a0_5 a0_6)) else (if t258 = 8 then ((spinnakerref04_bits.f k a0_4 0 5 20).bind fun t274 => (spinnakerref04_Encode.j0 k (Go.bits .or .u32 (Go.bits .or .u32 (Go.bits .or .u32 (Go.bits .or .u32 t254 t255) t256) t257) t274) a0_0 a0_1 a0_2 a0_3 a0_4 a0_5 a0_6)) else (if t258 = 9 then ((spinnakerref04_bits.f k a0_4 0 8 20).bind fun t275 => (spinnakerref04_Encode.j0 k (Go.bits .or .u32 (Go.bits .or .u32 (Go.bits .or .u32 (Go.bits .or .u32 t254 t255) t256) t257) t275) a0_0 a0_1 a0_2 a0_3 a0_4 a0_5 a0_6)) else (spinnakerref04_Encode.j0 k (Go.bits .or .u32 (Go.bits .or .u32 (Go.bits .or .u32 t254 t255) t256) t257) a0_0 a0_1 a0_2 a0_3 a0_4 a0_5 a0_6)))))))))))))
theorem spinnakerref04_Encode.mono_l : ∀ k, (∀ y0 y1 y2 y3 y4 y5 y6 y7, LeO (spinnakerref04_Encode.j0 k y0 y1 y2 y3 y4 y5 y6 y7) (spinnakerref04_Encode.j0 (k + 1) y0 y1 y2 y3 y4 y5 y6 y7))
 | 0 => fun _ _ _ _ _ _ _ _ r h => by simp [spinnakerref04_Encode.j0] at h
 | k + 1 => by
  have ih0 := spinnakerref04_Encode.mono_l k
  ·intro y0 y1 y2 y3 y4 y5 y6 y7
   unfold spinnakerref04_Encode.j0
   repeat' first
   | (with_reducible exact ih0 _ _ _ _ _ _ _ _)
   | (with_reducible exact spinnakerref04_bits.mono _ _ _ _ _)
   | (with_reducible exact LeO.refl _)
   | (with_reducible exact LeO.none _)
   | (with_reducible refine LeO.ite ?_ ?_)
   | (with_reducible refine LeO.bind ?_ (fun _ => ?_))
   | exact ih0 _ _ _ _ _ _ _ _
   | exact spinnakerref04_bits.mono _ _ _ _ _
   | exact LeO.none _
   | refine LeO.ite ?_ ?_
   | refine LeO.bind ?_ (fun _ => ?_)
theorem spinnakerref04_Encode.mono : ∀ a0 a1 a2 a3 a4 a5 a6 k, LeO (spinnakerref04_Encode.f k a0 a1 a2 a3 a4 a5 a6) (spinnakerref04_Encode.f (k + 1) a0 a1 a2 a3 a4 a5 a6) := by
 intro a0 a1 a2 a3 a4 a5 a6 k
 have ih0 := spinnakerref04_Encode.mono_l k
 unfold spinnakerref04_Encode.f
 repeat' first
   | (with_reducible exact ih0 _ _ _ _ _ _ _ _)
   | (with_reducible exact spinnakerref04_bits.mono _ _ _ _ _)
   | (with_reducible exact LeO.refl _)
   | (with_reducible exact LeO.none _)
   | (with_reducible refine LeO.ite ?_ ?_)
   | (with_reducible refine LeO.bind ?_ (fun _ => ?_))
   | exact ih0 _ _ _ _ _ _ _ _
   | exact spinnakerref04_bits.mono _ _ _ _ _
   | exact LeO.none _
   | refine LeO.ite ?_ ?_
   | refine LeO.bind ?_ (fun _ => ?_)
def spinnakerref04_Encode.T1 : Bool × List (List Nat × List Nat) := (true, [([], []), ([0], [0]), ([1], [1]), ([], []), ([3], [3]), ([4, 2], [4]), ([2, 5], [2, 5]), ([], []), ([7], [7]), ([8, 5], [8]), ([6, 9], [6, 9]), ([], []), ([11], [11]), ([12, 9], [12]), ([10, 13], [10, 13]), ([14, 13, 0, 1, 2, 3, 4, 5, 6, 7, 8, 9, 10, 11, 12, 13, 14], [14])])
def spinnakerref04_Encode.B1 : List Nat := [0, 1, 3, 0, 8, 31, 63, 0, 128, 447, 1023, 0, 2048, 7103, 16383, 32767]
theorem spinnakerref04_Encode.tab1 : rtab .any (opsOf Tryd.f41 1) = spinnakerref04_Encode.T1 := by kernel_rfl
theorem spinnakerref04_Encode.bits1 : waitsOk spinnakerref04_Encode.T1.2 spinnakerref04_Encode.B1 = true := by kernel_rfl
def spinnakerref04_Encode.T6 : Bool × List (List Nat × List Nat) := (true, [([], []), ([], []), ([1], [1]), ([2], [2]), ([0, 3], [0, 3]), ([], []), ([5], [5]), ([6, 3], [6]), ([4, 7], [4, 7]), ([], []), ([9], [9]), ([10, 7], [10]), ([8, 11], [8, 11]), ([], []), ([13], [13]), ([14, 11], [14]), ([12, 15], [12, 15]), ([16, 15, 0, 1, 2, 3, 4, 5, 6, 7, 8, 9, 10, 11, 12, 13, 14, 15, 16], [0, 16])])
def spinnakerref04_Encode.B6 : List Nat := [0, 0, 2, 6, 15, 0, 32, 110, 255, 0, 512, 1774, 4095, 0, 8192, 28398, 65535, 131071]
theorem spinnakerref04_Encode.tab6 : rtab .any (opsOf Tryd.f41 6) = spinnakerref04_Encode.T6 := by kernel_rfl
theorem spinnakerref04_Encode.bits6 : waitsOk spinnakerref04_Encode.T6.2 spinnakerref04_Encode.B6 = true := by kernel_rfl
def spinnakerref04_Encode.T10 : Bool × List (List Nat × List Nat) := (true, [([], []), ([], []), ([0, 1], [0, 1]), ([], []), ([3], [3]), ([4, 1], [4]), ([2, 5], [2, 5]), ([], []), ([7], [7]), ([8, 5], [8]), ([6, 9], [6, 9]), ([], []), ([11], [11]), ([12, 9], [12]), ([10, 13], [10, 13]), ([], []), ([15], [15]), ([16, 13], [16]), ([14, 17], [14, 17]), ([18, 17, 0, 1, 2, 3, 4, 5, 6, 7, 8, 9, 10, 11, 12, 13, 14, 15, 16, 17, 18], [0, 18])])
def spinnakerref04_Encode.B10 : List Nat := [0, 0, 3, 0, 8, 26, 63, 0, 128, 442, 1023, 0, 2048, 7098, 16383, 0, 32768, 113594, 262143, 524287]
theorem spinnakerref04_Encode.tab10 : rtab .any (opsOf Tryd.f41 10) = spinnakerref04_Encode.T10 := by kernel_rfl
theorem spinnakerref04_Encode.bits10 : waitsOk spinnakerref04_Encode.T10.2 spinnakerref04_Encode.B10 = true := by kernel_rfl
def spinnakerref04_Encode.T12 : Bool × List (List Nat × List Nat) := (true, [([], []), ([], []), ([0, 1], [0, 1]), ([], []), ([3], [3]), ([4, 1], [4]), ([2, 5], [2, 5]), ([], []), ([7], [7]), ([8, 5], [8]), ([6, 9], [6, 9]), ([10, 9, 0, 1, 2, 3, 4, 5, 6, 7, 8, 9, 10], [0, 10])])
def spinnakerref04_Encode.B12 : List Nat := [0, 0, 3, 0, 8, 26, 63, 0, 128, 442, 1023, 2047]
theorem spinnakerref04_Encode.tab12 : rtab .any (opsOf Tryd.f41 12) = spinnakerref04_Encode.T12 := by kernel_rfl
theorem spinnakerref04_Encode.bits12 : waitsOk spinnakerref04_Encode.T12.2 spinnakerref04_Encode.B12 = true := by kernel_rfl
set_option maxHeartbeats 8000000 in
set_option maxRecDepth 100000 in
theorem spinnakerref04_Encode.calls (k : Nat) (a0_0 : Int) (a0_1 : Int) (a0_2 : Int) (a0_3 : Int) (a0_4 : Int) (a0_5 : Bool) (a0_6 : Bool) (r : Int) (w : World) (h : spinnakerref04_Encode.f k a0_0 a0_1 a0_2 a0_3 a0_4 a0_5 a0_6 = some r) :
  Calls Tryd.prog 41 #[.agg #[.int .i64 a0_0, .int .i64 a0_1, .int .i64 a0_2, .int .i64 a0_3, .int .i64 a0_4, .bool a0_5, .bool a0_6]] w fun e w' => e = .returned (.int .u32 r) ∧ Below w.heap.size w w' := by
 have hu51 := Tryd.underlying51
 have HB := Aside0.mk (Below.refl w.heap.size w)
 have H : ((spinnakerref04_Word.f a0_0).bind fun t254 => ((spinnakerref04_bits.f k a0_1 0 5 7).bind fun t255 => ((spinnakerref04_bits.f k a0_2 0 5 15).bind fun t256 => ((spinnakerref04_bits.f k a0_3 0 5 20).bind fun t257 => ((spinnakerref03_Form.f a0_0).bind fun t258 => (if t258 = 1 then ((spinnakerref04_bits.f k a0_4 0 20 12).bind fun t259 => (spinnakerref04_Encode.j0 k (Go.bits .or .u32 (Go.bits .or .u32 (Go.bits .or .u32 (Go.bits .or .u32 t254 t255) t256) t257) t259) a0_0 a0_1 a0_2 a0_3 a0_4 a0_5 a0_6)) else (if t258 = 2 then ((spinnakerref04_bits.f k a0_4 20 1 31).bind fun t260 => ((spinnakerref04_bits.f k a0_4 1 10 21).bind fun t261 => ((spinnakerref04_bits.f k a0_4 11 1 20).bind fun t262 => ((spinnakerref04_bits.f k a0_4 12 8 12).bind fun t263 => (spinnakerref04_Encode.j0 k (Go.bits .or .u32 (Go.bits .or .u32 (Go.bits .or .u32 (Go.bits .or .u32 (Go.bits .or .u32 (Go.bits .or .u32 (Go.bits .or .u32 t254 t255) t256) t257) t260) t261) t262) t263) a0_0 a0_1 a0_2 a0_3 a0_4 a0_5 a0_6))))) else (if t258 = 3 then ((spinnakerref04_bits.f k a0_4 0 12 20).bind fun t264 => (spinnakerref04_Encode.j0 k (Go.bits .or .u32 (Go.bits .or .u32 (Go.bits .or .u32 (Go.bits .or .u32 t254 t255) t256) t257) t264) a0_0 a0_1 a0_2 a0_3 a0_4 a0_5 a0_6)) else (if t258 = 4 then ((spinnakerref04_bits.f k (-1) 0 5 7).bind fun t265 => ((spinnakerref04_bits.f k a0_4 12 1 31).bind fun t266 => ((spinnakerref04_bits.f k a0_4 5 6 25).bind fun t267 => ((spinnakerref04_bits.f k a0_4 1 4 8).bind fun t268 => ((spinnakerref04_bits.f k a0_4 11 1 7).bind fun t269 => (spinnakerref04_Encode.j0 k (Go.bits .or .u32 (Go.bits .or .u32 (Go.bits .or .u32 (Go.bits .or .u32 (Go.bits .andNot .u32 (Go.bits .or .u32 (Go.bits .or .u32 (Go.bits .or .u32 t254 t255) t256) t257) t265) t266) t267) t268) t269) a0_0 a0_1 a0_2 a0_3 a0_4 a0_5 a0_6)))))) else (if t258 = 5 then ((spinnakerref04_bits.f k (-1) 0 5 7).bind fun t270 => ((spinnakerref04_bits.f k a0_4 5 7 25).bind fun t271 => ((spinnakerref04_bits.f k a0_4 0 5 7).bind fun t272 => (spinnakerref04_Encode.j0 k (Go.bits .or .u32 (Go.bits .or .u32 (Go.bits .andNot .u32 (Go.bits .or .u32 (Go.bits .or .u32 (Go.bits .or .u32 t254 t255) t256) t257) t270) t271) t272) a0_0 a0_1 a0_2 a0_3 a0_4 a0_5 a0_6)))) else (if t258 = 7 then ((spinnakerref04_bits.f k a0_4 0 6 20).bind fun t273 => (spinnakerref04_Encode.j0 k (Go.bits .or .u32 (Go.bits .or .u32 (Go.bits .or .u32 (Go.bits .or .u32 t254 t255) t256) t257) t273) a0_0 a0_1 a0_2 a0_3 a0_4 a0_5 a0_6)) else (if t258 = 8 then ((spinnakerref04_bits.f k a0_4 0 5 20).bind fun t274 => (spinnakerref04_Encode.j0 k (Go.bits .or .u32 (Go.bits .or .u32 (Go.bits .or .u32 (Go.bits .or .u32 t254 t255) t256) t257) t274) a0_0 a0_1 a0_2 a0_3 a0_4 a0_5 a0_6)) else (if t258 = 9 then ((spinnakerref04_bits.f k a0_4 0 8 20).bind fun t275 => (spinnakerref04_Encode.j0 k (Go.bits .or .u32 (Go.bits .or .u32 (Go.bits .or .u32 (Go.bits .or .u32 t254 t255) t256) t257) t275) a0_0 a0_1 a0_2 a0_3 a0_4 a0_5 a0_6)) else (spinnakerref04_Encode.j0 k (Go.bits .or .u32 (Go.bits .or .u32 (Go.bits .or .u32 t254 t255) t256) t257) a0_0 a0_1 a0_2 a0_3 a0_4 a0_5 a0_6)))))))))))))) = some r := h
 clear h
 replace H := Option.bind_eq_some_iff.mp H
 obtain ⟨t254, A20, H⟩ := H
 replace H : ((spinnakerref04_bits.f k a0_1 0 5 7).bind fun t255 => ((spinnakerref04_bits.f k a0_2 0 5 15).bind fun t256 => ((spinnakerref04_bits.f k a0_3 0 5 20).bind fun t257 => ((spinnakerref03_Form.f a0_0).bind fun t258 => (if t258 = 1 then ((spinnakerref04_bits.f k a0_4 0 20 12).bind fun t259 => (spinnakerref04_Encode.j0 k (Go.bits .or .u32 (Go.bits .or .u32 (Go.bits .or .u32 (Go.bits .or .u32 t254 t255) t256) t257) t259) a0_0 a0_1 a0_2 a0_3 a0_4 a0_5 a0_6)) else (if t258 = 2 then ((spinnakerref04_bits.f k a0_4 20 1 31).bind fun t260 => ((spinnakerref04_bits.f k a0_4 1 10 21).bind fun t261 => ((spinnakerref04_bits.f k a0_4 11 1 20).bind fun t262 => ((spinnakerref04_bits.f k a0_4 12 8 12).bind fun t263 => (spinnakerref04_Encode.j0 k (Go.bits .or .u32 (Go.bits .or .u32 (Go.bits .or .u32 (Go.bits .or .u32 (Go.bits .or .u32 (Go.bits .or .u32 (Go.bits .or .u32 t254 t255) t256) t257) t260) t261) t262) t263) a0_0 a0_1 a0_2 a0_3 a0_4 a0_5 a0_6))))) else (if t258 = 3 then ((spinnakerref04_bits.f k a0_4 0 12 20).bind fun t264 => (spinnakerref04_Encode.j0 k (Go.bits .or .u32 (Go.bits .or .u32 (Go.bits .or .u32 (Go.bits .or .u32 t254 t255) t256) t257) t264) a0_0 a0_1 a0_2 a0_3 a0_4 a0_5 a0_6)) else (if t258 = 4 then ((spinnakerref04_bits.f k (-1) 0 5 7).bind fun t265 => ((spinnakerref04_bits.f k a0_4 12 1 31).bind fun t266 => ((spinnakerref04_bits.f k a0_4 5 6 25).bind fun t267 => ((spinnakerref04_bits.f k a0_4 1 4 8).bind fun t268 => ((spinnakerref04_bits.f k a0_4 11 1 7).bind fun t269 => (spinnakerref04_Encode.j0 k (Go.bits .or .u32 (Go.bits .or .u32 (Go.bits .or .u32 (Go.bits .or .u32 (Go.bits .andNot .u32 (Go.bits .or .u32 (Go.bits .or .u32 (Go.bits .or .u32 t254 t255) t256) t257) t265) t266) t267) t268) t269) a0_0 a0_1 a0_2 a0_3 a0_4 a0_5 a0_6)))))) else (if t258 = 5 then ((spinnakerref04_bits.f k (-1) 0 5 7).bind fun t270 => ((spinnakerref04_bits.f k a0_4 5 7 25).bind fun t271 => ((spinnakerref04_bits.f k a0_4 0 5 7).bind fun t272 => (spinnakerref04_Encode.j0 k (Go.bits .or .u32 (Go.bits .or .u32 (Go.bits .andNot .u32 (Go.bits .or .u32 (Go.bits .or .u32 (Go.bits .or .u32 t254 t255) t256) t257) t270) t271) t272) a0_0 a0_1 a0_2 a0_3 a0_4 a0_5 a0_6)))) else (if t258 = 7 then ((spinnakerref04_bits.f k a0_4 0 6 20).bind fun t273 => (spinnakerref04_Encode.j0 k (Go.bits .or .u32 (Go.bits .or .u32 (Go.bits .or .u32 (Go.bits .or .u32 t254 t255) t256) t257) t273) a0_0 a0_1 a0_2 a0_3 a0_4 a0_5 a0_6)) else (if t258 = 8 then ((spinnakerref04_bits.f k a0_4 0 5 20).bind fun t274 => (spinnakerref04_Encode.j0 k (Go.bits .or .u32 (Go.bits .or .u32 (Go.bits .or .u32 (Go.bits .or .u32 t254 t255) t256) t257) t274) a0_0 a0_1 a0_2 a0_3 a0_4 a0_5 a0_6)) else (if t258 = 9 then ((spinnakerref04_bits.f k a0_4 0 8 20).bind fun t275 => (spinnakerref04_Encode.j0 k (Go.bits .or .u32 (Go.bits .or .u32 (Go.bits .or .u32 (Go.bits .or .u32 t254 t255) t256) t257) t275) a0_0 a0_1 a0_2 a0_3 a0_4 a0_5 a0_6)) else (spinnakerref04_Encode.j0 k (Go.bits .or .u32 (Go.bits .or .u32 (Go.bits .or .u32 t254 t255) t256) t257) a0_0 a0_1 a0_2 a0_3 a0_4 a0_5 a0_6))))))))))))) = some r := H
 have A2 := Aside0.mk A20
 clear A20
 replace H := Option.bind_eq_some_iff.mp H
 obtain ⟨t255, A30, H⟩ := H
 replace H : ((spinnakerref04_bits.f k a0_2 0 5 15).bind fun t256 => ((spinnakerref04_bits.f k a0_3 0 5 20).bind fun t257 => ((spinnakerref03_Form.f a0_0).bind fun t258 => (if t258 = 1 then ((spinnakerref04_bits.f k a0_4 0 20 12).bind fun t259 => (spinnakerref04_Encode.j0 k (Go.bits .or .u32 (Go.bits .or .u32 (Go.bits .or .u32 (Go.bits .or .u32 t254 t255) t256) t257) t259) a0_0 a0_1 a0_2 a0_3 a0_4 a0_5 a0_6)) else (if t258 = 2 then ((spinnakerref04_bits.f k a0_4 20 1 31).bind fun t260 => ((spinnakerref04_bits.f k a0_4 1 10 21).bind fun t261 => ((spinnakerref04_bits.f k a0_4 11 1 20).bind fun t262 => ((spinnakerref04_bits.f k a0_4 12 8 12).bind fun t263 => (spinnakerref04_Encode.j0 k (Go.bits .or .u32 (Go.bits .or .u32 (Go.bits .or .u32 (Go.bits .or .u32 (Go.bits .or .u32 (Go.bits .or .u32 (Go.bits .or .u32 t254 t255) t256) t257) t260) t261) t262) t263) a0_0 a0_1 a0_2 a0_3 a0_4 a0_5 a0_6))))) else (if t258 = 3 then ((spinnakerref04_bits.f k a0_4 0 12 20).bind fun t264 => (spinnakerref04_Encode.j0 k (Go.bits .or .u32 (Go.bits .or .u32 (Go.bits .or .u32 (Go.bits .or .u32 t254 t255) t256) t257) t264) a0_0 a0_1 a0_2 a0_3 a0_4 a0_5 a0_6)) else (if t258 = 4 then ((spinnakerref04_bits.f k (-1) 0 5 7).bind fun t265 => ((spinnakerref04_bits.f k a0_4 12 1 31).bind fun t266 => ((spinnakerref04_bits.f k a0_4 5 6 25).bind fun t267 => ((spinnakerref04_bits.f k a0_4 1 4 8).bind fun t268 => ((spinnakerref04_bits.f k a0_4 11 1 7).bind fun t269 => (spinnakerref04_Encode.j0 k (Go.bits .or .u32 (Go.bits .or .u32 (Go.bits .or .u32 (Go.bits .or .u32 (Go.bits .andNot .u32 (Go.bits .or .u32 (Go.bits .or .u32 (Go.bits .or .u32 t254 t255) t256) t257) t265) t266) t267) t268) t269) a0_0 a0_1 a0_2 a0_3 a0_4 a0_5 a0_6)))))) else (if t258 = 5 then ((spinnakerref04_bits.f k (-1) 0 5 7).bind fun t270 => ((spinnakerref04_bits.f k a0_4 5 7 25).bind fun t271 => ((spinnakerref04_bits.f k a0_4 0 5 7).bind fun t272 => (spinnakerref04_Encode.j0 k (Go.bits .or .u32 (Go.bits .or .u32 (Go.bits .andNot .u32 (Go.bits .or .u32 (Go.bits .or .u32 (Go.bits .or .u32 t254 t255) t256) t257) t270) t271) t272) a0_0 a0_1 a0_2 a0_3 a0_4 a0_5 a0_6)))) else (if t258 = 7 then ((spinnakerref04_bits.f k a0_4 0 6 20).bind fun t273 => (spinnakerref04_Encode.j0 k (Go.bits .or .u32 (Go.bits .or .u32 (Go.bits .or .u32 (Go.bits .or .u32 t254 t255) t256) t257) t273) a0_0 a0_1 a0_2 a0_3 a0_4 a0_5 a0_6)) else (if t258 = 8 then ((spinnakerref04_bits.f k a0_4 0 5 20).bind fun t274 => (spinnakerref04_Encode.j0 k (Go.bits .or .u32 (Go.bits .or .u32 (Go.bits .or .u32 (Go.bits .or .u32 t254 t255) t256) t257) t274) a0_0 a0_1 a0_2 a0_3 a0_4 a0_5 a0_6)) else (if t258 = 9 then ((spinnakerref04_bits.f k a0_4 0 8 20).bind fun t275 => (spinnakerref04_Encode.j0 k (Go.bits .or .u32 (Go.bits .or .u32 (Go.bits .or .u32 (Go.bits .or .u32 t254 t255) t256) t257) t275) a0_0 a0_1 a0_2 a0_3 a0_4 a0_5 a0_6)) else (spinnakerref04_Encode.j0 k (Go.bits .or .u32 (Go.bits .or .u32 (Go.bits .or .u32 t254 t255) t256) t257) a0_0 a0_1 a0_2 a0_3 a0_4 a0_5 a0_6)))))))))))) = some r := H
 have A3 := Aside0.mk A30
 clear A30
 replace H := Option.bind_eq_some_iff.mp H
 obtain ⟨t256, A40, H⟩ := H
 replace H : ((spinnakerref04_bits.f k a0_3 0 5 20).bind fun t257 => ((spinnakerref03_Form.f a0_0).bind fun t258 => (if t258 = 1 then ((spinnakerref04_bits.f k a0_4 0 20 12).bind fun t259 => (spinnakerref04_Encode.j0 k (Go.bits .or .u32 (Go.bits .or .u32 (Go.bits .or .u32 (Go.bits .or .u32 t254 t255) t256) t257) t259) a0_0 a0_1 a0_2 a0_3 a0_4 a0_5 a0_6)) else (if t258 = 2 then ((spinnakerref04_bits.f k a0_4 20 1 31).bind fun t260 => ((spinnakerref04_bits.f k a0_4 1 10 21).bind fun t261 => ((spinnakerref04_bits.f k a0_4 11 1 20).bind fun t262 => ((spinnakerref04_bits.f k a0_4 12 8 12).bind fun t263 => (spinnakerref04_Encode.j0 k (Go.bits .or .u32 (Go.bits .or .u32 (Go.bits .or .u32 (Go.bits .or .u32 (Go.bits .or .u32 (Go.bits .or .u32 (Go.bits .or .u32 t254 t255) t256) t257) t260) t261) t262) t263) a0_0 a0_1 a0_2 a0_3 a0_4 a0_5 a0_6))))) else (if t258 = 3 then ((spinnakerref04_bits.f k a0_4 0 12 20).bind fun t264 => (spinnakerref04_Encode.j0 k (Go.bits .or .u32 (Go.bits .or .u32 (Go.bits .or .u32 (Go.bits .or .u32 t254 t255) t256) t257) t264) a0_0 a0_1 a0_2 a0_3 a0_4 a0_5 a0_6)) else (if t258 = 4 then ((spinnakerref04_bits.f k (-1) 0 5 7).bind fun t265 => ((spinnakerref04_bits.f k a0_4 12 1 31).bind fun t266 => ((spinnakerref04_bits.f k a0_4 5 6 25).bind fun t267 => ((spinnakerref04_bits.f k a0_4 1 4 8).bind fun t268 => ((spinnakerref04_bits.f k a0_4 11 1 7).bind fun t269 => (spinnakerref04_Encode.j0 k (Go.bits .or .u32 (Go.bits .or .u32 (Go.bits .or .u32 (Go.bits .or .u32 (Go.bits .andNot .u32 (Go.bits .or .u32 (Go.bits .or .u32 (Go.bits .or .u32 t254 t255) t256) t257) t265) t266) t267) t268) t269) a0_0 a0_1 a0_2 a0_3 a0_4 a0_5 a0_6)))))) else (if t258 = 5 then ((spinnakerref04_bits.f k (-1) 0 5 7).bind fun t270 => ((spinnakerref04_bits.f k a0_4 5 7 25).bind fun t271 => ((spinnakerref04_bits.f k a0_4 0 5 7).bind fun t272 => (spinnakerref04_Encode.j0 k (Go.bits .or .u32 (Go.bits .or .u32 (Go.bits .andNot .u32 (Go.bits .or .u32 (Go.bits .or .u32 (Go.bits .or .u32 t254 t255) t256) t257) t270) t271) t272) a0_0 a0_1 a0_2 a0_3 a0_4 a0_5 a0_6)))) else (if t258 = 7 then ((spinnakerref04_bits.f k a0_4 0 6 20).bind fun t273 => (spinnakerref04_Encode.j0 k (Go.bits .or .u32 (Go.bits .or .u32 (Go.bits .or .u32 (Go.bits .or .u32 t254 t255) t256) t257) t273) a0_0 a0_1 a0_2 a0_3 a0_4 a0_5 a0_6)) else (if t258 = 8 then ((spinnakerref04_bits.f k a0_4 0 5 20).bind fun t274 => (spinnakerref04_Encode.j0 k (Go.bits .or .u32 (Go.bits .or .u32 (Go.bits .or .u32 (Go.bits .or .u32 t254 t255) t256) t257) t274) a0_0 a0_1 a0_2 a0_3 a0_4 a0_5 a0_6)) else (if t258 = 9 then ((spinnakerref04_bits.f k a0_4 0 8 20).bind fun t275 => (spinnakerref04_Encode.j0 k (Go.bits .or .u32 (Go.bits .or .u32 (Go.bits .or .u32 (Go.bits .or .u32 t254 t255) t256) t257) t275) a0_0 a0_1 a0_2 a0_3 a0_4 a0_5 a0_6)) else (spinnakerref04_Encode.j0 k (Go.bits .or .u32 (Go.bits .or .u32 (Go.bits .or .u32 t254 t255) t256) t257) a0_0 a0_1 a0_2 a0_3 a0_4 a0_5 a0_6))))))))))) = some r := H
 have A4 := Aside0.mk A40
 clear A40
 replace H := Option.bind_eq_some_iff.mp H
 obtain ⟨t257, A50, H⟩ := H
 replace H : ((spinnakerref03_Form.f a0_0).bind fun t258 => (if t258 = 1 then ((spinnakerref04_bits.f k a0_4 0 20 12).bind fun t259 => (spinnakerref04_Encode.j0 k (Go.bits .or .u32 (Go.bits .or .u32 (Go.bits .or .u32 (Go.bits .or .u32 t254 t255) t256) t257) t259) a0_0 a0_1 a0_2 a0_3 a0_4 a0_5 a0_6)) else (if t258 = 2 then ((spinnakerref04_bits.f k a0_4 20 1 31).bind fun t260 => ((spinnakerref04_bits.f k a0_4 1 10 21).bind fun t261 => ((spinnakerref04_bits.f k a0_4 11 1 20).bind fun t262 => ((spinnakerref04_bits.f k a0_4 12 8 12).bind fun t263 => (spinnakerref04_Encode.j0 k (Go.bits .or .u32 (Go.bits .or .u32 (Go.bits .or .u32 (Go.bits .or .u32 (Go.bits .or .u32 (Go.bits .or .u32 (Go.bits .or .u32 t254 t255) t256) t257) t260) t261) t262) t263) a0_0 a0_1 a0_2 a0_3 a0_4 a0_5 a0_6))))) else (if t258 = 3 then ((spinnakerref04_bits.f k a0_4 0 12 20).bind fun t264 => (spinnakerref04_Encode.j0 k (Go.bits .or .u32 (Go.bits .or .u32 (Go.bits .or .u32 (Go.bits .or .u32 t254 t255) t256) t257) t264) a0_0 a0_1 a0_2 a0_3 a0_4 a0_5 a0_6)) else (if t258 = 4 then ((spinnakerref04_bits.f k (-1) 0 5 7).bind fun t265 => ((spinnakerref04_bits.f k a0_4 12 1 31).bind fun t266 => ((spinnakerref04_bits.f k a0_4 5 6 25).bind fun t267 => ((spinnakerref04_bits.f k a0_4 1 4 8).bind fun t268 => ((spinnakerref04_bits.f k a0_4 11 1 7).bind fun t269 => (spinnakerref04_Encode.j0 k (Go.bits .or .u32 (Go.bits .or .u32 (Go.bits .or .u32 (Go.bits .or .u32 (Go.bits .andNot .u32 (Go.bits .or .u32 (Go.bits .or .u32 (Go.bits .or .u32 t254 t255) t256) t257) t265) t266) t267) t268) t269) a0_0 a0_1 a0_2 a0_3 a0_4 a0_5 a0_6)))))) else (if t258 = 5 then ((spinnakerref04_bits.f k (-1) 0 5 7).bind fun t270 => ((spinnakerref04_bits.f k a0_4 5 7 25).bind fun t271 => ((spinnakerref04_bits.f k a0_4 0 5 7).bind fun t272 => (spinnakerref04_Encode.j0 k (Go.bits .or .u32 (Go.bits .or .u32 (Go.bits .andNot .u32 (Go.bits .or .u32 (Go.bits .or .u32 (Go.bits .or .u32 t254 t255) t256) t257) t270) t271) t272) a0_0 a0_1 a0_2 a0_3 a0_4 a0_5 a0_6)))) else (if t258 = 7 then ((spinnakerref04_bits.f k a0_4 0 6 20).bind fun t273 => (spinnakerref04_Encode.j0 k (Go.bits .or .u32 (Go.bits .or .u32 (Go.bits .or .u32 (Go.bits .or .u32 t254 t255) t256) t257) t273) a0_0 a0_1 a0_2 a0_3 a0_4 a0_5 a0_6)) else (if t258 = 8 then ((spinnakerref04_bits.f k a0_4 0 5 20).bind fun t274 => (spinnakerref04_Encode.j0 k (Go.bits .or .u32 (Go.bits .or .u32 (Go.bits .or .u32 (Go.bits .or .u32 t254 t255) t256) t257) t274) a0_0 a0_1 a0_2 a0_3 a0_4 a0_5 a0_6)) else (if t258 = 9 then ((spinnakerref04_bits.f k a0_4 0 8 20).bind fun t275 => (spinnakerref04_Encode.j0 k (Go.bits .or .u32 (Go.bits .or .u32 (Go.bits .or .u32 (Go.bits .or .u32 t254 t255) t256) t257) t275) a0_0 a0_1 a0_2 a0_3 a0_4 a0_5 a0_6)) else (spinnakerref04_Encode.j0 k (Go.bits .or .u32 (Go.bits .or .u32 (Go.bits .or .u32 t254 t255) t256) t257) a0_0 a0_1 a0_2 a0_3 a0_4 a0_5 a0_6)))))))))) = some r := H
 have A5 := Aside0.mk A50
 clear A50
 replace H := Option.bind_eq_some_iff.mp H
 obtain ⟨t258, A60, H⟩ := H
 replace H : (if t258 = 1 then ((spinnakerref04_bits.f k a0_4 0 20 12).bind fun t259 => (spinnakerref04_Encode.j0 k (Go.bits .or .u32 (Go.bits .or .u32 (Go.bits .or .u32 (Go.bits .or .u32 t254 t255) t256) t257) t259) a0_0 a0_1 a0_2 a0_3 a0_4 a0_5 a0_6)) else (if t258 = 2 then ((spinnakerref04_bits.f k a0_4 20 1 31).bind fun t260 => ((spinnakerref04_bits.f k a0_4 1 10 21).bind fun t261 => ((spinnakerref04_bits.f k a0_4 11 1 20).bind fun t262 => ((spinnakerref04_bits.f k a0_4 12 8 12).bind fun t263 => (spinnakerref04_Encode.j0 k (Go.bits .or .u32 (Go.bits .or .u32 (Go.bits .or .u32 (Go.bits .or .u32 (Go.bits .or .u32 (Go.bits .or .u32 (Go.bits .or .u32 t254 t255) t256) t257) t260) t261) t262) t263) a0_0 a0_1 a0_2 a0_3 a0_4 a0_5 a0_6))))) else (if t258 = 3 then ((spinnakerref04_bits.f k a0_4 0 12 20).bind fun t264 => (spinnakerref04_Encode.j0 k (Go.bits .or .u32 (Go.bits .or .u32 (Go.bits .or .u32 (Go.bits .or .u32 t254 t255) t256) t257) t264) a0_0 a0_1 a0_2 a0_3 a0_4 a0_5 a0_6)) else (if t258 = 4 then ((spinnakerref04_bits.f k (-1) 0 5 7).bind fun t265 => ((spinnakerref04_bits.f k a0_4 12 1 31).bind fun t266 => ((spinnakerref04_bits.f k a0_4 5 6 25).bind fun t267 => ((spinnakerref04_bits.f k a0_4 1 4 8).bind fun t268 => ((spinnakerref04_bits.f k a0_4 11 1 7).bind fun t269 => (spinnakerref04_Encode.j0 k (Go.bits .or .u32 (Go.bits .or .u32 (Go.bits .or .u32 (Go.bits .or .u32 (Go.bits .andNot .u32 (Go.bits .or .u32 (Go.bits .or .u32 (Go.bits .or .u32 t254 t255) t256) t257) t265) t266) t267) t268) t269) a0_0 a0_1 a0_2 a0_3 a0_4 a0_5 a0_6)))))) else (if t258 = 5 then ((spinnakerref04_bits.f k (-1) 0 5 7).bind fun t270 => ((spinnakerref04_bits.f k a0_4 5 7 25).bind fun t271 => ((spinnakerref04_bits.f k a0_4 0 5 7).bind fun t272 => (spinnakerref04_Encode.j0 k (Go.bits .or .u32 (Go.bits .or .u32 (Go.bits .andNot .u32 (Go.bits .or .u32 (Go.bits .or .u32 (Go.bits .or .u32 t254 t255) t256) t257) t270) t271) t272) a0_0 a0_1 a0_2 a0_3 a0_4 a0_5 a0_6)))) else (if t258 = 7 then ((spinnakerref04_bits.f k a0_4 0 6 20).bind fun t273 => (spinnakerref04_Encode.j0 k (Go.bits .or .u32 (Go.bits .or .u32 (Go.bits .or .u32 (Go.bits .or .u32 t254 t255) t256) t257) t273) a0_0 a0_1 a0_2 a0_3 a0_4 a0_5 a0_6)) else (if t258 = 8 then ((spinnakerref04_bits.f k a0_4 0 5 20).bind fun t274 => (spinnakerref04_Encode.j0 k (Go.bits .or .u32 (Go.bits .or .u32 (Go.bits .or .u32 (Go.bits .or .u32 t254 t255) t256) t257) t274) a0_0 a0_1 a0_2 a0_3 a0_4 a0_5 a0_6)) else (if t258 = 9 then ((spinnakerref04_bits.f k a0_4 0 8 20).bind fun t275 => (spinnakerref04_Encode.j0 k (Go.bits .or .u32 (Go.bits .or .u32 (Go.bits .or .u32 (Go.bits .or .u32 t254 t255) t256) t257) t275) a0_0 a0_1 a0_2 a0_3 a0_4 a0_5 a0_6)) else (spinnakerref04_Encode.j0 k (Go.bits .or .u32 (Go.bits .or .u32 (Go.bits .or .u32 t254 t255) t256) t257) a0_0 a0_1 a0_2 a0_3 a0_4 a0_5 a0_6))))))))) = some r := H
 have A6 := Aside0.mk A60
 clear A60
 have HC7 := Aside0.mk H
 clear H
 go_enter Tryd.func41, Tryd.ntmps41
 try go_wp2_with (first | ((with_reducible refine gate_dst (N := 1) rfl ?_); refine box_event ?hg (N := 1) ?hd (cs := #[.int .i64 a0_0, .int .i64 a0_1, .int .i64 a0_2, .int .i64 a0_3, .int .i64 a0_4, .bool a0_5, .bool a0_6]) (t := 51) ?hr ?_; (case hd => rfl); (case hg => rfl); (case hr => first | (go_simp; done) | (go_simp; rfl)); intro gb253 hg w8 hbox hb; have n0_ := Aside0.mk (below_step (by repeat (first | (with_reducible first | exact HB.out | apply below_alloc | apply pw_below_drewN | apply below_drew1) | exact HB.out)) hb); have n1_ := Aside0.mk (hbox); have n2_ := Aside0.mk ((by rw [hg]; exact (below_size (by repeat (first | (with_reducible first | exact HB.out | apply below_alloc | apply pw_below_drewN | apply below_drew1) | exact HB.out))) : w.heap.size ≤ gb253)); have n3_ := Aside0.mk ((by rw [hg]; exact (below_size (by repeat (first | (with_reducible first | exact HB.out | apply below_alloc | apply pw_below_drewN | apply below_drew1) | exact HB.out))) : w.heap.size ≤ gb253)); clear HB; have HB := n0_; have BK253 := n1_; have GW253 := n2_; have GE253 := n3_; clear n0_ n1_ n2_ n3_; clear hb hbox hg))
 have n0_ := Aside0.mk (blk_drew BK253.out)
 have n1_ := Aside0.mk (below_drew1 HB.out)
 clear BK253
 clear HB
 have BK253 := n0_
 have HB := n1_
 clear n0_ n1_
 refine start_ (n := 16) (S := fun w' => w'.cell? ⟨gb253, 0, none⟩ = some (.int .i64 a0_0) ∧ w'.cell? ⟨gb253, 1, none⟩ = some (.int .i64 a0_1) ∧ w'.cell? ⟨gb253, 2, none⟩ = some (.int .i64 a0_2) ∧ w'.cell? ⟨gb253, 3, none⟩ = some (.int .i64 a0_3) ∧ w'.cell? ⟨gb253, 4, none⟩ = some (.int .i64 a0_4) ∧ w'.cell? ⟨gb253, 5, none⟩ = some (.bool a0_5) ∧ w'.cell? ⟨gb253, 6, none⟩ = some (.bool a0_6)) (ds := []) (fl 16 0) (by kernel_rfl) rfl rfl ⟨(blk_cell BK253.out 0).trans rfl, (blk_cell BK253.out 1).trans rfl, (blk_cell BK253.out 2).trans rfl, (blk_cell BK253.out 3).trans rfl, (blk_cell BK253.out 4).trans rfl, (blk_cell BK253.out 5).trans rfl, (blk_cell BK253.out 6).trans rfl⟩ (fun hHeld => ?_); refine with_tabW spinnakerref04_Encode.tab1 spinnakerref04_Encode.bits1 (fun HT_ HW_ => ?_)
 generalize w8.drew = w9 at BK253 HB hHeld ⊢
 refine pure_ (i := 0) (N := some 4) (v := ?_) (a' := ?_) (fl 16 1) rfl rfl (any_of HT_.out (by kernel_rfl)) (fun _ _ _ h => h) (Or.inl ⟨by rfl, ?_⟩) ?_ ?_
 rotate_left
 ·intro w'
  go_simp
  with_reducible rfl
 rotate_left
 ·simp only [Act.put, List.setIfInBounds_toArray, List.set_cons_zero, List.set_cons_succ, i64_w, i32_w]
  rfl
 refine pure_ (i := 3) (N := some 7) (v := ?_) (a' := ?_) #[true, false, false, true, false, false, false, false, false, false, false, false, false, false, false, false] rfl rfl (any_of HT_.out (by kernel_rfl)) (fun _ _ _ h => h) (Or.inl ⟨by rfl, ?_⟩) ?_ ?_
 rotate_left
 ·intro w'
  go_simp
  with_reducible rfl
 rotate_left
 ·simp only [Act.put, List.setIfInBounds_toArray, List.set_cons_zero, List.set_cons_succ, i64_w, i32_w]
  rfl
 refine pure_ (i := 7) (N := some 11) (v := ?_) (a' := ?_) #[true, false, false, true, false, false, false, true, false, false, false, false, false, false, false, false] rfl rfl (any_of HT_.out (by kernel_rfl)) (fun _ _ _ h => h) (Or.inl ⟨by rfl, ?_⟩) ?_ ?_
 rotate_left
 ·intro w'
  go_simp
  with_reducible rfl
 rotate_left
 ·simp only [Act.put, List.setIfInBounds_toArray, List.set_cons_zero, List.set_cons_succ, i64_w, i32_w]
  rfl
 refine pure_ (i := 11) (N := some 15) (v := ?_) (a' := ?_) #[true, false, false, true, false, false, false, true, false, false, false, true, false, false, false, false] rfl rfl (any_of HT_.out (by kernel_rfl)) (fun _ _ _ h => h) (Or.inl ⟨by rfl, ?_⟩) ?_ ?_
 rotate_left
 ·intro w'
  go_simp
  with_reducible rfl
 rotate_left
 ·simp only [Act.put, List.setIfInBounds_toArray, List.set_cons_zero, List.set_cons_succ, i64_w, i32_w]
  rfl
 refine take_ (i := 1) (N := some 5) (v := ?_) (a' := ?_) #[true, true, false, true, false, false, false, true, false, false, false, true, false, false, false, false] rfl rfl (take_ofW HT_.out HW_.out (by kernel_rfl)) (fun _ _ _ h => h) (Or.inl ⟨by rfl, ?_⟩) hHeld ?_ ?_
 rotate_left
 ·rintro w' ⟨s0, s1, s2, s3, s4, s5, s6⟩
  go_simp
  with_reducible rfl
 rotate_left
 ·simp only [Act.put, List.setIfInBounds_toArray, List.set_cons_zero, List.set_cons_succ, i64_w, i32_w]
  rfl
 refine take_ (i := 4) (N := some 8) (v := ?_) (a' := ?_) #[true, true, false, true, true, false, false, true, false, false, false, true, false, false, false, false] rfl rfl (take_ofW HT_.out HW_.out (by kernel_rfl)) (fun _ _ _ h => h) (Or.inl ⟨by rfl, ?_⟩) hHeld ?_ ?_
 rotate_left
 ·rintro w' ⟨s0, s1, s2, s3, s4, s5, s6⟩
  go_simp
  with_reducible rfl
 rotate_left
 ·simp only [Act.put, List.setIfInBounds_toArray, List.set_cons_zero, List.set_cons_succ, i64_w, i32_w]
  rfl
 refine take_ (i := 8) (N := some 12) (v := ?_) (a' := ?_) #[true, true, false, true, true, false, false, true, true, false, false, true, false, false, false, false] rfl rfl (take_ofW HT_.out HW_.out (by kernel_rfl)) (fun _ _ _ h => h) (Or.inl ⟨by rfl, ?_⟩) hHeld ?_ ?_
 rotate_left
 ·rintro w' ⟨s0, s1, s2, s3, s4, s5, s6⟩
  go_simp
  with_reducible rfl
 rotate_left
 ·simp only [Act.put, List.setIfInBounds_toArray, List.set_cons_zero, List.set_cons_succ, i64_w, i32_w]
  rfl
 refine take_ (i := 12) (N := some 16) (v := ?_) (a' := ?_) #[true, true, false, true, true, false, false, true, true, false, false, true, true, false, false, false] rfl rfl (take_ofW HT_.out HW_.out (by kernel_rfl)) (fun _ _ _ h => h) (Or.inl ⟨by rfl, ?_⟩) hHeld ?_ ?_
 rotate_left
 ·rintro w' ⟨s0, s1, s2, s3, s4, s5, s6⟩
  go_simp
  with_reducible rfl
 rotate_left
 ·simp only [Act.put, List.setIfInBounds_toArray, List.set_cons_zero, List.set_cons_succ, i64_w, i32_w]
  rfl
 refine one_ (i := 2) (N := some 6) #[true, true, true, true, true, false, false, true, true, false, false, true, true, false, false, false] rfl rfl (one_of HT_.out (by kernel_rfl)) (by decide) (fun K hK => ?_)
 refine goes_ Tryd.func82 (by kernel_rfl) rfl #[.int .i64 a0_0] (by rfl) rfl rfl (by (try simp only [List.map_toArray, List.map_cons, List.map_nil]); first | done | rfl | (simp only [List.length_drop, List.length_take]; rfl)) ?_
 with_reducible refine (spinnakerref04_Word.calls a0_0 t254 _ A2.out).mono ?_
 rintro e w10 ⟨rfl, hb⟩
 refine ⟨_, rfl, ?_⟩
 have n0_ := Aside0.mk (blk_below (g := gb253) (o := .cells #[.int .i64 a0_0, .int .i64 a0_1, .int .i64 a0_2, .int .i64 a0_3, .int .i64 a0_4, .bool a0_5, .bool a0_6] 51 (0, 0)) (by (with_reducible repeat (first | refine blk_drewN ?_ _ | refine blk_drew ?_ | refine blk_alloc ?_ _)); exact BK253.out) hb)
 have n1_ := Aside0.mk (below_step (by repeat (first | (with_reducible first | exact HB.out | apply below_alloc | apply pw_below_drewN | apply below_drew1 | refine below_set ?_ GE253.out) | exact HB.out)) hb)
 clear BK253
 clear HB
 have BK253 := n0_
 have HB := n1_
 clear n0_ n1_
 (try clear hb)
 (try clear hb2)
 (try clear hk)
 (try clear hi)
 refine hK.out _ _ ⟨(blk_cell BK253.out 0).trans rfl, (blk_cell BK253.out 1).trans rfl, (blk_cell BK253.out 2).trans rfl, (blk_cell BK253.out 3).trans rfl, (blk_cell BK253.out 4).trans rfl, (blk_cell BK253.out 5).trans rfl, (blk_cell BK253.out 6).trans rfl⟩ (fun hHeld => ?_)
 clear hK K
 refine norm_ (a' := ?_) ?_ ?_
 rotate_left
 ·show Act.put _ (some 6) _ = _
  simp only [Act.put, List.setIfInBounds_toArray, List.set_cons_zero, List.set_cons_succ, i64_w, i32_w]
  rfl
 refine one_ (i := 5) (N := some 9) #[true, true, true, true, true, true, false, true, true, false, false, true, true, false, false, false] rfl rfl (one_of HT_.out (by kernel_rfl)) (by decide) (fun K hK => ?_)
 refine goes_ Tryd.func83 (by kernel_rfl) rfl #[.int .i64 a0_1, .int .i64 0, .int .i64 5, .int .i64 7] (by rfl) rfl rfl (by (try simp only [List.map_toArray, List.map_cons, List.map_nil]); first | done | rfl | (simp only [List.length_drop, List.length_take]; rfl)) ?_
 with_reducible refine (spinnakerref04_bits.calls k a0_1 0 5 7 t255 _ A3.out).mono ?_
 rintro e w' ⟨rfl, ⟨nd, rfl⟩⟩
 refine ⟨_, rfl, ?_⟩
 refine hK.out _ _ ⟨(blk_cell BK253.out 0).trans rfl, (blk_cell BK253.out 1).trans rfl, (blk_cell BK253.out 2).trans rfl, (blk_cell BK253.out 3).trans rfl, (blk_cell BK253.out 4).trans rfl, (blk_cell BK253.out 5).trans rfl, (blk_cell BK253.out 6).trans rfl⟩ (fun hHeld => ?_)
 clear hK K
 refine norm_ (a' := ?_) ?_ ?_
 rotate_left
 ·show Act.put _ (some 9) _ = _
  simp only [Act.put, List.setIfInBounds_toArray, List.set_cons_zero, List.set_cons_succ, i64_w, i32_w]
  rfl
 refine pure_ (i := 6) (N := some 10) (v := ?_) (a' := ?_) #[true, true, true, true, true, true, true, true, true, false, false, true, true, false, false, false] rfl rfl (any_of HT_.out (by kernel_rfl)) (fun _ _ _ h => h) (Or.inl ⟨by rfl, ?_⟩) ?_ ?_
 rotate_left
 ·intro w'
  go_simp
  with_reducible rfl
 rotate_left
 ·simp only [Act.put, List.setIfInBounds_toArray, List.set_cons_zero, List.set_cons_succ, i64_w, i32_w]
  rfl
 refine one_ (i := 9) (N := some 13) #[true, true, true, true, true, true, true, true, true, true, false, true, true, false, false, false] rfl rfl (one_of HT_.out (by kernel_rfl)) (by decide) (fun K hK => ?_)
 refine goes_ Tryd.func83 (by kernel_rfl) rfl #[.int .i64 a0_2, .int .i64 0, .int .i64 5, .int .i64 15] (by rfl) rfl rfl (by (try simp only [List.map_toArray, List.map_cons, List.map_nil]); first | done | rfl | (simp only [List.length_drop, List.length_take]; rfl)) ?_
 with_reducible refine (spinnakerref04_bits.calls k a0_2 0 5 15 t256 _ A4.out).mono ?_
 rintro e w' ⟨rfl, ⟨nd, rfl⟩⟩
 refine ⟨_, rfl, ?_⟩
 refine hK.out _ _ ⟨(blk_cell BK253.out 0).trans rfl, (blk_cell BK253.out 1).trans rfl, (blk_cell BK253.out 2).trans rfl, (blk_cell BK253.out 3).trans rfl, (blk_cell BK253.out 4).trans rfl, (blk_cell BK253.out 5).trans rfl, (blk_cell BK253.out 6).trans rfl⟩ (fun hHeld => ?_)
 clear hK K
 refine norm_ (a' := ?_) ?_ ?_
 rotate_left
 ·show Act.put _ (some 13) _ = _
  simp only [Act.put, List.setIfInBounds_toArray, List.set_cons_zero, List.set_cons_succ, i64_w, i32_w]
  rfl
 refine pure_ (i := 10) (N := some 14) (v := ?_) (a' := ?_) (fl 16 13) rfl rfl (any_of HT_.out (by kernel_rfl)) (fun _ _ _ h => h) (Or.inl ⟨by rfl, ?_⟩) ?_ ?_
 rotate_left
 ·intro w'
  go_simp
  with_reducible rfl
 rotate_left
 ·simp only [Act.put, List.setIfInBounds_toArray, List.set_cons_zero, List.set_cons_succ, i64_w, i32_w]
  rfl
 refine one_ (i := 13) (N := some 17) (fl 16 14) rfl rfl (one_of HT_.out (by kernel_rfl)) (by decide) (fun K hK => ?_)
 refine goes_ Tryd.func83 (by kernel_rfl) rfl #[.int .i64 a0_3, .int .i64 0, .int .i64 5, .int .i64 20] (by rfl) rfl rfl (by (try simp only [List.map_toArray, List.map_cons, List.map_nil]); first | done | rfl | (simp only [List.length_drop, List.length_take]; rfl)) ?_
 with_reducible refine (spinnakerref04_bits.calls k a0_3 0 5 20 t257 _ A5.out).mono ?_
 rintro e w' ⟨rfl, ⟨nd, rfl⟩⟩
 refine ⟨_, rfl, ?_⟩
 refine hK.out _ _ ⟨(blk_cell BK253.out 0).trans rfl, (blk_cell BK253.out 1).trans rfl, (blk_cell BK253.out 2).trans rfl, (blk_cell BK253.out 3).trans rfl, (blk_cell BK253.out 4).trans rfl, (blk_cell BK253.out 5).trans rfl, (blk_cell BK253.out 6).trans rfl⟩ (fun hHeld => ?_)
 clear hK K
 refine norm_ (a' := ?_) ?_ ?_
 rotate_left
 ·show Act.put _ (some 17) _ = _
  simp only [Act.put, List.setIfInBounds_toArray, List.set_cons_zero, List.set_cons_succ, i64_w, i32_w]
  rfl
 refine pure_ (i := 14) (N := some 18) (v := ?_) (a' := ?_) (fl 16 15) rfl rfl (any_of HT_.out (by kernel_rfl)) (fun _ _ _ h => h) (Or.inl ⟨by rfl, ?_⟩) ?_ ?_
 rotate_left
 ·intro w'
  go_simp
  with_reducible rfl
 rotate_left
 ·simp only [Act.put, List.setIfInBounds_toArray, List.set_cons_zero, List.set_cons_succ, i64_w, i32_w]
  rfl
 refine pure_ (i := 15) (N := some 3) (v := ?_) (a' := ?_) (fl 16 16) rfl rfl (any_of HT_.out (by kernel_rfl)) (fun _ _ _ h => h) (Or.inl ⟨by rfl, ?_⟩) ?_ ?_
 rotate_left
 ·intro w'
  go_simp
  with_reducible rfl
 rotate_left
 ·simp only [Act.put, List.setIfInBounds_toArray, List.set_cons_zero, List.set_cons_succ, i64_w, i32_w]
  rfl
 refine done_ (done_of HT_.out (by kernel_rfl)) ?_
 have hcz11_0 : w10.cell? ⟨gb253, 0, none⟩ = some (.int .i64 a0_0) := (blk_cell BK253.out 0).trans rfl
 have hcz11_1 : w10.cell? ⟨gb253, 1, none⟩ = some (.int .i64 a0_1) := (blk_cell BK253.out 1).trans rfl
 have hcz11_2 : w10.cell? ⟨gb253, 2, none⟩ = some (.int .i64 a0_2) := (blk_cell BK253.out 2).trans rfl
 have hcz11_3 : w10.cell? ⟨gb253, 3, none⟩ = some (.int .i64 a0_3) := (blk_cell BK253.out 3).trans rfl
 have hcz11_4 : w10.cell? ⟨gb253, 4, none⟩ = some (.int .i64 a0_4) := (blk_cell BK253.out 4).trans rfl
 have hcz11_5 : w10.cell? ⟨gb253, 5, none⟩ = some (.bool a0_5) := (blk_cell BK253.out 5).trans rfl
 have hcz11_6 : w10.cell? ⟨gb253, 6, none⟩ = some (.bool a0_6) := (blk_cell BK253.out 6).trans rfl
 have hfz11_0 := blk_frozen BK253.out 0
 have hfz11_1 := blk_frozen BK253.out 1
 have hfz11_2 := blk_frozen BK253.out 2
 have hfz11_3 := blk_frozen BK253.out 3
 have hfz11_4 := blk_frozen BK253.out 4
 have hfz11_5 := blk_frozen BK253.out 5
 have hfz11_6 := blk_frozen BK253.out 6
 go_upto_block 0 with (first | ((with_reducible refine gate_callee (f := 84) rfl ?_); refine goesL_ (some 21) rfl rfl Tryd.func84 (by kernel_rfl) rfl #[.int .i64 a0_0] rfl (by (try simp only [List.map_toArray, List.map_cons, List.map_nil]); first | done | rfl | (simp only [List.length_drop, List.length_take]; rfl)) ?_; (with_reducible refine (spinnakerref03_Form.calls a0_0 t258 _ A6.out).mono ?_); rintro e w' ⟨rfl, ⟨nd, rfl⟩⟩; refine ⟨_, rfl, ?_⟩))
 (try simp only [Act.put, List.setIfInBounds_toArray, List.set_cons_zero, List.set_cons_succ])
 go_cut [3] (fun v3 wc => ∃ (kq : Nat) (x3_6 : Int), v3 = .int .u32 x3_6 ∧ Aside0 (spinnakerref04_Encode.j0 kq x3_6 a0_0 a0_1 a0_2 a0_3 a0_4 a0_5 a0_6 = some r) ∧ Aside0 (kq ≤ k) ∧ Aside0 (wc.heap[gb253]? = some (.cells #[.int .i64 a0_0, .int .i64 a0_1, .int .i64 a0_2, .int .i64 a0_3, .int .i64 a0_4, .bool a0_5, .bool a0_6] 51 (0, 0))) ∧ Aside0 (Below w.heap.size w wc))
 case first =>
  have H := HC7.out
  clear HC7
  by_cases c12 : t258 = 1
  ·rw [if_pos c12] at H
   have c12b0 : (t258 == 1) = true := beq_iff_eq.mpr c12
   have c12b1 : (t258 != 1) = false := bne_eq_false_iff_eq.mpr c12
   clear c12
   (first | rw [c12b0] | (simp only [i64_w, i32_w]; rw [c12b0]) | skip)
   replace H := Option.bind_eq_some_iff.mp H
   obtain ⟨t259, A130, H⟩ := H
   replace H : (spinnakerref04_Encode.j0 k (Go.bits .or .u32 (Go.bits .or .u32 (Go.bits .or .u32 (Go.bits .or .u32 t254 t255) t256) t257) t259) a0_0 a0_1 a0_2 a0_3 a0_4 a0_5 a0_6) = some r := H
   have A13 := Aside0.mk A130
   clear A130
   have H' := Aside0.mk H
   clear H
   have hcz14_0 : w10.cell? ⟨gb253, 0, none⟩ = some (.int .i64 a0_0) := (blk_cell BK253.out 0).trans rfl
   have hcz14_1 : w10.cell? ⟨gb253, 1, none⟩ = some (.int .i64 a0_1) := (blk_cell BK253.out 1).trans rfl
   have hcz14_2 : w10.cell? ⟨gb253, 2, none⟩ = some (.int .i64 a0_2) := (blk_cell BK253.out 2).trans rfl
   have hcz14_3 : w10.cell? ⟨gb253, 3, none⟩ = some (.int .i64 a0_3) := (blk_cell BK253.out 3).trans rfl
   have hcz14_4 : w10.cell? ⟨gb253, 4, none⟩ = some (.int .i64 a0_4) := (blk_cell BK253.out 4).trans rfl
   have hcz14_5 : w10.cell? ⟨gb253, 5, none⟩ = some (.bool a0_5) := (blk_cell BK253.out 5).trans rfl
   have hcz14_6 : w10.cell? ⟨gb253, 6, none⟩ = some (.bool a0_6) := (blk_cell BK253.out 6).trans rfl
   have hfz14_0 := blk_frozen BK253.out 0
   have hfz14_1 := blk_frozen BK253.out 1
   have hfz14_2 := blk_frozen BK253.out 2
   have hfz14_3 := blk_frozen BK253.out 3
   have hfz14_4 := blk_frozen BK253.out 4
   have hfz14_5 := blk_frozen BK253.out 5
   have hfz14_6 := blk_frozen BK253.out 6
   go_wp2_with (first | ((with_reducible refine gate_callee (f := 83) rfl ?_); refine goesL_ (some 27) rfl rfl Tryd.func83 (by kernel_rfl) rfl #[.int .i64 a0_4, .int .i64 0, .int .i64 20, .int .i64 12] rfl (by (try simp only [List.map_toArray, List.map_cons, List.map_nil]); first | done | rfl | (simp only [List.length_drop, List.length_take]; rfl)) ?_; (with_reducible refine (spinnakerref04_bits.calls k a0_4 0 20 12 t259 _ A13.out).mono ?_); rintro e w' ⟨rfl, ⟨nd, rfl⟩⟩; refine ⟨_, rfl, ?_⟩))
   go_meet
   case rel => exact ⟨_, (Go.bits .or .u32 (Go.bits .or .u32 (Go.bits .or .u32 (Go.bits .or .u32 t254 t255) t256) t257) t259), (by first | rfl | (simp; done) | (simp [*]; done)), H', ⟨by first | omega | exact Nat.le_refl _⟩, ⟨by (with_reducible repeat (first | refine blk_drewN ?_ _ | refine blk_drew ?_ | refine blk_alloc ?_ _)); exact BK253.out⟩, ⟨by repeat (first | (with_reducible first | exact HB.out | apply below_alloc | apply pw_below_drewN | apply below_drew1 | refine below_set ?_ GE253.out) | exact HB.out)⟩⟩
  ·rw [if_neg c12] at H
   have c12b0 : (t258 == 1) = false := beq_eq_false_iff_ne.mpr c12
   have c12b1 : (t258 != 1) = true := bne_iff_ne.mpr c12
   (first | rw [c12b0] | (simp only [i64_w, i32_w]; rw [c12b0]) | skip)
   by_cases c15 : t258 = 2
   ·rw [if_pos c15] at H
    have c15b0 : (t258 == 2) = true := beq_iff_eq.mpr c15
    have c15b1 : (t258 != 2) = false := bne_eq_false_iff_eq.mpr c15
    clear c15
    replace H := Option.bind_eq_some_iff.mp H
    obtain ⟨t260, A160, H⟩ := H
    replace H : ((spinnakerref04_bits.f k a0_4 1 10 21).bind fun t261 => ((spinnakerref04_bits.f k a0_4 11 1 20).bind fun t262 => ((spinnakerref04_bits.f k a0_4 12 8 12).bind fun t263 => (spinnakerref04_Encode.j0 k (Go.bits .or .u32 (Go.bits .or .u32 (Go.bits .or .u32 (Go.bits .or .u32 (Go.bits .or .u32 (Go.bits .or .u32 (Go.bits .or .u32 t254 t255) t256) t257) t260) t261) t262) t263) a0_0 a0_1 a0_2 a0_3 a0_4 a0_5 a0_6)))) = some r := H
    have A16 := Aside0.mk A160
    clear A160
    replace H := Option.bind_eq_some_iff.mp H
    obtain ⟨t261, A170, H⟩ := H
    replace H : ((spinnakerref04_bits.f k a0_4 11 1 20).bind fun t262 => ((spinnakerref04_bits.f k a0_4 12 8 12).bind fun t263 => (spinnakerref04_Encode.j0 k (Go.bits .or .u32 (Go.bits .or .u32 (Go.bits .or .u32 (Go.bits .or .u32 (Go.bits .or .u32 (Go.bits .or .u32 (Go.bits .or .u32 t254 t255) t256) t257) t260) t261) t262) t263) a0_0 a0_1 a0_2 a0_3 a0_4 a0_5 a0_6))) = some r := H
    have A17 := Aside0.mk A170
    clear A170
    replace H := Option.bind_eq_some_iff.mp H
    obtain ⟨t262, A180, H⟩ := H
    replace H : ((spinnakerref04_bits.f k a0_4 12 8 12).bind fun t263 => (spinnakerref04_Encode.j0 k (Go.bits .or .u32 (Go.bits .or .u32 (Go.bits .or .u32 (Go.bits .or .u32 (Go.bits .or .u32 (Go.bits .or .u32 (Go.bits .or .u32 t254 t255) t256) t257) t260) t261) t262) t263) a0_0 a0_1 a0_2 a0_3 a0_4 a0_5 a0_6)) = some r := H
    have A18 := Aside0.mk A180
    clear A180
    replace H := Option.bind_eq_some_iff.mp H
    obtain ⟨t263, A190, H⟩ := H
    replace H : (spinnakerref04_Encode.j0 k (Go.bits .or .u32 (Go.bits .or .u32 (Go.bits .or .u32 (Go.bits .or .u32 (Go.bits .or .u32 (Go.bits .or .u32 (Go.bits .or .u32 t254 t255) t256) t257) t260) t261) t262) t263) a0_0 a0_1 a0_2 a0_3 a0_4 a0_5 a0_6) = some r := H
    have A19 := Aside0.mk A190
    clear A190
    have H' := Aside0.mk H
    clear H
    try go_wp2
    have n0_ := Aside0.mk (blk_drew BK253.out)
    have n1_ := Aside0.mk (below_drew1 HB.out)
    clear BK253
    clear HB
    have BK253 := n0_
    have HB := n1_
    clear n0_ n1_
    refine start_ (n := 18) (S := fun w' => w'.cell? ⟨gb253, 0, none⟩ = some (.int .i64 a0_0) ∧ w'.cell? ⟨gb253, 1, none⟩ = some (.int .i64 a0_1) ∧ w'.cell? ⟨gb253, 2, none⟩ = some (.int .i64 a0_2) ∧ w'.cell? ⟨gb253, 3, none⟩ = some (.int .i64 a0_3) ∧ w'.cell? ⟨gb253, 4, none⟩ = some (.int .i64 a0_4) ∧ w'.cell? ⟨gb253, 5, none⟩ = some (.bool a0_5) ∧ w'.cell? ⟨gb253, 6, none⟩ = some (.bool a0_6)) (ds := []) (fl 18 0) (by kernel_rfl) rfl rfl ⟨(blk_cell BK253.out 0).trans rfl, (blk_cell BK253.out 1).trans rfl, (blk_cell BK253.out 2).trans rfl, (blk_cell BK253.out 3).trans rfl, (blk_cell BK253.out 4).trans rfl, (blk_cell BK253.out 5).trans rfl, (blk_cell BK253.out 6).trans rfl⟩ (fun hHeld => ?_); refine with_tabW spinnakerref04_Encode.tab6 spinnakerref04_Encode.bits6 (fun HT_ HW_ => ?_)
    generalize hwq : World.drew (World.drewN _ _) = w20 at hHeld ⊢
    have n0_ : Aside0 (w20.heap[gb253]? = some (.cells #[.int .i64 a0_0, .int .i64 a0_1, .int .i64 a0_2, .int .i64 a0_3, .int .i64 a0_4, .bool a0_5, .bool a0_6] 51 (0, 0))) := ⟨by rw [← hwq]; exact BK253.out⟩
    have n1_ : Aside0 (Below w.heap.size w w20) := ⟨by rw [← hwq]; exact ⟨HB.out.os, HB.out.tape, HB.out.output, HB.out.size, HB.out.block⟩⟩
    clear BK253 HB hwq
    have BK253 := n0_
    have HB := n1_
    clear n0_ n1_
    refine pure_ (i := 0) (N := some 31) (v := ?_) (a' := ?_) (fl 18 1) rfl rfl (any_of HT_.out (by kernel_rfl)) (fun _ _ _ h => h) (Or.inl ⟨by rfl, ?_⟩) ?_ ?_
    rotate_left
    ·intro w'
     go_simp
     with_reducible rfl
    rotate_left
    ·simp only [Act.put, List.setIfInBounds_toArray, List.set_cons_zero, List.set_cons_succ, i64_w, i32_w]
     rfl
    refine pure_ (i := 1) (N := some 32) (v := ?_) (a' := ?_) (fl 18 2) rfl rfl (any_of HT_.out (by kernel_rfl)) (fun _ _ _ h => h) (Or.inl ⟨by rfl, ?_⟩) ?_ ?_
    rotate_left
    ·intro w'
     go_simp
     with_reducible rfl
    rotate_left
    ·simp only [Act.put, List.setIfInBounds_toArray, List.set_cons_zero, List.set_cons_succ, i64_w, i32_w]
     rfl
    refine pure_ (i := 5) (N := some 36) (v := ?_) (a' := ?_) #[true, true, false, false, false, true, false, false, false, false, false, false, false, false, false, false, false, false] rfl rfl (any_of HT_.out (by kernel_rfl)) (fun _ _ _ h => h) (Or.inl ⟨by rfl, ?_⟩) ?_ ?_
    rotate_left
    ·intro w'
     go_simp
     with_reducible rfl
    rotate_left
    ·simp only [Act.put, List.setIfInBounds_toArray, List.set_cons_zero, List.set_cons_succ, i64_w, i32_w]
     rfl
    refine pure_ (i := 9) (N := some 40) (v := ?_) (a' := ?_) #[true, true, false, false, false, true, false, false, false, true, false, false, false, false, false, false, false, false] rfl rfl (any_of HT_.out (by kernel_rfl)) (fun _ _ _ h => h) (Or.inl ⟨by rfl, ?_⟩) ?_ ?_
    rotate_left
    ·intro w'
     go_simp
     with_reducible rfl
    rotate_left
    ·simp only [Act.put, List.setIfInBounds_toArray, List.set_cons_zero, List.set_cons_succ, i64_w, i32_w]
     rfl
    refine pure_ (i := 13) (N := some 44) (v := ?_) (a' := ?_) #[true, true, false, false, false, true, false, false, false, true, false, false, false, true, false, false, false, false] rfl rfl (any_of HT_.out (by kernel_rfl)) (fun _ _ _ h => h) (Or.inl ⟨by rfl, ?_⟩) ?_ ?_
    rotate_left
    ·intro w'
     go_simp
     with_reducible rfl
    rotate_left
    ·simp only [Act.put, List.setIfInBounds_toArray, List.set_cons_zero, List.set_cons_succ, i64_w, i32_w]
     rfl
    refine take_ (i := 2) (N := some 33) (v := ?_) (a' := ?_) #[true, true, true, false, false, true, false, false, false, true, false, false, false, true, false, false, false, false] rfl rfl (take_ofW HT_.out HW_.out (by kernel_rfl)) (fun _ _ _ h => h) (Or.inl ⟨by rfl, ?_⟩) hHeld ?_ ?_
    rotate_left
    ·rintro w' ⟨s0, s1, s2, s3, s4, s5, s6⟩
     go_simp
     with_reducible rfl
    rotate_left
    ·simp only [Act.put, List.setIfInBounds_toArray, List.set_cons_zero, List.set_cons_succ, i64_w, i32_w]
     rfl
    refine take_ (i := 6) (N := some 37) (v := ?_) (a' := ?_) #[true, true, true, false, false, true, true, false, false, true, false, false, false, true, false, false, false, false] rfl rfl (take_ofW HT_.out HW_.out (by kernel_rfl)) (fun _ _ _ h => h) (Or.inl ⟨by rfl, ?_⟩) hHeld ?_ ?_
    rotate_left
    ·rintro w' ⟨s0, s1, s2, s3, s4, s5, s6⟩
     go_simp
     with_reducible rfl
    rotate_left
    ·simp only [Act.put, List.setIfInBounds_toArray, List.set_cons_zero, List.set_cons_succ, i64_w, i32_w]
     rfl
    refine take_ (i := 10) (N := some 41) (v := ?_) (a' := ?_) #[true, true, true, false, false, true, true, false, false, true, true, false, false, true, false, false, false, false] rfl rfl (take_ofW HT_.out HW_.out (by kernel_rfl)) (fun _ _ _ h => h) (Or.inl ⟨by rfl, ?_⟩) hHeld ?_ ?_
    rotate_left
    ·rintro w' ⟨s0, s1, s2, s3, s4, s5, s6⟩
     go_simp
     with_reducible rfl
    rotate_left
    ·simp only [Act.put, List.setIfInBounds_toArray, List.set_cons_zero, List.set_cons_succ, i64_w, i32_w]
     rfl
    refine take_ (i := 14) (N := some 45) (v := ?_) (a' := ?_) #[true, true, true, false, false, true, true, false, false, true, true, false, false, true, true, false, false, false] rfl rfl (take_ofW HT_.out HW_.out (by kernel_rfl)) (fun _ _ _ h => h) (Or.inl ⟨by rfl, ?_⟩) hHeld ?_ ?_
    rotate_left
    ·rintro w' ⟨s0, s1, s2, s3, s4, s5, s6⟩
     go_simp
     with_reducible rfl
    rotate_left
    ·simp only [Act.put, List.setIfInBounds_toArray, List.set_cons_zero, List.set_cons_succ, i64_w, i32_w]
     rfl
    refine one_ (i := 3) (N := some 34) #[true, true, true, true, false, true, true, false, false, true, true, false, false, true, true, false, false, false] rfl rfl (one_of HT_.out (by kernel_rfl)) (by decide) (fun K hK => ?_)
    refine goes_ Tryd.func83 (by kernel_rfl) rfl #[.int .i64 a0_4, .int .i64 20, .int .i64 1, .int .i64 31] (by rfl) rfl rfl (by (try simp only [List.map_toArray, List.map_cons, List.map_nil]); first | done | rfl | (simp only [List.length_drop, List.length_take]; rfl)) ?_
    with_reducible refine (spinnakerref04_bits.calls k a0_4 20 1 31 t260 _ A16.out).mono ?_
    rintro e w' ⟨rfl, ⟨nd, rfl⟩⟩
    refine ⟨_, rfl, ?_⟩
    refine hK.out _ _ ⟨(blk_cell BK253.out 0).trans rfl, (blk_cell BK253.out 1).trans rfl, (blk_cell BK253.out 2).trans rfl, (blk_cell BK253.out 3).trans rfl, (blk_cell BK253.out 4).trans rfl, (blk_cell BK253.out 5).trans rfl, (blk_cell BK253.out 6).trans rfl⟩ (fun hHeld => ?_)
    clear hK K
    refine norm_ (a' := ?_) ?_ ?_
    rotate_left
    ·show Act.put _ (some 34) _ = _
     simp only [Act.put, List.setIfInBounds_toArray, List.set_cons_zero, List.set_cons_succ, i64_w, i32_w]
     rfl
    refine pure_ (i := 4) (N := some 35) (v := ?_) (a' := ?_) #[true, true, true, true, true, true, true, false, false, true, true, false, false, true, true, false, false, false] rfl rfl (any_of HT_.out (by kernel_rfl)) (fun _ _ _ h => h) (Or.inl ⟨by rfl, ?_⟩) ?_ ?_
    rotate_left
    ·intro w'
     go_simp
     with_reducible rfl
    rotate_left
    ·simp only [Act.put, List.setIfInBounds_toArray, List.set_cons_zero, List.set_cons_succ, i64_w, i32_w]
     rfl
    refine one_ (i := 7) (N := some 38) #[true, true, true, true, true, true, true, true, false, true, true, false, false, true, true, false, false, false] rfl rfl (one_of HT_.out (by kernel_rfl)) (by decide) (fun K hK => ?_)
    refine goes_ Tryd.func83 (by kernel_rfl) rfl #[.int .i64 a0_4, .int .i64 1, .int .i64 10, .int .i64 21] (by rfl) rfl rfl (by (try simp only [List.map_toArray, List.map_cons, List.map_nil]); first | done | rfl | (simp only [List.length_drop, List.length_take]; rfl)) ?_
    with_reducible refine (spinnakerref04_bits.calls k a0_4 1 10 21 t261 _ A17.out).mono ?_
    rintro e w' ⟨rfl, ⟨nd, rfl⟩⟩
    refine ⟨_, rfl, ?_⟩
    refine hK.out _ _ ⟨(blk_cell BK253.out 0).trans rfl, (blk_cell BK253.out 1).trans rfl, (blk_cell BK253.out 2).trans rfl, (blk_cell BK253.out 3).trans rfl, (blk_cell BK253.out 4).trans rfl, (blk_cell BK253.out 5).trans rfl, (blk_cell BK253.out 6).trans rfl⟩ (fun hHeld => ?_)
    clear hK K
    refine norm_ (a' := ?_) ?_ ?_
    rotate_left
    ·show Act.put _ (some 38) _ = _
     simp only [Act.put, List.setIfInBounds_toArray, List.set_cons_zero, List.set_cons_succ, i64_w, i32_w]
     rfl
    refine pure_ (i := 8) (N := some 39) (v := ?_) (a' := ?_) #[true, true, true, true, true, true, true, true, true, true, true, false, false, true, true, false, false, false] rfl rfl (any_of HT_.out (by kernel_rfl)) (fun _ _ _ h => h) (Or.inl ⟨by rfl, ?_⟩) ?_ ?_
    rotate_left
    ·intro w'
     go_simp
     with_reducible rfl
    rotate_left
    ·simp only [Act.put, List.setIfInBounds_toArray, List.set_cons_zero, List.set_cons_succ, i64_w, i32_w]
     rfl
    refine one_ (i := 11) (N := some 42) #[true, true, true, true, true, true, true, true, true, true, true, true, false, true, true, false, false, false] rfl rfl (one_of HT_.out (by kernel_rfl)) (by decide) (fun K hK => ?_)
    refine goes_ Tryd.func83 (by kernel_rfl) rfl #[.int .i64 a0_4, .int .i64 11, .int .i64 1, .int .i64 20] (by rfl) rfl rfl (by (try simp only [List.map_toArray, List.map_cons, List.map_nil]); first | done | rfl | (simp only [List.length_drop, List.length_take]; rfl)) ?_
    with_reducible refine (spinnakerref04_bits.calls k a0_4 11 1 20 t262 _ A18.out).mono ?_
    rintro e w' ⟨rfl, ⟨nd, rfl⟩⟩
    refine ⟨_, rfl, ?_⟩
    refine hK.out _ _ ⟨(blk_cell BK253.out 0).trans rfl, (blk_cell BK253.out 1).trans rfl, (blk_cell BK253.out 2).trans rfl, (blk_cell BK253.out 3).trans rfl, (blk_cell BK253.out 4).trans rfl, (blk_cell BK253.out 5).trans rfl, (blk_cell BK253.out 6).trans rfl⟩ (fun hHeld => ?_)
    clear hK K
    refine norm_ (a' := ?_) ?_ ?_
    rotate_left
    ·show Act.put _ (some 42) _ = _
     simp only [Act.put, List.setIfInBounds_toArray, List.set_cons_zero, List.set_cons_succ, i64_w, i32_w]
     rfl
    refine pure_ (i := 12) (N := some 43) (v := ?_) (a' := ?_) (fl 18 15) rfl rfl (any_of HT_.out (by kernel_rfl)) (fun _ _ _ h => h) (Or.inl ⟨by rfl, ?_⟩) ?_ ?_
    rotate_left
    ·intro w'
     go_simp
     with_reducible rfl
    rotate_left
    ·simp only [Act.put, List.setIfInBounds_toArray, List.set_cons_zero, List.set_cons_succ, i64_w, i32_w]
     rfl
    refine one_ (i := 15) (N := some 46) (fl 18 16) rfl rfl (one_of HT_.out (by kernel_rfl)) (by decide) (fun K hK => ?_)
    refine goes_ Tryd.func83 (by kernel_rfl) rfl #[.int .i64 a0_4, .int .i64 12, .int .i64 8, .int .i64 12] (by rfl) rfl rfl (by (try simp only [List.map_toArray, List.map_cons, List.map_nil]); first | done | rfl | (simp only [List.length_drop, List.length_take]; rfl)) ?_
    with_reducible refine (spinnakerref04_bits.calls k a0_4 12 8 12 t263 _ A19.out).mono ?_
    rintro e w' ⟨rfl, ⟨nd, rfl⟩⟩
    refine ⟨_, rfl, ?_⟩
    refine hK.out _ _ ⟨(blk_cell BK253.out 0).trans rfl, (blk_cell BK253.out 1).trans rfl, (blk_cell BK253.out 2).trans rfl, (blk_cell BK253.out 3).trans rfl, (blk_cell BK253.out 4).trans rfl, (blk_cell BK253.out 5).trans rfl, (blk_cell BK253.out 6).trans rfl⟩ (fun hHeld => ?_)
    clear hK K
    refine norm_ (a' := ?_) ?_ ?_
    rotate_left
    ·show Act.put _ (some 46) _ = _
     simp only [Act.put, List.setIfInBounds_toArray, List.set_cons_zero, List.set_cons_succ, i64_w, i32_w]
     rfl
    refine pure_ (i := 16) (N := some 47) (v := ?_) (a' := ?_) (fl 18 17) rfl rfl (any_of HT_.out (by kernel_rfl)) (fun _ _ _ h => h) (Or.inl ⟨by rfl, ?_⟩) ?_ ?_
    rotate_left
    ·intro w'
     go_simp
     with_reducible rfl
    rotate_left
    ·simp only [Act.put, List.setIfInBounds_toArray, List.set_cons_zero, List.set_cons_succ, i64_w, i32_w]
     rfl
    refine pure_ (i := 17) (N := some 3) (v := ?_) (a' := ?_) (fl 18 18) rfl rfl (any_of HT_.out (by kernel_rfl)) (fun _ _ _ h => h) (Or.inl ⟨by rfl, ?_⟩) ?_ ?_
    rotate_left
    ·intro w'
     go_simp
     with_reducible rfl
    rotate_left
    ·simp only [Act.put, List.setIfInBounds_toArray, List.set_cons_zero, List.set_cons_succ, i64_w, i32_w]
     rfl
    refine done_ (done_of HT_.out (by kernel_rfl)) ?_
    try go_wp2
    go_meet
    case rel => exact ⟨_, (Go.bits .or .u32 (Go.bits .or .u32 (Go.bits .or .u32 (Go.bits .or .u32 (Go.bits .or .u32 (Go.bits .or .u32 (Go.bits .or .u32 t254 t255) t256) t257) t260) t261) t262) t263), (by first | rfl | (simp; done) | (simp [*]; done)), H', ⟨by first | omega | exact Nat.le_refl _⟩, ⟨by (with_reducible repeat (first | refine blk_drewN ?_ _ | refine blk_drew ?_ | refine blk_alloc ?_ _)); exact BK253.out⟩, ⟨by repeat (first | (with_reducible first | exact HB.out | apply below_alloc | apply pw_below_drewN | apply below_drew1 | refine below_set ?_ GE253.out) | exact HB.out)⟩⟩
   ·rw [if_neg c15] at H
    have c15b0 : (t258 == 2) = false := beq_eq_false_iff_ne.mpr c15
    have c15b1 : (t258 != 2) = true := bne_iff_ne.mpr c15
    by_cases c21 : t258 = 3
    ·rw [if_pos c21] at H
     have c21b0 : (t258 == 3) = true := beq_iff_eq.mpr c21
     have c21b1 : (t258 != 3) = false := bne_eq_false_iff_eq.mpr c21
     clear c21
     replace H := Option.bind_eq_some_iff.mp H
     obtain ⟨t264, A220, H⟩ := H
     replace H : (spinnakerref04_Encode.j0 k (Go.bits .or .u32 (Go.bits .or .u32 (Go.bits .or .u32 (Go.bits .or .u32 t254 t255) t256) t257) t264) a0_0 a0_1 a0_2 a0_3 a0_4 a0_5 a0_6) = some r := H
     have A22 := Aside0.mk A220
     clear A220
     have H' := Aside0.mk H
     clear H
     have hcz23_0 : w10.cell? ⟨gb253, 0, none⟩ = some (.int .i64 a0_0) := (blk_cell BK253.out 0).trans rfl
     have hcz23_1 : w10.cell? ⟨gb253, 1, none⟩ = some (.int .i64 a0_1) := (blk_cell BK253.out 1).trans rfl
     have hcz23_2 : w10.cell? ⟨gb253, 2, none⟩ = some (.int .i64 a0_2) := (blk_cell BK253.out 2).trans rfl
     have hcz23_3 : w10.cell? ⟨gb253, 3, none⟩ = some (.int .i64 a0_3) := (blk_cell BK253.out 3).trans rfl
     have hcz23_4 : w10.cell? ⟨gb253, 4, none⟩ = some (.int .i64 a0_4) := (blk_cell BK253.out 4).trans rfl
     have hcz23_5 : w10.cell? ⟨gb253, 5, none⟩ = some (.bool a0_5) := (blk_cell BK253.out 5).trans rfl
     have hcz23_6 : w10.cell? ⟨gb253, 6, none⟩ = some (.bool a0_6) := (blk_cell BK253.out 6).trans rfl
     have hfz23_0 := blk_frozen BK253.out 0
     have hfz23_1 := blk_frozen BK253.out 1
     have hfz23_2 := blk_frozen BK253.out 2
     have hfz23_3 := blk_frozen BK253.out 3
     have hfz23_4 := blk_frozen BK253.out 4
     have hfz23_5 := blk_frozen BK253.out 5
     have hfz23_6 := blk_frozen BK253.out 6
     go_wp2_with (first | ((with_reducible refine gate_callee (f := 83) rfl ?_); refine goesL_ (some 53) rfl rfl Tryd.func83 (by kernel_rfl) rfl #[.int .i64 a0_4, .int .i64 0, .int .i64 12, .int .i64 20] rfl (by (try simp only [List.map_toArray, List.map_cons, List.map_nil]); first | done | rfl | (simp only [List.length_drop, List.length_take]; rfl)) ?_; (with_reducible refine (spinnakerref04_bits.calls k a0_4 0 12 20 t264 _ A22.out).mono ?_); rintro e w' ⟨rfl, ⟨nd, rfl⟩⟩; refine ⟨_, rfl, ?_⟩))
     go_meet
     case rel => exact ⟨_, (Go.bits .or .u32 (Go.bits .or .u32 (Go.bits .or .u32 (Go.bits .or .u32 t254 t255) t256) t257) t264), (by first | rfl | (simp; done) | (simp [*]; done)), H', ⟨by first | omega | exact Nat.le_refl _⟩, ⟨by (with_reducible repeat (first | refine blk_drewN ?_ _ | refine blk_drew ?_ | refine blk_alloc ?_ _)); exact BK253.out⟩, ⟨by repeat (first | (with_reducible first | exact HB.out | apply below_alloc | apply pw_below_drewN | apply below_drew1 | refine below_set ?_ GE253.out) | exact HB.out)⟩⟩
    ·rw [if_neg c21] at H
     have c21b0 : (t258 == 3) = false := beq_eq_false_iff_ne.mpr c21
     have c21b1 : (t258 != 3) = true := bne_iff_ne.mpr c21
     by_cases c24 : t258 = 4
     ·rw [if_pos c24] at H
      have c24b0 : (t258 == 4) = true := beq_iff_eq.mpr c24
      have c24b1 : (t258 != 4) = false := bne_eq_false_iff_eq.mpr c24
      clear c24
      replace H := Option.bind_eq_some_iff.mp H
      obtain ⟨t265, A250, H⟩ := H
      replace H : ((spinnakerref04_bits.f k a0_4 12 1 31).bind fun t266 => ((spinnakerref04_bits.f k a0_4 5 6 25).bind fun t267 => ((spinnakerref04_bits.f k a0_4 1 4 8).bind fun t268 => ((spinnakerref04_bits.f k a0_4 11 1 7).bind fun t269 => (spinnakerref04_Encode.j0 k (Go.bits .or .u32 (Go.bits .or .u32 (Go.bits .or .u32 (Go.bits .or .u32 (Go.bits .andNot .u32 (Go.bits .or .u32 (Go.bits .or .u32 (Go.bits .or .u32 t254 t255) t256) t257) t265) t266) t267) t268) t269) a0_0 a0_1 a0_2 a0_3 a0_4 a0_5 a0_6))))) = some r := H
      have A25 := Aside0.mk A250
      clear A250
      replace H := Option.bind_eq_some_iff.mp H
      obtain ⟨t266, A260, H⟩ := H
      replace H : ((spinnakerref04_bits.f k a0_4 5 6 25).bind fun t267 => ((spinnakerref04_bits.f k a0_4 1 4 8).bind fun t268 => ((spinnakerref04_bits.f k a0_4 11 1 7).bind fun t269 => (spinnakerref04_Encode.j0 k (Go.bits .or .u32 (Go.bits .or .u32 (Go.bits .or .u32 (Go.bits .or .u32 (Go.bits .andNot .u32 (Go.bits .or .u32 (Go.bits .or .u32 (Go.bits .or .u32 t254 t255) t256) t257) t265) t266) t267) t268) t269) a0_0 a0_1 a0_2 a0_3 a0_4 a0_5 a0_6)))) = some r := H
      have A26 := Aside0.mk A260
      clear A260
      replace H := Option.bind_eq_some_iff.mp H
      obtain ⟨t267, A270, H⟩ := H
      replace H : ((spinnakerref04_bits.f k a0_4 1 4 8).bind fun t268 => ((spinnakerref04_bits.f k a0_4 11 1 7).bind fun t269 => (spinnakerref04_Encode.j0 k (Go.bits .or .u32 (Go.bits .or .u32 (Go.bits .or .u32 (Go.bits .or .u32 (Go.bits .andNot .u32 (Go.bits .or .u32 (Go.bits .or .u32 (Go.bits .or .u32 t254 t255) t256) t257) t265) t266) t267) t268) t269) a0_0 a0_1 a0_2 a0_3 a0_4 a0_5 a0_6))) = some r := H
      have A27 := Aside0.mk A270
      clear A270
      replace H := Option.bind_eq_some_iff.mp H
      obtain ⟨t268, A280, H⟩ := H
      replace H : ((spinnakerref04_bits.f k a0_4 11 1 7).bind fun t269 => (spinnakerref04_Encode.j0 k (Go.bits .or .u32 (Go.bits .or .u32 (Go.bits .or .u32 (Go.bits .or .u32 (Go.bits .andNot .u32 (Go.bits .or .u32 (Go.bits .or .u32 (Go.bits .or .u32 t254 t255) t256) t257) t265) t266) t267) t268) t269) a0_0 a0_1 a0_2 a0_3 a0_4 a0_5 a0_6)) = some r := H
      have A28 := Aside0.mk A280
      clear A280
      replace H := Option.bind_eq_some_iff.mp H
      obtain ⟨t269, A290, H⟩ := H
      replace H : (spinnakerref04_Encode.j0 k (Go.bits .or .u32 (Go.bits .or .u32 (Go.bits .or .u32 (Go.bits .or .u32 (Go.bits .andNot .u32 (Go.bits .or .u32 (Go.bits .or .u32 (Go.bits .or .u32 t254 t255) t256) t257) t265) t266) t267) t268) t269) a0_0 a0_1 a0_2 a0_3 a0_4 a0_5 a0_6) = some r := H
      have A29 := Aside0.mk A290
      clear A290
      have H' := Aside0.mk H
      clear H
      try go_wp2
      have n0_ := Aside0.mk (blk_drew BK253.out)
      have n1_ := Aside0.mk (below_drew1 HB.out)
      clear BK253
      clear HB
      have BK253 := n0_
      have HB := n1_
      clear n0_ n1_
      refine start_ (n := 20) (S := fun w' => w'.cell? ⟨gb253, 0, none⟩ = some (.int .i64 a0_0) ∧ w'.cell? ⟨gb253, 1, none⟩ = some (.int .i64 a0_1) ∧ w'.cell? ⟨gb253, 2, none⟩ = some (.int .i64 a0_2) ∧ w'.cell? ⟨gb253, 3, none⟩ = some (.int .i64 a0_3) ∧ w'.cell? ⟨gb253, 4, none⟩ = some (.int .i64 a0_4) ∧ w'.cell? ⟨gb253, 5, none⟩ = some (.bool a0_5) ∧ w'.cell? ⟨gb253, 6, none⟩ = some (.bool a0_6)) (ds := []) (fl 20 0) (by kernel_rfl) rfl rfl ⟨(blk_cell BK253.out 0).trans rfl, (blk_cell BK253.out 1).trans rfl, (blk_cell BK253.out 2).trans rfl, (blk_cell BK253.out 3).trans rfl, (blk_cell BK253.out 4).trans rfl, (blk_cell BK253.out 5).trans rfl, (blk_cell BK253.out 6).trans rfl⟩ (fun hHeld => ?_); refine with_tabW spinnakerref04_Encode.tab10 spinnakerref04_Encode.bits10 (fun HT_ HW_ => ?_)
      generalize hwq : World.drew (World.drewN _ _) = w30 at hHeld ⊢
      have n0_ : Aside0 (w30.heap[gb253]? = some (.cells #[.int .i64 a0_0, .int .i64 a0_1, .int .i64 a0_2, .int .i64 a0_3, .int .i64 a0_4, .bool a0_5, .bool a0_6] 51 (0, 0))) := ⟨by rw [← hwq]; exact BK253.out⟩
      have n1_ : Aside0 (Below w.heap.size w w30) := ⟨by rw [← hwq]; exact ⟨HB.out.os, HB.out.tape, HB.out.output, HB.out.size, HB.out.block⟩⟩
      clear BK253 HB hwq
      have BK253 := n0_
      have HB := n1_
      clear n0_ n1_
      refine pure_ (i := 0) (N := some 57) (v := ?_) (a' := ?_) (fl 20 1) rfl rfl (any_of HT_.out (by kernel_rfl)) (fun _ _ _ h => h) (Or.inl ⟨by rfl, ?_⟩) ?_ ?_
      rotate_left
      ·intro w'
       go_simp
       with_reducible rfl
      rotate_left
      ·simp only [Act.put, List.setIfInBounds_toArray, List.set_cons_zero, List.set_cons_succ, i64_w, i32_w]
       rfl
      refine pure_ (i := 3) (N := some 60) (v := ?_) (a' := ?_) #[true, false, false, true, false, false, false, false, false, false, false, false, false, false, false, false, false, false, false, false] rfl rfl (any_of HT_.out (by kernel_rfl)) (fun _ _ _ h => h) (Or.inl ⟨by rfl, ?_⟩) ?_ ?_
      rotate_left
      ·intro w'
       go_simp
       with_reducible rfl
      rotate_left
      ·simp only [Act.put, List.setIfInBounds_toArray, List.set_cons_zero, List.set_cons_succ, i64_w, i32_w]
       rfl
      refine pure_ (i := 7) (N := some 64) (v := ?_) (a' := ?_) #[true, false, false, true, false, false, false, true, false, false, false, false, false, false, false, false, false, false, false, false] rfl rfl (any_of HT_.out (by kernel_rfl)) (fun _ _ _ h => h) (Or.inl ⟨by rfl, ?_⟩) ?_ ?_
      rotate_left
      ·intro w'
       go_simp
       with_reducible rfl
      rotate_left
      ·simp only [Act.put, List.setIfInBounds_toArray, List.set_cons_zero, List.set_cons_succ, i64_w, i32_w]
       rfl
      refine pure_ (i := 11) (N := some 68) (v := ?_) (a' := ?_) #[true, false, false, true, false, false, false, true, false, false, false, true, false, false, false, false, false, false, false, false] rfl rfl (any_of HT_.out (by kernel_rfl)) (fun _ _ _ h => h) (Or.inl ⟨by rfl, ?_⟩) ?_ ?_
      rotate_left
      ·intro w'
       go_simp
       with_reducible rfl
      rotate_left
      ·simp only [Act.put, List.setIfInBounds_toArray, List.set_cons_zero, List.set_cons_succ, i64_w, i32_w]
       rfl
      refine pure_ (i := 15) (N := some 72) (v := ?_) (a' := ?_) #[true, false, false, true, false, false, false, true, false, false, false, true, false, false, false, true, false, false, false, false] rfl rfl (any_of HT_.out (by kernel_rfl)) (fun _ _ _ h => h) (Or.inl ⟨by rfl, ?_⟩) ?_ ?_
      rotate_left
      ·intro w'
       go_simp
       with_reducible rfl
      rotate_left
      ·simp only [Act.put, List.setIfInBounds_toArray, List.set_cons_zero, List.set_cons_succ, i64_w, i32_w]
       rfl
      refine take_ (i := 4) (N := some 61) (v := ?_) (a' := ?_) #[true, false, false, true, true, false, false, true, false, false, false, true, false, false, false, true, false, false, false, false] rfl rfl (take_ofW HT_.out HW_.out (by kernel_rfl)) (fun _ _ _ h => h) (Or.inl ⟨by rfl, ?_⟩) hHeld ?_ ?_
      rotate_left
      ·rintro w' ⟨s0, s1, s2, s3, s4, s5, s6⟩
       go_simp
       with_reducible rfl
      rotate_left
      ·simp only [Act.put, List.setIfInBounds_toArray, List.set_cons_zero, List.set_cons_succ, i64_w, i32_w]
       rfl
      refine take_ (i := 8) (N := some 65) (v := ?_) (a' := ?_) #[true, false, false, true, true, false, false, true, true, false, false, true, false, false, false, true, false, false, false, false] rfl rfl (take_ofW HT_.out HW_.out (by kernel_rfl)) (fun _ _ _ h => h) (Or.inl ⟨by rfl, ?_⟩) hHeld ?_ ?_
      rotate_left
      ·rintro w' ⟨s0, s1, s2, s3, s4, s5, s6⟩
       go_simp
       with_reducible rfl
      rotate_left
      ·simp only [Act.put, List.setIfInBounds_toArray, List.set_cons_zero, List.set_cons_succ, i64_w, i32_w]
       rfl
      refine take_ (i := 12) (N := some 69) (v := ?_) (a' := ?_) #[true, false, false, true, true, false, false, true, true, false, false, true, true, false, false, true, false, false, false, false] rfl rfl (take_ofW HT_.out HW_.out (by kernel_rfl)) (fun _ _ _ h => h) (Or.inl ⟨by rfl, ?_⟩) hHeld ?_ ?_
      rotate_left
      ·rintro w' ⟨s0, s1, s2, s3, s4, s5, s6⟩
       go_simp
       with_reducible rfl
      rotate_left
      ·simp only [Act.put, List.setIfInBounds_toArray, List.set_cons_zero, List.set_cons_succ, i64_w, i32_w]
       rfl
      refine take_ (i := 16) (N := some 73) (v := ?_) (a' := ?_) #[true, false, false, true, true, false, false, true, true, false, false, true, true, false, false, true, true, false, false, false] rfl rfl (take_ofW HT_.out HW_.out (by kernel_rfl)) (fun _ _ _ h => h) (Or.inl ⟨by rfl, ?_⟩) hHeld ?_ ?_
      rotate_left
      ·rintro w' ⟨s0, s1, s2, s3, s4, s5, s6⟩
       go_simp
       with_reducible rfl
      rotate_left
      ·simp only [Act.put, List.setIfInBounds_toArray, List.set_cons_zero, List.set_cons_succ, i64_w, i32_w]
       rfl
      refine one_ (i := 1) (N := some 58) #[true, true, false, true, true, false, false, true, true, false, false, true, true, false, false, true, true, false, false, false] rfl rfl (one_of HT_.out (by kernel_rfl)) (by decide) (fun K hK => ?_)
      refine goes_ Tryd.func83 (by kernel_rfl) rfl #[.int .i64 (-1), .int .i64 0, .int .i64 5, .int .i64 7] (by rfl) rfl rfl (by (try simp only [List.map_toArray, List.map_cons, List.map_nil]); first | done | rfl | (simp only [List.length_drop, List.length_take]; rfl)) ?_
      with_reducible refine (spinnakerref04_bits.calls k (-1) 0 5 7 t265 _ A25.out).mono ?_
      rintro e w' ⟨rfl, ⟨nd, rfl⟩⟩
      refine ⟨_, rfl, ?_⟩
      refine hK.out _ _ ⟨(blk_cell BK253.out 0).trans rfl, (blk_cell BK253.out 1).trans rfl, (blk_cell BK253.out 2).trans rfl, (blk_cell BK253.out 3).trans rfl, (blk_cell BK253.out 4).trans rfl, (blk_cell BK253.out 5).trans rfl, (blk_cell BK253.out 6).trans rfl⟩ (fun hHeld => ?_)
      clear hK K
      refine norm_ (a' := ?_) ?_ ?_
      rotate_left
      ·show Act.put _ (some 58) _ = _
       simp only [Act.put, List.setIfInBounds_toArray, List.set_cons_zero, List.set_cons_succ, i64_w, i32_w]
       rfl
      refine pure_ (i := 2) (N := some 59) (v := ?_) (a' := ?_) #[true, true, true, true, true, false, false, true, true, false, false, true, true, false, false, true, true, false, false, false] rfl rfl (any_of HT_.out (by kernel_rfl)) (fun _ _ _ h => h) (Or.inl ⟨by rfl, ?_⟩) ?_ ?_
      rotate_left
      ·intro w'
       go_simp
       with_reducible rfl
      rotate_left
      ·simp only [Act.put, List.setIfInBounds_toArray, List.set_cons_zero, List.set_cons_succ, i64_w, i32_w]
       rfl
      refine one_ (i := 5) (N := some 62) #[true, true, true, true, true, true, false, true, true, false, false, true, true, false, false, true, true, false, false, false] rfl rfl (one_of HT_.out (by kernel_rfl)) (by decide) (fun K hK => ?_)
      refine goes_ Tryd.func83 (by kernel_rfl) rfl #[.int .i64 a0_4, .int .i64 12, .int .i64 1, .int .i64 31] (by rfl) rfl rfl (by (try simp only [List.map_toArray, List.map_cons, List.map_nil]); first | done | rfl | (simp only [List.length_drop, List.length_take]; rfl)) ?_
      with_reducible refine (spinnakerref04_bits.calls k a0_4 12 1 31 t266 _ A26.out).mono ?_
      rintro e w' ⟨rfl, ⟨nd, rfl⟩⟩
      refine ⟨_, rfl, ?_⟩
      refine hK.out _ _ ⟨(blk_cell BK253.out 0).trans rfl, (blk_cell BK253.out 1).trans rfl, (blk_cell BK253.out 2).trans rfl, (blk_cell BK253.out 3).trans rfl, (blk_cell BK253.out 4).trans rfl, (blk_cell BK253.out 5).trans rfl, (blk_cell BK253.out 6).trans rfl⟩ (fun hHeld => ?_)
      clear hK K
      refine norm_ (a' := ?_) ?_ ?_
      rotate_left
      ·show Act.put _ (some 62) _ = _
       simp only [Act.put, List.setIfInBounds_toArray, List.set_cons_zero, List.set_cons_succ, i64_w, i32_w]
       rfl
      refine pure_ (i := 6) (N := some 63) (v := ?_) (a' := ?_) #[true, true, true, true, true, true, true, true, true, false, false, true, true, false, false, true, true, false, false, false] rfl rfl (any_of HT_.out (by kernel_rfl)) (fun _ _ _ h => h) (Or.inl ⟨by rfl, ?_⟩) ?_ ?_
      rotate_left
      ·intro w'
       go_simp
       with_reducible rfl
      rotate_left
      ·simp only [Act.put, List.setIfInBounds_toArray, List.set_cons_zero, List.set_cons_succ, i64_w, i32_w]
       rfl
      refine one_ (i := 9) (N := some 66) #[true, true, true, true, true, true, true, true, true, true, false, true, true, false, false, true, true, false, false, false] rfl rfl (one_of HT_.out (by kernel_rfl)) (by decide) (fun K hK => ?_)
      refine goes_ Tryd.func83 (by kernel_rfl) rfl #[.int .i64 a0_4, .int .i64 5, .int .i64 6, .int .i64 25] (by rfl) rfl rfl (by (try simp only [List.map_toArray, List.map_cons, List.map_nil]); first | done | rfl | (simp only [List.length_drop, List.length_take]; rfl)) ?_
      with_reducible refine (spinnakerref04_bits.calls k a0_4 5 6 25 t267 _ A27.out).mono ?_
      rintro e w' ⟨rfl, ⟨nd, rfl⟩⟩
      refine ⟨_, rfl, ?_⟩
      refine hK.out _ _ ⟨(blk_cell BK253.out 0).trans rfl, (blk_cell BK253.out 1).trans rfl, (blk_cell BK253.out 2).trans rfl, (blk_cell BK253.out 3).trans rfl, (blk_cell BK253.out 4).trans rfl, (blk_cell BK253.out 5).trans rfl, (blk_cell BK253.out 6).trans rfl⟩ (fun hHeld => ?_)
      clear hK K
      refine norm_ (a' := ?_) ?_ ?_
      rotate_left
      ·show Act.put _ (some 66) _ = _
       simp only [Act.put, List.setIfInBounds_toArray, List.set_cons_zero, List.set_cons_succ, i64_w, i32_w]
       rfl
      refine pure_ (i := 10) (N := some 67) (v := ?_) (a' := ?_) #[true, true, true, true, true, true, true, true, true, true, true, true, true, false, false, true, true, false, false, false] rfl rfl (any_of HT_.out (by kernel_rfl)) (fun _ _ _ h => h) (Or.inl ⟨by rfl, ?_⟩) ?_ ?_
      rotate_left
      ·intro w'
       go_simp
       with_reducible rfl
      rotate_left
      ·simp only [Act.put, List.setIfInBounds_toArray, List.set_cons_zero, List.set_cons_succ, i64_w, i32_w]
       rfl
      refine one_ (i := 13) (N := some 70) #[true, true, true, true, true, true, true, true, true, true, true, true, true, true, false, true, true, false, false, false] rfl rfl (one_of HT_.out (by kernel_rfl)) (by decide) (fun K hK => ?_)
      refine goes_ Tryd.func83 (by kernel_rfl) rfl #[.int .i64 a0_4, .int .i64 1, .int .i64 4, .int .i64 8] (by rfl) rfl rfl (by (try simp only [List.map_toArray, List.map_cons, List.map_nil]); first | done | rfl | (simp only [List.length_drop, List.length_take]; rfl)) ?_
      with_reducible refine (spinnakerref04_bits.calls k a0_4 1 4 8 t268 _ A28.out).mono ?_
      rintro e w' ⟨rfl, ⟨nd, rfl⟩⟩
      refine ⟨_, rfl, ?_⟩
      refine hK.out _ _ ⟨(blk_cell BK253.out 0).trans rfl, (blk_cell BK253.out 1).trans rfl, (blk_cell BK253.out 2).trans rfl, (blk_cell BK253.out 3).trans rfl, (blk_cell BK253.out 4).trans rfl, (blk_cell BK253.out 5).trans rfl, (blk_cell BK253.out 6).trans rfl⟩ (fun hHeld => ?_)
      clear hK K
      refine norm_ (a' := ?_) ?_ ?_
      rotate_left
      ·show Act.put _ (some 70) _ = _
       simp only [Act.put, List.setIfInBounds_toArray, List.set_cons_zero, List.set_cons_succ, i64_w, i32_w]
       rfl
      refine pure_ (i := 14) (N := some 71) (v := ?_) (a' := ?_) (fl 20 17) rfl rfl (any_of HT_.out (by kernel_rfl)) (fun _ _ _ h => h) (Or.inl ⟨by rfl, ?_⟩) ?_ ?_
      rotate_left
      ·intro w'
       go_simp
       with_reducible rfl
      rotate_left
      ·simp only [Act.put, List.setIfInBounds_toArray, List.set_cons_zero, List.set_cons_succ, i64_w, i32_w]
       rfl
      refine one_ (i := 17) (N := some 74) (fl 20 18) rfl rfl (one_of HT_.out (by kernel_rfl)) (by decide) (fun K hK => ?_)
      refine goes_ Tryd.func83 (by kernel_rfl) rfl #[.int .i64 a0_4, .int .i64 11, .int .i64 1, .int .i64 7] (by rfl) rfl rfl (by (try simp only [List.map_toArray, List.map_cons, List.map_nil]); first | done | rfl | (simp only [List.length_drop, List.length_take]; rfl)) ?_
      with_reducible refine (spinnakerref04_bits.calls k a0_4 11 1 7 t269 _ A29.out).mono ?_
      rintro e w' ⟨rfl, ⟨nd, rfl⟩⟩
      refine ⟨_, rfl, ?_⟩
      refine hK.out _ _ ⟨(blk_cell BK253.out 0).trans rfl, (blk_cell BK253.out 1).trans rfl, (blk_cell BK253.out 2).trans rfl, (blk_cell BK253.out 3).trans rfl, (blk_cell BK253.out 4).trans rfl, (blk_cell BK253.out 5).trans rfl, (blk_cell BK253.out 6).trans rfl⟩ (fun hHeld => ?_)
      clear hK K
      refine norm_ (a' := ?_) ?_ ?_
      rotate_left
      ·show Act.put _ (some 74) _ = _
       simp only [Act.put, List.setIfInBounds_toArray, List.set_cons_zero, List.set_cons_succ, i64_w, i32_w]
       rfl
      refine pure_ (i := 18) (N := some 75) (v := ?_) (a' := ?_) (fl 20 19) rfl rfl (any_of HT_.out (by kernel_rfl)) (fun _ _ _ h => h) (Or.inl ⟨by rfl, ?_⟩) ?_ ?_
      rotate_left
      ·intro w'
       go_simp
       with_reducible rfl
      rotate_left
      ·simp only [Act.put, List.setIfInBounds_toArray, List.set_cons_zero, List.set_cons_succ, i64_w, i32_w]
       rfl
      refine pure_ (i := 19) (N := some 3) (v := ?_) (a' := ?_) (fl 20 20) rfl rfl (any_of HT_.out (by kernel_rfl)) (fun _ _ _ h => h) (Or.inl ⟨by rfl, ?_⟩) ?_ ?_
      rotate_left
      ·intro w'
       go_simp
       with_reducible rfl
      rotate_left
      ·simp only [Act.put, List.setIfInBounds_toArray, List.set_cons_zero, List.set_cons_succ, i64_w, i32_w]
       rfl
      refine done_ (done_of HT_.out (by kernel_rfl)) ?_
      try go_wp2
      go_meet
      case rel => exact ⟨_, (Go.bits .or .u32 (Go.bits .or .u32 (Go.bits .or .u32 (Go.bits .or .u32 (Go.bits .andNot .u32 (Go.bits .or .u32 (Go.bits .or .u32 (Go.bits .or .u32 t254 t255) t256) t257) t265) t266) t267) t268) t269), (by first | rfl | (simp; done) | (simp [*]; done)), H', ⟨by first | omega | exact Nat.le_refl _⟩, ⟨by (with_reducible repeat (first | refine blk_drewN ?_ _ | refine blk_drew ?_ | refine blk_alloc ?_ _)); exact BK253.out⟩, ⟨by repeat (first | (with_reducible first | exact HB.out | apply below_alloc | apply pw_below_drewN | apply below_drew1 | refine below_set ?_ GE253.out) | exact HB.out)⟩⟩
     ·rw [if_neg c24] at H
      have c24b0 : (t258 == 4) = false := beq_eq_false_iff_ne.mpr c24
      have c24b1 : (t258 != 4) = true := bne_iff_ne.mpr c24
      by_cases c31 : t258 = 5
      ·rw [if_pos c31] at H
       have c31b0 : (t258 == 5) = true := beq_iff_eq.mpr c31
       have c31b1 : (t258 != 5) = false := bne_eq_false_iff_eq.mpr c31
       clear c31
       replace H := Option.bind_eq_some_iff.mp H
       obtain ⟨t270, A320, H⟩ := H
       replace H : ((spinnakerref04_bits.f k a0_4 5 7 25).bind fun t271 => ((spinnakerref04_bits.f k a0_4 0 5 7).bind fun t272 => (spinnakerref04_Encode.j0 k (Go.bits .or .u32 (Go.bits .or .u32 (Go.bits .andNot .u32 (Go.bits .or .u32 (Go.bits .or .u32 (Go.bits .or .u32 t254 t255) t256) t257) t270) t271) t272) a0_0 a0_1 a0_2 a0_3 a0_4 a0_5 a0_6))) = some r := H
       have A32 := Aside0.mk A320
       clear A320
       replace H := Option.bind_eq_some_iff.mp H
       obtain ⟨t271, A330, H⟩ := H
       replace H : ((spinnakerref04_bits.f k a0_4 0 5 7).bind fun t272 => (spinnakerref04_Encode.j0 k (Go.bits .or .u32 (Go.bits .or .u32 (Go.bits .andNot .u32 (Go.bits .or .u32 (Go.bits .or .u32 (Go.bits .or .u32 t254 t255) t256) t257) t270) t271) t272) a0_0 a0_1 a0_2 a0_3 a0_4 a0_5 a0_6)) = some r := H
       have A33 := Aside0.mk A330
       clear A330
       replace H := Option.bind_eq_some_iff.mp H
       obtain ⟨t272, A340, H⟩ := H
       replace H : (spinnakerref04_Encode.j0 k (Go.bits .or .u32 (Go.bits .or .u32 (Go.bits .andNot .u32 (Go.bits .or .u32 (Go.bits .or .u32 (Go.bits .or .u32 t254 t255) t256) t257) t270) t271) t272) a0_0 a0_1 a0_2 a0_3 a0_4 a0_5 a0_6) = some r := H
       have A34 := Aside0.mk A340
       clear A340
       have H' := Aside0.mk H
       clear H
       try go_wp2
       have n0_ := Aside0.mk (blk_drew BK253.out)
       have n1_ := Aside0.mk (below_drew1 HB.out)
       clear BK253
       clear HB
       have BK253 := n0_
       have HB := n1_
       clear n0_ n1_
       refine start_ (n := 12) (S := fun w' => w'.cell? ⟨gb253, 0, none⟩ = some (.int .i64 a0_0) ∧ w'.cell? ⟨gb253, 1, none⟩ = some (.int .i64 a0_1) ∧ w'.cell? ⟨gb253, 2, none⟩ = some (.int .i64 a0_2) ∧ w'.cell? ⟨gb253, 3, none⟩ = some (.int .i64 a0_3) ∧ w'.cell? ⟨gb253, 4, none⟩ = some (.int .i64 a0_4) ∧ w'.cell? ⟨gb253, 5, none⟩ = some (.bool a0_5) ∧ w'.cell? ⟨gb253, 6, none⟩ = some (.bool a0_6)) (ds := []) (fl 12 0) (by kernel_rfl) rfl rfl ⟨(blk_cell BK253.out 0).trans rfl, (blk_cell BK253.out 1).trans rfl, (blk_cell BK253.out 2).trans rfl, (blk_cell BK253.out 3).trans rfl, (blk_cell BK253.out 4).trans rfl, (blk_cell BK253.out 5).trans rfl, (blk_cell BK253.out 6).trans rfl⟩ (fun hHeld => ?_); refine with_tabW spinnakerref04_Encode.tab12 spinnakerref04_Encode.bits12 (fun HT_ HW_ => ?_)
       generalize hwq : World.drew (World.drewN _ _) = w35 at hHeld ⊢
       have n0_ : Aside0 (w35.heap[gb253]? = some (.cells #[.int .i64 a0_0, .int .i64 a0_1, .int .i64 a0_2, .int .i64 a0_3, .int .i64 a0_4, .bool a0_5, .bool a0_6] 51 (0, 0))) := ⟨by rw [← hwq]; exact BK253.out⟩
       have n1_ : Aside0 (Below w.heap.size w w35) := ⟨by rw [← hwq]; exact ⟨HB.out.os, HB.out.tape, HB.out.output, HB.out.size, HB.out.block⟩⟩
       clear BK253 HB hwq
       have BK253 := n0_
       have HB := n1_
       clear n0_ n1_
       refine pure_ (i := 0) (N := some 78) (v := ?_) (a' := ?_) (fl 12 1) rfl rfl (any_of HT_.out (by kernel_rfl)) (fun _ _ _ h => h) (Or.inl ⟨by rfl, ?_⟩) ?_ ?_
       rotate_left
       ·intro w'
        go_simp
        with_reducible rfl
       rotate_left
       ·simp only [Act.put, List.setIfInBounds_toArray, List.set_cons_zero, List.set_cons_succ, i64_w, i32_w]
        rfl
       refine pure_ (i := 3) (N := some 81) (v := ?_) (a' := ?_) #[true, false, false, true, false, false, false, false, false, false, false, false] rfl rfl (any_of HT_.out (by kernel_rfl)) (fun _ _ _ h => h) (Or.inl ⟨by rfl, ?_⟩) ?_ ?_
       rotate_left
       ·intro w'
        go_simp
        with_reducible rfl
       rotate_left
       ·simp only [Act.put, List.setIfInBounds_toArray, List.set_cons_zero, List.set_cons_succ, i64_w, i32_w]
        rfl
       refine pure_ (i := 7) (N := some 85) (v := ?_) (a' := ?_) #[true, false, false, true, false, false, false, true, false, false, false, false] rfl rfl (any_of HT_.out (by kernel_rfl)) (fun _ _ _ h => h) (Or.inl ⟨by rfl, ?_⟩) ?_ ?_
       rotate_left
       ·intro w'
        go_simp
        with_reducible rfl
       rotate_left
       ·simp only [Act.put, List.setIfInBounds_toArray, List.set_cons_zero, List.set_cons_succ, i64_w, i32_w]
        rfl
       refine take_ (i := 4) (N := some 82) (v := ?_) (a' := ?_) #[true, false, false, true, true, false, false, true, false, false, false, false] rfl rfl (take_ofW HT_.out HW_.out (by kernel_rfl)) (fun _ _ _ h => h) (Or.inl ⟨by rfl, ?_⟩) hHeld ?_ ?_
       rotate_left
       ·rintro w' ⟨s0, s1, s2, s3, s4, s5, s6⟩
        go_simp
        with_reducible rfl
       rotate_left
       ·simp only [Act.put, List.setIfInBounds_toArray, List.set_cons_zero, List.set_cons_succ, i64_w, i32_w]
        rfl
       refine take_ (i := 8) (N := some 86) (v := ?_) (a' := ?_) #[true, false, false, true, true, false, false, true, true, false, false, false] rfl rfl (take_ofW HT_.out HW_.out (by kernel_rfl)) (fun _ _ _ h => h) (Or.inl ⟨by rfl, ?_⟩) hHeld ?_ ?_
       rotate_left
       ·rintro w' ⟨s0, s1, s2, s3, s4, s5, s6⟩
        go_simp
        with_reducible rfl
       rotate_left
       ·simp only [Act.put, List.setIfInBounds_toArray, List.set_cons_zero, List.set_cons_succ, i64_w, i32_w]
        rfl
       refine one_ (i := 1) (N := some 79) #[true, true, false, true, true, false, false, true, true, false, false, false] rfl rfl (one_of HT_.out (by kernel_rfl)) (by decide) (fun K hK => ?_)
       refine goes_ Tryd.func83 (by kernel_rfl) rfl #[.int .i64 (-1), .int .i64 0, .int .i64 5, .int .i64 7] (by rfl) rfl rfl (by (try simp only [List.map_toArray, List.map_cons, List.map_nil]); first | done | rfl | (simp only [List.length_drop, List.length_take]; rfl)) ?_
       with_reducible refine (spinnakerref04_bits.calls k (-1) 0 5 7 t270 _ A32.out).mono ?_
       rintro e w' ⟨rfl, ⟨nd, rfl⟩⟩
       refine ⟨_, rfl, ?_⟩
       refine hK.out _ _ ⟨(blk_cell BK253.out 0).trans rfl, (blk_cell BK253.out 1).trans rfl, (blk_cell BK253.out 2).trans rfl, (blk_cell BK253.out 3).trans rfl, (blk_cell BK253.out 4).trans rfl, (blk_cell BK253.out 5).trans rfl, (blk_cell BK253.out 6).trans rfl⟩ (fun hHeld => ?_)
       clear hK K
       refine norm_ (a' := ?_) ?_ ?_
       rotate_left
       ·show Act.put _ (some 79) _ = _
        simp only [Act.put, List.setIfInBounds_toArray, List.set_cons_zero, List.set_cons_succ, i64_w, i32_w]
        rfl
       refine pure_ (i := 2) (N := some 80) (v := ?_) (a' := ?_) #[true, true, true, true, true, false, false, true, true, false, false, false] rfl rfl (any_of HT_.out (by kernel_rfl)) (fun _ _ _ h => h) (Or.inl ⟨by rfl, ?_⟩) ?_ ?_
       rotate_left
       ·intro w'
        go_simp
        with_reducible rfl
       rotate_left
       ·simp only [Act.put, List.setIfInBounds_toArray, List.set_cons_zero, List.set_cons_succ, i64_w, i32_w]
        rfl
       refine one_ (i := 5) (N := some 83) #[true, true, true, true, true, true, false, true, true, false, false, false] rfl rfl (one_of HT_.out (by kernel_rfl)) (by decide) (fun K hK => ?_)
       refine goes_ Tryd.func83 (by kernel_rfl) rfl #[.int .i64 a0_4, .int .i64 5, .int .i64 7, .int .i64 25] (by rfl) rfl rfl (by (try simp only [List.map_toArray, List.map_cons, List.map_nil]); first | done | rfl | (simp only [List.length_drop, List.length_take]; rfl)) ?_
       with_reducible refine (spinnakerref04_bits.calls k a0_4 5 7 25 t271 _ A33.out).mono ?_
       rintro e w' ⟨rfl, ⟨nd, rfl⟩⟩
       refine ⟨_, rfl, ?_⟩
       refine hK.out _ _ ⟨(blk_cell BK253.out 0).trans rfl, (blk_cell BK253.out 1).trans rfl, (blk_cell BK253.out 2).trans rfl, (blk_cell BK253.out 3).trans rfl, (blk_cell BK253.out 4).trans rfl, (blk_cell BK253.out 5).trans rfl, (blk_cell BK253.out 6).trans rfl⟩ (fun hHeld => ?_)
       clear hK K
       refine norm_ (a' := ?_) ?_ ?_
       rotate_left
       ·show Act.put _ (some 83) _ = _
        simp only [Act.put, List.setIfInBounds_toArray, List.set_cons_zero, List.set_cons_succ, i64_w, i32_w]
        rfl
       refine pure_ (i := 6) (N := some 84) (v := ?_) (a' := ?_) (fl 12 9) rfl rfl (any_of HT_.out (by kernel_rfl)) (fun _ _ _ h => h) (Or.inl ⟨by rfl, ?_⟩) ?_ ?_
       rotate_left
       ·intro w'
        go_simp
        with_reducible rfl
       rotate_left
       ·simp only [Act.put, List.setIfInBounds_toArray, List.set_cons_zero, List.set_cons_succ, i64_w, i32_w]
        rfl
       refine one_ (i := 9) (N := some 87) (fl 12 10) rfl rfl (one_of HT_.out (by kernel_rfl)) (by decide) (fun K hK => ?_)
       refine goes_ Tryd.func83 (by kernel_rfl) rfl #[.int .i64 a0_4, .int .i64 0, .int .i64 5, .int .i64 7] (by rfl) rfl rfl (by (try simp only [List.map_toArray, List.map_cons, List.map_nil]); first | done | rfl | (simp only [List.length_drop, List.length_take]; rfl)) ?_
       with_reducible refine (spinnakerref04_bits.calls k a0_4 0 5 7 t272 _ A34.out).mono ?_
       rintro e w' ⟨rfl, ⟨nd, rfl⟩⟩
       refine ⟨_, rfl, ?_⟩
       refine hK.out _ _ ⟨(blk_cell BK253.out 0).trans rfl, (blk_cell BK253.out 1).trans rfl, (blk_cell BK253.out 2).trans rfl, (blk_cell BK253.out 3).trans rfl, (blk_cell BK253.out 4).trans rfl, (blk_cell BK253.out 5).trans rfl, (blk_cell BK253.out 6).trans rfl⟩ (fun hHeld => ?_)
       clear hK K
       refine norm_ (a' := ?_) ?_ ?_
       rotate_left
       ·show Act.put _ (some 87) _ = _
        simp only [Act.put, List.setIfInBounds_toArray, List.set_cons_zero, List.set_cons_succ, i64_w, i32_w]
        rfl
       refine pure_ (i := 10) (N := some 88) (v := ?_) (a' := ?_) (fl 12 11) rfl rfl (any_of HT_.out (by kernel_rfl)) (fun _ _ _ h => h) (Or.inl ⟨by rfl, ?_⟩) ?_ ?_
       rotate_left
       ·intro w'
        go_simp
        with_reducible rfl
       rotate_left
       ·simp only [Act.put, List.setIfInBounds_toArray, List.set_cons_zero, List.set_cons_succ, i64_w, i32_w]
        rfl
       refine pure_ (i := 11) (N := some 3) (v := ?_) (a' := ?_) (fl 12 12) rfl rfl (any_of HT_.out (by kernel_rfl)) (fun _ _ _ h => h) (Or.inl ⟨by rfl, ?_⟩) ?_ ?_
       rotate_left
       ·intro w'
        go_simp
        with_reducible rfl
       rotate_left
       ·simp only [Act.put, List.setIfInBounds_toArray, List.set_cons_zero, List.set_cons_succ, i64_w, i32_w]
        rfl
       refine done_ (done_of HT_.out (by kernel_rfl)) ?_
       try go_wp2
       go_meet
       case rel => exact ⟨_, (Go.bits .or .u32 (Go.bits .or .u32 (Go.bits .andNot .u32 (Go.bits .or .u32 (Go.bits .or .u32 (Go.bits .or .u32 t254 t255) t256) t257) t270) t271) t272), (by first | rfl | (simp; done) | (simp [*]; done)), H', ⟨by first | omega | exact Nat.le_refl _⟩, ⟨by (with_reducible repeat (first | refine blk_drewN ?_ _ | refine blk_drew ?_ | refine blk_alloc ?_ _)); exact BK253.out⟩, ⟨by repeat (first | (with_reducible first | exact HB.out | apply below_alloc | apply pw_below_drewN | apply below_drew1 | refine below_set ?_ GE253.out) | exact HB.out)⟩⟩
      ·rw [if_neg c31] at H
       have c31b0 : (t258 == 5) = false := beq_eq_false_iff_ne.mpr c31
       have c31b1 : (t258 != 5) = true := bne_iff_ne.mpr c31
       by_cases c36 : t258 = 7
       ·rw [if_pos c36] at H
        have c36b0 : (t258 == 7) = true := beq_iff_eq.mpr c36
        have c36b1 : (t258 != 7) = false := bne_eq_false_iff_eq.mpr c36
        clear c36
        replace H := Option.bind_eq_some_iff.mp H
        obtain ⟨t273, A370, H⟩ := H
        replace H : (spinnakerref04_Encode.j0 k (Go.bits .or .u32 (Go.bits .or .u32 (Go.bits .or .u32 (Go.bits .or .u32 t254 t255) t256) t257) t273) a0_0 a0_1 a0_2 a0_3 a0_4 a0_5 a0_6) = some r := H
        have A37 := Aside0.mk A370
        clear A370
        have H' := Aside0.mk H
        clear H
        have hcz38_0 : w10.cell? ⟨gb253, 0, none⟩ = some (.int .i64 a0_0) := (blk_cell BK253.out 0).trans rfl
        have hcz38_1 : w10.cell? ⟨gb253, 1, none⟩ = some (.int .i64 a0_1) := (blk_cell BK253.out 1).trans rfl
        have hcz38_2 : w10.cell? ⟨gb253, 2, none⟩ = some (.int .i64 a0_2) := (blk_cell BK253.out 2).trans rfl
        have hcz38_3 : w10.cell? ⟨gb253, 3, none⟩ = some (.int .i64 a0_3) := (blk_cell BK253.out 3).trans rfl
        have hcz38_4 : w10.cell? ⟨gb253, 4, none⟩ = some (.int .i64 a0_4) := (blk_cell BK253.out 4).trans rfl
        have hcz38_5 : w10.cell? ⟨gb253, 5, none⟩ = some (.bool a0_5) := (blk_cell BK253.out 5).trans rfl
        have hcz38_6 : w10.cell? ⟨gb253, 6, none⟩ = some (.bool a0_6) := (blk_cell BK253.out 6).trans rfl
        have hfz38_0 := blk_frozen BK253.out 0
        have hfz38_1 := blk_frozen BK253.out 1
        have hfz38_2 := blk_frozen BK253.out 2
        have hfz38_3 := blk_frozen BK253.out 3
        have hfz38_4 := blk_frozen BK253.out 4
        have hfz38_5 := blk_frozen BK253.out 5
        have hfz38_6 := blk_frozen BK253.out 6
        go_wp2_with (first | ((with_reducible refine gate_callee (f := 83) rfl ?_); refine goesL_ (some 94) rfl rfl Tryd.func83 (by kernel_rfl) rfl #[.int .i64 a0_4, .int .i64 0, .int .i64 6, .int .i64 20] rfl (by (try simp only [List.map_toArray, List.map_cons, List.map_nil]); first | done | rfl | (simp only [List.length_drop, List.length_take]; rfl)) ?_; (with_reducible refine (spinnakerref04_bits.calls k a0_4 0 6 20 t273 _ A37.out).mono ?_); rintro e w' ⟨rfl, ⟨nd, rfl⟩⟩; refine ⟨_, rfl, ?_⟩))
        go_meet
        case rel => exact ⟨_, (Go.bits .or .u32 (Go.bits .or .u32 (Go.bits .or .u32 (Go.bits .or .u32 t254 t255) t256) t257) t273), (by first | rfl | (simp; done) | (simp [*]; done)), H', ⟨by first | omega | exact Nat.le_refl _⟩, ⟨by (with_reducible repeat (first | refine blk_drewN ?_ _ | refine blk_drew ?_ | refine blk_alloc ?_ _)); exact BK253.out⟩, ⟨by repeat (first | (with_reducible first | exact HB.out | apply below_alloc | apply pw_below_drewN | apply below_drew1 | refine below_set ?_ GE253.out) | exact HB.out)⟩⟩
       ·rw [if_neg c36] at H
        have c36b0 : (t258 == 7) = false := beq_eq_false_iff_ne.mpr c36
        have c36b1 : (t258 != 7) = true := bne_iff_ne.mpr c36
        by_cases c39 : t258 = 8
        ·rw [if_pos c39] at H
         have c39b0 : (t258 == 8) = true := beq_iff_eq.mpr c39
         have c39b1 : (t258 != 8) = false := bne_eq_false_iff_eq.mpr c39
         clear c39
         replace H := Option.bind_eq_some_iff.mp H
         obtain ⟨t274, A400, H⟩ := H
         replace H : (spinnakerref04_Encode.j0 k (Go.bits .or .u32 (Go.bits .or .u32 (Go.bits .or .u32 (Go.bits .or .u32 t254 t255) t256) t257) t274) a0_0 a0_1 a0_2 a0_3 a0_4 a0_5 a0_6) = some r := H
         have A40 := Aside0.mk A400
         clear A400
         have H' := Aside0.mk H
         clear H
         have hcz41_0 : w10.cell? ⟨gb253, 0, none⟩ = some (.int .i64 a0_0) := (blk_cell BK253.out 0).trans rfl
         have hcz41_1 : w10.cell? ⟨gb253, 1, none⟩ = some (.int .i64 a0_1) := (blk_cell BK253.out 1).trans rfl
         have hcz41_2 : w10.cell? ⟨gb253, 2, none⟩ = some (.int .i64 a0_2) := (blk_cell BK253.out 2).trans rfl
         have hcz41_3 : w10.cell? ⟨gb253, 3, none⟩ = some (.int .i64 a0_3) := (blk_cell BK253.out 3).trans rfl
         have hcz41_4 : w10.cell? ⟨gb253, 4, none⟩ = some (.int .i64 a0_4) := (blk_cell BK253.out 4).trans rfl
         have hcz41_5 : w10.cell? ⟨gb253, 5, none⟩ = some (.bool a0_5) := (blk_cell BK253.out 5).trans rfl
         have hcz41_6 : w10.cell? ⟨gb253, 6, none⟩ = some (.bool a0_6) := (blk_cell BK253.out 6).trans rfl
         have hfz41_0 := blk_frozen BK253.out 0
         have hfz41_1 := blk_frozen BK253.out 1
         have hfz41_2 := blk_frozen BK253.out 2
         have hfz41_3 := blk_frozen BK253.out 3
         have hfz41_4 := blk_frozen BK253.out 4
         have hfz41_5 := blk_frozen BK253.out 5
         have hfz41_6 := blk_frozen BK253.out 6
         go_wp2_with (first | ((with_reducible refine gate_callee (f := 83) rfl ?_); refine goesL_ (some 101) rfl rfl Tryd.func83 (by kernel_rfl) rfl #[.int .i64 a0_4, .int .i64 0, .int .i64 5, .int .i64 20] rfl (by (try simp only [List.map_toArray, List.map_cons, List.map_nil]); first | done | rfl | (simp only [List.length_drop, List.length_take]; rfl)) ?_; (with_reducible refine (spinnakerref04_bits.calls k a0_4 0 5 20 t274 _ A40.out).mono ?_); rintro e w' ⟨rfl, ⟨nd, rfl⟩⟩; refine ⟨_, rfl, ?_⟩))
         go_meet
         case rel => exact ⟨_, (Go.bits .or .u32 (Go.bits .or .u32 (Go.bits .or .u32 (Go.bits .or .u32 t254 t255) t256) t257) t274), (by first | rfl | (simp; done) | (simp [*]; done)), H', ⟨by first | omega | exact Nat.le_refl _⟩, ⟨by (with_reducible repeat (first | refine blk_drewN ?_ _ | refine blk_drew ?_ | refine blk_alloc ?_ _)); exact BK253.out⟩, ⟨by repeat (first | (with_reducible first | exact HB.out | apply below_alloc | apply pw_below_drewN | apply below_drew1 | refine below_set ?_ GE253.out) | exact HB.out)⟩⟩
        ·rw [if_neg c39] at H
         have c39b0 : (t258 == 8) = false := beq_eq_false_iff_ne.mpr c39
         have c39b1 : (t258 != 8) = true := bne_iff_ne.mpr c39
         by_cases c42 : t258 = 9
         ·rw [if_pos c42] at H
          have c42b0 : (t258 == 9) = true := beq_iff_eq.mpr c42
          have c42b1 : (t258 != 9) = false := bne_eq_false_iff_eq.mpr c42
          clear c42
          replace H := Option.bind_eq_some_iff.mp H
          obtain ⟨t275, A430, H⟩ := H
          replace H : (spinnakerref04_Encode.j0 k (Go.bits .or .u32 (Go.bits .or .u32 (Go.bits .or .u32 (Go.bits .or .u32 t254 t255) t256) t257) t275) a0_0 a0_1 a0_2 a0_3 a0_4 a0_5 a0_6) = some r := H
          have A43 := Aside0.mk A430
          clear A430
          have H' := Aside0.mk H
          clear H
          have hcz44_0 : w10.cell? ⟨gb253, 0, none⟩ = some (.int .i64 a0_0) := (blk_cell BK253.out 0).trans rfl
          have hcz44_1 : w10.cell? ⟨gb253, 1, none⟩ = some (.int .i64 a0_1) := (blk_cell BK253.out 1).trans rfl
          have hcz44_2 : w10.cell? ⟨gb253, 2, none⟩ = some (.int .i64 a0_2) := (blk_cell BK253.out 2).trans rfl
          have hcz44_3 : w10.cell? ⟨gb253, 3, none⟩ = some (.int .i64 a0_3) := (blk_cell BK253.out 3).trans rfl
          have hcz44_4 : w10.cell? ⟨gb253, 4, none⟩ = some (.int .i64 a0_4) := (blk_cell BK253.out 4).trans rfl
          have hcz44_5 : w10.cell? ⟨gb253, 5, none⟩ = some (.bool a0_5) := (blk_cell BK253.out 5).trans rfl
          have hcz44_6 : w10.cell? ⟨gb253, 6, none⟩ = some (.bool a0_6) := (blk_cell BK253.out 6).trans rfl
          have hfz44_0 := blk_frozen BK253.out 0
          have hfz44_1 := blk_frozen BK253.out 1
          have hfz44_2 := blk_frozen BK253.out 2
          have hfz44_3 := blk_frozen BK253.out 3
          have hfz44_4 := blk_frozen BK253.out 4
          have hfz44_5 := blk_frozen BK253.out 5
          have hfz44_6 := blk_frozen BK253.out 6
          go_wp2_with (first | ((with_reducible refine gate_callee (f := 83) rfl ?_); refine goesL_ (some 108) rfl rfl Tryd.func83 (by kernel_rfl) rfl #[.int .i64 a0_4, .int .i64 0, .int .i64 8, .int .i64 20] rfl (by (try simp only [List.map_toArray, List.map_cons, List.map_nil]); first | done | rfl | (simp only [List.length_drop, List.length_take]; rfl)) ?_; (with_reducible refine (spinnakerref04_bits.calls k a0_4 0 8 20 t275 _ A43.out).mono ?_); rintro e w' ⟨rfl, ⟨nd, rfl⟩⟩; refine ⟨_, rfl, ?_⟩))
          go_meet
          case rel => exact ⟨_, (Go.bits .or .u32 (Go.bits .or .u32 (Go.bits .or .u32 (Go.bits .or .u32 t254 t255) t256) t257) t275), (by first | rfl | (simp; done) | (simp [*]; done)), H', ⟨by first | omega | exact Nat.le_refl _⟩, ⟨by (with_reducible repeat (first | refine blk_drewN ?_ _ | refine blk_drew ?_ | refine blk_alloc ?_ _)); exact BK253.out⟩, ⟨by repeat (first | (with_reducible first | exact HB.out | apply below_alloc | apply pw_below_drewN | apply below_drew1 | refine below_set ?_ GE253.out) | exact HB.out)⟩⟩
         ·rw [if_neg c42] at H
          have c42b0 : (t258 == 9) = false := beq_eq_false_iff_ne.mpr c42
          have c42b1 : (t258 != 9) = true := bne_iff_ne.mpr c42
          have H' := Aside0.mk H
          clear H
          go_wp2
          go_meet
          case rel => exact ⟨_, (Go.bits .or .u32 (Go.bits .or .u32 (Go.bits .or .u32 t254 t255) t256) t257), (by first | rfl | (simp; done) | (simp [*]; done)), H', ⟨by first | omega | exact Nat.le_refl _⟩, ⟨by (with_reducible repeat (first | refine blk_drewN ?_ _ | refine blk_drew ?_ | refine blk_alloc ?_ _)); exact BK253.out⟩, ⟨by repeat (first | (with_reducible first | exact HB.out | apply below_alloc | apply pw_below_drewN | apply below_drew1 | refine below_set ?_ GE253.out) | exact HB.out)⟩⟩
 case rest =>
  clear HC7
  try clear c1
  try clear c2
  try clear p2
  try clear c3
  try clear c4
  try clear c8
  try clear c15
  try clear c15b0
  try clear c15b1
  try clear c21
  try clear c21b0
  try clear c21b1
  try clear c24
  try clear c24b0
  try clear c24b1
  try clear c31
  try clear c31b0
  try clear c31b1
  try clear c36
  try clear c36b0
  try clear c36b1
  try clear c39
  try clear c39b0
  try clear c39b1
  try clear c42
  try clear c42b0
  try clear c42b1
  try clear hcz23_0
  try clear hcz23_1
  try clear hcz23_2
  try clear hcz23_3
  try clear hcz23_4
  try clear hcz23_5
  try clear hcz23_6
  try clear hcz38_0
  try clear hcz38_1
  try clear hcz38_2
  try clear hcz38_3
  try clear hcz38_4
  try clear hcz38_5
  try clear hcz38_6
  try clear hcz41_0
  try clear hcz41_1
  try clear hcz41_2
  try clear hcz41_3
  try clear hcz41_4
  try clear hcz41_5
  try clear hcz41_6
  try clear hcz44_0
  try clear hcz44_1
  try clear hcz44_2
  try clear hcz44_3
  try clear hcz44_4
  try clear hcz44_5
  try clear hcz44_6
  try clear hfz23_0
  try clear hfz23_1
  try clear hfz23_2
  try clear hfz23_3
  try clear hfz23_4
  try clear hfz23_5
  try clear hfz23_6
  try clear hfz38_0
  try clear hfz38_1
  try clear hfz38_2
  try clear hfz38_3
  try clear hfz38_4
  try clear hfz38_5
  try clear hfz38_6
  try clear hfz41_0
  try clear hfz41_1
  try clear hfz41_2
  try clear hfz41_3
  try clear hfz41_4
  try clear hfz41_5
  try clear hfz41_6
  try clear hfz44_0
  try clear hfz44_1
  try clear hfz44_2
  try clear hfz44_3
  try clear hfz44_4
  try clear hfz44_5
  try clear hfz44_6
  obtain ⟨kq, x3_6, rfl, HA, HJ6, BK253, HB⟩ := hcut
  cases kq with
  | zero => exact absurd HA.out (by simp [spinnakerref04_Encode.j0])
  | succ kj6 =>
   have H := HA.out
   clear HA
   simp only [spinnakerref04_Encode.j0] at H
   by_cases c45 : a0_5 = true
   ·subst c45
    have H1 : (if a0_6 = true then (some (Go.bits .or .u32 (Go.bits .or .u32 x3_6 67108864) 33554432)) else (some (Go.bits .or .u32 x3_6 67108864))) = some r := by rw [if_pos rfl] at H; exact H
    clear H
    have H := H1
    clear H1
    by_cases c46 : a0_6 = true
    ·subst c46
     have H1 : (some (Go.bits .or .u32 (Go.bits .or .u32 x3_6 67108864) 33554432)) = some r := by rw [if_pos rfl] at H; exact H
     clear H
     have H := H1
     clear H1
     obtain rfl := Option.some.inj H
     have hcz47_0 : wc.cell? ⟨gb253, 0, none⟩ = some (.int .i64 a0_0) := (blk_cell BK253.out 0).trans rfl
     have hcz47_1 : wc.cell? ⟨gb253, 1, none⟩ = some (.int .i64 a0_1) := (blk_cell BK253.out 1).trans rfl
     have hcz47_2 : wc.cell? ⟨gb253, 2, none⟩ = some (.int .i64 a0_2) := (blk_cell BK253.out 2).trans rfl
     have hcz47_3 : wc.cell? ⟨gb253, 3, none⟩ = some (.int .i64 a0_3) := (blk_cell BK253.out 3).trans rfl
     have hcz47_4 : wc.cell? ⟨gb253, 4, none⟩ = some (.int .i64 a0_4) := (blk_cell BK253.out 4).trans rfl
     have hcz47_5 : wc.cell? ⟨gb253, 5, none⟩ = some (.bool true) := (blk_cell BK253.out 5).trans rfl
     have hcz47_6 : wc.cell? ⟨gb253, 6, none⟩ = some (.bool true) := (blk_cell BK253.out 6).trans rfl
     have hfz47_0 := blk_frozen BK253.out 0
     have hfz47_1 := blk_frozen BK253.out 1
     have hfz47_2 := blk_frozen BK253.out 2
     have hfz47_3 := blk_frozen BK253.out 3
     have hfz47_4 := blk_frozen BK253.out 4
     have hfz47_5 := blk_frozen BK253.out 5
     have hfz47_6 := blk_frozen BK253.out 6
     go_wp2
     go_ret
     exact ⟨by first | rfl | (simp [errW_none, errW_some] <;> rfl) | (simp [*, errW_none, errW_some] <;> rfl), by repeat (first | (with_reducible first | exact HB.out | apply below_alloc | apply pw_below_drewN | apply below_drew1 | refine below_set ?_ GE253.out) | exact HB.out)⟩
    ·replace c46 := Bool.eq_false_iff.mpr c46
     subst c46
     have H1 : (some (Go.bits .or .u32 x3_6 67108864)) = some r := by rw [if_neg (show ¬ (false = true) by decide)] at H; exact H
     clear H
     have H := H1
     clear H1
     obtain rfl := Option.some.inj H
     have hcz48_0 : wc.cell? ⟨gb253, 0, none⟩ = some (.int .i64 a0_0) := (blk_cell BK253.out 0).trans rfl
     have hcz48_1 : wc.cell? ⟨gb253, 1, none⟩ = some (.int .i64 a0_1) := (blk_cell BK253.out 1).trans rfl
     have hcz48_2 : wc.cell? ⟨gb253, 2, none⟩ = some (.int .i64 a0_2) := (blk_cell BK253.out 2).trans rfl
     have hcz48_3 : wc.cell? ⟨gb253, 3, none⟩ = some (.int .i64 a0_3) := (blk_cell BK253.out 3).trans rfl
     have hcz48_4 : wc.cell? ⟨gb253, 4, none⟩ = some (.int .i64 a0_4) := (blk_cell BK253.out 4).trans rfl
     have hcz48_5 : wc.cell? ⟨gb253, 5, none⟩ = some (.bool true) := (blk_cell BK253.out 5).trans rfl
     have hcz48_6 : wc.cell? ⟨gb253, 6, none⟩ = some (.bool false) := (blk_cell BK253.out 6).trans rfl
     have hfz48_0 := blk_frozen BK253.out 0
     have hfz48_1 := blk_frozen BK253.out 1
     have hfz48_2 := blk_frozen BK253.out 2
     have hfz48_3 := blk_frozen BK253.out 3
     have hfz48_4 := blk_frozen BK253.out 4
     have hfz48_5 := blk_frozen BK253.out 5
     have hfz48_6 := blk_frozen BK253.out 6
     go_wp2
     go_ret
     exact ⟨by first | rfl | (simp [errW_none, errW_some] <;> rfl) | (simp [*, errW_none, errW_some] <;> rfl), by repeat (first | (with_reducible first | exact HB.out | apply below_alloc | apply pw_below_drewN | apply below_drew1 | refine below_set ?_ GE253.out) | exact HB.out)⟩
   ·replace c45 := Bool.eq_false_iff.mpr c45
    subst c45
    have H1 : (if a0_6 = true then (some (Go.bits .or .u32 x3_6 33554432)) else (some x3_6)) = some r := by rw [if_neg (show ¬ (false = true) by decide)] at H; exact H
    clear H
    have H := H1
    clear H1
    by_cases c49 : a0_6 = true
    ·subst c49
     have H1 : (some (Go.bits .or .u32 x3_6 33554432)) = some r := by rw [if_pos rfl] at H; exact H
     clear H
     have H := H1
     clear H1
     obtain rfl := Option.some.inj H
     have hcz50_0 : wc.cell? ⟨gb253, 0, none⟩ = some (.int .i64 a0_0) := (blk_cell BK253.out 0).trans rfl
     have hcz50_1 : wc.cell? ⟨gb253, 1, none⟩ = some (.int .i64 a0_1) := (blk_cell BK253.out 1).trans rfl
     have hcz50_2 : wc.cell? ⟨gb253, 2, none⟩ = some (.int .i64 a0_2) := (blk_cell BK253.out 2).trans rfl
     have hcz50_3 : wc.cell? ⟨gb253, 3, none⟩ = some (.int .i64 a0_3) := (blk_cell BK253.out 3).trans rfl
     have hcz50_4 : wc.cell? ⟨gb253, 4, none⟩ = some (.int .i64 a0_4) := (blk_cell BK253.out 4).trans rfl
     have hcz50_5 : wc.cell? ⟨gb253, 5, none⟩ = some (.bool false) := (blk_cell BK253.out 5).trans rfl
     have hcz50_6 : wc.cell? ⟨gb253, 6, none⟩ = some (.bool true) := (blk_cell BK253.out 6).trans rfl
     have hfz50_0 := blk_frozen BK253.out 0
     have hfz50_1 := blk_frozen BK253.out 1
     have hfz50_2 := blk_frozen BK253.out 2
     have hfz50_3 := blk_frozen BK253.out 3
     have hfz50_4 := blk_frozen BK253.out 4
     have hfz50_5 := blk_frozen BK253.out 5
     have hfz50_6 := blk_frozen BK253.out 6
     go_wp2
     go_ret
     exact ⟨by first | rfl | (simp [errW_none, errW_some] <;> rfl) | (simp [*, errW_none, errW_some] <;> rfl), by repeat (first | (with_reducible first | exact HB.out | apply below_alloc | apply pw_below_drewN | apply below_drew1 | refine below_set ?_ GE253.out) | exact HB.out)⟩
    ·replace c49 := Bool.eq_false_iff.mpr c49
     subst c49
     have H1 : (some x3_6) = some r := by rw [if_neg (show ¬ (false = true) by decide)] at H; exact H
     clear H
     have H := H1
     clear H1
     obtain rfl := Option.some.inj H
     have hcz51_0 : wc.cell? ⟨gb253, 0, none⟩ = some (.int .i64 a0_0) := (blk_cell BK253.out 0).trans rfl
     have hcz51_1 : wc.cell? ⟨gb253, 1, none⟩ = some (.int .i64 a0_1) := (blk_cell BK253.out 1).trans rfl
     have hcz51_2 : wc.cell? ⟨gb253, 2, none⟩ = some (.int .i64 a0_2) := (blk_cell BK253.out 2).trans rfl
     have hcz51_3 : wc.cell? ⟨gb253, 3, none⟩ = some (.int .i64 a0_3) := (blk_cell BK253.out 3).trans rfl
     have hcz51_4 : wc.cell? ⟨gb253, 4, none⟩ = some (.int .i64 a0_4) := (blk_cell BK253.out 4).trans rfl
     have hcz51_5 : wc.cell? ⟨gb253, 5, none⟩ = some (.bool false) := (blk_cell BK253.out 5).trans rfl
     have hcz51_6 : wc.cell? ⟨gb253, 6, none⟩ = some (.bool false) := (blk_cell BK253.out 6).trans rfl
     have hfz51_0 := blk_frozen BK253.out 0
     have hfz51_1 := blk_frozen BK253.out 1
     have hfz51_2 := blk_frozen BK253.out 2
     have hfz51_3 := blk_frozen BK253.out 3
     have hfz51_4 := blk_frozen BK253.out 4
     have hfz51_5 := blk_frozen BK253.out 5
     have hfz51_6 := blk_frozen BK253.out 6
     go_wp2
     go_ret
     exact ⟨by first | rfl | (simp [errW_none, errW_some] <;> rfl) | (simp [*, errW_none, errW_some] <;> rfl), by repeat (first | (with_reducible first | exact HB.out | apply below_alloc | apply pw_below_drewN | apply below_drew1 | refine below_set ?_ GE253.out) | exact HB.out)⟩

end Go.Proofs.YtbmjbidekmkboaaDoor.GEncLists
