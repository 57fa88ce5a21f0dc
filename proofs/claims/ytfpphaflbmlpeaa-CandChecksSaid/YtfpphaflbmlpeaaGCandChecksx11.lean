-- Written by wip/stub.py of this repo.
import Derived.Test.YtfpphaflbmlpeaaGCandChecksx0
import Derived.Test.YtfpphaflbmlpeaaGCandChecksx10
namespace Go.Proofs.Ytfpphaflbmlpeaa.GCandChecks
open Go.RowKit Go.Proofs.YtfpphaflbmlpeaaW.PrintWords Go.Proofs.YtfpphaflbmlpeaaW.PrintLast Go.Proofs.YtfpphaflbmlpeaaW.PrintMore
attribute [local go_sem] max2_int min2_int max_two min_two max_three min_three max_four min_four   -- for this text's walks alone
set_option linter.unusedVariables false
set_option linter.unusedSimpArgs false

/-! ### spinnakerref13_Check: function 22 -/
mutual
def spinnakerref13_Check.l0 : Nat → Int → List (List (S75)) → List (S70) → Option (Int)
  | 0, _, _, _ => none
  | k + 1, x3, x257000, x257001 => if x3 < (x257000.length : Int) then (if 0 ≤ x3 then (if ((rd_L5 x257000 x3).length : Int) > 1024 then (some 3) else (spinnakerref13_Check.l0 k (wrap64 (x3 + 1)) x257000 x257001)) else (none)) else (spinnakerref13_Check.l1 k 0 x257000 x257001)
def spinnakerref13_Check.l1 : Nat → Int → List (List (S75)) → List (S70) → Option (Int)
  | 0, _, _, _ => none
  | k + 1, x4, x257000, x257001 => if x4 < (x257000.length : Int) then (spinnakerref13_Check.l2 k x4 0 x257000 x257001) else (spinnakerref13_Check.l3 k 0 x257000 x257001)
def spinnakerref13_Check.l2 : Nat → Int → Int → List (List (S75)) → List (S70) → Option (Int)
  | 0, _, _, _, _ => none
  | k + 1, x4, x5, x257000, x257001 => if 0 ≤ x4 then (if x4 < (x257000.length : Int) then (if x5 < ((rd_L5 x257000 x4).length : Int) then (if 0 ≤ x5 then (if ((rd_T75 (rd_L5 x257000 x4) x5).f2.f0) = (-1) then (if (rd_T75 (rd_L5 x257000 x4) x5).f3 = true then (if (rd_T75 (rd_L5 x257000 x4) x5).f4 = true then (some 1) else (if (((rd_T75 (rd_L5 x257000 x4) x5).f2.f1) = 0) then (spinnakerref13_Check.l2 k x4 (wrap64 (x5 + 1)) x257000 x257001) else ((spinnakerref13_There.f x257000 x257001 ((rd_T75 (rd_L5 x257000 x4) x5).f2.f0) ((rd_T75 (rd_L5 x257000 x4) x5).f2.f1)).bind fun t262 => (if t262 = true then (spinnakerref13_Check.l2 k x4 (wrap64 (x5 + 1)) x257000 x257001) else (some 1))))) else (if (((rd_T75 (rd_L5 x257000 x4) x5).f2.f1) = 0) then (spinnakerref13_Check.l2 k x4 (wrap64 (x5 + 1)) x257000 x257001) else ((spinnakerref13_There.f x257000 x257001 ((rd_T75 (rd_L5 x257000 x4) x5).f2.f0) ((rd_T75 (rd_L5 x257000 x4) x5).f2.f1)).bind fun t263 => (if t263 = true then (spinnakerref13_Check.l2 k x4 (wrap64 (x5 + 1)) x257000 x257001) else (some 1))))) else (if (rd_T75 (rd_L5 x257000 x4) x5).f3 = true then (if (rd_T75 (rd_L5 x257000 x4) x5).f4 = true then (some 1) else ((spinnakerref13_There.f x257000 x257001 ((rd_T75 (rd_L5 x257000 x4) x5).f2.f0) ((rd_T75 (rd_L5 x257000 x4) x5).f2.f1)).bind fun t264 => (if t264 = true then (spinnakerref13_Check.l2 k x4 (wrap64 (x5 + 1)) x257000 x257001) else (some 1)))) else ((spinnakerref13_There.f x257000 x257001 ((rd_T75 (rd_L5 x257000 x4) x5).f2.f0) ((rd_T75 (rd_L5 x257000 x4) x5).f2.f1)).bind fun t265 => (if t265 = true then (spinnakerref13_Check.l2 k x4 (wrap64 (x5 + 1)) x257000 x257001) else (some 1))))) else (none)) else (spinnakerref13_Check.l1 k (wrap64 (x4 + 1)) x257000 x257001)) else (none)) else (none)
def spinnakerref13_Check.l3 : Nat → Int → List (List (S75)) → List (S70) → Option (Int)
  | 0, _, _, _ => none
  | k + 1, x8, x257000, x257001 => if x8 < (x257001.length : Int) then (if 0 ≤ x8 then (if (((rd_T70 x257001 x8).f1).length : Int) = 0 then (spinnakerref13_Check.j4 k x8 true x257000 x257001) else (if x8 > 0 then (if 0 ≤ (wrap64 (x8 - 1)) then (if (wrap64 (x8 - 1)) < (x257001.length : Int) then (spinnakerref13_Check.j4 k x8 (decide (((rd_T70 x257001 x8).f0) ≤ ((rd_T70 x257001 (wrap64 (x8 - 1))).f0))) x257000 x257001) else (none)) else (none)) else (spinnakerref13_Check.j4 k x8 false x257000 x257001))) else (none)) else (some 0)
def spinnakerref13_Check.j4 : Nat → Int → Bool → List (List (S75)) → List (S70) → Option (Int)
  | 0, _, _, _, _ => none
  | k + 1, x8, x114, x257000, x257001 => if x114 = true then (some 1) else (spinnakerref13_Check.l4 k x8 0 x257000 x257001)
def spinnakerref13_Check.l4 : Nat → Int → Int → List (List (S75)) → List (S70) → Option (Int)
  | 0, _, _, _, _ => none
  | k + 1, x8, x9, x257000, x257001 => if 0 ≤ x8 then (if x8 < (x257001.length : Int) then (if x9 < (((rd_T70 x257001 x8).f1).length : Int) then (if 0 ≤ x9 then ((spinnakerref13_There.f x257000 x257001 ((rd_T73 ((rd_T70 x257001 x8).f1) x9).f0) ((rd_T73 ((rd_T70 x257001 x8).f1) x9).f1)).bind fun t272 => (if t272 = true then ((spinnakerref13_twice.f k x257000 x257001 x8 x9).bind fun t273 => (if t273 = true then (some 1) else (spinnakerref13_Check.l4 k x8 (wrap64 (x9 + 1)) x257000 x257001))) else (some 1))) else (none)) else (spinnakerref13_Check.l3 k (wrap64 (x8 + 1)) x257000 x257001)) else (none)) else (none)
end
def spinnakerref13_Check.f (k : Nat) (l0_0 : List (List (S75))) (l0_1 : List (S70)) : Option (Int) := if (l0_0.length : Int) > 8 then (some 2) else (spinnakerref13_Check.l0 k 0 l0_0 l0_1)
theorem spinnakerref13_Check.mono_l : ∀ k, (∀ y0 y1 y2, LeO (spinnakerref13_Check.l0 k y0 y1 y2) (spinnakerref13_Check.l0 (k + 1) y0 y1 y2)) ∧ (∀ y0 y1 y2, LeO (spinnakerref13_Check.l1 k y0 y1 y2) (spinnakerref13_Check.l1 (k + 1) y0 y1 y2)) ∧ (∀ y0 y1 y2 y3, LeO (spinnakerref13_Check.l2 k y0 y1 y2 y3) (spinnakerref13_Check.l2 (k + 1) y0 y1 y2 y3)) ∧ (∀ y0 y1 y2, LeO (spinnakerref13_Check.l3 k y0 y1 y2) (spinnakerref13_Check.l3 (k + 1) y0 y1 y2)) ∧ (∀ y0 y1 y2 y3, LeO (spinnakerref13_Check.j4 k y0 y1 y2 y3) (spinnakerref13_Check.j4 (k + 1) y0 y1 y2 y3)) ∧ (∀ y0 y1 y2 y3, LeO (spinnakerref13_Check.l4 k y0 y1 y2 y3) (spinnakerref13_Check.l4 (k + 1) y0 y1 y2 y3))
 | 0 => ⟨fun _ _ _ r h => by simp [spinnakerref13_Check.l0] at h, fun _ _ _ r h => by simp [spinnakerref13_Check.l1] at h, fun _ _ _ _ r h => by simp [spinnakerref13_Check.l2] at h, fun _ _ _ r h => by simp [spinnakerref13_Check.l3] at h, fun _ _ _ _ r h => by simp [spinnakerref13_Check.j4] at h, fun _ _ _ _ r h => by simp [spinnakerref13_Check.l4] at h⟩
 | k + 1 => by
  obtain ⟨ih0, ih1, ih2, ih3, ih4, ih5⟩ := spinnakerref13_Check.mono_l k
  refine ⟨?_, ?_, ?_, ?_, ?_, ?_⟩
  all_goals (intros; (first | unfold spinnakerref13_Check.l0 | unfold spinnakerref13_Check.l1 | unfold spinnakerref13_Check.l2 | unfold spinnakerref13_Check.l3 | unfold spinnakerref13_Check.j4 | unfold spinnakerref13_Check.l4); repeat' first | (with_reducible first | exact ih0 _ _ _ | exact ih1 _ _ _ | exact ih2 _ _ _ _ | exact ih3 _ _ _ | exact ih4 _ _ _ _ | exact ih5 _ _ _ _ | exact spinnakerref13_twice.mono _ _ _ _ _ | exact LeO.refl _ | exact LeO.none _ | refine LeO.ite ?_ ?_ | refine LeO.bind ?_ (fun _ => ?_)) | exact ih0 _ _ _ | exact ih1 _ _ _ | exact ih2 _ _ _ _ | exact ih3 _ _ _ | exact ih4 _ _ _ _ | exact ih5 _ _ _ _ | exact spinnakerref13_twice.mono _ _ _ _ _ | exact LeO.none _ | refine LeO.ite ?_ ?_ | refine LeO.bind ?_ (fun _ => ?_))
theorem spinnakerref13_Check.mono : ∀ a0 a1 k, LeO (spinnakerref13_Check.f k a0 a1) (spinnakerref13_Check.f (k + 1) a0 a1) := by
 intro a0 a1 k
 obtain ⟨ih0, ih1, ih2, ih3, ih4, ih5⟩ := spinnakerref13_Check.mono_l k
 unfold spinnakerref13_Check.f
 repeat' first | (with_reducible first | exact ih0 _ _ _ | exact ih1 _ _ _ | exact ih2 _ _ _ _ | exact ih3 _ _ _ | exact ih4 _ _ _ _ | exact ih5 _ _ _ _ | exact spinnakerref13_twice.mono _ _ _ _ _ | exact LeO.refl _ | exact LeO.none _ | refine LeO.ite ?_ ?_ | refine LeO.bind ?_ (fun _ => ?_)) | exact ih0 _ _ _ | exact ih1 _ _ _ | exact ih2 _ _ _ _ | exact ih3 _ _ _ | exact ih4 _ _ _ _ | exact ih5 _ _ _ _ | exact spinnakerref13_twice.mono _ _ _ _ _ | exact LeO.none _ | refine LeO.ite ?_ ?_ | refine LeO.bind ?_ (fun _ => ?_)
def spinnakerref13_Check.T21 : Bool × List (List Nat × List Nat) := (true, [([], []), ([0], [0]), ([], []), ([1, 2], [1, 2]), ([3], [3]), ([4], [4]), ([5], [5]), ([6], [6]), ([7], [7]), ([8], [8]), ([9, 8], [8, 9]), ([10, 8, 8], [8, 10]), ([11], [11]), ([12, 11], [11, 12]), ([11], [11]), ([13, 14, 11], [11, 13, 14]), ([15, 11], [11, 15]), ([16, 11], [11, 16]), ([11], [11]), ([18, 11], [11, 18]), ([11], [11]), ([20, 11], [11, 20]), ([19, 21, 11], [11, 19, 21]), ([22, 11], [11, 22]), ([23, 11], [11, 23]), ([17, 24, 11], [11, 17, 24]), ([11, 25, 8], [8, 11, 25]), ([8, 26], [8, 26])])
def spinnakerref13_Check.B21 : List Nat := [0, 1, 0, 7, 15, 31, 63, 127, 255, 511, 1023, 2047, 4095, 8191, 4095, 32767, 65535, 131071, 4095, 266239, 4095, 1052671, 3936255, 8130559, 16519167, 33554431, 67108863, 134217727]
theorem spinnakerref13_Check.tab21 : rtab .any (opsOf Try.f22 21) = spinnakerref13_Check.T21 := by kernel_rfl
theorem spinnakerref13_Check.bits21 : waitsOk spinnakerref13_Check.T21.2 spinnakerref13_Check.B21 = true := by kernel_rfl
def spinnakerref13_Check.T26 : Bool × List (List Nat × List Nat) := (true, [([], []), ([], []), ([1], [1]), ([], []), ([2, 3], [2, 3]), ([4], [4]), ([5], [5]), ([], []), ([6, 7], [6, 7]), ([8], [8]), ([0, 9], [0, 9]), ([10], [10]), ([11, 10], [11]), ([12], [12]), ([12], [12]), ([12], [12]), ([13, 14, 15, 12, 12], [12, 13, 14, 15]), ([12, 16], [12, 16])])
def spinnakerref13_Check.B26 : List Nat := [0, 0, 2, 0, 14, 30, 62, 0, 254, 510, 1023, 2047, 4095, 8191, 8191, 8191, 65535, 131071]
theorem spinnakerref13_Check.tab26 : rtab .any (opsOf Try.f22 26) = spinnakerref13_Check.T26 := by kernel_rfl
theorem spinnakerref13_Check.bits26 : waitsOk spinnakerref13_Check.T26.2 spinnakerref13_Check.B26 = true := by kernel_rfl
set_option maxHeartbeats 8000000 in
set_option maxRecDepth 100000 in
theorem spinnakerref13_Check.calls (k : Nat) (A0_0 : Option Addr) (c0_0 : Nat) (l0_0 : List (List (S75))) (A0_1 : Option Addr) (c0_1 : Nat) (l0_1 : List (S70)) (r : Int) (w : World) (hr0_0 : Kd.C (Kd.slice 75 k75) w A0_0 l0_0.length l0_0) (hc0_0 : l0_0.length ≤ c0_0) (hr0_1 : Kd.C k70 w A0_1 l0_1.length l0_1) (hc0_1 : l0_1.length ≤ c0_1) (h : spinnakerref13_Check.f k l0_0 l0_1 = some r) :
  Calls Try.prog 22 #[.agg #[.slice A0_0 l0_0.length c0_0, .slice A0_1 l0_1.length c0_1]] w fun e w' => e = .returned (.int .i64 r) ∧ Below w.heap.size w w' := by
 have hu42 := Try.underlying42
 have hu75 := Try.underlying75
 have hu73 := Try.underlying73
 have HR0_0 := Aside0.mk hr0_0
 have HC0_0 := Aside0.mk hc0_0
 clear hr0_0 hc0_0
 have HR0_1 := Aside0.mk hr0_1
 have HC0_1 := Aside0.mk hc0_1
 clear hr0_1 hc0_1
 have HB := Aside0.mk (Below.refl w.heap.size w)
 have H : (if (l0_0.length : Int) > 8 then (some 2) else (spinnakerref13_Check.l0 k 0 l0_0 l0_1)) = some r := h
 clear h
 by_cases c2 : (l0_0.length : Int) > 8
 ·rw [if_pos c2] at H
  have c2b0 := decide_eq_true c2
  have c2b1 : decide (8 < l0_0.length) = true := decide_eq_true (by omega)
  clear c2
  obtain rfl := Option.some.inj H
  go_enter Try.func22, Try.ntmps22
  go_wp2_with (first | ((with_reducible refine gate_dst (N := 1) rfl ?_); refine bv 1 #[.slice A0_0 l0_0.length c0_0, .slice A0_1 l0_1.length c0_1] 42 ?_; intro gb256 hg w3 hbox hb; obtain ⟨n0_, GW256⟩ := nb (w := w) hg hb; clear HB; have HB := n0_; have BK256 := Aside0.mk hbox; have GE256 := GW256; clear n0_ hb hbox hg; obtain ⟨hcz4_0, hcz4_1, hfz4_0, hfz4_1⟩ := cz2 (w := w3) BK256.out))
  go_ret
  exact ⟨fi, bl⟩
 rw [if_neg c2] at H
 have c2b0 := decide_eq_false c2
 have c2b1 : decide (8 < l0_0.length) = false := decide_eq_false (by omega)
 clear c2
 have H' := Aside0.mk H
 clear H
 go_enter Try.func22, Try.ntmps22
 go_wp2_with (first | ((with_reducible refine gate_dst (N := 1) rfl ?_); refine bv 1 #[.slice A0_0 l0_0.length c0_0, .slice A0_1 l0_1.length c0_1] 42 ?_; intro gb256 hg w5 hbox hb; obtain ⟨n0_, GW256⟩ := nb (w := w) hg hb; clear HB; have HB := n0_; have BK256 := Aside0.mk hbox; have GE256 := GW256; clear n0_ hb hbox hg; obtain ⟨hcz6_0, hcz6_1, hfz6_0, hfz6_1⟩ := cz2 (w := w5) BK256.out))
 go_loopg [3] k (fun kq v3 w' => ∃ (x3_1 : Int), v3 = .int .i64 x3_1 ∧ Aside0 (spinnakerref13_Check.l0 kq x3_1 l0_0 l0_1 = some r) ∧ Aside0 (kq ≤ k) ∧ Aside0 (w'.heap[gb256]? = some (.cells #[(.slice A0_0 l0_0.length c0_0), (.slice A0_1 l0_1.length c0_1)] 42 (0, 0))) ∧ Aside0 (Below w.heap.size w w'))
 case atStart => exact ⟨(0), fj, H', ⟨Nat.le_refl _⟩, ⟨by refine bx ?_; exact BK256.out⟩, ⟨bl⟩⟩
 case round =>
  clear H'
  try clear c2
  try clear c2b0
  try clear c2b1
  try clear p2
  try clear hcz4_0 hcz4_1
  try clear hcz6_0 hcz6_1
  try clear hfz4_0 hfz4_1
  try clear hfz6_0 hfz6_1
  obtain ⟨x3_1, rfl, HA, HK1, BK256, HB⟩ := hrel
  cases gk with
  | zero => exact absurd HA.out (by simp [spinnakerref13_Check.l0])
  | succ k1 =>
   have H := HA.out
   clear HA
   simp only [spinnakerref13_Check.l0] at H
   by_cases c7 : x3_1 < (l0_0.length : Int)
   ·rw [if_pos c7] at H
    have c7b0 := decide_eq_true c7
    clear c7
    by_cases c8 : 0 ≤ x3_1
    rotate_left
    ·rw [if_neg c8] at H
     exact absurd H (by simp)
    rw [if_pos c8] at H
    have c8b0 := decide_eq_true c8
    clear c8
    by_cases c9 : ((rd_L5 l0_0 x3_1).length : Int) > 1024
    ·rw [if_pos c9] at H
     have c9b0 := decide_eq_true c9
     have c9b1 : decide (1024 < (rd_L5 l0_0 x3_1).length) = true := decide_eq_true (by omega)
     clear c9
     obtain rfl := Option.some.inj H
     obtain ⟨hcz10_0, hcz10_1, hfz10_0, hfz10_1⟩ := cz2 (w := wr) BK256.out
     have p257 : 0 ≤ (x3_1 : Int) := od
     have q257 : x3_1 < (l0_0.length : Int) := od
     obtain ⟨ad257, A257_0, c257_0, e257, hx257_0, hl257_0, hi257_0⟩ := at_L5 HR0_0.out x3_1 p257 q257
     cases e257
     replace hx257_0 := cb HB.out hx257_0
     have HR257_0 := Aside0.mk hi257_0
     have HC257_0 := Aside0.mk hl257_0
     clear hi257_0 hl257_0
     replace p257 := eq_true p257
     replace q257 := eq_true q257
     go_wp2
     go_ret
     exact ⟨fi, bl⟩
    rw [if_neg c9] at H
    have c9b0 := decide_eq_false c9
    have c9b1 : decide (1024 < (rd_L5 l0_0 x3_1).length) = false := decide_eq_false (by omega)
    clear c9
    have H' := Aside0.mk H
    clear H
    obtain ⟨hcz11_0, hcz11_1, hfz11_0, hfz11_1⟩ := cz2 (w := wr) BK256.out
    have p257 : 0 ≤ (x3_1 : Int) := od
    have q257 : x3_1 < (l0_0.length : Int) := od
    obtain ⟨ad257, A257_0, c257_0, e257, hx257_0, hl257_0, hi257_0⟩ := at_L5 HR0_0.out x3_1 p257 q257
    cases e257
    replace hx257_0 := cb HB.out hx257_0
    have HR257_0 := Aside0.mk hi257_0
    have HC257_0 := Aside0.mk hl257_0
    clear hi257_0 hl257_0
    replace p257 := eq_true p257
    replace q257 := eq_true q257
    go_wp2
    go_roundg k1
    case measure => have := HK1.out; omega
    case rel => exact ⟨(wrap64 (x3_1 + 1)), fj, H', ⟨by have := HK1.out; omega⟩, ⟨by refine bx ?_; exact BK256.out⟩, ⟨bl⟩⟩
   rw [if_neg c7] at H
   have c7b0 := decide_eq_false c7
   clear c7
   have H' := Aside0.mk H
   clear H
   obtain ⟨hcz12_0, hcz12_1, hfz12_0, hfz12_1⟩ := cz2 (w := wr) BK256.out
   go_wp2
   go_loopg [4] k1 (fun kq v4 w' => ∃ (x4_2 : Int), v4 = .int .i64 x4_2 ∧ Aside0 (spinnakerref13_Check.l1 kq x4_2 l0_0 l0_1 = some r) ∧ Aside0 (kq ≤ k1) ∧ Aside0 (w'.heap[gb256]? = some (.cells #[(.slice A0_0 l0_0.length c0_0), (.slice A0_1 l0_1.length c0_1)] 42 (0, 0))) ∧ Aside0 (Below w.heap.size w w'))
   case atStart => exact ⟨(0), fj, H', ⟨Nat.le_refl _⟩, ⟨by refine bx ?_; exact BK256.out⟩, ⟨bl⟩⟩
   case round =>
    clear H'
    try clear c2
    try clear c2b0
    try clear c2b1
    try clear p2
    try clear q2
    try clear hx2
    try clear p6
    try clear c7
    try clear c7b0
    try clear c8
    try clear c8b0
    try clear c9
    try clear c9b0
    try clear c9b1
    try clear hcz10_0 hcz10_1
    try clear hcz11_0 hcz11_1
    try clear hcz12_0 hcz12_1
    try clear hcz4_0 hcz4_1
    try clear hcz6_0 hcz6_1
    try clear hfz10_0 hfz10_1
    try clear hfz11_0 hfz11_1
    try clear hfz12_0 hfz12_1
    try clear hfz4_0 hfz4_1
    try clear hfz6_0 hfz6_1
    try clear hx257_0
    try clear p2
    try clear p257
    try clear q257
    obtain ⟨x4_2, rfl, HA, HK2, BK256, HB⟩ := hrel
    cases gk with
    | zero => exact absurd HA.out (by simp [spinnakerref13_Check.l1])
    | succ k2 =>
     have H := HA.out
     clear HA
     simp only [spinnakerref13_Check.l1] at H
     by_cases c13 : x4_2 < (l0_0.length : Int)
     ·rw [if_pos c13] at H
      have c13b0 := decide_eq_true c13
      clear c13
      have H' := Aside0.mk H
      clear H
      obtain ⟨hcz14_0, hcz14_1, hfz14_0, hfz14_1⟩ := cz2 (w := wr) BK256.out
      go_wp2
      go_loopg [5] k2 (fun kq v5 w' => ∃ (x5_3 : Int), v5 = .int .i64 x5_3 ∧ Aside0 (spinnakerref13_Check.l2 kq x4_2 x5_3 l0_0 l0_1 = some r) ∧ Aside0 (kq ≤ k2) ∧ Aside0 (w'.heap[gb256]? = some (.cells #[(.slice A0_0 l0_0.length c0_0), (.slice A0_1 l0_1.length c0_1)] 42 (0, 0))) ∧ Aside0 (Below w.heap.size w w'))
      case atStart => exact ⟨(0), fj, H', ⟨Nat.le_refl _⟩, ⟨by refine bx ?_; exact BK256.out⟩, ⟨bl⟩⟩
      case round =>
       clear H'
       try clear c1
       try clear c2
       try clear c2b0
       try clear c2b1
       try clear p2
       try clear q2
       try clear hx2
       try clear p6
       try clear c7
       try clear c7b0
       try clear c8
       try clear c8b0
       try clear c9
       try clear c9b0
       try clear c9b1
       try clear c13
       try clear c13b0
       try clear hcz10_0 hcz10_1
       try clear hcz11_0 hcz11_1
       try clear hcz12_0 hcz12_1
       try clear hcz14_0 hcz14_1
       try clear hcz4_0 hcz4_1
       try clear hcz6_0 hcz6_1
       try clear hfz10_0 hfz10_1
       try clear hfz11_0 hfz11_1
       try clear hfz12_0 hfz12_1
       try clear hfz14_0 hfz14_1
       try clear hfz4_0 hfz4_1
       try clear hfz6_0 hfz6_1
       try clear hx257_0
       try clear p2
       try clear p257
       try clear p6
       try clear q2
       try clear q257
       obtain ⟨x5_3, rfl, HA, HK3, BK256, HB⟩ := hrel
       cases gk with
       | zero => exact absurd HA.out (by simp [spinnakerref13_Check.l2])
       | succ k3 =>
        have H := HA.out
        clear HA
        simp only [spinnakerref13_Check.l2] at H
        by_cases c15 : 0 ≤ x4_2
        rotate_left
        ·rw [if_neg c15] at H
         exact absurd H (by simp)
        rw [if_pos c15] at H
        have c15b0 := decide_eq_true c15
        clear c15
        by_cases c16 : x4_2 < (l0_0.length : Int)
        rotate_left
        ·rw [if_neg c16] at H
         exact absurd H (by simp)
        rw [if_pos c16] at H
        have c16b0 := decide_eq_true c16
        clear c16
        by_cases c17 : x5_3 < ((rd_L5 l0_0 x4_2).length : Int)
        rotate_left
        ·rw [if_neg c17] at H
         have c17b0 := decide_eq_false c17
         clear c17
         have H' := Aside0.mk H
         clear H
         obtain ⟨hcz102_0, hcz102_1, hfz102_0, hfz102_1⟩ := cz2 (w := wr) BK256.out
         have p258 : 0 ≤ (x4_2 : Int) := od
         have q258 : x4_2 < (l0_0.length : Int) := od
         obtain ⟨ad258, A258_0, c258_0, e258, hx258_0, hl258_0, hi258_0⟩ := at_L5 HR0_0.out x4_2 p258 q258
         cases e258
         replace hx258_0 := cb HB.out hx258_0
         have HR258_0 := Aside0.mk hi258_0
         have HC258_0 := Aside0.mk hl258_0
         clear hi258_0 hl258_0
         replace p258 := eq_true p258
         replace q258 := eq_true q258
         go_wp2
         go_roundg k3
         case measure => have := HK1.out; have := HK2.out; have := HK3.out; omega
         case rel => exact ⟨(wrap64 (x4_2 + 1)), fj, H', ⟨by have := HK1.out; have := HK2.out; have := HK3.out; omega⟩, ⟨by refine bx ?_; exact BK256.out⟩, ⟨bl⟩⟩
        rw [if_pos c17] at H
        have c17b0 := decide_eq_true c17
        clear c17
        by_cases c18 : 0 ≤ x5_3
        rotate_left
        ·rw [if_neg c18] at H
         exact absurd H (by simp)
        rw [if_pos c18] at H
        have c18b0 := decide_eq_true c18
        clear c18
        by_cases c19 : ((rd_T75 (rd_L5 l0_0 x4_2) x5_3).f2.f0) = (-1)
        rotate_left
        ·rw [if_neg c19] at H
         have c19b0 : (((rd_T75 (rd_L5 l0_0 x4_2) x5_3).f2.f0) == (-1)) = false := beq_eq_false_iff_ne.mpr c19
         have c19b1 : (((rd_T75 (rd_L5 l0_0 x4_2) x5_3).f2.f0) != (-1)) = true := bne_iff_ne.mpr c19
         obtain ⟨bq66, hbq66⟩ : ∃ b_ : Bool, b_ = ((rd_T75 (rd_L5 l0_0 x4_2) x5_3).f3) := ⟨_, rfl⟩
         replace H : (if bq66 = true then (if (rd_T75 (rd_L5 l0_0 x4_2) x5_3).f4 = true then (some 1) else ((spinnakerref13_There.f l0_0 l0_1 ((rd_T75 (rd_L5 l0_0 x4_2) x5_3).f2.f0) ((rd_T75 (rd_L5 l0_0 x4_2) x5_3).f2.f1)).bind fun t264 => (if t264 = true then (spinnakerref13_Check.l2 k3 x4_2 (wrap64 (x5_3 + 1)) l0_0 l0_1) else (some 1)))) else ((spinnakerref13_There.f l0_0 l0_1 ((rd_T75 (rd_L5 l0_0 x4_2) x5_3).f2.f0) ((rd_T75 (rd_L5 l0_0 x4_2) x5_3).f2.f1)).bind fun t265 => (if t265 = true then (spinnakerref13_Check.l2 k3 x4_2 (wrap64 (x5_3 + 1)) l0_0 l0_1) else (some 1)))) = some r := by rw [← hbq66] at H; exact H
         have Nbq66 := Aside0.mk hbq66
         clear hbq66
         by_cases c67 : bq66 = true
         rotate_left
         ·replace c67 := Bool.eq_false_iff.mpr c67
          subst c67
          have H1 : ((spinnakerref13_There.f l0_0 l0_1 ((rd_T75 (rd_L5 l0_0 x4_2) x5_3).f2.f0) ((rd_T75 (rd_L5 l0_0 x4_2) x5_3).f2.f1)).bind fun t265 => (if t265 = true then (spinnakerref13_Check.l2 k3 x4_2 (wrap64 (x5_3 + 1)) l0_0 l0_1) else (some 1))) = some r := by rw [if_neg (show ¬ (false = true) by decide)] at H; exact H
          clear H
          have H := H1
          clear H1
          replace H := be H
          obtain ⟨t265, A88, H⟩ := H
          by_cases c89 : t265 = true
          rotate_left
          ·replace c89 := Bool.eq_false_iff.mpr c89
           subst c89
           have H1 : (some 1) = some r := by rw [if_neg (show ¬ (false = true) by decide)] at H; exact H
           clear H
           have H := H1
           clear H1
           obtain rfl := Option.some.inj H
           obtain ⟨hcz96_0, hcz96_1, hfz96_0, hfz96_1⟩ := cz2 (w := wr) BK256.out
           have p258 : 0 ≤ (x4_2 : Int) := od
           have q258 : x4_2 < (l0_0.length : Int) := od
           obtain ⟨ad258, A258_0, c258_0, e258, hx258_0, hl258_0, hi258_0⟩ := at_L5 HR0_0.out x4_2 p258 q258
           cases e258
           replace hx258_0 := cb HB.out hx258_0
           have HR258_0 := Aside0.mk hi258_0
           have HC258_0 := Aside0.mk hl258_0
           clear hi258_0 hl258_0
           replace p258 := eq_true p258
           replace q258 := eq_true q258
           have p259 : 0 ≤ (x4_2 : Int) := od
           have q259 : x4_2 < (l0_0.length : Int) := od
           obtain ⟨ad259, A259_0, c259_0, e259, hx259_0, hl259_0, hi259_0⟩ := at_L5 HR0_0.out x4_2 p259 q259
           obtain rfl : ad258 = ad259 := (by injection e259)
           replace hx259_0 := cb HB.out hx259_0
           have HR259_0 := Aside0.mk hi259_0
           have HC259_0 := Aside0.mk hl259_0
           clear hi259_0 hl259_0
           replace p259 := eq_true p259
           replace q259 := eq_true q259
           have ea_ := Option.some.inj (hx258_0.symm.trans hx259_0)
           injection ea_ with ea_ en_ ec_
           subst ea_
           subst ec_
           clear en_
           have p260 : 0 ≤ (x5_3 : Int) := od
           have q260 : x5_3 < ((rd_L5 l0_0 x4_2).length : Int) := od
           obtain ⟨ad260, e260, hx260_0, hx260_1, hx260_2, hx260_3, hx260_4, hx260_5⟩ := at_T75 HR259_0.out x5_3 p260 q260
           (try rw [← Nbq66.out] at hx260_4)
           (try rw [← Nbq66.out] at hx260_5)
           cases e260
           replace hx260_0 := cb HB.out hx260_0
           replace hx260_1 := cb HB.out hx260_1
           replace hx260_2 := cb HB.out hx260_2
           replace hx260_3 := cb HB.out hx260_3
           replace hx260_4 := cb HB.out hx260_4
           replace hx260_5 := cb HB.out hx260_5
           replace p260 := eq_true p260
           replace q260 := eq_true q260
           go_wp2_with (first | ((with_reducible refine gate_dst (N := 6) rfl ?_); refine bv 6 #[.int .i64 0, .int .i64 0, .int .i64 0, .int .i64 0, .bool false, .bool false] 75 ?_; intro gb261 hg w97 hbox hb; have n0_ := Aside0.mk (blk_below (g := gb256) (o := .cells #[.slice (some ad258) l0_0.length c0_0, .slice A0_1 l0_1.length c0_1] 42 (0, 0)) (bk BK256.out) hb); have n1_ := Aside0.mk (below_step bl hb); have n2_ := Aside0.mk (hbox); have n3_ := Aside0.mk ((by rw [hg]; exact (below_size bl) : w.heap.size ≤ gb261)); have n4_ := Aside0.mk ((by rw [hg]; exact (below_size bl) : w.heap.size ≤ gb261)); have n5_ := Aside0.mk ((nl hg (bk BK256.out) : gb256 ≠ gb261)); have n6_ := Aside0.mk ((ng hg (bk BK256.out) : gb261 ≠ gb256)); clear BK256; clear HB; have BK256 := n0_; have HB := n1_; have BK261 := n2_; have GW261 := n3_; have GE261 := n4_; have NB256_261 := n5_; have NB261_256 := n6_; clear n0_ n1_ n2_ n3_ n4_ n5_ n6_; clear hb hbox hg; have hnb98 := NB261_256.out; have hnc98 := NB256_261.out; obtain ⟨hcz99_0, hcz99_1, hcz99_2, hcz99_3, hcz99_4, hcz99_5, hfz99_0, hfz99_1, hfz99_2, hfz99_3, hfz99_4, hfz99_5⟩ := cz6 (w := w97) BK261.out; obtain ⟨hcz100_0, hcz100_1, hfz100_0, hfz100_1⟩ := cz2 (w := w97) BK256.out) | (go_at_call 46; (with_reducible refine (spinnakerref13_There.calls _ _ l0_0 _ _ l0_1 ((rd_T75 (rd_L5 l0_0 x4_2) x5_3).f2.f0) ((rd_T75 (rd_L5 l0_0 x4_2) x5_3).f2.f1) false _ ?side1 ?side2 ?side3 ?side4 A88.out).mono ?_); (case side1 => exact Kd.C_below HR0_0.out bl); (case side2 => exact HC0_0.out); (case side3 => exact Kd.C_below HR0_1.out bl); (case side4 => exact HC0_1.out); rintro e w101 ⟨rfl, hb⟩; have n0_ := Aside0.mk (blk_below (g := gb256) (o := .cells #[.slice (some ad258) l0_0.length c0_0, .slice A0_1 l0_1.length c0_1] 42 (0, 0)) (by refine bx ?_; refine blk_far ?_ NB256_261.out _; refine bx ?_; refine blk_far ?_ NB256_261.out _; refine bx ?_; refine blk_far ?_ NB256_261.out _; refine bx ?_; refine blk_far ?_ NB256_261.out _; refine bx ?_; refine blk_far ?_ NB256_261.out _; refine bx ?_; refine blk_far ?_ NB256_261.out _; refine bx ?_; exact BK256.out) hb); have n1_ := Aside0.mk (blk_below (g := gb261) (o := .cells #[.int .i64 ((rd_T75 (rd_L5 l0_0 x4_2) x5_3).f0), .int .i64 ((rd_T75 (rd_L5 l0_0 x4_2) x5_3).f1), .int .i64 ((rd_T75 (rd_L5 l0_0 x4_2) x5_3).f2.f0), .int .i64 ((rd_T75 (rd_L5 l0_0 x4_2) x5_3).f2.f1), .bool false, .bool ((rd_T75 (rd_L5 l0_0 x4_2) x5_3).f4)] 75 (0, 0)) (by refine bx ?_; refine blk_put (cs := #[.int .i64 ((rd_T75 (rd_L5 l0_0 x4_2) x5_3).f0), .int .i64 ((rd_T75 (rd_L5 l0_0 x4_2) x5_3).f1), .int .i64 ((rd_T75 (rd_L5 l0_0 x4_2) x5_3).f2.f0), .int .i64 ((rd_T75 (rd_L5 l0_0 x4_2) x5_3).f2.f1), .bool false, .bool false]) ?_ 5 _ rfl; refine bx ?_; refine blk_put (cs := #[.int .i64 ((rd_T75 (rd_L5 l0_0 x4_2) x5_3).f0), .int .i64 ((rd_T75 (rd_L5 l0_0 x4_2) x5_3).f1), .int .i64 ((rd_T75 (rd_L5 l0_0 x4_2) x5_3).f2.f0), .int .i64 ((rd_T75 (rd_L5 l0_0 x4_2) x5_3).f2.f1), .bool false, .bool false]) ?_ 4 _ rfl; refine bx ?_; refine blk_put (cs := #[.int .i64 ((rd_T75 (rd_L5 l0_0 x4_2) x5_3).f0), .int .i64 ((rd_T75 (rd_L5 l0_0 x4_2) x5_3).f1), .int .i64 ((rd_T75 (rd_L5 l0_0 x4_2) x5_3).f2.f0), .int .i64 0, .bool false, .bool false]) ?_ 3 _ rfl; refine bx ?_; refine blk_put (cs := #[.int .i64 ((rd_T75 (rd_L5 l0_0 x4_2) x5_3).f0), .int .i64 ((rd_T75 (rd_L5 l0_0 x4_2) x5_3).f1), .int .i64 0, .int .i64 0, .bool false, .bool false]) ?_ 2 _ rfl; refine bx ?_; refine blk_put (cs := #[.int .i64 ((rd_T75 (rd_L5 l0_0 x4_2) x5_3).f0), .int .i64 0, .int .i64 0, .int .i64 0, .bool false, .bool false]) ?_ 1 _ rfl; refine bx ?_; refine blk_put (cs := #[.int .i64 0, .int .i64 0, .int .i64 0, .int .i64 0, .bool false, .bool false]) ?_ 0 _ rfl; refine bx ?_; exact BK261.out) hb); have n2_ := Aside0.mk (below_step bl hb); clear BK256; clear BK261; clear HB; have BK256 := n0_; have BK261 := n1_; have HB := n2_; clear n0_ n1_ n2_; (try clear hb)))
           go_ret
           exact ⟨fi, bl⟩
          subst c89
          have H1 : (spinnakerref13_Check.l2 k3 x4_2 (wrap64 (x5_3 + 1)) l0_0 l0_1) = some r := by rw [if_pos rfl] at H; exact H
          clear H
          have H := H1
          clear H1
          have H' := Aside0.mk H
          clear H
          obtain ⟨hcz90_0, hcz90_1, hfz90_0, hfz90_1⟩ := cz2 (w := wr) BK256.out
          have p258 : 0 ≤ (x4_2 : Int) := od
          have q258 : x4_2 < (l0_0.length : Int) := od
          obtain ⟨ad258, A258_0, c258_0, e258, hx258_0, hl258_0, hi258_0⟩ := at_L5 HR0_0.out x4_2 p258 q258
          cases e258
          replace hx258_0 := cb HB.out hx258_0
          have HR258_0 := Aside0.mk hi258_0
          have HC258_0 := Aside0.mk hl258_0
          clear hi258_0 hl258_0
          replace p258 := eq_true p258
          replace q258 := eq_true q258
          have p259 : 0 ≤ (x4_2 : Int) := od
          have q259 : x4_2 < (l0_0.length : Int) := od
          obtain ⟨ad259, A259_0, c259_0, e259, hx259_0, hl259_0, hi259_0⟩ := at_L5 HR0_0.out x4_2 p259 q259
          obtain rfl : ad258 = ad259 := (by injection e259)
          replace hx259_0 := cb HB.out hx259_0
          have HR259_0 := Aside0.mk hi259_0
          have HC259_0 := Aside0.mk hl259_0
          clear hi259_0 hl259_0
          replace p259 := eq_true p259
          replace q259 := eq_true q259
          have ea_ := Option.some.inj (hx258_0.symm.trans hx259_0)
          injection ea_ with ea_ en_ ec_
          subst ea_
          subst ec_
          clear en_
          have p260 : 0 ≤ (x5_3 : Int) := od
          have q260 : x5_3 < ((rd_L5 l0_0 x4_2).length : Int) := od
          obtain ⟨ad260, e260, hx260_0, hx260_1, hx260_2, hx260_3, hx260_4, hx260_5⟩ := at_T75 HR259_0.out x5_3 p260 q260
          (try rw [← Nbq66.out] at hx260_4)
          (try rw [← Nbq66.out] at hx260_5)
          cases e260
          replace hx260_0 := cb HB.out hx260_0
          replace hx260_1 := cb HB.out hx260_1
          replace hx260_2 := cb HB.out hx260_2
          replace hx260_3 := cb HB.out hx260_3
          replace hx260_4 := cb HB.out hx260_4
          replace hx260_5 := cb HB.out hx260_5
          replace p260 := eq_true p260
          replace q260 := eq_true q260
          go_wp2_with (first | ((with_reducible refine gate_dst (N := 6) rfl ?_); refine bv 6 #[.int .i64 0, .int .i64 0, .int .i64 0, .int .i64 0, .bool false, .bool false] 75 ?_; intro gb261 hg w91 hbox hb; have n0_ := Aside0.mk (blk_below (g := gb256) (o := .cells #[.slice (some ad258) l0_0.length c0_0, .slice A0_1 l0_1.length c0_1] 42 (0, 0)) (bk BK256.out) hb); have n1_ := Aside0.mk (below_step bl hb); have n2_ := Aside0.mk (hbox); have n3_ := Aside0.mk ((by rw [hg]; exact (below_size bl) : w.heap.size ≤ gb261)); have n4_ := Aside0.mk ((by rw [hg]; exact (below_size bl) : w.heap.size ≤ gb261)); have n5_ := Aside0.mk ((nl hg (bk BK256.out) : gb256 ≠ gb261)); have n6_ := Aside0.mk ((ng hg (bk BK256.out) : gb261 ≠ gb256)); clear BK256; clear HB; have BK256 := n0_; have HB := n1_; have BK261 := n2_; have GW261 := n3_; have GE261 := n4_; have NB256_261 := n5_; have NB261_256 := n6_; clear n0_ n1_ n2_ n3_ n4_ n5_ n6_; clear hb hbox hg; have hnb92 := NB261_256.out; have hnc92 := NB256_261.out; obtain ⟨hcz93_0, hcz93_1, hcz93_2, hcz93_3, hcz93_4, hcz93_5, hfz93_0, hfz93_1, hfz93_2, hfz93_3, hfz93_4, hfz93_5⟩ := cz6 (w := w91) BK261.out; obtain ⟨hcz94_0, hcz94_1, hfz94_0, hfz94_1⟩ := cz2 (w := w91) BK256.out) | (go_at_call 46; (with_reducible refine (spinnakerref13_There.calls _ _ l0_0 _ _ l0_1 ((rd_T75 (rd_L5 l0_0 x4_2) x5_3).f2.f0) ((rd_T75 (rd_L5 l0_0 x4_2) x5_3).f2.f1) true _ ?side1 ?side2 ?side3 ?side4 A88.out).mono ?_); (case side1 => exact Kd.C_below HR0_0.out bl); (case side2 => exact HC0_0.out); (case side3 => exact Kd.C_below HR0_1.out bl); (case side4 => exact HC0_1.out); rintro e w95 ⟨rfl, hb⟩; have n0_ := Aside0.mk (blk_below (g := gb256) (o := .cells #[.slice (some ad258) l0_0.length c0_0, .slice A0_1 l0_1.length c0_1] 42 (0, 0)) (by refine bx ?_; refine blk_far ?_ NB256_261.out _; refine bx ?_; refine blk_far ?_ NB256_261.out _; refine bx ?_; refine blk_far ?_ NB256_261.out _; refine bx ?_; refine blk_far ?_ NB256_261.out _; refine bx ?_; refine blk_far ?_ NB256_261.out _; refine bx ?_; refine blk_far ?_ NB256_261.out _; refine bx ?_; exact BK256.out) hb); have n1_ := Aside0.mk (blk_below (g := gb261) (o := .cells #[.int .i64 ((rd_T75 (rd_L5 l0_0 x4_2) x5_3).f0), .int .i64 ((rd_T75 (rd_L5 l0_0 x4_2) x5_3).f1), .int .i64 ((rd_T75 (rd_L5 l0_0 x4_2) x5_3).f2.f0), .int .i64 ((rd_T75 (rd_L5 l0_0 x4_2) x5_3).f2.f1), .bool false, .bool ((rd_T75 (rd_L5 l0_0 x4_2) x5_3).f4)] 75 (0, 0)) (by refine bx ?_; refine blk_put (cs := #[.int .i64 ((rd_T75 (rd_L5 l0_0 x4_2) x5_3).f0), .int .i64 ((rd_T75 (rd_L5 l0_0 x4_2) x5_3).f1), .int .i64 ((rd_T75 (rd_L5 l0_0 x4_2) x5_3).f2.f0), .int .i64 ((rd_T75 (rd_L5 l0_0 x4_2) x5_3).f2.f1), .bool false, .bool false]) ?_ 5 _ rfl; refine bx ?_; refine blk_put (cs := #[.int .i64 ((rd_T75 (rd_L5 l0_0 x4_2) x5_3).f0), .int .i64 ((rd_T75 (rd_L5 l0_0 x4_2) x5_3).f1), .int .i64 ((rd_T75 (rd_L5 l0_0 x4_2) x5_3).f2.f0), .int .i64 ((rd_T75 (rd_L5 l0_0 x4_2) x5_3).f2.f1), .bool false, .bool false]) ?_ 4 _ rfl; refine bx ?_; refine blk_put (cs := #[.int .i64 ((rd_T75 (rd_L5 l0_0 x4_2) x5_3).f0), .int .i64 ((rd_T75 (rd_L5 l0_0 x4_2) x5_3).f1), .int .i64 ((rd_T75 (rd_L5 l0_0 x4_2) x5_3).f2.f0), .int .i64 0, .bool false, .bool false]) ?_ 3 _ rfl; refine bx ?_; refine blk_put (cs := #[.int .i64 ((rd_T75 (rd_L5 l0_0 x4_2) x5_3).f0), .int .i64 ((rd_T75 (rd_L5 l0_0 x4_2) x5_3).f1), .int .i64 0, .int .i64 0, .bool false, .bool false]) ?_ 2 _ rfl; refine bx ?_; refine blk_put (cs := #[.int .i64 ((rd_T75 (rd_L5 l0_0 x4_2) x5_3).f0), .int .i64 0, .int .i64 0, .int .i64 0, .bool false, .bool false]) ?_ 1 _ rfl; refine bx ?_; refine blk_put (cs := #[.int .i64 0, .int .i64 0, .int .i64 0, .int .i64 0, .bool false, .bool false]) ?_ 0 _ rfl; refine bx ?_; exact BK261.out) hb); have n2_ := Aside0.mk (below_step bl hb); clear BK256; clear BK261; clear HB; have BK256 := n0_; have BK261 := n1_; have HB := n2_; clear n0_ n1_ n2_; (try clear hb)))
          go_roundg k3
          case measure => have := HK1.out; have := HK2.out; have := HK3.out; omega
          case rel => exact ⟨(wrap64 (x5_3 + 1)), fj, H', ⟨by have := HK1.out; have := HK2.out; have := HK3.out; omega⟩, ⟨by refine bx ?_; exact BK256.out⟩, ⟨bl⟩⟩
         subst c67
         have H1 : (if (rd_T75 (rd_L5 l0_0 x4_2) x5_3).f4 = true then (some 1) else ((spinnakerref13_There.f l0_0 l0_1 ((rd_T75 (rd_L5 l0_0 x4_2) x5_3).f2.f0) ((rd_T75 (rd_L5 l0_0 x4_2) x5_3).f2.f1)).bind fun t264 => (if t264 = true then (spinnakerref13_Check.l2 k3 x4_2 (wrap64 (x5_3 + 1)) l0_0 l0_1) else (some 1)))) = some r := by rw [if_pos rfl] at H; exact H
         clear H
         have H := H1
         clear H1
         obtain ⟨bq68, hbq68⟩ : ∃ b_ : Bool, b_ = ((rd_T75 (rd_L5 l0_0 x4_2) x5_3).f4) := ⟨_, rfl⟩
         replace H : (if bq68 = true then (some 1) else ((spinnakerref13_There.f l0_0 l0_1 ((rd_T75 (rd_L5 l0_0 x4_2) x5_3).f2.f0) ((rd_T75 (rd_L5 l0_0 x4_2) x5_3).f2.f1)).bind fun t264 => (if t264 = true then (spinnakerref13_Check.l2 k3 x4_2 (wrap64 (x5_3 + 1)) l0_0 l0_1) else (some 1)))) = some r := by rw [← hbq68] at H; exact H
         have Nbq68 := Aside0.mk hbq68
         clear hbq68
         by_cases c69 : bq68 = true
         ·subst c69
          have H1 : (some 1) = some r := by rw [if_pos rfl] at H; exact H
          clear H
          have H := H1
          clear H1
          obtain rfl := Option.some.inj H
          obtain ⟨hcz70_0, hcz70_1, hfz70_0, hfz70_1⟩ := cz2 (w := wr) BK256.out
          have p258 : 0 ≤ (x4_2 : Int) := od
          have q258 : x4_2 < (l0_0.length : Int) := od
          obtain ⟨ad258, A258_0, c258_0, e258, hx258_0, hl258_0, hi258_0⟩ := at_L5 HR0_0.out x4_2 p258 q258
          cases e258
          replace hx258_0 := cb HB.out hx258_0
          have HR258_0 := Aside0.mk hi258_0
          have HC258_0 := Aside0.mk hl258_0
          clear hi258_0 hl258_0
          replace p258 := eq_true p258
          replace q258 := eq_true q258
          have p259 : 0 ≤ (x4_2 : Int) := od
          have q259 : x4_2 < (l0_0.length : Int) := od
          obtain ⟨ad259, A259_0, c259_0, e259, hx259_0, hl259_0, hi259_0⟩ := at_L5 HR0_0.out x4_2 p259 q259
          obtain rfl : ad258 = ad259 := (by injection e259)
          replace hx259_0 := cb HB.out hx259_0
          have HR259_0 := Aside0.mk hi259_0
          have HC259_0 := Aside0.mk hl259_0
          clear hi259_0 hl259_0
          replace p259 := eq_true p259
          replace q259 := eq_true q259
          have ea_ := Option.some.inj (hx258_0.symm.trans hx259_0)
          injection ea_ with ea_ en_ ec_
          subst ea_
          subst ec_
          clear en_
          have p260 : 0 ≤ (x5_3 : Int) := od
          have q260 : x5_3 < ((rd_L5 l0_0 x4_2).length : Int) := od
          obtain ⟨ad260, e260, hx260_0, hx260_1, hx260_2, hx260_3, hx260_4, hx260_5⟩ := at_T75 HR259_0.out x5_3 p260 q260
          (try rw [← Nbq66.out] at hx260_4)
          (try rw [← Nbq68.out] at hx260_4)
          (try rw [← Nbq66.out] at hx260_5)
          (try rw [← Nbq68.out] at hx260_5)
          cases e260
          replace hx260_0 := cb HB.out hx260_0
          replace hx260_1 := cb HB.out hx260_1
          replace hx260_2 := cb HB.out hx260_2
          replace hx260_3 := cb HB.out hx260_3
          replace hx260_4 := cb HB.out hx260_4
          replace hx260_5 := cb HB.out hx260_5
          replace p260 := eq_true p260
          replace q260 := eq_true q260
          go_wp2_with (first | ((with_reducible refine gate_dst (N := 6) rfl ?_); refine bv 6 #[.int .i64 0, .int .i64 0, .int .i64 0, .int .i64 0, .bool false, .bool false] 75 ?_; intro gb261 hg w71 hbox hb; have n0_ := Aside0.mk (blk_below (g := gb256) (o := .cells #[.slice (some ad258) l0_0.length c0_0, .slice A0_1 l0_1.length c0_1] 42 (0, 0)) (bk BK256.out) hb); have n1_ := Aside0.mk (below_step bl hb); have n2_ := Aside0.mk (hbox); have n3_ := Aside0.mk ((by rw [hg]; exact (below_size bl) : w.heap.size ≤ gb261)); have n4_ := Aside0.mk ((by rw [hg]; exact (below_size bl) : w.heap.size ≤ gb261)); have n5_ := Aside0.mk ((nl hg (bk BK256.out) : gb256 ≠ gb261)); have n6_ := Aside0.mk ((ng hg (bk BK256.out) : gb261 ≠ gb256)); clear BK256; clear HB; have BK256 := n0_; have HB := n1_; have BK261 := n2_; have GW261 := n3_; have GE261 := n4_; have NB256_261 := n5_; have NB261_256 := n6_; clear n0_ n1_ n2_ n3_ n4_ n5_ n6_; clear hb hbox hg; have hnb72 := NB261_256.out; have hnc72 := NB256_261.out; obtain ⟨hcz73_0, hcz73_1, hcz73_2, hcz73_3, hcz73_4, hcz73_5, hfz73_0, hfz73_1, hfz73_2, hfz73_3, hfz73_4, hfz73_5⟩ := cz6 (w := w71) BK261.out))
          go_ret
          exact ⟨fi, bl⟩
         replace c69 := Bool.eq_false_iff.mpr c69
         subst c69
         have H1 : ((spinnakerref13_There.f l0_0 l0_1 ((rd_T75 (rd_L5 l0_0 x4_2) x5_3).f2.f0) ((rd_T75 (rd_L5 l0_0 x4_2) x5_3).f2.f1)).bind fun t264 => (if t264 = true then (spinnakerref13_Check.l2 k3 x4_2 (wrap64 (x5_3 + 1)) l0_0 l0_1) else (some 1))) = some r := by rw [if_neg (show ¬ (false = true) by decide)] at H; exact H
         clear H
         have H := H1
         clear H1
         replace H := be H
         obtain ⟨t264, A74, H⟩ := H
         by_cases c75 : t264 = true
         rotate_left
         ·replace c75 := Bool.eq_false_iff.mpr c75
          subst c75
          have H1 : (some 1) = some r := by rw [if_neg (show ¬ (false = true) by decide)] at H; exact H
          clear H
          have H := H1
          clear H1
          obtain rfl := Option.some.inj H
          obtain ⟨hcz82_0, hcz82_1, hfz82_0, hfz82_1⟩ := cz2 (w := wr) BK256.out
          have p258 : 0 ≤ (x4_2 : Int) := od
          have q258 : x4_2 < (l0_0.length : Int) := od
          obtain ⟨ad258, A258_0, c258_0, e258, hx258_0, hl258_0, hi258_0⟩ := at_L5 HR0_0.out x4_2 p258 q258
          cases e258
          replace hx258_0 := cb HB.out hx258_0
          have HR258_0 := Aside0.mk hi258_0
          have HC258_0 := Aside0.mk hl258_0
          clear hi258_0 hl258_0
          replace p258 := eq_true p258
          replace q258 := eq_true q258
          have p259 : 0 ≤ (x4_2 : Int) := od
          have q259 : x4_2 < (l0_0.length : Int) := od
          obtain ⟨ad259, A259_0, c259_0, e259, hx259_0, hl259_0, hi259_0⟩ := at_L5 HR0_0.out x4_2 p259 q259
          obtain rfl : ad258 = ad259 := (by injection e259)
          replace hx259_0 := cb HB.out hx259_0
          have HR259_0 := Aside0.mk hi259_0
          have HC259_0 := Aside0.mk hl259_0
          clear hi259_0 hl259_0
          replace p259 := eq_true p259
          replace q259 := eq_true q259
          have ea_ := Option.some.inj (hx258_0.symm.trans hx259_0)
          injection ea_ with ea_ en_ ec_
          subst ea_
          subst ec_
          clear en_
          have p260 : 0 ≤ (x5_3 : Int) := od
          have q260 : x5_3 < ((rd_L5 l0_0 x4_2).length : Int) := od
          obtain ⟨ad260, e260, hx260_0, hx260_1, hx260_2, hx260_3, hx260_4, hx260_5⟩ := at_T75 HR259_0.out x5_3 p260 q260
          (try rw [← Nbq66.out] at hx260_4)
          (try rw [← Nbq68.out] at hx260_4)
          (try rw [← Nbq66.out] at hx260_5)
          (try rw [← Nbq68.out] at hx260_5)
          cases e260
          replace hx260_0 := cb HB.out hx260_0
          replace hx260_1 := cb HB.out hx260_1
          replace hx260_2 := cb HB.out hx260_2
          replace hx260_3 := cb HB.out hx260_3
          replace hx260_4 := cb HB.out hx260_4
          replace hx260_5 := cb HB.out hx260_5
          replace p260 := eq_true p260
          replace q260 := eq_true q260
          go_wp2_with (first | ((with_reducible refine gate_dst (N := 6) rfl ?_); refine bv 6 #[.int .i64 0, .int .i64 0, .int .i64 0, .int .i64 0, .bool false, .bool false] 75 ?_; intro gb261 hg w83 hbox hb; have n0_ := Aside0.mk (blk_below (g := gb256) (o := .cells #[.slice (some ad258) l0_0.length c0_0, .slice A0_1 l0_1.length c0_1] 42 (0, 0)) (bk BK256.out) hb); have n1_ := Aside0.mk (below_step bl hb); have n2_ := Aside0.mk (hbox); have n3_ := Aside0.mk ((by rw [hg]; exact (below_size bl) : w.heap.size ≤ gb261)); have n4_ := Aside0.mk ((by rw [hg]; exact (below_size bl) : w.heap.size ≤ gb261)); have n5_ := Aside0.mk ((nl hg (bk BK256.out) : gb256 ≠ gb261)); have n6_ := Aside0.mk ((ng hg (bk BK256.out) : gb261 ≠ gb256)); clear BK256; clear HB; have BK256 := n0_; have HB := n1_; have BK261 := n2_; have GW261 := n3_; have GE261 := n4_; have NB256_261 := n5_; have NB261_256 := n6_; clear n0_ n1_ n2_ n3_ n4_ n5_ n6_; clear hb hbox hg; have hnb84 := NB261_256.out; have hnc84 := NB256_261.out; obtain ⟨hcz85_0, hcz85_1, hcz85_2, hcz85_3, hcz85_4, hcz85_5, hfz85_0, hfz85_1, hfz85_2, hfz85_3, hfz85_4, hfz85_5⟩ := cz6 (w := w83) BK261.out; obtain ⟨hcz86_0, hcz86_1, hfz86_0, hfz86_1⟩ := cz2 (w := w83) BK256.out) | (go_at_call 46; (with_reducible refine (spinnakerref13_There.calls _ _ l0_0 _ _ l0_1 ((rd_T75 (rd_L5 l0_0 x4_2) x5_3).f2.f0) ((rd_T75 (rd_L5 l0_0 x4_2) x5_3).f2.f1) false _ ?side1 ?side2 ?side3 ?side4 A74.out).mono ?_); (case side1 => exact Kd.C_below HR0_0.out bl); (case side2 => exact HC0_0.out); (case side3 => exact Kd.C_below HR0_1.out bl); (case side4 => exact HC0_1.out); rintro e w87 ⟨rfl, hb⟩; have n0_ := Aside0.mk (blk_below (g := gb256) (o := .cells #[.slice (some ad258) l0_0.length c0_0, .slice A0_1 l0_1.length c0_1] 42 (0, 0)) (by refine bx ?_; refine blk_far ?_ NB256_261.out _; refine bx ?_; refine blk_far ?_ NB256_261.out _; refine bx ?_; refine blk_far ?_ NB256_261.out _; refine bx ?_; refine blk_far ?_ NB256_261.out _; refine bx ?_; refine blk_far ?_ NB256_261.out _; refine bx ?_; refine blk_far ?_ NB256_261.out _; refine bx ?_; exact BK256.out) hb); have n1_ := Aside0.mk (blk_below (g := gb261) (o := .cells #[.int .i64 ((rd_T75 (rd_L5 l0_0 x4_2) x5_3).f0), .int .i64 ((rd_T75 (rd_L5 l0_0 x4_2) x5_3).f1), .int .i64 ((rd_T75 (rd_L5 l0_0 x4_2) x5_3).f2.f0), .int .i64 ((rd_T75 (rd_L5 l0_0 x4_2) x5_3).f2.f1), .bool true, .bool false] 75 (0, 0)) (by refine bx ?_; refine blk_put (cs := #[.int .i64 ((rd_T75 (rd_L5 l0_0 x4_2) x5_3).f0), .int .i64 ((rd_T75 (rd_L5 l0_0 x4_2) x5_3).f1), .int .i64 ((rd_T75 (rd_L5 l0_0 x4_2) x5_3).f2.f0), .int .i64 ((rd_T75 (rd_L5 l0_0 x4_2) x5_3).f2.f1), .bool true, .bool false]) ?_ 5 _ rfl; refine bx ?_; refine blk_put (cs := #[.int .i64 ((rd_T75 (rd_L5 l0_0 x4_2) x5_3).f0), .int .i64 ((rd_T75 (rd_L5 l0_0 x4_2) x5_3).f1), .int .i64 ((rd_T75 (rd_L5 l0_0 x4_2) x5_3).f2.f0), .int .i64 ((rd_T75 (rd_L5 l0_0 x4_2) x5_3).f2.f1), .bool false, .bool false]) ?_ 4 _ rfl; refine bx ?_; refine blk_put (cs := #[.int .i64 ((rd_T75 (rd_L5 l0_0 x4_2) x5_3).f0), .int .i64 ((rd_T75 (rd_L5 l0_0 x4_2) x5_3).f1), .int .i64 ((rd_T75 (rd_L5 l0_0 x4_2) x5_3).f2.f0), .int .i64 0, .bool false, .bool false]) ?_ 3 _ rfl; refine bx ?_; refine blk_put (cs := #[.int .i64 ((rd_T75 (rd_L5 l0_0 x4_2) x5_3).f0), .int .i64 ((rd_T75 (rd_L5 l0_0 x4_2) x5_3).f1), .int .i64 0, .int .i64 0, .bool false, .bool false]) ?_ 2 _ rfl; refine bx ?_; refine blk_put (cs := #[.int .i64 ((rd_T75 (rd_L5 l0_0 x4_2) x5_3).f0), .int .i64 0, .int .i64 0, .int .i64 0, .bool false, .bool false]) ?_ 1 _ rfl; refine bx ?_; refine blk_put (cs := #[.int .i64 0, .int .i64 0, .int .i64 0, .int .i64 0, .bool false, .bool false]) ?_ 0 _ rfl; refine bx ?_; exact BK261.out) hb); have n2_ := Aside0.mk (below_step bl hb); clear BK256; clear BK261; clear HB; have BK256 := n0_; have BK261 := n1_; have HB := n2_; clear n0_ n1_ n2_; (try clear hb)))
          go_ret
          exact ⟨fi, bl⟩
         subst c75
         have H1 : (spinnakerref13_Check.l2 k3 x4_2 (wrap64 (x5_3 + 1)) l0_0 l0_1) = some r := by rw [if_pos rfl] at H; exact H
         clear H
         have H := H1
         clear H1
         have H' := Aside0.mk H
         clear H
         obtain ⟨hcz76_0, hcz76_1, hfz76_0, hfz76_1⟩ := cz2 (w := wr) BK256.out
         have p258 : 0 ≤ (x4_2 : Int) := od
         have q258 : x4_2 < (l0_0.length : Int) := od
         obtain ⟨ad258, A258_0, c258_0, e258, hx258_0, hl258_0, hi258_0⟩ := at_L5 HR0_0.out x4_2 p258 q258
         cases e258
         replace hx258_0 := cb HB.out hx258_0
         have HR258_0 := Aside0.mk hi258_0
         have HC258_0 := Aside0.mk hl258_0
         clear hi258_0 hl258_0
         replace p258 := eq_true p258
         replace q258 := eq_true q258
         have p259 : 0 ≤ (x4_2 : Int) := od
         have q259 : x4_2 < (l0_0.length : Int) := od
         obtain ⟨ad259, A259_0, c259_0, e259, hx259_0, hl259_0, hi259_0⟩ := at_L5 HR0_0.out x4_2 p259 q259
         obtain rfl : ad258 = ad259 := (by injection e259)
         replace hx259_0 := cb HB.out hx259_0
         have HR259_0 := Aside0.mk hi259_0
         have HC259_0 := Aside0.mk hl259_0
         clear hi259_0 hl259_0
         replace p259 := eq_true p259
         replace q259 := eq_true q259
         have ea_ := Option.some.inj (hx258_0.symm.trans hx259_0)
         injection ea_ with ea_ en_ ec_
         subst ea_
         subst ec_
         clear en_
         have p260 : 0 ≤ (x5_3 : Int) := od
         have q260 : x5_3 < ((rd_L5 l0_0 x4_2).length : Int) := od
         obtain ⟨ad260, e260, hx260_0, hx260_1, hx260_2, hx260_3, hx260_4, hx260_5⟩ := at_T75 HR259_0.out x5_3 p260 q260
         (try rw [← Nbq66.out] at hx260_4)
         (try rw [← Nbq68.out] at hx260_4)
         (try rw [← Nbq66.out] at hx260_5)
         (try rw [← Nbq68.out] at hx260_5)
         cases e260
         replace hx260_0 := cb HB.out hx260_0
         replace hx260_1 := cb HB.out hx260_1
         replace hx260_2 := cb HB.out hx260_2
         replace hx260_3 := cb HB.out hx260_3
         replace hx260_4 := cb HB.out hx260_4
         replace hx260_5 := cb HB.out hx260_5
         replace p260 := eq_true p260
         replace q260 := eq_true q260
         go_wp2_with (first | ((with_reducible refine gate_dst (N := 6) rfl ?_); refine bv 6 #[.int .i64 0, .int .i64 0, .int .i64 0, .int .i64 0, .bool false, .bool false] 75 ?_; intro gb261 hg w77 hbox hb; have n0_ := Aside0.mk (blk_below (g := gb256) (o := .cells #[.slice (some ad258) l0_0.length c0_0, .slice A0_1 l0_1.length c0_1] 42 (0, 0)) (bk BK256.out) hb); have n1_ := Aside0.mk (below_step bl hb); have n2_ := Aside0.mk (hbox); have n3_ := Aside0.mk ((by rw [hg]; exact (below_size bl) : w.heap.size ≤ gb261)); have n4_ := Aside0.mk ((by rw [hg]; exact (below_size bl) : w.heap.size ≤ gb261)); have n5_ := Aside0.mk ((nl hg (bk BK256.out) : gb256 ≠ gb261)); have n6_ := Aside0.mk ((ng hg (bk BK256.out) : gb261 ≠ gb256)); clear BK256; clear HB; have BK256 := n0_; have HB := n1_; have BK261 := n2_; have GW261 := n3_; have GE261 := n4_; have NB256_261 := n5_; have NB261_256 := n6_; clear n0_ n1_ n2_ n3_ n4_ n5_ n6_; clear hb hbox hg; have hnb78 := NB261_256.out; have hnc78 := NB256_261.out; obtain ⟨hcz79_0, hcz79_1, hcz79_2, hcz79_3, hcz79_4, hcz79_5, hfz79_0, hfz79_1, hfz79_2, hfz79_3, hfz79_4, hfz79_5⟩ := cz6 (w := w77) BK261.out; obtain ⟨hcz80_0, hcz80_1, hfz80_0, hfz80_1⟩ := cz2 (w := w77) BK256.out) | (go_at_call 46; (with_reducible refine (spinnakerref13_There.calls _ _ l0_0 _ _ l0_1 ((rd_T75 (rd_L5 l0_0 x4_2) x5_3).f2.f0) ((rd_T75 (rd_L5 l0_0 x4_2) x5_3).f2.f1) true _ ?side1 ?side2 ?side3 ?side4 A74.out).mono ?_); (case side1 => exact Kd.C_below HR0_0.out bl); (case side2 => exact HC0_0.out); (case side3 => exact Kd.C_below HR0_1.out bl); (case side4 => exact HC0_1.out); rintro e w81 ⟨rfl, hb⟩; have n0_ := Aside0.mk (blk_below (g := gb256) (o := .cells #[.slice (some ad258) l0_0.length c0_0, .slice A0_1 l0_1.length c0_1] 42 (0, 0)) (by refine bx ?_; refine blk_far ?_ NB256_261.out _; refine bx ?_; refine blk_far ?_ NB256_261.out _; refine bx ?_; refine blk_far ?_ NB256_261.out _; refine bx ?_; refine blk_far ?_ NB256_261.out _; refine bx ?_; refine blk_far ?_ NB256_261.out _; refine bx ?_; refine blk_far ?_ NB256_261.out _; refine bx ?_; exact BK256.out) hb); have n1_ := Aside0.mk (blk_below (g := gb261) (o := .cells #[.int .i64 ((rd_T75 (rd_L5 l0_0 x4_2) x5_3).f0), .int .i64 ((rd_T75 (rd_L5 l0_0 x4_2) x5_3).f1), .int .i64 ((rd_T75 (rd_L5 l0_0 x4_2) x5_3).f2.f0), .int .i64 ((rd_T75 (rd_L5 l0_0 x4_2) x5_3).f2.f1), .bool true, .bool false] 75 (0, 0)) (by refine bx ?_; refine blk_put (cs := #[.int .i64 ((rd_T75 (rd_L5 l0_0 x4_2) x5_3).f0), .int .i64 ((rd_T75 (rd_L5 l0_0 x4_2) x5_3).f1), .int .i64 ((rd_T75 (rd_L5 l0_0 x4_2) x5_3).f2.f0), .int .i64 ((rd_T75 (rd_L5 l0_0 x4_2) x5_3).f2.f1), .bool true, .bool false]) ?_ 5 _ rfl; refine bx ?_; refine blk_put (cs := #[.int .i64 ((rd_T75 (rd_L5 l0_0 x4_2) x5_3).f0), .int .i64 ((rd_T75 (rd_L5 l0_0 x4_2) x5_3).f1), .int .i64 ((rd_T75 (rd_L5 l0_0 x4_2) x5_3).f2.f0), .int .i64 ((rd_T75 (rd_L5 l0_0 x4_2) x5_3).f2.f1), .bool false, .bool false]) ?_ 4 _ rfl; refine bx ?_; refine blk_put (cs := #[.int .i64 ((rd_T75 (rd_L5 l0_0 x4_2) x5_3).f0), .int .i64 ((rd_T75 (rd_L5 l0_0 x4_2) x5_3).f1), .int .i64 ((rd_T75 (rd_L5 l0_0 x4_2) x5_3).f2.f0), .int .i64 0, .bool false, .bool false]) ?_ 3 _ rfl; refine bx ?_; refine blk_put (cs := #[.int .i64 ((rd_T75 (rd_L5 l0_0 x4_2) x5_3).f0), .int .i64 ((rd_T75 (rd_L5 l0_0 x4_2) x5_3).f1), .int .i64 0, .int .i64 0, .bool false, .bool false]) ?_ 2 _ rfl; refine bx ?_; refine blk_put (cs := #[.int .i64 ((rd_T75 (rd_L5 l0_0 x4_2) x5_3).f0), .int .i64 0, .int .i64 0, .int .i64 0, .bool false, .bool false]) ?_ 1 _ rfl; refine bx ?_; refine blk_put (cs := #[.int .i64 0, .int .i64 0, .int .i64 0, .int .i64 0, .bool false, .bool false]) ?_ 0 _ rfl; refine bx ?_; exact BK261.out) hb); have n2_ := Aside0.mk (below_step bl hb); clear BK256; clear BK261; clear HB; have BK256 := n0_; have BK261 := n1_; have HB := n2_; clear n0_ n1_ n2_; (try clear hb)))
         go_roundg k3
         case measure => have := HK1.out; have := HK2.out; have := HK3.out; omega
         case rel => exact ⟨(wrap64 (x5_3 + 1)), fj, H', ⟨by have := HK1.out; have := HK2.out; have := HK3.out; omega⟩, ⟨by refine bx ?_; exact BK256.out⟩, ⟨bl⟩⟩
        rw [if_pos c19] at H
        obtain ⟨c19b0, c19b1⟩ := eqs c19
        clear c19
        obtain ⟨bq20, hbq20⟩ : ∃ b_ : Bool, b_ = ((rd_T75 (rd_L5 l0_0 x4_2) x5_3).f3) := ⟨_, rfl⟩
        replace H : (if bq20 = true then (if (rd_T75 (rd_L5 l0_0 x4_2) x5_3).f4 = true then (some 1) else (if (((rd_T75 (rd_L5 l0_0 x4_2) x5_3).f2.f1) = 0) then (spinnakerref13_Check.l2 k3 x4_2 (wrap64 (x5_3 + 1)) l0_0 l0_1) else ((spinnakerref13_There.f l0_0 l0_1 ((rd_T75 (rd_L5 l0_0 x4_2) x5_3).f2.f0) ((rd_T75 (rd_L5 l0_0 x4_2) x5_3).f2.f1)).bind fun t262 => (if t262 = true then (spinnakerref13_Check.l2 k3 x4_2 (wrap64 (x5_3 + 1)) l0_0 l0_1) else (some 1))))) else (if (((rd_T75 (rd_L5 l0_0 x4_2) x5_3).f2.f1) = 0) then (spinnakerref13_Check.l2 k3 x4_2 (wrap64 (x5_3 + 1)) l0_0 l0_1) else ((spinnakerref13_There.f l0_0 l0_1 ((rd_T75 (rd_L5 l0_0 x4_2) x5_3).f2.f0) ((rd_T75 (rd_L5 l0_0 x4_2) x5_3).f2.f1)).bind fun t263 => (if t263 = true then (spinnakerref13_Check.l2 k3 x4_2 (wrap64 (x5_3 + 1)) l0_0 l0_1) else (some 1))))) = some r := by rw [← hbq20] at H; exact H
        have Nbq20 := Aside0.mk hbq20
        clear hbq20
        by_cases c21 : bq20 = true
        rotate_left
        ·replace c21 := Bool.eq_false_iff.mpr c21
         subst c21
         have H1 : (if (((rd_T75 (rd_L5 l0_0 x4_2) x5_3).f2.f1) = 0) then (spinnakerref13_Check.l2 k3 x4_2 (wrap64 (x5_3 + 1)) l0_0 l0_1) else ((spinnakerref13_There.f l0_0 l0_1 ((rd_T75 (rd_L5 l0_0 x4_2) x5_3).f2.f0) ((rd_T75 (rd_L5 l0_0 x4_2) x5_3).f2.f1)).bind fun t263 => (if t263 = true then (spinnakerref13_Check.l2 k3 x4_2 (wrap64 (x5_3 + 1)) l0_0 l0_1) else (some 1)))) = some r := by rw [if_neg (show ¬ (false = true) by decide)] at H; exact H
         clear H
         have H := H1
         clear H1
         by_cases c47 : (((rd_T75 (rd_L5 l0_0 x4_2) x5_3).f2.f1) = 0)
         ·rw [if_pos c47] at H
          obtain ⟨c47b0, c47b1⟩ := eqs c47
          clear c47
          have H' := Aside0.mk H
          clear H
          obtain ⟨hcz48_0, hcz48_1, hfz48_0, hfz48_1⟩ := cz2 (w := wr) BK256.out
          have p258 : 0 ≤ (x4_2 : Int) := od
          have q258 : x4_2 < (l0_0.length : Int) := od
          obtain ⟨ad258, A258_0, c258_0, e258, hx258_0, hl258_0, hi258_0⟩ := at_L5 HR0_0.out x4_2 p258 q258
          cases e258
          replace hx258_0 := cb HB.out hx258_0
          have HR258_0 := Aside0.mk hi258_0
          have HC258_0 := Aside0.mk hl258_0
          clear hi258_0 hl258_0
          replace p258 := eq_true p258
          replace q258 := eq_true q258
          have p259 : 0 ≤ (x4_2 : Int) := od
          have q259 : x4_2 < (l0_0.length : Int) := od
          obtain ⟨ad259, A259_0, c259_0, e259, hx259_0, hl259_0, hi259_0⟩ := at_L5 HR0_0.out x4_2 p259 q259
          obtain rfl : ad258 = ad259 := (by injection e259)
          replace hx259_0 := cb HB.out hx259_0
          have HR259_0 := Aside0.mk hi259_0
          have HC259_0 := Aside0.mk hl259_0
          clear hi259_0 hl259_0
          replace p259 := eq_true p259
          replace q259 := eq_true q259
          have ea_ := Option.some.inj (hx258_0.symm.trans hx259_0)
          injection ea_ with ea_ en_ ec_
          subst ea_
          subst ec_
          clear en_
          have p260 : 0 ≤ (x5_3 : Int) := od
          have q260 : x5_3 < ((rd_L5 l0_0 x4_2).length : Int) := od
          obtain ⟨ad260, e260, hx260_0, hx260_1, hx260_2, hx260_3, hx260_4, hx260_5⟩ := at_T75 HR259_0.out x5_3 p260 q260
          (try rw [← Nbq20.out] at hx260_4)
          (try rw [← Nbq20.out] at hx260_5)
          cases e260
          replace hx260_0 := cb HB.out hx260_0
          replace hx260_1 := cb HB.out hx260_1
          replace hx260_2 := cb HB.out hx260_2
          replace hx260_3 := cb HB.out hx260_3
          replace hx260_4 := cb HB.out hx260_4
          replace hx260_5 := cb HB.out hx260_5
          replace p260 := eq_true p260
          replace q260 := eq_true q260
          go_wp2_with (first | ((with_reducible refine gate_dst (N := 6) rfl ?_); refine bv 6 #[.int .i64 0, .int .i64 0, .int .i64 0, .int .i64 0, .bool false, .bool false] 75 ?_; intro gb261 hg w49 hbox hb; have n0_ := Aside0.mk (blk_below (g := gb256) (o := .cells #[.slice (some ad258) l0_0.length c0_0, .slice A0_1 l0_1.length c0_1] 42 (0, 0)) (bk BK256.out) hb); have n1_ := Aside0.mk (below_step bl hb); have n2_ := Aside0.mk (hbox); have n3_ := Aside0.mk ((by rw [hg]; exact (below_size bl) : w.heap.size ≤ gb261)); have n4_ := Aside0.mk ((by rw [hg]; exact (below_size bl) : w.heap.size ≤ gb261)); have n5_ := Aside0.mk ((nl hg (bk BK256.out) : gb256 ≠ gb261)); have n6_ := Aside0.mk ((ng hg (bk BK256.out) : gb261 ≠ gb256)); clear BK256; clear HB; have BK256 := n0_; have HB := n1_; have BK261 := n2_; have GW261 := n3_; have GE261 := n4_; have NB256_261 := n5_; have NB261_256 := n6_; clear n0_ n1_ n2_ n3_ n4_ n5_ n6_; clear hb hbox hg; have hnb50 := NB261_256.out; have hnc50 := NB256_261.out; obtain ⟨hcz51_0, hcz51_1, hcz51_2, hcz51_3, hcz51_4, hcz51_5, hfz51_0, hfz51_1, hfz51_2, hfz51_3, hfz51_4, hfz51_5⟩ := cz6 (w := w49) BK261.out))
          go_roundg k3
          case measure => have := HK1.out; have := HK2.out; have := HK3.out; omega
          case rel => exact ⟨(wrap64 (x5_3 + 1)), fj, H', ⟨by have := HK1.out; have := HK2.out; have := HK3.out; omega⟩, ⟨by refine bx ?_; refine blk_far ?_ NB256_261.out _; refine bx ?_; refine blk_far ?_ NB256_261.out _; refine bx ?_; refine blk_far ?_ NB256_261.out _; refine bx ?_; refine blk_far ?_ NB256_261.out _; refine bx ?_; refine blk_far ?_ NB256_261.out _; refine bx ?_; refine blk_far ?_ NB256_261.out _; refine bx ?_; exact BK256.out⟩, ⟨bl⟩⟩
         rw [if_neg c47] at H
         have c47b0 : (((rd_T75 (rd_L5 l0_0 x4_2) x5_3).f2.f1) == 0) = false := beq_eq_false_iff_ne.mpr c47
         have c47b1 : (((rd_T75 (rd_L5 l0_0 x4_2) x5_3).f2.f1) != 0) = true := bne_iff_ne.mpr c47
         replace H := be H
         obtain ⟨t263, A52, H⟩ := H
         by_cases c53 : t263 = true
         rotate_left
         ·replace c53 := Bool.eq_false_iff.mpr c53
          subst c53
          have H1 : (some 1) = some r := by rw [if_neg (show ¬ (false = true) by decide)] at H; exact H
          clear H
          have H := H1
          clear H1
          obtain rfl := Option.some.inj H
          obtain ⟨hcz60_0, hcz60_1, hfz60_0, hfz60_1⟩ := cz2 (w := wr) BK256.out
          have p258 : 0 ≤ (x4_2 : Int) := od
          have q258 : x4_2 < (l0_0.length : Int) := od
          obtain ⟨ad258, A258_0, c258_0, e258, hx258_0, hl258_0, hi258_0⟩ := at_L5 HR0_0.out x4_2 p258 q258
          cases e258
          replace hx258_0 := cb HB.out hx258_0
          have HR258_0 := Aside0.mk hi258_0
          have HC258_0 := Aside0.mk hl258_0
          clear hi258_0 hl258_0
          replace p258 := eq_true p258
          replace q258 := eq_true q258
          have p259 : 0 ≤ (x4_2 : Int) := od
          have q259 : x4_2 < (l0_0.length : Int) := od
          obtain ⟨ad259, A259_0, c259_0, e259, hx259_0, hl259_0, hi259_0⟩ := at_L5 HR0_0.out x4_2 p259 q259
          obtain rfl : ad258 = ad259 := (by injection e259)
          replace hx259_0 := cb HB.out hx259_0
          have HR259_0 := Aside0.mk hi259_0
          have HC259_0 := Aside0.mk hl259_0
          clear hi259_0 hl259_0
          replace p259 := eq_true p259
          replace q259 := eq_true q259
          have ea_ := Option.some.inj (hx258_0.symm.trans hx259_0)
          injection ea_ with ea_ en_ ec_
          subst ea_
          subst ec_
          clear en_
          have p260 : 0 ≤ (x5_3 : Int) := od
          have q260 : x5_3 < ((rd_L5 l0_0 x4_2).length : Int) := od
          obtain ⟨ad260, e260, hx260_0, hx260_1, hx260_2, hx260_3, hx260_4, hx260_5⟩ := at_T75 HR259_0.out x5_3 p260 q260
          (try rw [← Nbq20.out] at hx260_4)
          (try rw [← Nbq20.out] at hx260_5)
          cases e260
          replace hx260_0 := cb HB.out hx260_0
          replace hx260_1 := cb HB.out hx260_1
          replace hx260_2 := cb HB.out hx260_2
          replace hx260_3 := cb HB.out hx260_3
          replace hx260_4 := cb HB.out hx260_4
          replace hx260_5 := cb HB.out hx260_5
          replace p260 := eq_true p260
          replace q260 := eq_true q260
          go_wp2_with (first | ((with_reducible refine gate_dst (N := 6) rfl ?_); refine bv 6 #[.int .i64 0, .int .i64 0, .int .i64 0, .int .i64 0, .bool false, .bool false] 75 ?_; intro gb261 hg w61 hbox hb; have n0_ := Aside0.mk (blk_below (g := gb256) (o := .cells #[.slice (some ad258) l0_0.length c0_0, .slice A0_1 l0_1.length c0_1] 42 (0, 0)) (bk BK256.out) hb); have n1_ := Aside0.mk (below_step bl hb); have n2_ := Aside0.mk (hbox); have n3_ := Aside0.mk ((by rw [hg]; exact (below_size bl) : w.heap.size ≤ gb261)); have n4_ := Aside0.mk ((by rw [hg]; exact (below_size bl) : w.heap.size ≤ gb261)); have n5_ := Aside0.mk ((nl hg (bk BK256.out) : gb256 ≠ gb261)); have n6_ := Aside0.mk ((ng hg (bk BK256.out) : gb261 ≠ gb256)); clear BK256; clear HB; have BK256 := n0_; have HB := n1_; have BK261 := n2_; have GW261 := n3_; have GE261 := n4_; have NB256_261 := n5_; have NB261_256 := n6_; clear n0_ n1_ n2_ n3_ n4_ n5_ n6_; clear hb hbox hg; have hnb62 := NB261_256.out; have hnc62 := NB256_261.out; obtain ⟨hcz63_0, hcz63_1, hcz63_2, hcz63_3, hcz63_4, hcz63_5, hfz63_0, hfz63_1, hfz63_2, hfz63_3, hfz63_4, hfz63_5⟩ := cz6 (w := w61) BK261.out; obtain ⟨hcz64_0, hcz64_1, hfz64_0, hfz64_1⟩ := cz2 (w := w61) BK256.out) | (go_at_call 46; (with_reducible refine (spinnakerref13_There.calls _ _ l0_0 _ _ l0_1 ((rd_T75 (rd_L5 l0_0 x4_2) x5_3).f2.f0) ((rd_T75 (rd_L5 l0_0 x4_2) x5_3).f2.f1) false _ ?side1 ?side2 ?side3 ?side4 A52.out).mono ?_); (case side1 => exact Kd.C_below HR0_0.out bl); (case side2 => exact HC0_0.out); (case side3 => exact Kd.C_below HR0_1.out bl); (case side4 => exact HC0_1.out); rintro e w65 ⟨rfl, hb⟩; have n0_ := Aside0.mk (blk_below (g := gb256) (o := .cells #[.slice (some ad258) l0_0.length c0_0, .slice A0_1 l0_1.length c0_1] 42 (0, 0)) (by refine bx ?_; refine blk_far ?_ NB256_261.out _; refine bx ?_; refine blk_far ?_ NB256_261.out _; refine bx ?_; refine blk_far ?_ NB256_261.out _; refine bx ?_; refine blk_far ?_ NB256_261.out _; refine bx ?_; refine blk_far ?_ NB256_261.out _; refine bx ?_; refine blk_far ?_ NB256_261.out _; refine bx ?_; exact BK256.out) hb); have n1_ := Aside0.mk (blk_below (g := gb261) (o := .cells #[.int .i64 ((rd_T75 (rd_L5 l0_0 x4_2) x5_3).f0), .int .i64 ((rd_T75 (rd_L5 l0_0 x4_2) x5_3).f1), .int .i64 ((rd_T75 (rd_L5 l0_0 x4_2) x5_3).f2.f0), .int .i64 ((rd_T75 (rd_L5 l0_0 x4_2) x5_3).f2.f1), .bool false, .bool ((rd_T75 (rd_L5 l0_0 x4_2) x5_3).f4)] 75 (0, 0)) (by refine bx ?_; refine blk_put (cs := #[.int .i64 ((rd_T75 (rd_L5 l0_0 x4_2) x5_3).f0), .int .i64 ((rd_T75 (rd_L5 l0_0 x4_2) x5_3).f1), .int .i64 ((rd_T75 (rd_L5 l0_0 x4_2) x5_3).f2.f0), .int .i64 ((rd_T75 (rd_L5 l0_0 x4_2) x5_3).f2.f1), .bool false, .bool false]) ?_ 5 _ rfl; refine bx ?_; refine blk_put (cs := #[.int .i64 ((rd_T75 (rd_L5 l0_0 x4_2) x5_3).f0), .int .i64 ((rd_T75 (rd_L5 l0_0 x4_2) x5_3).f1), .int .i64 ((rd_T75 (rd_L5 l0_0 x4_2) x5_3).f2.f0), .int .i64 ((rd_T75 (rd_L5 l0_0 x4_2) x5_3).f2.f1), .bool false, .bool false]) ?_ 4 _ rfl; refine bx ?_; refine blk_put (cs := #[.int .i64 ((rd_T75 (rd_L5 l0_0 x4_2) x5_3).f0), .int .i64 ((rd_T75 (rd_L5 l0_0 x4_2) x5_3).f1), .int .i64 ((rd_T75 (rd_L5 l0_0 x4_2) x5_3).f2.f0), .int .i64 0, .bool false, .bool false]) ?_ 3 _ rfl; refine bx ?_; refine blk_put (cs := #[.int .i64 ((rd_T75 (rd_L5 l0_0 x4_2) x5_3).f0), .int .i64 ((rd_T75 (rd_L5 l0_0 x4_2) x5_3).f1), .int .i64 0, .int .i64 0, .bool false, .bool false]) ?_ 2 _ rfl; refine bx ?_; refine blk_put (cs := #[.int .i64 ((rd_T75 (rd_L5 l0_0 x4_2) x5_3).f0), .int .i64 0, .int .i64 0, .int .i64 0, .bool false, .bool false]) ?_ 1 _ rfl; refine bx ?_; refine blk_put (cs := #[.int .i64 0, .int .i64 0, .int .i64 0, .int .i64 0, .bool false, .bool false]) ?_ 0 _ rfl; refine bx ?_; exact BK261.out) hb); have n2_ := Aside0.mk (below_step bl hb); clear BK256; clear BK261; clear HB; have BK256 := n0_; have BK261 := n1_; have HB := n2_; clear n0_ n1_ n2_; (try clear hb)))
          go_ret
          exact ⟨fi, bl⟩
         subst c53
         have H1 : (spinnakerref13_Check.l2 k3 x4_2 (wrap64 (x5_3 + 1)) l0_0 l0_1) = some r := by rw [if_pos rfl] at H; exact H
         clear H
         have H := H1
         clear H1
         have H' := Aside0.mk H
         clear H
         obtain ⟨hcz54_0, hcz54_1, hfz54_0, hfz54_1⟩ := cz2 (w := wr) BK256.out
         have p258 : 0 ≤ (x4_2 : Int) := od
         have q258 : x4_2 < (l0_0.length : Int) := od
         obtain ⟨ad258, A258_0, c258_0, e258, hx258_0, hl258_0, hi258_0⟩ := at_L5 HR0_0.out x4_2 p258 q258
         cases e258
         replace hx258_0 := cb HB.out hx258_0
         have HR258_0 := Aside0.mk hi258_0
         have HC258_0 := Aside0.mk hl258_0
         clear hi258_0 hl258_0
         replace p258 := eq_true p258
         replace q258 := eq_true q258
         have p259 : 0 ≤ (x4_2 : Int) := od
         have q259 : x4_2 < (l0_0.length : Int) := od
         obtain ⟨ad259, A259_0, c259_0, e259, hx259_0, hl259_0, hi259_0⟩ := at_L5 HR0_0.out x4_2 p259 q259
         obtain rfl : ad258 = ad259 := (by injection e259)
         replace hx259_0 := cb HB.out hx259_0
         have HR259_0 := Aside0.mk hi259_0
         have HC259_0 := Aside0.mk hl259_0
         clear hi259_0 hl259_0
         replace p259 := eq_true p259
         replace q259 := eq_true q259
         have ea_ := Option.some.inj (hx258_0.symm.trans hx259_0)
         injection ea_ with ea_ en_ ec_
         subst ea_
         subst ec_
         clear en_
         have p260 : 0 ≤ (x5_3 : Int) := od
         have q260 : x5_3 < ((rd_L5 l0_0 x4_2).length : Int) := od
         obtain ⟨ad260, e260, hx260_0, hx260_1, hx260_2, hx260_3, hx260_4, hx260_5⟩ := at_T75 HR259_0.out x5_3 p260 q260
         (try rw [← Nbq20.out] at hx260_4)
         (try rw [← Nbq20.out] at hx260_5)
         cases e260
         replace hx260_0 := cb HB.out hx260_0
         replace hx260_1 := cb HB.out hx260_1
         replace hx260_2 := cb HB.out hx260_2
         replace hx260_3 := cb HB.out hx260_3
         replace hx260_4 := cb HB.out hx260_4
         replace hx260_5 := cb HB.out hx260_5
         replace p260 := eq_true p260
         replace q260 := eq_true q260
         go_wp2_with (first | ((with_reducible refine gate_dst (N := 6) rfl ?_); refine bv 6 #[.int .i64 0, .int .i64 0, .int .i64 0, .int .i64 0, .bool false, .bool false] 75 ?_; intro gb261 hg w55 hbox hb; have n0_ := Aside0.mk (blk_below (g := gb256) (o := .cells #[.slice (some ad258) l0_0.length c0_0, .slice A0_1 l0_1.length c0_1] 42 (0, 0)) (bk BK256.out) hb); have n1_ := Aside0.mk (below_step bl hb); have n2_ := Aside0.mk (hbox); have n3_ := Aside0.mk ((by rw [hg]; exact (below_size bl) : w.heap.size ≤ gb261)); have n4_ := Aside0.mk ((by rw [hg]; exact (below_size bl) : w.heap.size ≤ gb261)); have n5_ := Aside0.mk ((nl hg (bk BK256.out) : gb256 ≠ gb261)); have n6_ := Aside0.mk ((ng hg (bk BK256.out) : gb261 ≠ gb256)); clear BK256; clear HB; have BK256 := n0_; have HB := n1_; have BK261 := n2_; have GW261 := n3_; have GE261 := n4_; have NB256_261 := n5_; have NB261_256 := n6_; clear n0_ n1_ n2_ n3_ n4_ n5_ n6_; clear hb hbox hg; have hnb56 := NB261_256.out; have hnc56 := NB256_261.out; obtain ⟨hcz57_0, hcz57_1, hcz57_2, hcz57_3, hcz57_4, hcz57_5, hfz57_0, hfz57_1, hfz57_2, hfz57_3, hfz57_4, hfz57_5⟩ := cz6 (w := w55) BK261.out; obtain ⟨hcz58_0, hcz58_1, hfz58_0, hfz58_1⟩ := cz2 (w := w55) BK256.out) | (go_at_call 46; (with_reducible refine (spinnakerref13_There.calls _ _ l0_0 _ _ l0_1 ((rd_T75 (rd_L5 l0_0 x4_2) x5_3).f2.f0) ((rd_T75 (rd_L5 l0_0 x4_2) x5_3).f2.f1) true _ ?side1 ?side2 ?side3 ?side4 A52.out).mono ?_); (case side1 => exact Kd.C_below HR0_0.out bl); (case side2 => exact HC0_0.out); (case side3 => exact Kd.C_below HR0_1.out bl); (case side4 => exact HC0_1.out); rintro e w59 ⟨rfl, hb⟩; have n0_ := Aside0.mk (blk_below (g := gb256) (o := .cells #[.slice (some ad258) l0_0.length c0_0, .slice A0_1 l0_1.length c0_1] 42 (0, 0)) (by refine bx ?_; refine blk_far ?_ NB256_261.out _; refine bx ?_; refine blk_far ?_ NB256_261.out _; refine bx ?_; refine blk_far ?_ NB256_261.out _; refine bx ?_; refine blk_far ?_ NB256_261.out _; refine bx ?_; refine blk_far ?_ NB256_261.out _; refine bx ?_; refine blk_far ?_ NB256_261.out _; refine bx ?_; exact BK256.out) hb); have n1_ := Aside0.mk (blk_below (g := gb261) (o := .cells #[.int .i64 ((rd_T75 (rd_L5 l0_0 x4_2) x5_3).f0), .int .i64 ((rd_T75 (rd_L5 l0_0 x4_2) x5_3).f1), .int .i64 ((rd_T75 (rd_L5 l0_0 x4_2) x5_3).f2.f0), .int .i64 ((rd_T75 (rd_L5 l0_0 x4_2) x5_3).f2.f1), .bool false, .bool ((rd_T75 (rd_L5 l0_0 x4_2) x5_3).f4)] 75 (0, 0)) (by refine bx ?_; refine blk_put (cs := #[.int .i64 ((rd_T75 (rd_L5 l0_0 x4_2) x5_3).f0), .int .i64 ((rd_T75 (rd_L5 l0_0 x4_2) x5_3).f1), .int .i64 ((rd_T75 (rd_L5 l0_0 x4_2) x5_3).f2.f0), .int .i64 ((rd_T75 (rd_L5 l0_0 x4_2) x5_3).f2.f1), .bool false, .bool false]) ?_ 5 _ rfl; refine bx ?_; refine blk_put (cs := #[.int .i64 ((rd_T75 (rd_L5 l0_0 x4_2) x5_3).f0), .int .i64 ((rd_T75 (rd_L5 l0_0 x4_2) x5_3).f1), .int .i64 ((rd_T75 (rd_L5 l0_0 x4_2) x5_3).f2.f0), .int .i64 ((rd_T75 (rd_L5 l0_0 x4_2) x5_3).f2.f1), .bool false, .bool false]) ?_ 4 _ rfl; refine bx ?_; refine blk_put (cs := #[.int .i64 ((rd_T75 (rd_L5 l0_0 x4_2) x5_3).f0), .int .i64 ((rd_T75 (rd_L5 l0_0 x4_2) x5_3).f1), .int .i64 ((rd_T75 (rd_L5 l0_0 x4_2) x5_3).f2.f0), .int .i64 0, .bool false, .bool false]) ?_ 3 _ rfl; refine bx ?_; refine blk_put (cs := #[.int .i64 ((rd_T75 (rd_L5 l0_0 x4_2) x5_3).f0), .int .i64 ((rd_T75 (rd_L5 l0_0 x4_2) x5_3).f1), .int .i64 0, .int .i64 0, .bool false, .bool false]) ?_ 2 _ rfl; refine bx ?_; refine blk_put (cs := #[.int .i64 ((rd_T75 (rd_L5 l0_0 x4_2) x5_3).f0), .int .i64 0, .int .i64 0, .int .i64 0, .bool false, .bool false]) ?_ 1 _ rfl; refine bx ?_; refine blk_put (cs := #[.int .i64 0, .int .i64 0, .int .i64 0, .int .i64 0, .bool false, .bool false]) ?_ 0 _ rfl; refine bx ?_; exact BK261.out) hb); have n2_ := Aside0.mk (below_step bl hb); clear BK256; clear BK261; clear HB; have BK256 := n0_; have BK261 := n1_; have HB := n2_; clear n0_ n1_ n2_; (try clear hb)))
         go_roundg k3
         case measure => have := HK1.out; have := HK2.out; have := HK3.out; omega
         case rel => exact ⟨(wrap64 (x5_3 + 1)), fj, H', ⟨by have := HK1.out; have := HK2.out; have := HK3.out; omega⟩, ⟨by refine bx ?_; exact BK256.out⟩, ⟨bl⟩⟩
        subst c21
        have H1 : (if (rd_T75 (rd_L5 l0_0 x4_2) x5_3).f4 = true then (some 1) else (if (((rd_T75 (rd_L5 l0_0 x4_2) x5_3).f2.f1) = 0) then (spinnakerref13_Check.l2 k3 x4_2 (wrap64 (x5_3 + 1)) l0_0 l0_1) else ((spinnakerref13_There.f l0_0 l0_1 ((rd_T75 (rd_L5 l0_0 x4_2) x5_3).f2.f0) ((rd_T75 (rd_L5 l0_0 x4_2) x5_3).f2.f1)).bind fun t262 => (if t262 = true then (spinnakerref13_Check.l2 k3 x4_2 (wrap64 (x5_3 + 1)) l0_0 l0_1) else (some 1))))) = some r := by rw [if_pos rfl] at H; exact H
        clear H
        have H := H1
        clear H1
        obtain ⟨bq22, hbq22⟩ : ∃ b_ : Bool, b_ = ((rd_T75 (rd_L5 l0_0 x4_2) x5_3).f4) := ⟨_, rfl⟩
        replace H : (if bq22 = true then (some 1) else (if (((rd_T75 (rd_L5 l0_0 x4_2) x5_3).f2.f1) = 0) then (spinnakerref13_Check.l2 k3 x4_2 (wrap64 (x5_3 + 1)) l0_0 l0_1) else ((spinnakerref13_There.f l0_0 l0_1 ((rd_T75 (rd_L5 l0_0 x4_2) x5_3).f2.f0) ((rd_T75 (rd_L5 l0_0 x4_2) x5_3).f2.f1)).bind fun t262 => (if t262 = true then (spinnakerref13_Check.l2 k3 x4_2 (wrap64 (x5_3 + 1)) l0_0 l0_1) else (some 1))))) = some r := by rw [← hbq22] at H; exact H
        have Nbq22 := Aside0.mk hbq22
        clear hbq22
        by_cases c23 : bq22 = true
        ·subst c23
         have H1 : (some 1) = some r := by rw [if_pos rfl] at H; exact H
         clear H
         have H := H1
         clear H1
         obtain rfl := Option.some.inj H
         obtain ⟨hcz24_0, hcz24_1, hfz24_0, hfz24_1⟩ := cz2 (w := wr) BK256.out
         have p258 : 0 ≤ (x4_2 : Int) := od
         have q258 : x4_2 < (l0_0.length : Int) := od
         obtain ⟨ad258, A258_0, c258_0, e258, hx258_0, hl258_0, hi258_0⟩ := at_L5 HR0_0.out x4_2 p258 q258
         cases e258
         replace hx258_0 := cb HB.out hx258_0
         have HR258_0 := Aside0.mk hi258_0
         have HC258_0 := Aside0.mk hl258_0
         clear hi258_0 hl258_0
         replace p258 := eq_true p258
         replace q258 := eq_true q258
         have p259 : 0 ≤ (x4_2 : Int) := od
         have q259 : x4_2 < (l0_0.length : Int) := od
         obtain ⟨ad259, A259_0, c259_0, e259, hx259_0, hl259_0, hi259_0⟩ := at_L5 HR0_0.out x4_2 p259 q259
         obtain rfl : ad258 = ad259 := (by injection e259)
         replace hx259_0 := cb HB.out hx259_0
         have HR259_0 := Aside0.mk hi259_0
         have HC259_0 := Aside0.mk hl259_0
         clear hi259_0 hl259_0
         replace p259 := eq_true p259
         replace q259 := eq_true q259
         have ea_ := Option.some.inj (hx258_0.symm.trans hx259_0)
         injection ea_ with ea_ en_ ec_
         subst ea_
         subst ec_
         clear en_
         have p260 : 0 ≤ (x5_3 : Int) := od
         have q260 : x5_3 < ((rd_L5 l0_0 x4_2).length : Int) := od
         obtain ⟨ad260, e260, hx260_0, hx260_1, hx260_2, hx260_3, hx260_4, hx260_5⟩ := at_T75 HR259_0.out x5_3 p260 q260
         (try rw [← Nbq20.out] at hx260_4)
         (try rw [← Nbq22.out] at hx260_4)
         (try rw [← Nbq20.out] at hx260_5)
         (try rw [← Nbq22.out] at hx260_5)
         cases e260
         replace hx260_0 := cb HB.out hx260_0
         replace hx260_1 := cb HB.out hx260_1
         replace hx260_2 := cb HB.out hx260_2
         replace hx260_3 := cb HB.out hx260_3
         replace hx260_4 := cb HB.out hx260_4
         replace hx260_5 := cb HB.out hx260_5
         replace p260 := eq_true p260
         replace q260 := eq_true q260
         go_wp2_with (first | ((with_reducible refine gate_dst (N := 6) rfl ?_); refine bv 6 #[.int .i64 0, .int .i64 0, .int .i64 0, .int .i64 0, .bool false, .bool false] 75 ?_; intro gb261 hg w25 hbox hb; have n0_ := Aside0.mk (blk_below (g := gb256) (o := .cells #[.slice (some ad258) l0_0.length c0_0, .slice A0_1 l0_1.length c0_1] 42 (0, 0)) (bk BK256.out) hb); have n1_ := Aside0.mk (below_step bl hb); have n2_ := Aside0.mk (hbox); have n3_ := Aside0.mk ((by rw [hg]; exact (below_size bl) : w.heap.size ≤ gb261)); have n4_ := Aside0.mk ((by rw [hg]; exact (below_size bl) : w.heap.size ≤ gb261)); have n5_ := Aside0.mk ((nl hg (bk BK256.out) : gb256 ≠ gb261)); have n6_ := Aside0.mk ((ng hg (bk BK256.out) : gb261 ≠ gb256)); clear BK256; clear HB; have BK256 := n0_; have HB := n1_; have BK261 := n2_; have GW261 := n3_; have GE261 := n4_; have NB256_261 := n5_; have NB261_256 := n6_; clear n0_ n1_ n2_ n3_ n4_ n5_ n6_; clear hb hbox hg; have hnb26 := NB261_256.out; have hnc26 := NB256_261.out; obtain ⟨hcz27_0, hcz27_1, hcz27_2, hcz27_3, hcz27_4, hcz27_5, hfz27_0, hfz27_1, hfz27_2, hfz27_3, hfz27_4, hfz27_5⟩ := cz6 (w := w25) BK261.out))
         go_ret
         exact ⟨fi, bl⟩
        replace c23 := Bool.eq_false_iff.mpr c23
        subst c23
        have H1 : (if (((rd_T75 (rd_L5 l0_0 x4_2) x5_3).f2.f1) = 0) then (spinnakerref13_Check.l2 k3 x4_2 (wrap64 (x5_3 + 1)) l0_0 l0_1) else ((spinnakerref13_There.f l0_0 l0_1 ((rd_T75 (rd_L5 l0_0 x4_2) x5_3).f2.f0) ((rd_T75 (rd_L5 l0_0 x4_2) x5_3).f2.f1)).bind fun t262 => (if t262 = true then (spinnakerref13_Check.l2 k3 x4_2 (wrap64 (x5_3 + 1)) l0_0 l0_1) else (some 1)))) = some r := by rw [if_neg (show ¬ (false = true) by decide)] at H; exact H
        clear H
        have H := H1
        clear H1
        by_cases c28 : (((rd_T75 (rd_L5 l0_0 x4_2) x5_3).f2.f1) = 0)
        ·rw [if_pos c28] at H
         obtain ⟨c28b0, c28b1⟩ := eqs c28
         clear c28
         have H' := Aside0.mk H
         clear H
         obtain ⟨hcz29_0, hcz29_1, hfz29_0, hfz29_1⟩ := cz2 (w := wr) BK256.out
         have p258 : 0 ≤ (x4_2 : Int) := od
         have q258 : x4_2 < (l0_0.length : Int) := od
         obtain ⟨ad258, A258_0, c258_0, e258, hx258_0, hl258_0, hi258_0⟩ := at_L5 HR0_0.out x4_2 p258 q258
         cases e258
         replace hx258_0 := cb HB.out hx258_0
         have HR258_0 := Aside0.mk hi258_0
         have HC258_0 := Aside0.mk hl258_0
         clear hi258_0 hl258_0
         replace p258 := eq_true p258
         replace q258 := eq_true q258
         have p259 : 0 ≤ (x4_2 : Int) := od
         have q259 : x4_2 < (l0_0.length : Int) := od
         obtain ⟨ad259, A259_0, c259_0, e259, hx259_0, hl259_0, hi259_0⟩ := at_L5 HR0_0.out x4_2 p259 q259
         obtain rfl : ad258 = ad259 := (by injection e259)
         replace hx259_0 := cb HB.out hx259_0
         have HR259_0 := Aside0.mk hi259_0
         have HC259_0 := Aside0.mk hl259_0
         clear hi259_0 hl259_0
         replace p259 := eq_true p259
         replace q259 := eq_true q259
         have ea_ := Option.some.inj (hx258_0.symm.trans hx259_0)
         injection ea_ with ea_ en_ ec_
         subst ea_
         subst ec_
         clear en_
         have p260 : 0 ≤ (x5_3 : Int) := od
         have q260 : x5_3 < ((rd_L5 l0_0 x4_2).length : Int) := od
         obtain ⟨ad260, e260, hx260_0, hx260_1, hx260_2, hx260_3, hx260_4, hx260_5⟩ := at_T75 HR259_0.out x5_3 p260 q260
         (try rw [← Nbq20.out] at hx260_4)
         (try rw [← Nbq22.out] at hx260_4)
         (try rw [← Nbq20.out] at hx260_5)
         (try rw [← Nbq22.out] at hx260_5)
         cases e260
         replace hx260_0 := cb HB.out hx260_0
         replace hx260_1 := cb HB.out hx260_1
         replace hx260_2 := cb HB.out hx260_2
         replace hx260_3 := cb HB.out hx260_3
         replace hx260_4 := cb HB.out hx260_4
         replace hx260_5 := cb HB.out hx260_5
         replace p260 := eq_true p260
         replace q260 := eq_true q260
         go_wp2_with (first | ((with_reducible refine gate_dst (N := 6) rfl ?_); refine bv 6 #[.int .i64 0, .int .i64 0, .int .i64 0, .int .i64 0, .bool false, .bool false] 75 ?_; intro gb261 hg w30 hbox hb; have n0_ := Aside0.mk (blk_below (g := gb256) (o := .cells #[.slice (some ad258) l0_0.length c0_0, .slice A0_1 l0_1.length c0_1] 42 (0, 0)) (bk BK256.out) hb); have n1_ := Aside0.mk (below_step bl hb); have n2_ := Aside0.mk (hbox); have n3_ := Aside0.mk ((by rw [hg]; exact (below_size bl) : w.heap.size ≤ gb261)); have n4_ := Aside0.mk ((by rw [hg]; exact (below_size bl) : w.heap.size ≤ gb261)); have n5_ := Aside0.mk ((nl hg (bk BK256.out) : gb256 ≠ gb261)); have n6_ := Aside0.mk ((ng hg (bk BK256.out) : gb261 ≠ gb256)); clear BK256; clear HB; have BK256 := n0_; have HB := n1_; have BK261 := n2_; have GW261 := n3_; have GE261 := n4_; have NB256_261 := n5_; have NB261_256 := n6_; clear n0_ n1_ n2_ n3_ n4_ n5_ n6_; clear hb hbox hg; have hnb31 := NB261_256.out; have hnc31 := NB256_261.out; obtain ⟨hcz32_0, hcz32_1, hcz32_2, hcz32_3, hcz32_4, hcz32_5, hfz32_0, hfz32_1, hfz32_2, hfz32_3, hfz32_4, hfz32_5⟩ := cz6 (w := w30) BK261.out))
         go_roundg k3
         case measure => have := HK1.out; have := HK2.out; have := HK3.out; omega
         case rel => exact ⟨(wrap64 (x5_3 + 1)), fj, H', ⟨by have := HK1.out; have := HK2.out; have := HK3.out; omega⟩, ⟨by refine bx ?_; refine blk_far ?_ NB256_261.out _; refine bx ?_; refine blk_far ?_ NB256_261.out _; refine bx ?_; refine blk_far ?_ NB256_261.out _; refine bx ?_; refine blk_far ?_ NB256_261.out _; refine bx ?_; refine blk_far ?_ NB256_261.out _; refine bx ?_; refine blk_far ?_ NB256_261.out _; refine bx ?_; exact BK256.out⟩, ⟨bl⟩⟩
        rw [if_neg c28] at H
        have c28b0 : (((rd_T75 (rd_L5 l0_0 x4_2) x5_3).f2.f1) == 0) = false := beq_eq_false_iff_ne.mpr c28
        have c28b1 : (((rd_T75 (rd_L5 l0_0 x4_2) x5_3).f2.f1) != 0) = true := bne_iff_ne.mpr c28
        replace H := be H
        obtain ⟨t262, A33, H⟩ := H
        by_cases c34 : t262 = true
        rotate_left
        ·replace c34 := Bool.eq_false_iff.mpr c34
         subst c34
         have H1 : (some 1) = some r := by rw [if_neg (show ¬ (false = true) by decide)] at H; exact H
         clear H
         have H := H1
         clear H1
         obtain rfl := Option.some.inj H
         obtain ⟨hcz41_0, hcz41_1, hfz41_0, hfz41_1⟩ := cz2 (w := wr) BK256.out
         have p258 : 0 ≤ (x4_2 : Int) := od
         have q258 : x4_2 < (l0_0.length : Int) := od
         obtain ⟨ad258, A258_0, c258_0, e258, hx258_0, hl258_0, hi258_0⟩ := at_L5 HR0_0.out x4_2 p258 q258
         cases e258
         replace hx258_0 := cb HB.out hx258_0
         have HR258_0 := Aside0.mk hi258_0
         have HC258_0 := Aside0.mk hl258_0
         clear hi258_0 hl258_0
         replace p258 := eq_true p258
         replace q258 := eq_true q258
         have p259 : 0 ≤ (x4_2 : Int) := od
         have q259 : x4_2 < (l0_0.length : Int) := od
         obtain ⟨ad259, A259_0, c259_0, e259, hx259_0, hl259_0, hi259_0⟩ := at_L5 HR0_0.out x4_2 p259 q259
         obtain rfl : ad258 = ad259 := (by injection e259)
         replace hx259_0 := cb HB.out hx259_0
         have HR259_0 := Aside0.mk hi259_0
         have HC259_0 := Aside0.mk hl259_0
         clear hi259_0 hl259_0
         replace p259 := eq_true p259
         replace q259 := eq_true q259
         have ea_ := Option.some.inj (hx258_0.symm.trans hx259_0)
         injection ea_ with ea_ en_ ec_
         subst ea_
         subst ec_
         clear en_
         have p260 : 0 ≤ (x5_3 : Int) := od
         have q260 : x5_3 < ((rd_L5 l0_0 x4_2).length : Int) := od
         obtain ⟨ad260, e260, hx260_0, hx260_1, hx260_2, hx260_3, hx260_4, hx260_5⟩ := at_T75 HR259_0.out x5_3 p260 q260
         (try rw [← Nbq20.out] at hx260_4)
         (try rw [← Nbq22.out] at hx260_4)
         (try rw [← Nbq20.out] at hx260_5)
         (try rw [← Nbq22.out] at hx260_5)
         cases e260
         replace hx260_0 := cb HB.out hx260_0
         replace hx260_1 := cb HB.out hx260_1
         replace hx260_2 := cb HB.out hx260_2
         replace hx260_3 := cb HB.out hx260_3
         replace hx260_4 := cb HB.out hx260_4
         replace hx260_5 := cb HB.out hx260_5
         replace p260 := eq_true p260
         replace q260 := eq_true q260
         go_wp2_with (first | ((with_reducible refine gate_dst (N := 6) rfl ?_); refine bv 6 #[.int .i64 0, .int .i64 0, .int .i64 0, .int .i64 0, .bool false, .bool false] 75 ?_; intro gb261 hg w42 hbox hb; have n0_ := Aside0.mk (blk_below (g := gb256) (o := .cells #[.slice (some ad258) l0_0.length c0_0, .slice A0_1 l0_1.length c0_1] 42 (0, 0)) (bk BK256.out) hb); have n1_ := Aside0.mk (below_step bl hb); have n2_ := Aside0.mk (hbox); have n3_ := Aside0.mk ((by rw [hg]; exact (below_size bl) : w.heap.size ≤ gb261)); have n4_ := Aside0.mk ((by rw [hg]; exact (below_size bl) : w.heap.size ≤ gb261)); have n5_ := Aside0.mk ((nl hg (bk BK256.out) : gb256 ≠ gb261)); have n6_ := Aside0.mk ((ng hg (bk BK256.out) : gb261 ≠ gb256)); clear BK256; clear HB; have BK256 := n0_; have HB := n1_; have BK261 := n2_; have GW261 := n3_; have GE261 := n4_; have NB256_261 := n5_; have NB261_256 := n6_; clear n0_ n1_ n2_ n3_ n4_ n5_ n6_; clear hb hbox hg; have hnb43 := NB261_256.out; have hnc43 := NB256_261.out; obtain ⟨hcz44_0, hcz44_1, hcz44_2, hcz44_3, hcz44_4, hcz44_5, hfz44_0, hfz44_1, hfz44_2, hfz44_3, hfz44_4, hfz44_5⟩ := cz6 (w := w42) BK261.out; obtain ⟨hcz45_0, hcz45_1, hfz45_0, hfz45_1⟩ := cz2 (w := w42) BK256.out) | (go_at_call 46; (with_reducible refine (spinnakerref13_There.calls _ _ l0_0 _ _ l0_1 ((rd_T75 (rd_L5 l0_0 x4_2) x5_3).f2.f0) ((rd_T75 (rd_L5 l0_0 x4_2) x5_3).f2.f1) false _ ?side1 ?side2 ?side3 ?side4 A33.out).mono ?_); (case side1 => exact Kd.C_below HR0_0.out bl); (case side2 => exact HC0_0.out); (case side3 => exact Kd.C_below HR0_1.out bl); (case side4 => exact HC0_1.out); rintro e w46 ⟨rfl, hb⟩; have n0_ := Aside0.mk (blk_below (g := gb256) (o := .cells #[.slice (some ad258) l0_0.length c0_0, .slice A0_1 l0_1.length c0_1] 42 (0, 0)) (by refine bx ?_; refine blk_far ?_ NB256_261.out _; refine bx ?_; refine blk_far ?_ NB256_261.out _; refine bx ?_; refine blk_far ?_ NB256_261.out _; refine bx ?_; refine blk_far ?_ NB256_261.out _; refine bx ?_; refine blk_far ?_ NB256_261.out _; refine bx ?_; refine blk_far ?_ NB256_261.out _; refine bx ?_; exact BK256.out) hb); have n1_ := Aside0.mk (blk_below (g := gb261) (o := .cells #[.int .i64 ((rd_T75 (rd_L5 l0_0 x4_2) x5_3).f0), .int .i64 ((rd_T75 (rd_L5 l0_0 x4_2) x5_3).f1), .int .i64 ((rd_T75 (rd_L5 l0_0 x4_2) x5_3).f2.f0), .int .i64 ((rd_T75 (rd_L5 l0_0 x4_2) x5_3).f2.f1), .bool true, .bool false] 75 (0, 0)) (by refine bx ?_; refine blk_put (cs := #[.int .i64 ((rd_T75 (rd_L5 l0_0 x4_2) x5_3).f0), .int .i64 ((rd_T75 (rd_L5 l0_0 x4_2) x5_3).f1), .int .i64 ((rd_T75 (rd_L5 l0_0 x4_2) x5_3).f2.f0), .int .i64 ((rd_T75 (rd_L5 l0_0 x4_2) x5_3).f2.f1), .bool true, .bool false]) ?_ 5 _ rfl; refine bx ?_; refine blk_put (cs := #[.int .i64 ((rd_T75 (rd_L5 l0_0 x4_2) x5_3).f0), .int .i64 ((rd_T75 (rd_L5 l0_0 x4_2) x5_3).f1), .int .i64 ((rd_T75 (rd_L5 l0_0 x4_2) x5_3).f2.f0), .int .i64 ((rd_T75 (rd_L5 l0_0 x4_2) x5_3).f2.f1), .bool false, .bool false]) ?_ 4 _ rfl; refine bx ?_; refine blk_put (cs := #[.int .i64 ((rd_T75 (rd_L5 l0_0 x4_2) x5_3).f0), .int .i64 ((rd_T75 (rd_L5 l0_0 x4_2) x5_3).f1), .int .i64 ((rd_T75 (rd_L5 l0_0 x4_2) x5_3).f2.f0), .int .i64 0, .bool false, .bool false]) ?_ 3 _ rfl; refine bx ?_; refine blk_put (cs := #[.int .i64 ((rd_T75 (rd_L5 l0_0 x4_2) x5_3).f0), .int .i64 ((rd_T75 (rd_L5 l0_0 x4_2) x5_3).f1), .int .i64 0, .int .i64 0, .bool false, .bool false]) ?_ 2 _ rfl; refine bx ?_; refine blk_put (cs := #[.int .i64 ((rd_T75 (rd_L5 l0_0 x4_2) x5_3).f0), .int .i64 0, .int .i64 0, .int .i64 0, .bool false, .bool false]) ?_ 1 _ rfl; refine bx ?_; refine blk_put (cs := #[.int .i64 0, .int .i64 0, .int .i64 0, .int .i64 0, .bool false, .bool false]) ?_ 0 _ rfl; refine bx ?_; exact BK261.out) hb); have n2_ := Aside0.mk (below_step bl hb); clear BK256; clear BK261; clear HB; have BK256 := n0_; have BK261 := n1_; have HB := n2_; clear n0_ n1_ n2_; (try clear hb)))
         go_ret
         exact ⟨fi, bl⟩
        subst c34
        have H1 : (spinnakerref13_Check.l2 k3 x4_2 (wrap64 (x5_3 + 1)) l0_0 l0_1) = some r := by rw [if_pos rfl] at H; exact H
        clear H
        have H := H1
        clear H1
        have H' := Aside0.mk H
        clear H
        obtain ⟨hcz35_0, hcz35_1, hfz35_0, hfz35_1⟩ := cz2 (w := wr) BK256.out
        have p258 : 0 ≤ (x4_2 : Int) := od
        have q258 : x4_2 < (l0_0.length : Int) := od
        obtain ⟨ad258, A258_0, c258_0, e258, hx258_0, hl258_0, hi258_0⟩ := at_L5 HR0_0.out x4_2 p258 q258
        cases e258
        replace hx258_0 := cb HB.out hx258_0
        have HR258_0 := Aside0.mk hi258_0
        have HC258_0 := Aside0.mk hl258_0
        clear hi258_0 hl258_0
        replace p258 := eq_true p258
        replace q258 := eq_true q258
        have p259 : 0 ≤ (x4_2 : Int) := od
        have q259 : x4_2 < (l0_0.length : Int) := od
        obtain ⟨ad259, A259_0, c259_0, e259, hx259_0, hl259_0, hi259_0⟩ := at_L5 HR0_0.out x4_2 p259 q259
        obtain rfl : ad258 = ad259 := (by injection e259)
        replace hx259_0 := cb HB.out hx259_0
        have HR259_0 := Aside0.mk hi259_0
        have HC259_0 := Aside0.mk hl259_0
        clear hi259_0 hl259_0
        replace p259 := eq_true p259
        replace q259 := eq_true q259
        have ea_ := Option.some.inj (hx258_0.symm.trans hx259_0)
        injection ea_ with ea_ en_ ec_
        subst ea_
        subst ec_
        clear en_
        have p260 : 0 ≤ (x5_3 : Int) := od
        have q260 : x5_3 < ((rd_L5 l0_0 x4_2).length : Int) := od
        obtain ⟨ad260, e260, hx260_0, hx260_1, hx260_2, hx260_3, hx260_4, hx260_5⟩ := at_T75 HR259_0.out x5_3 p260 q260
        (try rw [← Nbq20.out] at hx260_4)
        (try rw [← Nbq22.out] at hx260_4)
        (try rw [← Nbq20.out] at hx260_5)
        (try rw [← Nbq22.out] at hx260_5)
        cases e260
        replace hx260_0 := cb HB.out hx260_0
        replace hx260_1 := cb HB.out hx260_1
        replace hx260_2 := cb HB.out hx260_2
        replace hx260_3 := cb HB.out hx260_3
        replace hx260_4 := cb HB.out hx260_4
        replace hx260_5 := cb HB.out hx260_5
        replace p260 := eq_true p260
        replace q260 := eq_true q260
        go_wp2_with (first | ((with_reducible refine gate_dst (N := 6) rfl ?_); refine bv 6 #[.int .i64 0, .int .i64 0, .int .i64 0, .int .i64 0, .bool false, .bool false] 75 ?_; intro gb261 hg w36 hbox hb; have n0_ := Aside0.mk (blk_below (g := gb256) (o := .cells #[.slice (some ad258) l0_0.length c0_0, .slice A0_1 l0_1.length c0_1] 42 (0, 0)) (bk BK256.out) hb); have n1_ := Aside0.mk (below_step bl hb); have n2_ := Aside0.mk (hbox); have n3_ := Aside0.mk ((by rw [hg]; exact (below_size bl) : w.heap.size ≤ gb261)); have n4_ := Aside0.mk ((by rw [hg]; exact (below_size bl) : w.heap.size ≤ gb261)); have n5_ := Aside0.mk ((nl hg (bk BK256.out) : gb256 ≠ gb261)); have n6_ := Aside0.mk ((ng hg (bk BK256.out) : gb261 ≠ gb256)); clear BK256; clear HB; have BK256 := n0_; have HB := n1_; have BK261 := n2_; have GW261 := n3_; have GE261 := n4_; have NB256_261 := n5_; have NB261_256 := n6_; clear n0_ n1_ n2_ n3_ n4_ n5_ n6_; clear hb hbox hg; have hnb37 := NB261_256.out; have hnc37 := NB256_261.out; obtain ⟨hcz38_0, hcz38_1, hcz38_2, hcz38_3, hcz38_4, hcz38_5, hfz38_0, hfz38_1, hfz38_2, hfz38_3, hfz38_4, hfz38_5⟩ := cz6 (w := w36) BK261.out; obtain ⟨hcz39_0, hcz39_1, hfz39_0, hfz39_1⟩ := cz2 (w := w36) BK256.out) | (go_at_call 46; (with_reducible refine (spinnakerref13_There.calls _ _ l0_0 _ _ l0_1 ((rd_T75 (rd_L5 l0_0 x4_2) x5_3).f2.f0) ((rd_T75 (rd_L5 l0_0 x4_2) x5_3).f2.f1) true _ ?side1 ?side2 ?side3 ?side4 A33.out).mono ?_); (case side1 => exact Kd.C_below HR0_0.out bl); (case side2 => exact HC0_0.out); (case side3 => exact Kd.C_below HR0_1.out bl); (case side4 => exact HC0_1.out); rintro e w40 ⟨rfl, hb⟩; have n0_ := Aside0.mk (blk_below (g := gb256) (o := .cells #[.slice (some ad258) l0_0.length c0_0, .slice A0_1 l0_1.length c0_1] 42 (0, 0)) (by refine bx ?_; refine blk_far ?_ NB256_261.out _; refine bx ?_; refine blk_far ?_ NB256_261.out _; refine bx ?_; refine blk_far ?_ NB256_261.out _; refine bx ?_; refine blk_far ?_ NB256_261.out _; refine bx ?_; refine blk_far ?_ NB256_261.out _; refine bx ?_; refine blk_far ?_ NB256_261.out _; refine bx ?_; exact BK256.out) hb); have n1_ := Aside0.mk (blk_below (g := gb261) (o := .cells #[.int .i64 ((rd_T75 (rd_L5 l0_0 x4_2) x5_3).f0), .int .i64 ((rd_T75 (rd_L5 l0_0 x4_2) x5_3).f1), .int .i64 ((rd_T75 (rd_L5 l0_0 x4_2) x5_3).f2.f0), .int .i64 ((rd_T75 (rd_L5 l0_0 x4_2) x5_3).f2.f1), .bool true, .bool false] 75 (0, 0)) (by refine bx ?_; refine blk_put (cs := #[.int .i64 ((rd_T75 (rd_L5 l0_0 x4_2) x5_3).f0), .int .i64 ((rd_T75 (rd_L5 l0_0 x4_2) x5_3).f1), .int .i64 ((rd_T75 (rd_L5 l0_0 x4_2) x5_3).f2.f0), .int .i64 ((rd_T75 (rd_L5 l0_0 x4_2) x5_3).f2.f1), .bool true, .bool false]) ?_ 5 _ rfl; refine bx ?_; refine blk_put (cs := #[.int .i64 ((rd_T75 (rd_L5 l0_0 x4_2) x5_3).f0), .int .i64 ((rd_T75 (rd_L5 l0_0 x4_2) x5_3).f1), .int .i64 ((rd_T75 (rd_L5 l0_0 x4_2) x5_3).f2.f0), .int .i64 ((rd_T75 (rd_L5 l0_0 x4_2) x5_3).f2.f1), .bool false, .bool false]) ?_ 4 _ rfl; refine bx ?_; refine blk_put (cs := #[.int .i64 ((rd_T75 (rd_L5 l0_0 x4_2) x5_3).f0), .int .i64 ((rd_T75 (rd_L5 l0_0 x4_2) x5_3).f1), .int .i64 ((rd_T75 (rd_L5 l0_0 x4_2) x5_3).f2.f0), .int .i64 0, .bool false, .bool false]) ?_ 3 _ rfl; refine bx ?_; refine blk_put (cs := #[.int .i64 ((rd_T75 (rd_L5 l0_0 x4_2) x5_3).f0), .int .i64 ((rd_T75 (rd_L5 l0_0 x4_2) x5_3).f1), .int .i64 0, .int .i64 0, .bool false, .bool false]) ?_ 2 _ rfl; refine bx ?_; refine blk_put (cs := #[.int .i64 ((rd_T75 (rd_L5 l0_0 x4_2) x5_3).f0), .int .i64 0, .int .i64 0, .int .i64 0, .bool false, .bool false]) ?_ 1 _ rfl; refine bx ?_; refine blk_put (cs := #[.int .i64 0, .int .i64 0, .int .i64 0, .int .i64 0, .bool false, .bool false]) ?_ 0 _ rfl; refine bx ?_; exact BK261.out) hb); have n2_ := Aside0.mk (below_step bl hb); clear BK256; clear BK261; clear HB; have BK256 := n0_; have BK261 := n1_; have HB := n2_; clear n0_ n1_ n2_; (try clear hb)))
        go_roundg k3
        case measure => have := HK1.out; have := HK2.out; have := HK3.out; omega
        case rel => exact ⟨(wrap64 (x5_3 + 1)), fj, H', ⟨by have := HK1.out; have := HK2.out; have := HK3.out; omega⟩, ⟨by refine bx ?_; exact BK256.out⟩, ⟨bl⟩⟩
     rw [if_neg c13] at H
     have c13b0 := decide_eq_false c13
     clear c13
     have H' := Aside0.mk H
     clear H
     obtain ⟨hcz103_0, hcz103_1, hfz103_0, hfz103_1⟩ := cz2 (w := wr) BK256.out
     go_wp2
     go_loopg [8] k2 (fun kq v8 w' => ∃ (x8_3 : Int), v8 = .int .i64 x8_3 ∧ Aside0 (spinnakerref13_Check.l3 kq x8_3 l0_0 l0_1 = some r) ∧ Aside0 (kq ≤ k2) ∧ Aside0 (w'.heap[gb256]? = some (.cells #[(.slice A0_0 l0_0.length c0_0), (.slice A0_1 l0_1.length c0_1)] 42 (0, 0))) ∧ Aside0 (Below w.heap.size w w'))
     case atStart => exact ⟨(0), fj, H', ⟨Nat.le_refl _⟩, ⟨by refine bx ?_; exact BK256.out⟩, ⟨bl⟩⟩
     case round =>
      clear H'
      try clear c1
      try clear c2
      try clear p2
      try clear q2
      try clear hx2
      try clear c3
      try clear c4
      try clear c5
      try clear c6
      try clear p6
      try clear q6
      try clear c7
      try clear c8
      try clear c9
      try clear c13
      try clear c13b0
      try clear c15
      try clear c16
      try clear c17
      try clear c17b0
      try clear c18
      try clear c19
      try clear c19b0
      try clear c19b1
      try clear q20
      try clear c21
      try clear q22
      try clear c25
      try clear p25
      try clear q25
      try clear hx25
      try clear p26
      try clear q26
      try clear hx26
      try clear c34
      try clear c37
      try clear c43
      try clear c47
      try clear c47b0
      try clear c47b1
      try clear c50
      try clear c53
      try clear c56
      try clear c62
      try clear p64
      try clear q66
      try clear c67
      try clear q68
      try clear c69
      try clear c72
      try clear c75
      try clear c78
      try clear c84
      try clear c89
      try clear c92
      try clear c98
      try clear hcz100_0 hcz100_1
      try clear hcz102_0 hcz102_1
      try clear hcz103_0 hcz103_1
      try clear hcz38_0 hcz38_1 hcz38_2 hcz38_3 hcz38_4 hcz38_5
      try clear hcz39_0 hcz39_1
      try clear hcz41_0 hcz41_1
      try clear hcz44_0 hcz44_1 hcz44_2 hcz44_3 hcz44_4 hcz44_5
      try clear hcz45_0 hcz45_1
      try clear hcz48_0 hcz48_1
      try clear hcz51_0 hcz51_1 hcz51_2 hcz51_3 hcz51_4 hcz51_5
      try clear hcz54_0 hcz54_1
      try clear hcz57_0 hcz57_1 hcz57_2 hcz57_3 hcz57_4 hcz57_5
      try clear hcz58_0 hcz58_1
      try clear hcz60_0 hcz60_1
      try clear hcz63_0 hcz63_1 hcz63_2 hcz63_3 hcz63_4 hcz63_5
      try clear hcz64_0 hcz64_1
      try clear hcz70_0 hcz70_1
      try clear hcz73_0 hcz73_1 hcz73_2 hcz73_3 hcz73_4 hcz73_5
      try clear hcz76_0 hcz76_1
      try clear hcz79_0 hcz79_1 hcz79_2 hcz79_3 hcz79_4 hcz79_5
      try clear hcz80_0 hcz80_1
      try clear hcz82_0 hcz82_1
      try clear hcz85_0 hcz85_1 hcz85_2 hcz85_3 hcz85_4 hcz85_5
      try clear hcz86_0 hcz86_1
      try clear hcz90_0 hcz90_1
      try clear hcz93_0 hcz93_1 hcz93_2 hcz93_3 hcz93_4 hcz93_5
      try clear hcz94_0 hcz94_1
      try clear hcz96_0 hcz96_1
      try clear hcz99_0 hcz99_1 hcz99_2 hcz99_3 hcz99_4 hcz99_5
      try clear hfz100_0 hfz100_1
      try clear hfz102_0 hfz102_1
      try clear hfz103_0 hfz103_1
      try clear hfz38_0 hfz38_1 hfz38_2 hfz38_3 hfz38_4 hfz38_5
      try clear hfz39_0 hfz39_1
      try clear hfz41_0 hfz41_1
      try clear hfz44_0 hfz44_1 hfz44_2 hfz44_3 hfz44_4 hfz44_5
      try clear hfz45_0 hfz45_1
      try clear hfz48_0 hfz48_1
      try clear hfz51_0 hfz51_1 hfz51_2 hfz51_3 hfz51_4 hfz51_5
      try clear hfz54_0 hfz54_1
      try clear hfz57_0 hfz57_1 hfz57_2 hfz57_3 hfz57_4 hfz57_5
      try clear hfz58_0 hfz58_1
      try clear hfz60_0 hfz60_1
      try clear hfz63_0 hfz63_1 hfz63_2 hfz63_3 hfz63_4 hfz63_5
      try clear hfz64_0 hfz64_1
      try clear hfz70_0 hfz70_1
      try clear hfz73_0 hfz73_1 hfz73_2 hfz73_3 hfz73_4 hfz73_5
      try clear hfz76_0 hfz76_1
      try clear hfz79_0 hfz79_1 hfz79_2 hfz79_3 hfz79_4 hfz79_5
      try clear hfz80_0 hfz80_1
      try clear hfz82_0 hfz82_1
      try clear hfz85_0 hfz85_1 hfz85_2 hfz85_3 hfz85_4 hfz85_5
      try clear hfz86_0 hfz86_1
      try clear hfz90_0 hfz90_1
      try clear hfz93_0 hfz93_1 hfz93_2 hfz93_3 hfz93_4 hfz93_5
      try clear hfz94_0 hfz94_1
      try clear hfz96_0 hfz96_1
      try clear hfz99_0 hfz99_1 hfz99_2 hfz99_3 hfz99_4 hfz99_5
      try clear hx258_0
      try clear hx259_0
      try clear hx260_0
      try clear hx260_1
      try clear hx260_2
      try clear hx260_3
      try clear hx260_4
      try clear hx260_5
      try clear p258
      try clear p259
      try clear p260
      try clear q258
      try clear q259
      try clear q260
      obtain ⟨x8_3, rfl, HA, HK3, BK256, HB⟩ := hrel
      cases gk with
      | zero => exact absurd HA.out (by simp [spinnakerref13_Check.l3])
      | succ k3 =>
       have H := HA.out
       clear HA
       simp only [spinnakerref13_Check.l3] at H
       by_cases c104 : x8_3 < (l0_1.length : Int)
       rotate_left
       ·rw [if_neg c104] at H
        have c104b0 := decide_eq_false c104
        clear c104
        obtain rfl := Option.some.inj H
        obtain ⟨hcz137_0, hcz137_1, hfz137_0, hfz137_1⟩ := cz2 (w := wr) BK256.out
        go_wp2
        go_ret
        exact ⟨fi, bl⟩
       rw [if_pos c104] at H
       have c104b0 := decide_eq_true c104
       clear c104
       have HC105 := Aside0.mk H
       clear H
       obtain ⟨hcz106_0, hcz106_1, hfz106_0, hfz106_1⟩ := cz2 (w := wr) BK256.out
       go_upto_region 21 with (fail)
       go_cut [114] (fun v114 wc => ∃ (kq : Nat) (x114_104 : Bool), v114 = .bool x114_104 ∧ Aside0 (spinnakerref13_Check.j4 kq x8_3 x114_104 l0_0 l0_1 = some r) ∧ Aside0 (kq ≤ k3) ∧ Aside0 (wc.heap[gb256]? = some (.cells #[(.slice A0_0 l0_0.length c0_0), (.slice A0_1 l0_1.length c0_1)] 42 (0, 0))) ∧ Aside0 (Below w.heap.size w wc))
       case first =>
        have H := HC105.out
        clear HC105
        by_cases c107 : 0 ≤ x8_3
        rotate_left
        ·rw [if_neg c107] at H
         exact absurd H (by simp)
        rw [if_pos c107] at H
        have c107b0 := decide_eq_true c107
        clear c107
        (first | rw [c107b0] | (simp only [i64_w, i32_w]; rw [c107b0]) | skip)
        by_cases c108 : (((rd_T70 l0_1 x8_3).f1).length : Int) = 0
        ·rw [if_pos c108] at H
         obtain ⟨c108b0, c108b1⟩ := eqs c108
         clear c108
         have H' := Aside0.mk H
         clear H
         try go_wp2
         have n0_ := Aside0.mk (blk_drew BK256.out)
         have n1_ := Aside0.mk (below_drew1 HB.out)
         clear BK256
         clear HB
         have BK256 := n0_
         have HB := n1_
         clear n0_ n1_
         have p266 : 0 ≤ (x8_3 : Int) := od
         have q266 : x8_3 < (l0_1.length : Int) := od
         obtain ⟨ad266, A266_1, c266_1, e266, hx266_0, hx266_1, hl266_1, hi266_1⟩ := at_T70 HR0_1.out x8_3 p266 q266
         have hw266_1 := hx266_1
         have hw266_0 := hx266_0
         cases e266
         replace hx266_0 := cb HB.out hx266_0
         replace hx266_1 := cb HB.out hx266_1
         have HR266_1 := Aside0.mk hi266_1
         have HC266_1 := Aside0.mk hl266_1
         clear hi266_1 hl266_1
         replace p266 := eq_true p266
         replace q266 := eq_true q266
         refine start_ (n := 28) (S := fun w' => w'.cell? ⟨gb256, 0, none⟩ = some (.slice A0_0 l0_0.length c0_0) ∧ w'.cell? ⟨gb256, 1, none⟩ = some (.slice (some ad266) l0_1.length c0_1) ∧ w'.cell? (ad266.add ((x8_3).toNat * 2)) = some (.int .i64 ((rd_T70 l0_1 x8_3).f0)) ∧ w'.cell? ⟨(ad266.add ((x8_3).toNat * 2)).block, (ad266.add ((x8_3).toNat * 2)).off + 1, none⟩ = some (.slice A266_1 ((rd_T70 l0_1 x8_3).f1).length c266_1)) (ds := []) (fl 28 0) (by kernel_rfl) rfl rfl ⟨(blk_cell BK256.out 0).trans rfl, (blk_cell BK256.out 1).trans rfl, (cb HB.out hw266_0), (cb HB.out hw266_1)⟩ (fun hHeld => ?_); refine with_tabW spinnakerref13_Check.tab21 spinnakerref13_Check.bits21 (fun HT_ HW_ => ?_)
         generalize wr.drew = w109 at BK256 HB HR266_1 hx266_0 hx266_1 hHeld ⊢
         refine pq 0 (some 87) ?_ (fl 28 1) HT_.out rfl rfl ?_ ?_ ?_ ?_
         rotate_left
         ·intro w'
          go_simp
          with_reducible rfl
         rotate_left
         ·refine pt ?_
          rfl
         refine pq 2 (some 89) ?_ #[true, false, true, false, false, false, false, false, false, false, false, false, false, false, false, false, false, false, false, false, false, false, false, false, false, false, false, false] HT_.out rfl rfl ?_ ?_ ?_ ?_
         rotate_left
         ·intro w'
          go_simp
          with_reducible rfl
         rotate_left
         ·refine pt ?_
          rfl
         refine pk 1 (some 88) ?_ (fl 28 3) HT_.out HW_.out rfl rfl ?_ hHeld ?_ ?_ ?_
         rotate_left
         ·rintro w' ⟨s0, s1, s2, s3⟩
          go_simp
          with_reducible rfl
         rotate_left
         ·refine pt ?_
          rfl
         refine pq 3 (some 90) ?_ (fl 28 4) HT_.out rfl rfl ?_ ?_ ?_ ?_
         rotate_left
         ·intro w'
          go_simp
          with_reducible rfl
         rotate_left
         ·refine pt ?_
          rfl
         refine pq 4 (some 91) ?_ (fl 28 5) HT_.out rfl rfl ?_ ?_ ?_ ?_
         rotate_left
         ·intro w'
          go_simp
          with_reducible rfl
         rotate_left
         ·refine pt ?_
          rfl
         refine pk 5 (some 92) ?_ (fl 28 6) HT_.out HW_.out rfl rfl ?_ hHeld ?_ ?_ ?_
         rotate_left
         ·rintro w' ⟨s0, s1, s2, s3⟩
          go_simp
          with_reducible rfl
         rotate_left
         ·refine pt ?_
          rfl
         refine pq 6 (some 93) ?_ (fl 28 7) HT_.out rfl rfl ?_ ?_ ?_ ?_
         rotate_left
         ·intro w'
          go_simp
          with_reducible rfl
         rotate_left
         ·refine pt ?_
          rfl
         refine pq 7 (some 94) ?_ (fl 28 8) HT_.out rfl rfl ?_ ?_ ?_ ?_
         rotate_left
         ·intro w'
          go_simp
          with_reducible rfl
         rotate_left
         ·refine pt ?_
          rfl
         refine pq 8 (some 95) ?_ (fl 28 9) HT_.out rfl rfl ?_ ?_ ?_ ?_
         rotate_left
         ·intro w'
          go_simp
          with_reducible rfl
         rotate_left
         ·refine pt ?_
          rfl
         refine pr 9 (some 96) ?_ (fl 28 10) HT_.out rfl rfl ?_ ?_
         rotate_left
         ·refine pt ?_
          rfl
         refine pr 10 (some 97) ?_ (fl 28 11) HT_.out rfl rfl ?_ ?_
         rotate_left
         ·refine pt ?_
          rfl
         refine pr 11 (some 98) ?_ (fl 28 12) HT_.out rfl rfl ?_ ?_
         rotate_left
         ·refine pt ?_
          rfl
         refine pr 12 (some 99) ?_ (fl 28 13) HT_.out rfl rfl ?_ ?_
         rotate_left
         ·refine pt ?_
          rfl
         refine pr 13 (some 100) ?_ (fl 28 14) HT_.out rfl rfl ?_ ?_
         rotate_left
         ·refine pt ?_
          rfl
         refine pr 14 (some 101) ?_ (fl 28 15) HT_.out rfl rfl ?_ ?_
         rotate_left
         ·refine pt ?_
          rfl
         refine pr 15 (some 102) ?_ (fl 28 16) HT_.out rfl rfl ?_ ?_
         rotate_left
         ·refine pt ?_
          rfl
         refine pr 16 (some 103) ?_ (fl 28 17) HT_.out rfl rfl ?_ ?_
         rotate_left
         ·refine pt ?_
          rfl
         refine pr 17 (some 104) ?_ (fl 28 18) HT_.out rfl rfl ?_ ?_
         rotate_left
         ·refine pt ?_
          rfl
         refine pr 18 (some 105) ?_ (fl 28 19) HT_.out rfl rfl ?_ ?_
         rotate_left
         ·refine pt ?_
          rfl
         refine pr 19 (some 106) ?_ (fl 28 20) HT_.out rfl rfl ?_ ?_
         rotate_left
         ·refine pt ?_
          rfl
         refine pr 20 (some 107) ?_ (fl 28 21) HT_.out rfl rfl ?_ ?_
         rotate_left
         ·refine pt ?_
          rfl
         refine pr 21 (some 108) ?_ (fl 28 22) HT_.out rfl rfl ?_ ?_
         rotate_left
         ·refine pt ?_
          rfl
         refine pr 22 (some 109) ?_ (fl 28 23) HT_.out rfl rfl ?_ ?_
         rotate_left
         ·refine pt ?_
          rfl
         refine pr 23 (some 110) ?_ (fl 28 24) HT_.out rfl rfl ?_ ?_
         rotate_left
         ·refine pt ?_
          rfl
         refine pr 24 (some 111) ?_ (fl 28 25) HT_.out rfl rfl ?_ ?_
         rotate_left
         ·refine pt ?_
          rfl
         refine pr 25 (some 112) ?_ (fl 28 26) HT_.out rfl rfl ?_ ?_
         rotate_left
         ·refine pt ?_
          rfl
         refine pr 26 (some 113) ?_ (fl 28 27) HT_.out rfl rfl ?_ ?_
         rotate_left
         ·refine pt ?_
          rfl
         refine pq 27 (some 114) ?_ (fl 28 28) HT_.out rfl rfl ?_ ?_ ?_ ?_
         rotate_left
         ·intro w'
          go_simp
          with_reducible rfl
         rotate_left
         ·refine pt ?_
          rfl
         refine done_ (done_of HT_.out (by kernel_rfl)) ?_
         try go_wp2
         go_meet
         case rel => exact ⟨_, (true), fj, H', ⟨by have := HK1.out; have := HK2.out; have := HK3.out; first | omega | exact Nat.le_refl _⟩, ⟨by refine bx ?_; exact BK256.out⟩, ⟨bl⟩⟩
        rw [if_neg c108] at H
        have c108b0 : ((((rd_T70 l0_1 x8_3).f1).length : Int) == 0) = false := beq_eq_false_iff_ne.mpr c108
        have c108b1 : ((((rd_T70 l0_1 x8_3).f1).length : Int) != 0) = true := bne_iff_ne.mpr c108
        have c108b2 : ¬ (((rd_T70 l0_1 x8_3).f1) = []) := fun h_ => c108 (by rw [h_]; rfl)
        by_cases c110 : x8_3 > 0
        rotate_left
        ·rw [if_neg c110] at H
         have c110b0 := decide_eq_false c110
         clear c110
         have H' := Aside0.mk H
         clear H
         try go_wp2
         have n0_ := Aside0.mk (blk_drew BK256.out)
         have n1_ := Aside0.mk (below_drew1 HB.out)
         clear BK256
         clear HB
         have BK256 := n0_
         have HB := n1_
         clear n0_ n1_
         have p266 : 0 ≤ (x8_3 : Int) := od
         have q266 : x8_3 < (l0_1.length : Int) := od
         obtain ⟨ad266, A266_1, c266_1, e266, hx266_0, hx266_1, hl266_1, hi266_1⟩ := at_T70 HR0_1.out x8_3 p266 q266
         have hw266_1 := hx266_1
         have hw266_0 := hx266_0
         cases e266
         replace hx266_0 := cb HB.out hx266_0
         replace hx266_1 := cb HB.out hx266_1
         have HR266_1 := Aside0.mk hi266_1
         have HC266_1 := Aside0.mk hl266_1
         clear hi266_1 hl266_1
         replace p266 := eq_true p266
         replace q266 := eq_true q266
         refine start_ (n := 28) (S := fun w' => w'.cell? ⟨gb256, 0, none⟩ = some (.slice A0_0 l0_0.length c0_0) ∧ w'.cell? ⟨gb256, 1, none⟩ = some (.slice (some ad266) l0_1.length c0_1) ∧ w'.cell? (ad266.add ((x8_3).toNat * 2)) = some (.int .i64 ((rd_T70 l0_1 x8_3).f0)) ∧ w'.cell? ⟨(ad266.add ((x8_3).toNat * 2)).block, (ad266.add ((x8_3).toNat * 2)).off + 1, none⟩ = some (.slice A266_1 ((rd_T70 l0_1 x8_3).f1).length c266_1)) (ds := []) (fl 28 0) (by kernel_rfl) rfl rfl ⟨(blk_cell BK256.out 0).trans rfl, (blk_cell BK256.out 1).trans rfl, (cb HB.out hw266_0), (cb HB.out hw266_1)⟩ (fun hHeld => ?_); refine with_tabW spinnakerref13_Check.tab21 spinnakerref13_Check.bits21 (fun HT_ HW_ => ?_)
         generalize wr.drew = w115 at BK256 HB HR266_1 hx266_0 hx266_1 hHeld ⊢
         refine pq 0 (some 87) ?_ (fl 28 1) HT_.out rfl rfl ?_ ?_ ?_ ?_
         rotate_left
         ·intro w'
          go_simp
          with_reducible rfl
         rotate_left
         ·refine pt ?_
          rfl
         refine pq 2 (some 89) ?_ #[true, false, true, false, false, false, false, false, false, false, false, false, false, false, false, false, false, false, false, false, false, false, false, false, false, false, false, false] HT_.out rfl rfl ?_ ?_ ?_ ?_
         rotate_left
         ·intro w'
          go_simp
          with_reducible rfl
         rotate_left
         ·refine pt ?_
          rfl
         refine pk 1 (some 88) ?_ (fl 28 3) HT_.out HW_.out rfl rfl ?_ hHeld ?_ ?_ ?_
         rotate_left
         ·rintro w' ⟨s0, s1, s2, s3⟩
          go_simp
          with_reducible rfl
         rotate_left
         ·refine pt ?_
          rfl
         refine pq 3 (some 90) ?_ (fl 28 4) HT_.out rfl rfl ?_ ?_ ?_ ?_
         rotate_left
         ·intro w'
          go_simp
          with_reducible rfl
         rotate_left
         ·refine pt ?_
          rfl
         refine pq 4 (some 91) ?_ (fl 28 5) HT_.out rfl rfl ?_ ?_ ?_ ?_
         rotate_left
         ·intro w'
          go_simp
          with_reducible rfl
         rotate_left
         ·refine pt ?_
          rfl
         refine pk 5 (some 92) ?_ (fl 28 6) HT_.out HW_.out rfl rfl ?_ hHeld ?_ ?_ ?_
         rotate_left
         ·rintro w' ⟨s0, s1, s2, s3⟩
          go_simp
          with_reducible rfl
         rotate_left
         ·refine pt ?_
          rfl
         refine pq 6 (some 93) ?_ (fl 28 7) HT_.out rfl rfl ?_ ?_ ?_ ?_
         rotate_left
         ·intro w'
          go_simp
          with_reducible rfl
         rotate_left
         ·refine pt ?_
          rfl
         refine pq 7 (some 94) ?_ (fl 28 8) HT_.out rfl rfl ?_ ?_ ?_ ?_
         rotate_left
         ·intro w'
          go_simp
          with_reducible rfl
         rotate_left
         ·refine pt ?_
          rfl
         refine pq 8 (some 95) ?_ (fl 28 9) HT_.out rfl rfl ?_ ?_ ?_ ?_
         rotate_left
         ·intro w'
          go_simp
          with_reducible rfl
         rotate_left
         ·refine pt ?_
          rfl
         refine pq 9 (some 96) ?_ (fl 28 10) HT_.out rfl rfl ?_ ?_ ?_ ?_
         rotate_left
         ·intro w'
          go_simp
          with_reducible rfl
         rotate_left
         ·refine pt ?_
          rfl
         refine pq 10 (some 97) ?_ (fl 28 11) HT_.out rfl rfl ?_ ?_ ?_ ?_
         rotate_left
         ·intro w'
          go_simp
          with_reducible rfl
         rotate_left
         ·refine pt ?_
          rfl
         refine pq 11 (some 98) ?_ (fl 28 12) HT_.out rfl rfl ?_ ?_ ?_ ?_
         rotate_left
         ·intro w'
          go_simp
          with_reducible rfl
         rotate_left
         ·refine pt ?_
          rfl
         refine pr 12 (some 99) ?_ (fl 28 13) HT_.out rfl rfl ?_ ?_
         rotate_left
         ·refine pt ?_
          rfl
         refine pr 13 (some 100) ?_ (fl 28 14) HT_.out rfl rfl ?_ ?_
         rotate_left
         ·refine pt ?_
          rfl
         refine pr 14 (some 101) ?_ (fl 28 15) HT_.out rfl rfl ?_ ?_
         rotate_left
         ·refine pt ?_
          rfl
         refine pr 15 (some 102) ?_ (fl 28 16) HT_.out rfl rfl ?_ ?_
         rotate_left
         ·refine pt ?_
          rfl
         refine pr 16 (some 103) ?_ (fl 28 17) HT_.out rfl rfl ?_ ?_
         rotate_left
         ·refine pt ?_
          rfl
         refine pr 17 (some 104) ?_ (fl 28 18) HT_.out rfl rfl ?_ ?_
         rotate_left
         ·refine pt ?_
          rfl
         refine pr 18 (some 105) ?_ (fl 28 19) HT_.out rfl rfl ?_ ?_
         rotate_left
         ·refine pt ?_
          rfl
         refine pr 19 (some 106) ?_ (fl 28 20) HT_.out rfl rfl ?_ ?_
         rotate_left
         ·refine pt ?_
          rfl
         refine pr 20 (some 107) ?_ (fl 28 21) HT_.out rfl rfl ?_ ?_
         rotate_left
         ·refine pt ?_
          rfl
         refine pr 21 (some 108) ?_ (fl 28 22) HT_.out rfl rfl ?_ ?_
         rotate_left
         ·refine pt ?_
          rfl
         refine pr 22 (some 109) ?_ (fl 28 23) HT_.out rfl rfl ?_ ?_
         rotate_left
         ·refine pt ?_
          rfl
         refine pr 23 (some 110) ?_ (fl 28 24) HT_.out rfl rfl ?_ ?_
         rotate_left
         ·refine pt ?_
          rfl
         refine pr 24 (some 111) ?_ (fl 28 25) HT_.out rfl rfl ?_ ?_
         rotate_left
         ·refine pt ?_
          rfl
         refine pr 25 (some 112) ?_ (fl 28 26) HT_.out rfl rfl ?_ ?_
         rotate_left
         ·refine pt ?_
          rfl
         refine pq 26 (some 113) ?_ (fl 28 27) HT_.out rfl rfl ?_ ?_ ?_ ?_
         rotate_left
         ·intro w'
          go_simp
          with_reducible rfl
         rotate_left
         ·refine pt ?_
          rfl
         refine pq 27 (some 114) ?_ (fl 28 28) HT_.out rfl rfl ?_ ?_ ?_ ?_
         rotate_left
         ·intro w'
          go_simp
          with_reducible rfl
         rotate_left
         ·refine pt ?_
          rfl
         refine done_ (done_of HT_.out (by kernel_rfl)) ?_
         try go_wp2
         go_meet
         case rel => exact ⟨_, (false), fj, H', ⟨by have := HK1.out; have := HK2.out; have := HK3.out; first | omega | exact Nat.le_refl _⟩, ⟨by refine bx ?_; exact BK256.out⟩, ⟨bl⟩⟩
        rw [if_pos c110] at H
        have c110b0 := decide_eq_true c110
        clear c110
        obtain ⟨ji111, hji111⟩ : ∃ j_ : Int, (wrap64 (x8_3 - 1)) = j_ := ⟨_, rfl⟩
        replace H : (if 0 ≤ (ji111) then (if (ji111) < (l0_1.length : Int) then (spinnakerref13_Check.j4 k3 x8_3 (decide (((rd_T70 l0_1 x8_3).f0) ≤ ((rd_T70 l0_1 (ji111)).f0))) l0_0 l0_1) else (none)) else (none)) = some r := by first | (rw [hji111] at H; exact H) | (simp only [hji111] at H ⊢; exact H)
        have hji111w : (IntKind.i64.wrap (x8_3 - 1)) = ji111 := (i64_w _).trans hji111
        by_cases c112 : 0 ≤ (ji111)
        rotate_left
        ·rw [if_neg c112] at H
         exact absurd H (by simp)
        rw [if_pos c112] at H
        have c112b0 := decide_eq_true c112
        clear c112
        by_cases c113 : (ji111) < (l0_1.length : Int)
        rotate_left
        ·rw [if_neg c113] at H
         exact absurd H (by simp)
        rw [if_pos c113] at H
        have c113b0 := decide_eq_true c113
        clear c113
        have H' := Aside0.mk H
        clear H
        try go_wp2
        have n0_ := Aside0.mk (blk_drew BK256.out)
        have n1_ := Aside0.mk (below_drew1 HB.out)
        clear BK256
        clear HB
        have BK256 := n0_
        have HB := n1_
        clear n0_ n1_
        have p266 : 0 ≤ (x8_3 : Int) := od
        have q266 : x8_3 < (l0_1.length : Int) := od
        obtain ⟨ad266, A266_1, c266_1, e266, hx266_0, hx266_1, hl266_1, hi266_1⟩ := at_T70 HR0_1.out x8_3 p266 q266
        have hw266_1 := hx266_1
        have hw266_0 := hx266_0
        cases e266
        replace hx266_0 := cb HB.out hx266_0
        replace hx266_1 := cb HB.out hx266_1
        have HR266_1 := Aside0.mk hi266_1
        have HC266_1 := Aside0.mk hl266_1
        clear hi266_1 hl266_1
        replace p266 := eq_true p266
        replace q266 := eq_true q266
        have p267 : 0 ≤ (x8_3 : Int) := od
        have q267 : x8_3 < (l0_1.length : Int) := od
        obtain ⟨ad267, A267_1, c267_1, e267, hx267_0, hx267_1, hl267_1, hi267_1⟩ := at_T70 HR0_1.out x8_3 p267 q267
        have hw267_1 := hx267_1
        have hw267_0 := hx267_0
        obtain rfl : ad266 = ad267 := (by injection e267)
        replace hx267_0 := cb HB.out hx267_0
        replace hx267_1 := cb HB.out hx267_1
        have HR267_1 := Aside0.mk hi267_1
        have HC267_1 := Aside0.mk hl267_1
        clear hi267_1 hl267_1
        replace p267 := eq_true p267
        replace q267 := eq_true q267
        have ea_ := Option.some.inj (hx266_1.symm.trans hx267_1)
        injection ea_ with ea_ en_ ec_
        subst ea_
        subst ec_
        clear en_
        have p268 : 0 ≤ ((ji111) : Int) := od
        have q268 : (ji111) < (l0_1.length : Int) := od
        obtain ⟨ad268, A268_1, c268_1, e268, hx268_0, hx268_1, hl268_1, hi268_1⟩ := at_T70 HR0_1.out (ji111) p268 q268
        have hw268_1 := hx268_1
        have hw268_0 := hx268_0
        obtain rfl : ad266 = ad268 := (by injection e268)
        replace hx268_0 := cb HB.out hx268_0
        replace hx268_1 := cb HB.out hx268_1
        have HR268_1 := Aside0.mk hi268_1
        have HC268_1 := Aside0.mk hl268_1
        clear hi268_1 hl268_1
        replace p268 := eq_true p268
        replace q268 := eq_true q268
        refine start_ (n := 28) (S := fun w' => w'.cell? ⟨gb256, 0, none⟩ = some (.slice A0_0 l0_0.length c0_0) ∧ w'.cell? ⟨gb256, 1, none⟩ = some (.slice (some ad266) l0_1.length c0_1) ∧ w'.cell? (ad266.add ((x8_3).toNat * 2)) = some (.int .i64 ((rd_T70 l0_1 x8_3).f0)) ∧ w'.cell? ⟨(ad266.add ((x8_3).toNat * 2)).block, (ad266.add ((x8_3).toNat * 2)).off + 1, none⟩ = some (.slice A266_1 ((rd_T70 l0_1 x8_3).f1).length c266_1) ∧ w'.cell? (ad266.add ((x8_3).toNat * 2)) = some (.int .i64 ((rd_T70 l0_1 x8_3).f0)) ∧ w'.cell? ⟨(ad266.add ((x8_3).toNat * 2)).block, (ad266.add ((x8_3).toNat * 2)).off + 1, none⟩ = some (.slice A266_1 ((rd_T70 l0_1 x8_3).f1).length c266_1) ∧ w'.cell? (ad266.add (((ji111)).toNat * 2)) = some (.int .i64 ((rd_T70 l0_1 (ji111)).f0)) ∧ w'.cell? ⟨(ad266.add (((ji111)).toNat * 2)).block, (ad266.add (((ji111)).toNat * 2)).off + 1, none⟩ = some (.slice A268_1 ((rd_T70 l0_1 (ji111)).f1).length c268_1)) (ds := []) (fl 28 0) (by kernel_rfl) rfl rfl ⟨(blk_cell BK256.out 0).trans rfl, (blk_cell BK256.out 1).trans rfl, (cb HB.out hw266_0), (cb HB.out hw266_1), (cb HB.out hw267_0), (cb HB.out hw267_1), (cb HB.out hw268_0), (cb HB.out hw268_1)⟩ (fun hHeld => ?_); refine with_tabW spinnakerref13_Check.tab21 spinnakerref13_Check.bits21 (fun HT_ HW_ => ?_)
        generalize wr.drew = w114 at BK256 HB HR266_1 HR267_1 HR268_1 hx266_0 hx266_1 hx267_0 hx267_1 hx268_0 hx268_1 hHeld ⊢
        refine pq 0 (some 87) ?_ (fl 28 1) HT_.out rfl rfl ?_ ?_ ?_ ?_
        rotate_left
        ·intro w'
         go_simp
         with_reducible rfl
        rotate_left
        ·refine pt ?_
         rfl
        refine pq 2 (some 89) ?_ #[true, false, true, false, false, false, false, false, false, false, false, false, false, false, false, false, false, false, false, false, false, false, false, false, false, false, false, false] HT_.out rfl rfl ?_ ?_ ?_ ?_
        rotate_left
        ·intro w'
         go_simp
         with_reducible rfl
        rotate_left
        ·refine pt ?_
         rfl
        refine pk 1 (some 88) ?_ (fl 28 3) HT_.out HW_.out rfl rfl ?_ hHeld ?_ ?_ ?_
        rotate_left
        ·rintro w' ⟨s0, s1, s2, s3, s4, s5, s6, s7⟩
         go_simp
         with_reducible rfl
        rotate_left
        ·refine pt ?_
         rfl
        refine pq 3 (some 90) ?_ (fl 28 4) HT_.out rfl rfl ?_ ?_ ?_ ?_
        rotate_left
        ·intro w'
         go_simp
         with_reducible rfl
        rotate_left
        ·refine pt ?_
         rfl
        refine pq 4 (some 91) ?_ (fl 28 5) HT_.out rfl rfl ?_ ?_ ?_ ?_
        rotate_left
        ·intro w'
         go_simp
         with_reducible rfl
        rotate_left
        ·refine pt ?_
         rfl
        refine pk 5 (some 92) ?_ (fl 28 6) HT_.out HW_.out rfl rfl ?_ hHeld ?_ ?_ ?_
        rotate_left
        ·rintro w' ⟨s0, s1, s2, s3, s4, s5, s6, s7⟩
         go_simp
         with_reducible rfl
        rotate_left
        ·refine pt ?_
         rfl
        refine pq 6 (some 93) ?_ (fl 28 7) HT_.out rfl rfl ?_ ?_ ?_ ?_
        rotate_left
        ·intro w'
         go_simp
         with_reducible rfl
        rotate_left
        ·refine pt ?_
         rfl
        refine pq 7 (some 94) ?_ (fl 28 8) HT_.out rfl rfl ?_ ?_ ?_ ?_
        rotate_left
        ·intro w'
         go_simp
         with_reducible rfl
        rotate_left
        ·refine pt ?_
         rfl
        refine pq 8 (some 95) ?_ (fl 28 9) HT_.out rfl rfl ?_ ?_ ?_ ?_
        rotate_left
        ·intro w'
         go_simp
         with_reducible rfl
        rotate_left
        ·refine pt ?_
         rfl
        refine pq 9 (some 96) ?_ (fl 28 10) HT_.out rfl rfl ?_ ?_ ?_ ?_
        rotate_left
        ·intro w'
         go_simp
         with_reducible rfl
        rotate_left
        ·refine pt ?_
         rfl
        refine pq 10 (some 97) ?_ (fl 28 11) HT_.out rfl rfl ?_ ?_ ?_ ?_
        rotate_left
        ·intro w'
         go_simp
         with_reducible rfl
        rotate_left
        ·refine pt ?_
         rfl
        refine pq 11 (some 98) ?_ (fl 28 12) HT_.out rfl rfl ?_ ?_ ?_ ?_
        rotate_left
        ·intro w'
         go_simp
         with_reducible rfl
        rotate_left
        ·refine pt ?_
         rfl
        refine pq 12 (some 99) ?_ (fl 28 13) HT_.out rfl rfl ?_ ?_ ?_ ?_
        rotate_left
        ·intro w'
         go_simp
         with_reducible rfl
        rotate_left
        ·refine pt ?_
         rfl
        refine pq 14 (some 101) ?_ #[true, true, true, true, true, true, true, true, true, true, true, true, true, false, true, false, false, false, false, false, false, false, false, false, false, false, false, false] HT_.out rfl rfl ?_ ?_ ?_ ?_
        rotate_left
        ·intro w'
         go_simp
         with_reducible rfl
        rotate_left
        ·refine pt ?_
         rfl
        refine pq 18 (some 105) ?_ #[true, true, true, true, true, true, true, true, true, true, true, true, true, false, true, false, false, false, true, false, false, false, false, false, false, false, false, false] HT_.out rfl rfl ?_ ?_ ?_ ?_
        rotate_left
        ·intro w'
         go_simp
         with_reducible rfl
        rotate_left
        ·refine pt ?_
         rfl
        refine pq 20 (some 107) ?_ #[true, true, true, true, true, true, true, true, true, true, true, true, true, false, true, false, false, false, true, false, true, false, false, false, false, false, false, false] HT_.out rfl rfl ?_ ?_ ?_ ?_
        rotate_left
        ·intro w'
         go_simp
         with_reducible rfl
        rotate_left
        ·refine pt ?_
         rfl
        refine pq 21 (some 108) ?_ #[true, true, true, true, true, true, true, true, true, true, true, true, true, false, true, false, false, false, true, false, true, true, false, false, false, false, false, false] HT_.out rfl rfl ?_ ?_ ?_ ?_
        rotate_left
        ·intro w'
         go_simp
         with_reducible rfl
        rotate_left
        ·refine pt ?_
         rfl
        refine pk 13 (some 100) ?_ #[true, true, true, true, true, true, true, true, true, true, true, true, true, true, true, false, false, false, true, false, true, true, false, false, false, false, false, false] HT_.out HW_.out rfl rfl ?_ hHeld ?_ ?_ ?_
        rotate_left
        ·rintro w' ⟨s0, s1, s2, s3, s4, s5, s6, s7⟩
         go_simp
         with_reducible rfl
        rotate_left
        ·refine pt ?_
         rfl
        refine pq 15 (some 102) ?_ #[true, true, true, true, true, true, true, true, true, true, true, true, true, true, true, true, false, false, true, false, true, true, false, false, false, false, false, false] HT_.out rfl rfl ?_ ?_ ?_ ?_
        rotate_left
        ·intro w'
         go_simp
         with_reducible rfl
        rotate_left
        ·refine pt ?_
         rfl
        refine pq 16 (some 103) ?_ #[true, true, true, true, true, true, true, true, true, true, true, true, true, true, true, true, true, false, true, false, true, true, false, false, false, false, false, false] HT_.out rfl rfl ?_ ?_ ?_ ?_
        rotate_left
        ·intro w'
         go_simp
         with_reducible rfl
        rotate_left
        ·refine pt ?_
         rfl
        refine pk 17 (some 104) ?_ #[true, true, true, true, true, true, true, true, true, true, true, true, true, true, true, true, true, true, true, false, true, true, false, false, false, false, false, false] HT_.out HW_.out rfl rfl ?_ hHeld ?_ ?_ ?_
        rotate_left
        ·rintro w' ⟨s0, s1, s2, s3, s4, s5, s6, s7⟩
         go_simp
         with_reducible rfl
        rotate_left
        ·refine pt ?_
         rfl
        refine pk 19 (some 106) ?_ (fl 28 22) HT_.out HW_.out rfl rfl ?_ hHeld ?_ ?_ ?_
        rotate_left
        ·rintro w' ⟨s0, s1, s2, s3, s4, s5, s6, s7⟩
         go_simp
         with_reducible rfl
        rotate_left
        ·refine pt ?_
         rfl
        refine pq 22 (some 109) ?_ (fl 28 23) HT_.out rfl rfl ?_ ?_ ?_ ?_
        rotate_left
        ·intro w'
         go_simp
         with_reducible rfl
        rotate_left
        ·refine pt ?_
         rfl
        refine pq 23 (some 110) ?_ (fl 28 24) HT_.out rfl rfl ?_ ?_ ?_ ?_
        rotate_left
        ·intro w'
         go_simp
         with_reducible rfl
        rotate_left
        ·refine pt ?_
         rfl
        refine pk 24 (some 111) ?_ (fl 28 25) HT_.out HW_.out rfl rfl ?_ hHeld ?_ ?_ ?_
        rotate_left
        ·rintro w' ⟨s0, s1, s2, s3, s4, s5, s6, s7⟩
         go_simp
         with_reducible rfl
        rotate_left
        ·refine pt ?_
         rfl
        refine pq 25 (some 112) ?_ (fl 28 26) HT_.out rfl rfl ?_ ?_ ?_ ?_
        rotate_left
        ·intro w'
         go_simp
         with_reducible rfl
        rotate_left
        ·refine pt ?_
         rfl
        refine pq 26 (some 113) ?_ (fl 28 27) HT_.out rfl rfl ?_ ?_ ?_ ?_
        rotate_left
        ·intro w'
         go_simp
         with_reducible rfl
        rotate_left
        ·refine pt ?_
         rfl
        refine pq 27 (some 114) ?_ (fl 28 28) HT_.out rfl rfl ?_ ?_ ?_ ?_
        rotate_left
        ·intro w'
         go_simp
         with_reducible rfl
        rotate_left
        ·refine pt ?_
         rfl
        refine done_ (done_of HT_.out (by kernel_rfl)) ?_
        try go_wp2
        go_meet
        case rel => exact ⟨_, (decide (((rd_T70 l0_1 x8_3).f0) ≤ ((rd_T70 l0_1 (ji111)).f0))), (by first | rfl | (simp; done) | (simp only [← hji111] <;> (first | rfl | simp)) | (simp [*]; done)), H', ⟨by have := HK1.out; have := HK2.out; have := HK3.out; first | omega | exact Nat.le_refl _⟩, ⟨by refine bx ?_; exact BK256.out⟩, ⟨bl⟩⟩
       case rest =>
        clear HC105
        try clear c1
        try clear c2
        try clear p2
        try clear q2
        try clear hx2
        try clear p6
        try clear c10
        try clear c11
        try clear c26
        try clear p26
        try clear q26
        try clear hx26
        try clear p64
        try clear c107
        try clear c108
        try clear c108b0
        try clear c108b1
        try clear c108b2
        try clear c110
        try clear c110b0
        try clear c112
        try clear c112b0
        try clear c113
        try clear c113b0
        try clear hx266_0
        try clear hx266_1
        try clear hx267_0
        try clear hx267_1
        try clear hx268_0
        try clear hx268_1
        try clear p266
        try clear p267
        try clear p268
        try clear q266
        try clear q267
        try clear q268
        obtain ⟨kq, x114_104, rfl, HA, HJ104, BK256, HB⟩ := hcut
        cases kq with
        | zero => exact absurd HA.out (by simp [spinnakerref13_Check.j4])
        | succ kj104 =>
         have H := HA.out
         clear HA
         simp only [spinnakerref13_Check.j4] at H
         by_cases c116 : x114_104 = true
         ·subst c116
          have H1 : (some 1) = some r := by rw [if_pos rfl] at H; exact H
          clear H
          have H := H1
          clear H1
          obtain rfl := Option.some.inj H
          go_wp2
          go_ret
          exact ⟨fi, bl⟩
         replace c116 := Bool.eq_false_iff.mpr c116
         subst c116
         have H1 : (spinnakerref13_Check.l4 kj104 x8_3 0 l0_0 l0_1) = some r := by rw [if_neg (show ¬ (false = true) by decide)] at H; exact H
         clear H
         have H := H1
         clear H1
         have H' := Aside0.mk H
         clear H
         go_wp2
         go_loopg [9] kj104 (fun kq v9 w' => ∃ (x9_5 : Int), v9 = .int .i64 x9_5 ∧ Aside0 (spinnakerref13_Check.l4 kq x8_3 x9_5 l0_0 l0_1 = some r) ∧ Aside0 (kq ≤ kj104) ∧ Aside0 (w'.heap[gb256]? = some (.cells #[(.slice A0_0 l0_0.length c0_0), (.slice A0_1 l0_1.length c0_1)] 42 (0, 0))) ∧ Aside0 (Below w.heap.size w w'))
         case atStart => exact ⟨(0), fj, H', ⟨Nat.le_refl _⟩, ⟨by refine bx ?_; exact BK256.out⟩, ⟨bl⟩⟩
         case round =>
          clear H'
          try clear c1
          try clear c2
          try clear p2
          try clear q2
          try clear hx2
          try clear p6
          try clear c10
          try clear c11
          try clear c26
          try clear p26
          try clear q26
          try clear hx26
          try clear p64
          try clear c107
          try clear c108
          try clear c108b0
          try clear c108b1
          try clear c108b2
          try clear c110
          try clear c110b0
          try clear c112
          try clear c112b0
          try clear c113
          try clear c113b0
          try clear c116
          try clear hx266_0
          try clear hx266_1
          try clear hx267_0
          try clear hx267_1
          try clear hx268_0
          try clear hx268_1
          try clear p2
          try clear p26
          try clear p266
          try clear p267
          try clear p268
          try clear p6
          try clear p64
          try clear q2
          try clear q26
          try clear q266
          try clear q267
          try clear q268
          obtain ⟨x9_5, rfl, HA, HK5, BK256, HB⟩ := hrel
          cases gk with
          | zero => exact absurd HA.out (by simp [spinnakerref13_Check.l4])
          | succ k5 =>
           have H := HA.out
           clear HA
           simp only [spinnakerref13_Check.l4] at H
           by_cases c117 : 0 ≤ x8_3
           rotate_left
           ·rw [if_neg c117] at H
            exact absurd H (by simp)
           rw [if_pos c117] at H
           have c117b0 := decide_eq_true c117
           clear c117
           by_cases c118 : x8_3 < (l0_1.length : Int)
           rotate_left
           ·rw [if_neg c118] at H
            exact absurd H (by simp)
           rw [if_pos c118] at H
           have c118b0 := decide_eq_true c118
           clear c118
           by_cases c119 : x9_5 < (((rd_T70 l0_1 x8_3).f1).length : Int)
           rotate_left
           ·rw [if_neg c119] at H
            have c119b0 := decide_eq_false c119
            clear c119
            have H' := Aside0.mk H
            clear H
            obtain ⟨hcz136_0, hcz136_1, hfz136_0, hfz136_1⟩ := cz2 (w := wr) BK256.out
            have p269 : 0 ≤ (x8_3 : Int) := od
            have q269 : x8_3 < (l0_1.length : Int) := od
            obtain ⟨ad269, A269_1, c269_1, e269, hx269_0, hx269_1, hl269_1, hi269_1⟩ := at_T70 HR0_1.out x8_3 p269 q269
            cases e269
            replace hx269_0 := cb HB.out hx269_0
            replace hx269_1 := cb HB.out hx269_1
            have HR269_1 := Aside0.mk hi269_1
            have HC269_1 := Aside0.mk hl269_1
            clear hi269_1 hl269_1
            replace p269 := eq_true p269
            replace q269 := eq_true q269
            go_wp2
            go_roundg k5
            case measure => have := HK1.out; have := HK2.out; have := HK3.out; have := HJ104.out; have := HK5.out; omega
            case rel => exact ⟨(wrap64 (x8_3 + 1)), fj, H', ⟨by have := HK1.out; have := HK2.out; have := HK3.out; have := HJ104.out; have := HK5.out; omega⟩, ⟨by refine bx ?_; exact BK256.out⟩, ⟨bl⟩⟩
           rw [if_pos c119] at H
           have c119b0 := decide_eq_true c119
           clear c119
           by_cases c120 : 0 ≤ x9_5
           rotate_left
           ·rw [if_neg c120] at H
            exact absurd H (by simp)
           rw [if_pos c120] at H
           have c120b0 := decide_eq_true c120
           clear c120
           replace H := be H
           obtain ⟨t272, A121, H⟩ := H
           by_cases c122 : t272 = true
           rotate_left
           ·replace c122 := Bool.eq_false_iff.mpr c122
            subst c122
            have H1 : (some 1) = some r := by rw [if_neg (show ¬ (false = true) by decide)] at H; exact H
            clear H
            have H := H1
            clear H1
            obtain rfl := Option.some.inj H
            obtain ⟨hcz133_0, hcz133_1, hfz133_0, hfz133_1⟩ := cz2 (w := wr) BK256.out
            have p269 : 0 ≤ (x8_3 : Int) := od
            have q269 : x8_3 < (l0_1.length : Int) := od
            obtain ⟨ad269, A269_1, c269_1, e269, hx269_0, hx269_1, hl269_1, hi269_1⟩ := at_T70 HR0_1.out x8_3 p269 q269
            cases e269
            replace hx269_0 := cb HB.out hx269_0
            replace hx269_1 := cb HB.out hx269_1
            have HR269_1 := Aside0.mk hi269_1
            have HC269_1 := Aside0.mk hl269_1
            clear hi269_1 hl269_1
            replace p269 := eq_true p269
            replace q269 := eq_true q269
            try go_wp2
            have n0_ := Aside0.mk (blk_drew BK256.out)
            have n1_ := Aside0.mk (below_drew1 HB.out)
            clear BK256
            clear HB
            have BK256 := n0_
            have HB := n1_
            clear n0_ n1_
            have p270 : 0 ≤ (x8_3 : Int) := od
            have q270 : x8_3 < (l0_1.length : Int) := od
            obtain ⟨ad270, A270_1, c270_1, e270, hx270_0, hx270_1, hl270_1, hi270_1⟩ := at_T70 HR0_1.out x8_3 p270 q270
            have hw270_1 := hx270_1
            have hw270_0 := hx270_0
            obtain rfl : ad269 = ad270 := (by injection e270)
            replace hx270_0 := cb HB.out hx270_0
            replace hx270_1 := cb HB.out hx270_1
            have HR270_1 := Aside0.mk hi270_1
            have HC270_1 := Aside0.mk hl270_1
            clear hi270_1 hl270_1
            replace p270 := eq_true p270
            replace q270 := eq_true q270
            have p271 : 0 ≤ (x9_5 : Int) := od
            have q271 : x9_5 < (((rd_T70 l0_1 x8_3).f1).length : Int) := od
            obtain ⟨ad271, e271, hx271_0, hx271_1⟩ := at_T73 HR270_1.out x9_5 p271 q271
            have hw271_1 := hx271_1
            have hw271_0 := hx271_0
            cases e271
            replace hx271_0 := cb HB.out hx271_0
            replace hx271_1 := cb HB.out hx271_1
            replace p271 := eq_true p271
            replace q271 := eq_true q271
            refine start_ (n := 18) (S := fun w' => w'.cell? ⟨gb256, 0, none⟩ = some (.slice A0_0 l0_0.length c0_0) ∧ w'.cell? ⟨gb256, 1, none⟩ = some (.slice (some ad269) l0_1.length c0_1) ∧ w'.cell? (ad269.add ((x8_3).toNat * 2)) = some (.int .i64 ((rd_T70 l0_1 x8_3).f0)) ∧ w'.cell? ⟨(ad269.add ((x8_3).toNat * 2)).block, (ad269.add ((x8_3).toNat * 2)).off + 1, none⟩ = some (.slice (some ad271) ((rd_T70 l0_1 x8_3).f1).length c270_1) ∧ w'.cell? (ad271.add ((x9_5).toNat * 2)) = some (.int .i64 ((rd_T73 ((rd_T70 l0_1 x8_3).f1) x9_5).f0)) ∧ w'.cell? ⟨(ad271.add ((x9_5).toNat * 2)).block, (ad271.add ((x9_5).toNat * 2)).off + 1, none⟩ = some (.int .i64 ((rd_T73 ((rd_T70 l0_1 x8_3).f1) x9_5).f1))) (ds := []) (fl 18 0) (by kernel_rfl) rfl rfl ⟨(blk_cell BK256.out 0).trans rfl, (blk_cell BK256.out 1).trans rfl, (cb HB.out hw270_0), (cb HB.out hw270_1), (cb HB.out hw271_0), (cb HB.out hw271_1)⟩ (fun hHeld => ?_); refine with_tabW spinnakerref13_Check.tab26 spinnakerref13_Check.bits26 (fun HT_ HW_ => ?_)
            generalize wr.drew = w134 at BK256 HB HR270_1 hx270_0 hx270_1 hx271_0 hx271_1 hHeld ⊢
            refine pq 1 (some 127) ?_ #[false, true, false, false, false, false, false, false, false, false, false, false, false, false, false, false, false, false] HT_.out rfl rfl ?_ ?_ ?_ ?_
            rotate_left
            ·intro w'
             go_simp
             with_reducible rfl
            rotate_left
            ·refine pt ?_
             rfl
            refine pq 3 (some 129) ?_ #[false, true, false, true, false, false, false, false, false, false, false, false, false, false, false, false, false, false] HT_.out rfl rfl ?_ ?_ ?_ ?_
            rotate_left
            ·intro w'
             go_simp
             with_reducible rfl
            rotate_left
            ·refine pt ?_
             rfl
            refine pq 7 (some 133) ?_ #[false, true, false, true, false, false, false, true, false, false, false, false, false, false, false, false, false, false] HT_.out rfl rfl ?_ ?_ ?_ ?_
            rotate_left
            ·intro w'
             go_simp
             with_reducible rfl
            rotate_left
            ·refine pt ?_
             rfl
            refine pk 0 (some 126) ?_ #[true, true, false, true, false, false, false, true, false, false, false, false, false, false, false, false, false, false] HT_.out HW_.out rfl rfl ?_ hHeld ?_ ?_ ?_
            rotate_left
            ·rintro w' ⟨s0, s1, s2, s3, s4, s5⟩
             go_simp
             with_reducible rfl
            rotate_left
            ·refine pt ?_
             rfl
            refine pk 2 (some 128) ?_ #[true, true, true, true, false, false, false, true, false, false, false, false, false, false, false, false, false, false] HT_.out HW_.out rfl rfl ?_ hHeld ?_ ?_ ?_
            rotate_left
            ·rintro w' ⟨s0, s1, s2, s3, s4, s5⟩
             go_simp
             with_reducible rfl
            rotate_left
            ·refine pt ?_
             rfl
            refine pq 4 (some 130) ?_ #[true, true, true, true, true, false, false, true, false, false, false, false, false, false, false, false, false, false] HT_.out rfl rfl ?_ ?_ ?_ ?_
            rotate_left
            ·intro w'
             go_simp
             with_reducible rfl
            rotate_left
            ·refine pt ?_
             rfl
            refine pq 5 (some 131) ?_ #[true, true, true, true, true, true, false, true, false, false, false, false, false, false, false, false, false, false] HT_.out rfl rfl ?_ ?_ ?_ ?_
            rotate_left
            ·intro w'
             go_simp
             with_reducible rfl
            rotate_left
            ·refine pt ?_
             rfl
            refine pk 6 (some 132) ?_ (fl 18 8) HT_.out HW_.out rfl rfl ?_ hHeld ?_ ?_ ?_
            rotate_left
            ·rintro w' ⟨s0, s1, s2, s3, s4, s5⟩
             go_simp
             with_reducible rfl
            rotate_left
            ·refine pt ?_
             rfl
            refine pq 8 (some 134) ?_ (fl 18 9) HT_.out rfl rfl ?_ ?_ ?_ ?_
            rotate_left
            ·intro w'
             go_simp
             with_reducible rfl
            rotate_left
            ·refine pt ?_
             rfl
            refine pk 9 (some 135) ?_ (fl 18 10) HT_.out HW_.out rfl rfl ?_ hHeld ?_ ?_ ?_
            rotate_left
            ·rintro w' ⟨s0, s1, s2, s3, s4, s5⟩
             go_simp
             with_reducible rfl
            rotate_left
            ·refine pt ?_
             rfl
            refine one_ (i := 10) (N := some 136) (fl 18 11) rfl rfl (one_of HT_.out (by kernel_rfl)) (by decide) (fun K hK => ?_)
            refine goes_ Try.func46 (by kernel_rfl) rfl #[.agg #[.slice A0_0 l0_0.length c0_0, .slice (some ad269) l0_1.length c0_1], .agg #[.int .i64 ((rd_T73 ((rd_T70 l0_1 x8_3).f1) x9_5).f0), .int .i64 ((rd_T73 ((rd_T70 l0_1 x8_3).f1) x9_5).f1)]] (by rfl) rfl rfl ga ?_
            with_reducible refine (spinnakerref13_There.calls _ _ l0_0 _ _ l0_1 ((rd_T73 ((rd_T70 l0_1 x8_3).f1) x9_5).f0) ((rd_T73 ((rd_T70 l0_1 x8_3).f1) x9_5).f1) false _ ?side1 ?side2 ?side3 ?side4 A121.out).mono ?_
            (case side1 => repeat (first | exact (Kd.C_below HR0_0.out HB.out) | (with_reducible refine Kd.C_alloc ?_ _) | (with_reducible refine Kd.C_drewN ?_ _) | (with_reducible refine Kd.C_drew ?_)))
            (case side2 => exact HC0_0.out)
            (case side3 => repeat (first | exact (Kd.C_below HR0_1.out HB.out) | (with_reducible refine Kd.C_alloc ?_ _) | (with_reducible refine Kd.C_drewN ?_ _) | (with_reducible refine Kd.C_drew ?_)))
            (case side4 => exact HC0_1.out)
            rintro e w135 ⟨rfl, hb⟩
            refine ⟨_, rfl, ?_⟩
            have n0_ := Aside0.mk (blk_below (g := gb256) (o := .cells #[.slice A0_0 l0_0.length c0_0, .slice (some ad269) l0_1.length c0_1] 42 (0, 0)) (bk BK256.out) hb)
            have n1_ := Aside0.mk (below_step bl hb)
            clear BK256
            clear HB
            have BK256 := n0_
            have HB := n1_
            clear n0_ n1_
            (try clear hb)
            (try clear hb2)
            (try clear hk)
            (try clear hi)
            refine hK.out _ _ ⟨(blk_cell BK256.out 0).trans rfl, (blk_cell BK256.out 1).trans rfl, (cb HB.out hw270_0), (cb HB.out hw270_1), (cb HB.out hw271_0), (cb HB.out hw271_1)⟩ (fun hHeld => ?_)
            clear hK K
            refine norm_ (a' := ?_) ?_ ?_
            rotate_left
            ·show Act.put _ (some 136) _ = _
             refine pt ?_
             rfl
            refine pq 11 (some 137) ?_ (fl 18 12) HT_.out rfl rfl ?_ ?_ ?_ ?_
            rotate_left
            ·intro w'
             go_simp
             with_reducible rfl
            rotate_left
            ·refine pt ?_
             rfl
            refine pq 12 (some 138) ?_ (fl 18 13) HT_.out rfl rfl ?_ ?_ ?_ ?_
            rotate_left
            ·intro w'
             go_simp
             with_reducible rfl
            rotate_left
            ·refine pt ?_
             rfl
            refine pr 13 (some 139) ?_ (fl 18 14) HT_.out rfl rfl ?_ ?_
            rotate_left
            ·refine pt ?_
             rfl
            refine pr 14 (some 140) ?_ (fl 18 15) HT_.out rfl rfl ?_ ?_
            rotate_left
            ·refine pt ?_
             rfl
            refine pr 15 (some 141) ?_ (fl 18 16) HT_.out rfl rfl ?_ ?_
            rotate_left
            ·refine pt ?_
             rfl
            refine pr 16 (some 142) ?_ (fl 18 17) HT_.out rfl rfl ?_ ?_
            rotate_left
            ·refine pt ?_
             rfl
            refine pq 17 (some 143) ?_ (fl 18 18) HT_.out rfl rfl ?_ ?_ ?_ ?_
            rotate_left
            ·intro w'
             go_simp
             with_reducible rfl
            rotate_left
            ·refine pt ?_
             rfl
            refine done_ (done_of HT_.out (by kernel_rfl)) ?_
            try go_wp2
            go_ret
            exact ⟨fi, bl⟩
           subst c122
           have H1 : ((spinnakerref13_twice.f k5 l0_0 l0_1 x8_3 x9_5).bind fun t273 => (if t273 = true then (some 1) else (spinnakerref13_Check.l4 k5 x8_3 (wrap64 (x9_5 + 1)) l0_0 l0_1))) = some r := by rw [if_pos rfl] at H; exact H
           clear H
           have H := H1
           clear H1
           replace H := be H
           obtain ⟨t273, A123, H⟩ := H
           by_cases c124 : t273 = true
           ·subst c124
            have H1 : (some 1) = some r := by rw [if_pos rfl] at H; exact H
            clear H
            have H := H1
            clear H1
            obtain rfl := Option.some.inj H
            obtain ⟨hcz125_0, hcz125_1, hfz125_0, hfz125_1⟩ := cz2 (w := wr) BK256.out
            have p269 : 0 ≤ (x8_3 : Int) := od
            have q269 : x8_3 < (l0_1.length : Int) := od
            obtain ⟨ad269, A269_1, c269_1, e269, hx269_0, hx269_1, hl269_1, hi269_1⟩ := at_T70 HR0_1.out x8_3 p269 q269
            cases e269
            replace hx269_0 := cb HB.out hx269_0
            replace hx269_1 := cb HB.out hx269_1
            have HR269_1 := Aside0.mk hi269_1
            have HC269_1 := Aside0.mk hl269_1
            clear hi269_1 hl269_1
            replace p269 := eq_true p269
            replace q269 := eq_true q269
            try go_wp2
            have n0_ := Aside0.mk (blk_drew BK256.out)
            have n1_ := Aside0.mk (below_drew1 HB.out)
            clear BK256
            clear HB
            have BK256 := n0_
            have HB := n1_
            clear n0_ n1_
            have p270 : 0 ≤ (x8_3 : Int) := od
            have q270 : x8_3 < (l0_1.length : Int) := od
            obtain ⟨ad270, A270_1, c270_1, e270, hx270_0, hx270_1, hl270_1, hi270_1⟩ := at_T70 HR0_1.out x8_3 p270 q270
            have hw270_1 := hx270_1
            have hw270_0 := hx270_0
            obtain rfl : ad269 = ad270 := (by injection e270)
            replace hx270_0 := cb HB.out hx270_0
            replace hx270_1 := cb HB.out hx270_1
            have HR270_1 := Aside0.mk hi270_1
            have HC270_1 := Aside0.mk hl270_1
            clear hi270_1 hl270_1
            replace p270 := eq_true p270
            replace q270 := eq_true q270
            have p271 : 0 ≤ (x9_5 : Int) := od
            have q271 : x9_5 < (((rd_T70 l0_1 x8_3).f1).length : Int) := od
            obtain ⟨ad271, e271, hx271_0, hx271_1⟩ := at_T73 HR270_1.out x9_5 p271 q271
            have hw271_1 := hx271_1
            have hw271_0 := hx271_0
            cases e271
            replace hx271_0 := cb HB.out hx271_0
            replace hx271_1 := cb HB.out hx271_1
            replace p271 := eq_true p271
            replace q271 := eq_true q271
            refine start_ (n := 18) (S := fun w' => w'.cell? ⟨gb256, 0, none⟩ = some (.slice A0_0 l0_0.length c0_0) ∧ w'.cell? ⟨gb256, 1, none⟩ = some (.slice (some ad269) l0_1.length c0_1) ∧ w'.cell? (ad269.add ((x8_3).toNat * 2)) = some (.int .i64 ((rd_T70 l0_1 x8_3).f0)) ∧ w'.cell? ⟨(ad269.add ((x8_3).toNat * 2)).block, (ad269.add ((x8_3).toNat * 2)).off + 1, none⟩ = some (.slice (some ad271) ((rd_T70 l0_1 x8_3).f1).length c270_1) ∧ w'.cell? (ad271.add ((x9_5).toNat * 2)) = some (.int .i64 ((rd_T73 ((rd_T70 l0_1 x8_3).f1) x9_5).f0)) ∧ w'.cell? ⟨(ad271.add ((x9_5).toNat * 2)).block, (ad271.add ((x9_5).toNat * 2)).off + 1, none⟩ = some (.int .i64 ((rd_T73 ((rd_T70 l0_1 x8_3).f1) x9_5).f1))) (ds := []) (fl 18 0) (by kernel_rfl) rfl rfl ⟨(blk_cell BK256.out 0).trans rfl, (blk_cell BK256.out 1).trans rfl, (cb HB.out hw270_0), (cb HB.out hw270_1), (cb HB.out hw271_0), (cb HB.out hw271_1)⟩ (fun hHeld => ?_); refine with_tabW spinnakerref13_Check.tab26 spinnakerref13_Check.bits26 (fun HT_ HW_ => ?_)
            generalize wr.drew = w126 at BK256 HB HR270_1 hx270_0 hx270_1 hx271_0 hx271_1 hHeld ⊢
            refine pq 1 (some 127) ?_ #[false, true, false, false, false, false, false, false, false, false, false, false, false, false, false, false, false, false] HT_.out rfl rfl ?_ ?_ ?_ ?_
            rotate_left
            ·intro w'
             go_simp
             with_reducible rfl
            rotate_left
            ·refine pt ?_
             rfl
            refine pq 3 (some 129) ?_ #[false, true, false, true, false, false, false, false, false, false, false, false, false, false, false, false, false, false] HT_.out rfl rfl ?_ ?_ ?_ ?_
            rotate_left
            ·intro w'
             go_simp
             with_reducible rfl
            rotate_left
            ·refine pt ?_
             rfl
            refine pq 7 (some 133) ?_ #[false, true, false, true, false, false, false, true, false, false, false, false, false, false, false, false, false, false] HT_.out rfl rfl ?_ ?_ ?_ ?_
            rotate_left
            ·intro w'
             go_simp
             with_reducible rfl
            rotate_left
            ·refine pt ?_
             rfl
            refine pk 0 (some 126) ?_ #[true, true, false, true, false, false, false, true, false, false, false, false, false, false, false, false, false, false] HT_.out HW_.out rfl rfl ?_ hHeld ?_ ?_ ?_
            rotate_left
            ·rintro w' ⟨s0, s1, s2, s3, s4, s5⟩
             go_simp
             with_reducible rfl
            rotate_left
            ·refine pt ?_
             rfl
            refine pk 2 (some 128) ?_ #[true, true, true, true, false, false, false, true, false, false, false, false, false, false, false, false, false, false] HT_.out HW_.out rfl rfl ?_ hHeld ?_ ?_ ?_
            rotate_left
            ·rintro w' ⟨s0, s1, s2, s3, s4, s5⟩
             go_simp
             with_reducible rfl
            rotate_left
            ·refine pt ?_
             rfl
            refine pq 4 (some 130) ?_ #[true, true, true, true, true, false, false, true, false, false, false, false, false, false, false, false, false, false] HT_.out rfl rfl ?_ ?_ ?_ ?_
            rotate_left
            ·intro w'
             go_simp
             with_reducible rfl
            rotate_left
            ·refine pt ?_
             rfl
            refine pq 5 (some 131) ?_ #[true, true, true, true, true, true, false, true, false, false, false, false, false, false, false, false, false, false] HT_.out rfl rfl ?_ ?_ ?_ ?_
            rotate_left
            ·intro w'
             go_simp
             with_reducible rfl
            rotate_left
            ·refine pt ?_
             rfl
            refine pk 6 (some 132) ?_ (fl 18 8) HT_.out HW_.out rfl rfl ?_ hHeld ?_ ?_ ?_
            rotate_left
            ·rintro w' ⟨s0, s1, s2, s3, s4, s5⟩
             go_simp
             with_reducible rfl
            rotate_left
            ·refine pt ?_
             rfl
            refine pq 8 (some 134) ?_ (fl 18 9) HT_.out rfl rfl ?_ ?_ ?_ ?_
            rotate_left
            ·intro w'
             go_simp
             with_reducible rfl
            rotate_left
            ·refine pt ?_
             rfl
            refine pk 9 (some 135) ?_ (fl 18 10) HT_.out HW_.out rfl rfl ?_ hHeld ?_ ?_ ?_
            rotate_left
            ·rintro w' ⟨s0, s1, s2, s3, s4, s5⟩
             go_simp
             with_reducible rfl
            rotate_left
            ·refine pt ?_
             rfl
            refine one_ (i := 10) (N := some 136) (fl 18 11) rfl rfl (one_of HT_.out (by kernel_rfl)) (by decide) (fun K hK => ?_)
            refine goes_ Try.func46 (by kernel_rfl) rfl #[.agg #[.slice A0_0 l0_0.length c0_0, .slice (some ad269) l0_1.length c0_1], .agg #[.int .i64 ((rd_T73 ((rd_T70 l0_1 x8_3).f1) x9_5).f0), .int .i64 ((rd_T73 ((rd_T70 l0_1 x8_3).f1) x9_5).f1)]] (by rfl) rfl rfl ga ?_
            with_reducible refine (spinnakerref13_There.calls _ _ l0_0 _ _ l0_1 ((rd_T73 ((rd_T70 l0_1 x8_3).f1) x9_5).f0) ((rd_T73 ((rd_T70 l0_1 x8_3).f1) x9_5).f1) true _ ?side1 ?side2 ?side3 ?side4 A121.out).mono ?_
            (case side1 => repeat (first | exact (Kd.C_below HR0_0.out HB.out) | (with_reducible refine Kd.C_alloc ?_ _) | (with_reducible refine Kd.C_drewN ?_ _) | (with_reducible refine Kd.C_drew ?_)))
            (case side2 => exact HC0_0.out)
            (case side3 => repeat (first | exact (Kd.C_below HR0_1.out HB.out) | (with_reducible refine Kd.C_alloc ?_ _) | (with_reducible refine Kd.C_drewN ?_ _) | (with_reducible refine Kd.C_drew ?_)))
            (case side4 => exact HC0_1.out)
            rintro e w127 ⟨rfl, hb⟩
            refine ⟨_, rfl, ?_⟩
            have n0_ := Aside0.mk (blk_below (g := gb256) (o := .cells #[.slice A0_0 l0_0.length c0_0, .slice (some ad269) l0_1.length c0_1] 42 (0, 0)) (bk BK256.out) hb)
            have n1_ := Aside0.mk (below_step bl hb)
            clear BK256
            clear HB
            have BK256 := n0_
            have HB := n1_
            clear n0_ n1_
            (try clear hb)
            (try clear hb2)
            (try clear hk)
            (try clear hi)
            refine hK.out _ _ ⟨(blk_cell BK256.out 0).trans rfl, (blk_cell BK256.out 1).trans rfl, (cb HB.out hw270_0), (cb HB.out hw270_1), (cb HB.out hw271_0), (cb HB.out hw271_1)⟩ (fun hHeld => ?_)
            clear hK K
            refine norm_ (a' := ?_) ?_ ?_
            rotate_left
            ·show Act.put _ (some 136) _ = _
             refine pt ?_
             rfl
            refine pq 11 (some 137) ?_ (fl 18 12) HT_.out rfl rfl ?_ ?_ ?_ ?_
            rotate_left
            ·intro w'
             go_simp
             with_reducible rfl
            rotate_left
            ·refine pt ?_
             rfl
            refine pq 12 (some 138) ?_ (fl 18 13) HT_.out rfl rfl ?_ ?_ ?_ ?_
            rotate_left
            ·intro w'
             go_simp
             with_reducible rfl
            rotate_left
            ·refine pt ?_
             rfl
            refine pq 14 (some 140) ?_ #[true, true, true, true, true, true, true, true, true, true, true, true, true, false, true, false, false, false] HT_.out rfl rfl ?_ ?_ ?_ ?_
            rotate_left
            ·intro w'
             go_simp
             with_reducible rfl
            rotate_left
            ·refine pt ?_
             rfl
            refine pq 15 (some 141) ?_ #[true, true, true, true, true, true, true, true, true, true, true, true, true, false, true, true, false, false] HT_.out rfl rfl ?_ ?_ ?_ ?_
            rotate_left
            ·intro w'
             go_simp
             with_reducible rfl
            rotate_left
            ·refine pt ?_
             rfl
            refine pk 13 (some 139) ?_ (fl 18 16) HT_.out HW_.out rfl rfl ?_ hHeld ?_ ?_ ?_
            rotate_left
            ·rintro w' ⟨s0, s1, s2, s3, s4, s5⟩
             go_simp
             with_reducible rfl
            rotate_left
            ·refine pt ?_
             rfl
            refine one_ (i := 16) (N := some 142) (fl 18 17) rfl rfl (one_of HT_.out (by kernel_rfl)) (by decide) (fun K hK => ?_)
            refine goes_ Try.func47 (by kernel_rfl) rfl #[.agg #[.slice A0_0 l0_0.length c0_0, .slice (some ad269) l0_1.length c0_1], .int .i64 x8_3, .int .i64 x9_5] (by rfl) rfl rfl ga ?_
            with_reducible refine (spinnakerref13_twice.calls k5 _ _ l0_0 _ _ l0_1 x8_3 x9_5 true _ ?side1 ?side2 ?side3 ?side4 A123.out).mono ?_
            (case side1 => repeat (first | exact (Kd.C_below HR0_0.out HB.out) | (with_reducible refine Kd.C_alloc ?_ _) | (with_reducible refine Kd.C_drewN ?_ _) | (with_reducible refine Kd.C_drew ?_)))
            (case side2 => exact HC0_0.out)
            (case side3 => repeat (first | exact (Kd.C_below HR0_1.out HB.out) | (with_reducible refine Kd.C_alloc ?_ _) | (with_reducible refine Kd.C_drewN ?_ _) | (with_reducible refine Kd.C_drew ?_)))
            (case side4 => exact HC0_1.out)
            rintro e w128 ⟨rfl, hb⟩
            refine ⟨_, rfl, ?_⟩
            have n0_ := Aside0.mk (blk_below (g := gb256) (o := .cells #[.slice A0_0 l0_0.length c0_0, .slice (some ad269) l0_1.length c0_1] 42 (0, 0)) (bk BK256.out) hb)
            have n1_ := Aside0.mk (below_step bl hb)
            clear BK256
            clear HB
            have BK256 := n0_
            have HB := n1_
            clear n0_ n1_
            (try clear hb)
            (try clear hb2)
            (try clear hk)
            (try clear hi)
            refine hK.out _ _ ⟨(blk_cell BK256.out 0).trans rfl, (blk_cell BK256.out 1).trans rfl, (cb HB.out hw270_0), (cb HB.out hw270_1), (cb HB.out hw271_0), (cb HB.out hw271_1)⟩ (fun hHeld => ?_)
            clear hK K
            refine norm_ (a' := ?_) ?_ ?_
            rotate_left
            ·show Act.put _ (some 142) _ = _
             refine pt ?_
             rfl
            refine pq 17 (some 143) ?_ (fl 18 18) HT_.out rfl rfl ?_ ?_ ?_ ?_
            rotate_left
            ·intro w'
             go_simp
             with_reducible rfl
            rotate_left
            ·refine pt ?_
             rfl
            refine done_ (done_of HT_.out (by kernel_rfl)) ?_
            try go_wp2
            go_ret
            exact ⟨fi, bl⟩
           replace c124 := Bool.eq_false_iff.mpr c124
           subst c124
           have H1 : (spinnakerref13_Check.l4 k5 x8_3 (wrap64 (x9_5 + 1)) l0_0 l0_1) = some r := by rw [if_neg (show ¬ (false = true) by decide)] at H; exact H
           clear H
           have H := H1
           clear H1
           have H' := Aside0.mk H
           clear H
           obtain ⟨hcz129_0, hcz129_1, hfz129_0, hfz129_1⟩ := cz2 (w := wr) BK256.out
           have p269 : 0 ≤ (x8_3 : Int) := od
           have q269 : x8_3 < (l0_1.length : Int) := od
           obtain ⟨ad269, A269_1, c269_1, e269, hx269_0, hx269_1, hl269_1, hi269_1⟩ := at_T70 HR0_1.out x8_3 p269 q269
           cases e269
           replace hx269_0 := cb HB.out hx269_0
           replace hx269_1 := cb HB.out hx269_1
           have HR269_1 := Aside0.mk hi269_1
           have HC269_1 := Aside0.mk hl269_1
           clear hi269_1 hl269_1
           replace p269 := eq_true p269
           replace q269 := eq_true q269
           try go_wp2
           have n0_ := Aside0.mk (blk_drew BK256.out)
           have n1_ := Aside0.mk (below_drew1 HB.out)
           clear BK256
           clear HB
           have BK256 := n0_
           have HB := n1_
           clear n0_ n1_
           have p270 : 0 ≤ (x8_3 : Int) := od
           have q270 : x8_3 < (l0_1.length : Int) := od
           obtain ⟨ad270, A270_1, c270_1, e270, hx270_0, hx270_1, hl270_1, hi270_1⟩ := at_T70 HR0_1.out x8_3 p270 q270
           have hw270_1 := hx270_1
           have hw270_0 := hx270_0
           obtain rfl : ad269 = ad270 := (by injection e270)
           replace hx270_0 := cb HB.out hx270_0
           replace hx270_1 := cb HB.out hx270_1
           have HR270_1 := Aside0.mk hi270_1
           have HC270_1 := Aside0.mk hl270_1
           clear hi270_1 hl270_1
           replace p270 := eq_true p270
           replace q270 := eq_true q270
           have p271 : 0 ≤ (x9_5 : Int) := od
           have q271 : x9_5 < (((rd_T70 l0_1 x8_3).f1).length : Int) := od
           obtain ⟨ad271, e271, hx271_0, hx271_1⟩ := at_T73 HR270_1.out x9_5 p271 q271
           have hw271_1 := hx271_1
           have hw271_0 := hx271_0
           cases e271
           replace hx271_0 := cb HB.out hx271_0
           replace hx271_1 := cb HB.out hx271_1
           replace p271 := eq_true p271
           replace q271 := eq_true q271
           refine start_ (n := 18) (S := fun w' => w'.cell? ⟨gb256, 0, none⟩ = some (.slice A0_0 l0_0.length c0_0) ∧ w'.cell? ⟨gb256, 1, none⟩ = some (.slice (some ad269) l0_1.length c0_1) ∧ w'.cell? (ad269.add ((x8_3).toNat * 2)) = some (.int .i64 ((rd_T70 l0_1 x8_3).f0)) ∧ w'.cell? ⟨(ad269.add ((x8_3).toNat * 2)).block, (ad269.add ((x8_3).toNat * 2)).off + 1, none⟩ = some (.slice (some ad271) ((rd_T70 l0_1 x8_3).f1).length c270_1) ∧ w'.cell? (ad271.add ((x9_5).toNat * 2)) = some (.int .i64 ((rd_T73 ((rd_T70 l0_1 x8_3).f1) x9_5).f0)) ∧ w'.cell? ⟨(ad271.add ((x9_5).toNat * 2)).block, (ad271.add ((x9_5).toNat * 2)).off + 1, none⟩ = some (.int .i64 ((rd_T73 ((rd_T70 l0_1 x8_3).f1) x9_5).f1))) (ds := []) (fl 18 0) (by kernel_rfl) rfl rfl ⟨(blk_cell BK256.out 0).trans rfl, (blk_cell BK256.out 1).trans rfl, (cb HB.out hw270_0), (cb HB.out hw270_1), (cb HB.out hw271_0), (cb HB.out hw271_1)⟩ (fun hHeld => ?_); refine with_tabW spinnakerref13_Check.tab26 spinnakerref13_Check.bits26 (fun HT_ HW_ => ?_)
           generalize wr.drew = w130 at BK256 HB HR270_1 hx270_0 hx270_1 hx271_0 hx271_1 hHeld ⊢
           refine pq 1 (some 127) ?_ #[false, true, false, false, false, false, false, false, false, false, false, false, false, false, false, false, false, false] HT_.out rfl rfl ?_ ?_ ?_ ?_
           rotate_left
           ·intro w'
            go_simp
            with_reducible rfl
           rotate_left
           ·refine pt ?_
            rfl
           refine pq 3 (some 129) ?_ #[false, true, false, true, false, false, false, false, false, false, false, false, false, false, false, false, false, false] HT_.out rfl rfl ?_ ?_ ?_ ?_
           rotate_left
           ·intro w'
            go_simp
            with_reducible rfl
           rotate_left
           ·refine pt ?_
            rfl
           refine pq 7 (some 133) ?_ #[false, true, false, true, false, false, false, true, false, false, false, false, false, false, false, false, false, false] HT_.out rfl rfl ?_ ?_ ?_ ?_
           rotate_left
           ·intro w'
            go_simp
            with_reducible rfl
           rotate_left
           ·refine pt ?_
            rfl
           refine pk 0 (some 126) ?_ #[true, true, false, true, false, false, false, true, false, false, false, false, false, false, false, false, false, false] HT_.out HW_.out rfl rfl ?_ hHeld ?_ ?_ ?_
           rotate_left
           ·rintro w' ⟨s0, s1, s2, s3, s4, s5⟩
            go_simp
            with_reducible rfl
           rotate_left
           ·refine pt ?_
            rfl
           refine pk 2 (some 128) ?_ #[true, true, true, true, false, false, false, true, false, false, false, false, false, false, false, false, false, false] HT_.out HW_.out rfl rfl ?_ hHeld ?_ ?_ ?_
           rotate_left
           ·rintro w' ⟨s0, s1, s2, s3, s4, s5⟩
            go_simp
            with_reducible rfl
           rotate_left
           ·refine pt ?_
            rfl
           refine pq 4 (some 130) ?_ #[true, true, true, true, true, false, false, true, false, false, false, false, false, false, false, false, false, false] HT_.out rfl rfl ?_ ?_ ?_ ?_
           rotate_left
           ·intro w'
            go_simp
            with_reducible rfl
           rotate_left
           ·refine pt ?_
            rfl
           refine pq 5 (some 131) ?_ #[true, true, true, true, true, true, false, true, false, false, false, false, false, false, false, false, false, false] HT_.out rfl rfl ?_ ?_ ?_ ?_
           rotate_left
           ·intro w'
            go_simp
            with_reducible rfl
           rotate_left
           ·refine pt ?_
            rfl
           refine pk 6 (some 132) ?_ (fl 18 8) HT_.out HW_.out rfl rfl ?_ hHeld ?_ ?_ ?_
           rotate_left
           ·rintro w' ⟨s0, s1, s2, s3, s4, s5⟩
            go_simp
            with_reducible rfl
           rotate_left
           ·refine pt ?_
            rfl
           refine pq 8 (some 134) ?_ (fl 18 9) HT_.out rfl rfl ?_ ?_ ?_ ?_
           rotate_left
           ·intro w'
            go_simp
            with_reducible rfl
           rotate_left
           ·refine pt ?_
            rfl
           refine pk 9 (some 135) ?_ (fl 18 10) HT_.out HW_.out rfl rfl ?_ hHeld ?_ ?_ ?_
           rotate_left
           ·rintro w' ⟨s0, s1, s2, s3, s4, s5⟩
            go_simp
            with_reducible rfl
           rotate_left
           ·refine pt ?_
            rfl
           refine one_ (i := 10) (N := some 136) (fl 18 11) rfl rfl (one_of HT_.out (by kernel_rfl)) (by decide) (fun K hK => ?_)
           refine goes_ Try.func46 (by kernel_rfl) rfl #[.agg #[.slice A0_0 l0_0.length c0_0, .slice (some ad269) l0_1.length c0_1], .agg #[.int .i64 ((rd_T73 ((rd_T70 l0_1 x8_3).f1) x9_5).f0), .int .i64 ((rd_T73 ((rd_T70 l0_1 x8_3).f1) x9_5).f1)]] (by rfl) rfl rfl ga ?_
           with_reducible refine (spinnakerref13_There.calls _ _ l0_0 _ _ l0_1 ((rd_T73 ((rd_T70 l0_1 x8_3).f1) x9_5).f0) ((rd_T73 ((rd_T70 l0_1 x8_3).f1) x9_5).f1) true _ ?side1 ?side2 ?side3 ?side4 A121.out).mono ?_
           (case side1 => repeat (first | exact (Kd.C_below HR0_0.out HB.out) | (with_reducible refine Kd.C_alloc ?_ _) | (with_reducible refine Kd.C_drewN ?_ _) | (with_reducible refine Kd.C_drew ?_)))
           (case side2 => exact HC0_0.out)
           (case side3 => repeat (first | exact (Kd.C_below HR0_1.out HB.out) | (with_reducible refine Kd.C_alloc ?_ _) | (with_reducible refine Kd.C_drewN ?_ _) | (with_reducible refine Kd.C_drew ?_)))
           (case side4 => exact HC0_1.out)
           rintro e w131 ⟨rfl, hb⟩
           refine ⟨_, rfl, ?_⟩
           have n0_ := Aside0.mk (blk_below (g := gb256) (o := .cells #[.slice A0_0 l0_0.length c0_0, .slice (some ad269) l0_1.length c0_1] 42 (0, 0)) (bk BK256.out) hb)
           have n1_ := Aside0.mk (below_step bl hb)
           clear BK256
           clear HB
           have BK256 := n0_
           have HB := n1_
           clear n0_ n1_
           (try clear hb)
           (try clear hb2)
           (try clear hk)
           (try clear hi)
           refine hK.out _ _ ⟨(blk_cell BK256.out 0).trans rfl, (blk_cell BK256.out 1).trans rfl, (cb HB.out hw270_0), (cb HB.out hw270_1), (cb HB.out hw271_0), (cb HB.out hw271_1)⟩ (fun hHeld => ?_)
           clear hK K
           refine norm_ (a' := ?_) ?_ ?_
           rotate_left
           ·show Act.put _ (some 136) _ = _
            refine pt ?_
            rfl
           refine pq 11 (some 137) ?_ (fl 18 12) HT_.out rfl rfl ?_ ?_ ?_ ?_
           rotate_left
           ·intro w'
            go_simp
            with_reducible rfl
           rotate_left
           ·refine pt ?_
            rfl
           refine pq 12 (some 138) ?_ (fl 18 13) HT_.out rfl rfl ?_ ?_ ?_ ?_
           rotate_left
           ·intro w'
            go_simp
            with_reducible rfl
           rotate_left
           ·refine pt ?_
            rfl
           refine pq 14 (some 140) ?_ #[true, true, true, true, true, true, true, true, true, true, true, true, true, false, true, false, false, false] HT_.out rfl rfl ?_ ?_ ?_ ?_
           rotate_left
           ·intro w'
            go_simp
            with_reducible rfl
           rotate_left
           ·refine pt ?_
            rfl
           refine pq 15 (some 141) ?_ #[true, true, true, true, true, true, true, true, true, true, true, true, true, false, true, true, false, false] HT_.out rfl rfl ?_ ?_ ?_ ?_
           rotate_left
           ·intro w'
            go_simp
            with_reducible rfl
           rotate_left
           ·refine pt ?_
            rfl
           refine pk 13 (some 139) ?_ (fl 18 16) HT_.out HW_.out rfl rfl ?_ hHeld ?_ ?_ ?_
           rotate_left
           ·rintro w' ⟨s0, s1, s2, s3, s4, s5⟩
            go_simp
            with_reducible rfl
           rotate_left
           ·refine pt ?_
            rfl
           refine one_ (i := 16) (N := some 142) (fl 18 17) rfl rfl (one_of HT_.out (by kernel_rfl)) (by decide) (fun K hK => ?_)
           refine goes_ Try.func47 (by kernel_rfl) rfl #[.agg #[.slice A0_0 l0_0.length c0_0, .slice (some ad269) l0_1.length c0_1], .int .i64 x8_3, .int .i64 x9_5] (by rfl) rfl rfl ga ?_
           with_reducible refine (spinnakerref13_twice.calls k5 _ _ l0_0 _ _ l0_1 x8_3 x9_5 false _ ?side1 ?side2 ?side3 ?side4 A123.out).mono ?_
           (case side1 => repeat (first | exact (Kd.C_below HR0_0.out HB.out) | (with_reducible refine Kd.C_alloc ?_ _) | (with_reducible refine Kd.C_drewN ?_ _) | (with_reducible refine Kd.C_drew ?_)))
           (case side2 => exact HC0_0.out)
           (case side3 => repeat (first | exact (Kd.C_below HR0_1.out HB.out) | (with_reducible refine Kd.C_alloc ?_ _) | (with_reducible refine Kd.C_drewN ?_ _) | (with_reducible refine Kd.C_drew ?_)))
           (case side4 => exact HC0_1.out)
           rintro e w132 ⟨rfl, hb⟩
           refine ⟨_, rfl, ?_⟩
           have n0_ := Aside0.mk (blk_below (g := gb256) (o := .cells #[.slice A0_0 l0_0.length c0_0, .slice (some ad269) l0_1.length c0_1] 42 (0, 0)) (bk BK256.out) hb)
           have n1_ := Aside0.mk (below_step bl hb)
           clear BK256
           clear HB
           have BK256 := n0_
           have HB := n1_
           clear n0_ n1_
           (try clear hb)
           (try clear hb2)
           (try clear hk)
           (try clear hi)
           refine hK.out _ _ ⟨(blk_cell BK256.out 0).trans rfl, (blk_cell BK256.out 1).trans rfl, (cb HB.out hw270_0), (cb HB.out hw270_1), (cb HB.out hw271_0), (cb HB.out hw271_1)⟩ (fun hHeld => ?_)
           clear hK K
           refine norm_ (a' := ?_) ?_ ?_
           rotate_left
           ·show Act.put _ (some 142) _ = _
            refine pt ?_
            rfl
           refine pq 17 (some 143) ?_ (fl 18 18) HT_.out rfl rfl ?_ ?_ ?_ ?_
           rotate_left
           ·intro w'
            go_simp
            with_reducible rfl
           rotate_left
           ·refine pt ?_
            rfl
           refine done_ (done_of HT_.out (by kernel_rfl)) ?_
           try go_wp2
           go_roundg k5
           case measure => have := HK1.out; have := HK2.out; have := HK3.out; have := HJ104.out; have := HK5.out; omega
           case rel => exact ⟨(wrap64 (x9_5 + 1)), fj, H', ⟨by have := HK1.out; have := HK2.out; have := HK3.out; have := HJ104.out; have := HK5.out; omega⟩, ⟨by refine bx ?_; exact BK256.out⟩, ⟨bl⟩⟩

end Go.Proofs.Ytfpphaflbmlpeaa.GCandChecks
