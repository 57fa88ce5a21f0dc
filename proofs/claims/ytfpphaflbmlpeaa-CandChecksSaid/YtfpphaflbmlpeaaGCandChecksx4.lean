-- Written by wip/stub.py of this repo.
import Derived.Test.YtfpphaflbmlpeaaGCandChecksx0
import Derived.Test.YtfpphaflbmlpeaaGCandChecksx1
import Derived.Test.YtfpphaflbmlpeaaGCandChecksx3
namespace Go.Proofs.Ytfpphaflbmlpeaa.GCandChecks
open Go.RowKit Go.Proofs.YtfpphaflbmlpeaaW.PrintWords Go.Proofs.YtfpphaflbmlpeaaW.PrintLast Go.Proofs.YtfpphaflbmlpeaaW.PrintMore
attribute [local go_sem] max2_int min2_int max_two min_two max_three min_three max_four min_four   -- for this text's walks alone
set_option linter.unusedVariables false
set_option linter.unusedSimpArgs false

attribute [local go_sem high] eqA73
/-! ### cand_records: function 50 -/
def cand_records.l0 : Nat → List (S75) → Int → Int → List (List (S75)) → List (S70) → Option (Bool)
  | 0, _, _, _, _, _ => none
  | k + 1, x7, x8, x9, x111000, x111001 => if x9 < x8 then (if 0 ≤ x9 then (if x9 < (x7.length : Int) then (if (rd_T75 x7 x9).f3 = true then (if (rd_T75 x7 x9).f4 = true then (some false) else ((cand_start.f).bind fun bt113 => (if (!(((rd_T75 x7 x9).f2.f0) == bt113.1) || (!(((rd_T75 x7 x9).f2.f1) == bt113.2))) = true then ((cand_there.f x111000 x111001 ((rd_T75 x7 x9).f2.f0) ((rd_T75 x7 x9).f2.f1)).bind fun t115 => (if t115 = true then (cand_records.l0 k x7 x8 (wrap64 (x9 + 1)) x111000 x111001) else (some false))) else (cand_records.l0 k x7 x8 (wrap64 (x9 + 1)) x111000 x111001)))) else ((cand_start.f).bind fun bt116 => (if (!(((rd_T75 x7 x9).f2.f0) == bt116.1) || (!(((rd_T75 x7 x9).f2.f1) == bt116.2))) = true then ((cand_there.f x111000 x111001 ((rd_T75 x7 x9).f2.f0) ((rd_T75 x7 x9).f2.f1)).bind fun t118 => (if t118 = true then (cand_records.l0 k x7 x8 (wrap64 (x9 + 1)) x111000 x111001) else (some false))) else (cand_records.l0 k x7 x8 (wrap64 (x9 + 1)) x111000 x111001)))) else (none)) else (none)) else (some true)
def cand_records.f (k : Nat) (l0_0 : List (List (S75))) (l0_1 : List (S70)) (l1 : List (S75)) : Option (Bool) := cand_records.l0 k l1 (l1.length : Int) 0 l0_0 l0_1
theorem cand_records.mono_l : ∀ k, (∀ y0 y1 y2 y3 y4, LeO (cand_records.l0 k y0 y1 y2 y3 y4) (cand_records.l0 (k + 1) y0 y1 y2 y3 y4))
 | 0 => fun _ _ _ _ _ r h => by simp [cand_records.l0] at h
 | k + 1 => by
  have ih0 := cand_records.mono_l k
  ·intro y0 y1 y2 y3 y4
   unfold cand_records.l0
   repeat' first | (with_reducible first | exact ih0 _ _ _ _ _ | exact LeO.refl _ | exact LeO.none _ | refine LeO.ite ?_ ?_ | refine LeO.bind ?_ (fun _ => ?_)) | exact ih0 _ _ _ _ _ | exact LeO.none _ | refine LeO.ite ?_ ?_ | refine LeO.bind ?_ (fun _ => ?_)
theorem cand_records.mono : ∀ a0 a1 a2 k, LeO (cand_records.f k a0 a1 a2) (cand_records.f (k + 1) a0 a1 a2) := by
 intro a0 a1 a2 k
 have ih0 := cand_records.mono_l k
 unfold cand_records.f
 repeat' first | (with_reducible first | exact ih0 _ _ _ _ _ | exact LeO.refl _ | exact LeO.none _ | refine LeO.ite ?_ ?_ | refine LeO.bind ?_ (fun _ => ?_)) | exact ih0 _ _ _ _ _ | exact LeO.none _ | refine LeO.ite ?_ ?_ | refine LeO.bind ?_ (fun _ => ?_)
def cand_records.T4 : Bool × List (List Nat × List Nat) := (true, [([], []), ([0], [0]), ([1], [1]), ([2], [2]), ([3, 2], [2, 3]), ([2, 4], [2, 4]), ([5, 2], [5]), ([6], [6]), ([7, 6], [6, 7]), ([6, 6], [6]), ([8, 9, 6], [6, 8, 9]), ([10, 9, 6], [6, 10]), ([11], [11]), ([11], [11]), ([13, 11], [11, 13]), ([12, 14, 11, 11], [11, 12, 14]), ([15, 11], [11, 15]), ([11, 16, 6], [6, 11, 16]), ([6, 17], [6, 17])])
def cand_records.B4 : List Nat := [0, 1, 3, 7, 15, 31, 63, 127, 255, 127, 1023, 2047, 4095, 4095, 12287, 32767, 65535, 131071, 262143]
theorem cand_records.tab4 : rtab .any (opsOf Try.f50 4) = cand_records.T4 := by kernel_rfl
theorem cand_records.bits4 : waitsOk cand_records.T4.2 cand_records.B4 = true := by kernel_rfl
set_option maxHeartbeats 8000000 in
set_option maxRecDepth 100000 in
theorem cand_records.calls (k : Nat) (A0_0 : Option Addr) (c0_0 : Nat) (l0_0 : List (List (S75))) (A0_1 : Option Addr) (c0_1 : Nat) (l0_1 : List (S70)) (A1 : Option Addr) (c1 : Nat) (l1 : List (S75)) (r : Bool) (w : World) (hr0_0 : Kd.C (Kd.slice 75 k75) w A0_0 l0_0.length l0_0) (hc0_0 : l0_0.length ≤ c0_0) (hr0_1 : Kd.C k70 w A0_1 l0_1.length l0_1) (hc0_1 : l0_1.length ≤ c0_1) (hr1 : Kd.C k75 w A1 l1.length l1) (hc1 : l1.length ≤ c1) (h : cand_records.f k l0_0 l0_1 l1 = some r) :
  Calls Try.prog 50 #[.agg #[.slice A0_0 l0_0.length c0_0, .slice A0_1 l0_1.length c0_1], .slice A1 l1.length c1] w fun e w' => e = .returned (.bool r) ∧ Below w.heap.size w w' := by
 have hu42 := Try.underlying42
 have hu75 := Try.underlying75
 have hu73 := Try.underlying73
 have HR0_0 := Aside0.mk hr0_0
 have HC0_0 := Aside0.mk hc0_0
 clear hr0_0 hc0_0
 have HR0_1 := Aside0.mk hr0_1
 have HC0_1 := Aside0.mk hc0_1
 clear hr0_1 hc0_1
 have HR1 := Aside0.mk hr1
 have HC1 := Aside0.mk hc1
 clear hr1 hc1
 have HB := Aside0.mk (Below.refl w.heap.size w)
 have H : (cand_records.l0 k l1 (l1.length : Int) 0 l0_0 l0_1) = some r := h
 clear h
 have H' := Aside0.mk H
 clear H
 go_enter Try.func50, Try.ntmps50
 go_wp2_with (first | ((with_reducible refine gate_dst (N := 2) rfl ?_); refine bv 2 #[.slice A0_0 l0_0.length c0_0, .slice A0_1 l0_1.length c0_1] 42 ?_; intro gb110 hg w3 hbox hb; obtain ⟨n0_, GW110⟩ := nb (w := w) hg hb; clear HB; have HB := n0_; have BK110 := Aside0.mk hbox; have GE110 := GW110; clear n0_ hb hbox hg))
 go_loopg [9] k (fun kq v9 w' => ∃ (x9_1 : Int), v9 = .int .i64 x9_1 ∧ Aside0 (cand_records.l0 kq l1 (l1.length : Int) x9_1 l0_0 l0_1 = some r) ∧ Aside0 (kq ≤ k) ∧ Aside0 (w'.heap[gb110]? = some (.cells #[(.slice A0_0 l0_0.length c0_0), (.slice A0_1 l0_1.length c0_1)] 42 (0, 0))) ∧ Aside0 (Below w.heap.size w w'))
 case atStart => exact ⟨(0), fj, H', ⟨Nat.le_refl _⟩, ⟨by refine bx ?_; exact BK110.out⟩, ⟨bl⟩⟩
 case round =>
  clear H'
  try clear c1
  try clear p2
  obtain ⟨x9_1, rfl, HA, HK1, BK110, HB⟩ := hrel
  cases gk with
  | zero => exact absurd HA.out (by simp [cand_records.l0])
  | succ k1 =>
   have H := HA.out
   clear HA
   simp only [cand_records.l0] at H
   by_cases c4 : x9_1 < (l1.length : Int)
   rotate_left
   ·rw [if_neg c4] at H
    have c4b0 := decide_eq_false c4
    clear c4
    obtain rfl := Option.some.inj H
    go_wp2
    go_ret
    exact ⟨fi, bl⟩
   rw [if_pos c4] at H
   have c4b0 := decide_eq_true c4
   clear c4
   by_cases c5 : 0 ≤ x9_1
   rotate_left
   ·rw [if_neg c5] at H
    exact absurd H (by simp)
   rw [if_pos c5] at H
   have c5b0 := decide_eq_true c5
   clear c5
   by_cases c6 : x9_1 < (l1.length : Int)
   rotate_left
   ·rw [if_neg c6] at H
    exact absurd H (by simp)
   rw [if_pos c6] at H
   have c6b0 := decide_eq_true c6
   clear c6
   obtain ⟨bq7, hbq7⟩ : ∃ b_ : Bool, b_ = ((rd_T75 l1 x9_1).f3) := ⟨_, rfl⟩
   replace H : (if bq7 = true then (if (rd_T75 l1 x9_1).f4 = true then (some false) else ((cand_start.f).bind fun bt113 => (if (!(((rd_T75 l1 x9_1).f2.f0) == bt113.1) || (!(((rd_T75 l1 x9_1).f2.f1) == bt113.2))) = true then ((cand_there.f l0_0 l0_1 ((rd_T75 l1 x9_1).f2.f0) ((rd_T75 l1 x9_1).f2.f1)).bind fun t115 => (if t115 = true then (cand_records.l0 k1 l1 (l1.length : Int) (wrap64 (x9_1 + 1)) l0_0 l0_1) else (some false))) else (cand_records.l0 k1 l1 (l1.length : Int) (wrap64 (x9_1 + 1)) l0_0 l0_1)))) else ((cand_start.f).bind fun bt116 => (if (!(((rd_T75 l1 x9_1).f2.f0) == bt116.1) || (!(((rd_T75 l1 x9_1).f2.f1) == bt116.2))) = true then ((cand_there.f l0_0 l0_1 ((rd_T75 l1 x9_1).f2.f0) ((rd_T75 l1 x9_1).f2.f1)).bind fun t118 => (if t118 = true then (cand_records.l0 k1 l1 (l1.length : Int) (wrap64 (x9_1 + 1)) l0_0 l0_1) else (some false))) else (cand_records.l0 k1 l1 (l1.length : Int) (wrap64 (x9_1 + 1)) l0_0 l0_1)))) = some r := by rw [← hbq7] at H; exact H
   have Nbq7 := Aside0.mk hbq7
   clear hbq7
   by_cases c8 : bq7 = true
   rotate_left
   ·replace c8 := Bool.eq_false_iff.mpr c8
    subst c8
    have H1 : ((cand_start.f).bind fun bt116 => (if (!(((rd_T75 l1 x9_1).f2.f0) == bt116.1) || (!(((rd_T75 l1 x9_1).f2.f1) == bt116.2))) = true then ((cand_there.f l0_0 l0_1 ((rd_T75 l1 x9_1).f2.f0) ((rd_T75 l1 x9_1).f2.f1)).bind fun t118 => (if t118 = true then (cand_records.l0 k1 l1 (l1.length : Int) (wrap64 (x9_1 + 1)) l0_0 l0_1) else (some false))) else (cand_records.l0 k1 l1 (l1.length : Int) (wrap64 (x9_1 + 1)) l0_0 l0_1))) = some r := by rw [if_neg (show ¬ (false = true) by decide)] at H; exact H
    clear H
    have H := H1
    clear H1
    replace H := be H
    obtain ⟨⟨t116, t117⟩, A40, H⟩ := H
    dsimp only at H
    by_cases c41 : (!(((rd_T75 l1 x9_1).f2.f0) == t116) || (!(((rd_T75 l1 x9_1).f2.f1) == t117))) = true
    rotate_left
    ·rw [if_neg c41] at H
     have c41b0 : (!(((rd_T75 l1 x9_1).f2.f0) == t116) || (!(((rd_T75 l1 x9_1).f2.f1) == t117))) = false := by simpa using c41
     clear c41
     have H' := Aside0.mk H
     clear H
     have p111 : 0 ≤ (x9_1 : Int) := od
     have q111 : x9_1 < (l1.length : Int) := od
     obtain ⟨ad111, e111, hx111_0, hx111_1, hx111_2, hx111_3, hx111_4, hx111_5⟩ := at_T75 HR1.out x9_1 p111 q111
     (try rw [← Nbq7.out] at hx111_4)
     (try rw [← Nbq7.out] at hx111_5)
     cases e111
     replace hx111_0 := cb HB.out hx111_0
     replace hx111_1 := cb HB.out hx111_1
     replace hx111_2 := cb HB.out hx111_2
     replace hx111_3 := cb HB.out hx111_3
     replace hx111_4 := cb HB.out hx111_4
     replace hx111_5 := cb HB.out hx111_5
     replace p111 := eq_true p111
     replace q111 := eq_true q111
     try go_wp2_with (first | ((with_reducible refine gate_dst (N := 6) rfl ?_); refine bv 6 #[.int .i64 0, .int .i64 0, .int .i64 0, .int .i64 0, .bool false, .bool false] 75 ?_; intro gb112 hg w58 hbox hb; have n0_ := Aside0.mk (blk_below (g := gb110) (o := .cells #[.slice A0_0 l0_0.length c0_0, .slice A0_1 l0_1.length c0_1] 42 (0, 0)) (bk BK110.out) hb); have n1_ := Aside0.mk (below_step bl hb); have n2_ := Aside0.mk (hbox); have n3_ := Aside0.mk ((by rw [hg]; exact (below_size bl) : w.heap.size ≤ gb112)); have n4_ := Aside0.mk ((by rw [hg]; exact (below_size bl) : w.heap.size ≤ gb112)); have n5_ := Aside0.mk ((nl hg (bk BK110.out) : gb110 ≠ gb112)); have n6_ := Aside0.mk ((ng hg (bk BK110.out) : gb112 ≠ gb110)); clear BK110; clear HB; have BK110 := n0_; have HB := n1_; have BK112 := n2_; have GW112 := n3_; have GE112 := n4_; have NB110_112 := n5_; have NB112_110 := n6_; clear n0_ n1_ n2_ n3_ n4_ n5_ n6_; clear hb hbox hg; have hnb59 := NB112_110.out; have hnc59 := NB110_112.out; obtain ⟨hcz60_0, hcz60_1, hcz60_2, hcz60_3, hcz60_4, hcz60_5, hfz60_0, hfz60_1, hfz60_2, hfz60_3, hfz60_4, hfz60_5⟩ := cz6 (w := w58) BK112.out))
     have n0_ : Aside0 (((((((w58.setCell ⟨gb112, 0, none⟩ (.int .i64 ((rd_T75 l1 x9_1).f0))).setCell ⟨gb112, 1, none⟩ (.int .i64 ((rd_T75 l1 x9_1).f1))).setCell ⟨gb112, 2, none⟩ (.int .i64 ((rd_T75 l1 x9_1).f2.f0))).setCell ⟨gb112, 3, none⟩ (.int .i64 ((rd_T75 l1 x9_1).f2.f1))).setCell ⟨gb112, 4, none⟩ (.bool false)).setCell ⟨gb112, 5, none⟩ (.bool ((rd_T75 l1 x9_1).f4))).heap[gb110]? = some (.cells #[.slice A0_0 l0_0.length c0_0, .slice A0_1 l0_1.length c0_1] 42 (0, 0))) := ⟨by refine bx ?_; refine blk_far ?_ NB110_112.out _; refine bx ?_; refine blk_far ?_ NB110_112.out _; refine bx ?_; refine blk_far ?_ NB110_112.out _; refine bx ?_; refine blk_far ?_ NB110_112.out _; refine bx ?_; refine blk_far ?_ NB110_112.out _; refine bx ?_; refine blk_far ?_ NB110_112.out _; refine bx ?_; exact BK110.out⟩
     have n1_ : Aside0 (((((((w58.setCell ⟨gb112, 0, none⟩ (.int .i64 ((rd_T75 l1 x9_1).f0))).setCell ⟨gb112, 1, none⟩ (.int .i64 ((rd_T75 l1 x9_1).f1))).setCell ⟨gb112, 2, none⟩ (.int .i64 ((rd_T75 l1 x9_1).f2.f0))).setCell ⟨gb112, 3, none⟩ (.int .i64 ((rd_T75 l1 x9_1).f2.f1))).setCell ⟨gb112, 4, none⟩ (.bool false)).setCell ⟨gb112, 5, none⟩ (.bool ((rd_T75 l1 x9_1).f4))).heap[gb112]? = some (.cells #[.int .i64 ((rd_T75 l1 x9_1).f0), .int .i64 ((rd_T75 l1 x9_1).f1), .int .i64 ((rd_T75 l1 x9_1).f2.f0), .int .i64 ((rd_T75 l1 x9_1).f2.f1), .bool false, .bool ((rd_T75 l1 x9_1).f4)] 75 (0, 0))) := ⟨by refine bx ?_; refine blk_put (cs := #[.int .i64 ((rd_T75 l1 x9_1).f0), .int .i64 ((rd_T75 l1 x9_1).f1), .int .i64 ((rd_T75 l1 x9_1).f2.f0), .int .i64 ((rd_T75 l1 x9_1).f2.f1), .bool false, .bool false]) ?_ 5 _ rfl; refine bx ?_; refine blk_put (cs := #[.int .i64 ((rd_T75 l1 x9_1).f0), .int .i64 ((rd_T75 l1 x9_1).f1), .int .i64 ((rd_T75 l1 x9_1).f2.f0), .int .i64 ((rd_T75 l1 x9_1).f2.f1), .bool false, .bool false]) ?_ 4 _ rfl; refine bx ?_; refine blk_put (cs := #[.int .i64 ((rd_T75 l1 x9_1).f0), .int .i64 ((rd_T75 l1 x9_1).f1), .int .i64 ((rd_T75 l1 x9_1).f2.f0), .int .i64 0, .bool false, .bool false]) ?_ 3 _ rfl; refine bx ?_; refine blk_put (cs := #[.int .i64 ((rd_T75 l1 x9_1).f0), .int .i64 ((rd_T75 l1 x9_1).f1), .int .i64 0, .int .i64 0, .bool false, .bool false]) ?_ 2 _ rfl; refine bx ?_; refine blk_put (cs := #[.int .i64 ((rd_T75 l1 x9_1).f0), .int .i64 0, .int .i64 0, .int .i64 0, .bool false, .bool false]) ?_ 1 _ rfl; refine bx ?_; refine blk_put (cs := #[.int .i64 0, .int .i64 0, .int .i64 0, .int .i64 0, .bool false, .bool false]) ?_ 0 _ rfl; refine bx ?_; exact BK112.out⟩
     have n2_ : Aside0 (Below w.heap.size w ((((((w58.setCell ⟨gb112, 0, none⟩ (.int .i64 ((rd_T75 l1 x9_1).f0))).setCell ⟨gb112, 1, none⟩ (.int .i64 ((rd_T75 l1 x9_1).f1))).setCell ⟨gb112, 2, none⟩ (.int .i64 ((rd_T75 l1 x9_1).f2.f0))).setCell ⟨gb112, 3, none⟩ (.int .i64 ((rd_T75 l1 x9_1).f2.f1))).setCell ⟨gb112, 4, none⟩ (.bool false)).setCell ⟨gb112, 5, none⟩ (.bool ((rd_T75 l1 x9_1).f4)))) := ⟨bl⟩
     (try clear BK110)
     (try clear BK112)
     (try clear HB)
     generalize ((((((w58.setCell ⟨gb112, 0, none⟩ (.int .i64 ((rd_T75 l1 x9_1).f0))).setCell ⟨gb112, 1, none⟩ (.int .i64 ((rd_T75 l1 x9_1).f1))).setCell ⟨gb112, 2, none⟩ (.int .i64 ((rd_T75 l1 x9_1).f2.f0))).setCell ⟨gb112, 3, none⟩ (.int .i64 ((rd_T75 l1 x9_1).f2.f1))).setCell ⟨gb112, 4, none⟩ (.bool false)).setCell ⟨gb112, 5, none⟩ (.bool ((rd_T75 l1 x9_1).f4))) = w61 at n0_ n1_ n2_ ⊢
     have BK110 := n0_
     have BK112 := n1_
     have HB := n2_
     clear n0_ n1_ n2_
     have n0_ := Aside0.mk (blk_drew BK110.out)
     have n1_ := Aside0.mk (blk_drew BK112.out)
     have n2_ := Aside0.mk (below_drew1 HB.out)
     clear BK110
     clear BK112
     clear HB
     have BK110 := n0_
     have BK112 := n1_
     have HB := n2_
     clear n0_ n1_ n2_
     refine start_ (n := 19) (S := fun w' => w'.cell? ⟨gb112, 0, none⟩ = some (.int .i64 ((rd_T75 l1 x9_1).f0)) ∧ w'.cell? ⟨gb112, 1, none⟩ = some (.int .i64 ((rd_T75 l1 x9_1).f1)) ∧ w'.cell? ⟨gb112, 2, none⟩ = some (.int .i64 ((rd_T75 l1 x9_1).f2.f0)) ∧ w'.cell? ⟨gb112, 3, none⟩ = some (.int .i64 ((rd_T75 l1 x9_1).f2.f1)) ∧ w'.cell? ⟨gb112, 4, none⟩ = some (.bool false) ∧ w'.cell? ⟨gb112, 5, none⟩ = some (.bool ((rd_T75 l1 x9_1).f4))) (ds := []) (fl 19 0) (by kernel_rfl) rfl rfl (cy6 BK112.out) (fun hHeld => ?_); refine with_tabW cand_records.tab4 cand_records.bits4 (fun HT_ HW_ => ?_)
     generalize w61.drew = w62 at BK110 BK112 HB hHeld ⊢
     refine pq 0 (some 13) ?_ (fl 19 1) HT_.out rfl rfl ?_ ?_ ?_ ?_
     rotate_left
     ·intro w'
      go_simp
      with_reducible rfl
     rotate_left
     ·refine pt ?_
      rfl
     refine pk 1 (some 14) ?_ (fl 19 2) HT_.out HW_.out rfl rfl ?_ hHeld ?_ ?_ ?_
     rotate_left
     ·rintro w' ⟨s0, s1, s2, s3, s4, s5⟩
      go_simp
      with_reducible rfl
     rotate_left
     ·refine pt ?_
      rfl
     refine pq 2 (some 15) ?_ (fl 19 3) HT_.out rfl rfl ?_ ?_ ?_ ?_
     rotate_left
     ·intro w'
      go_simp
      with_reducible rfl
     rotate_left
     ·refine pt ?_
      rfl
     refine pr 3 (some 16) ?_ (fl 19 4) HT_.out rfl rfl ?_ ?_
     rotate_left
     ·refine pt ?_
      rfl
     refine pr 4 (some 17) ?_ (fl 19 5) HT_.out rfl rfl ?_ ?_
     rotate_left
     ·refine pt ?_
      rfl
     refine pq 5 (some 18) ?_ (fl 19 6) HT_.out rfl rfl ?_ ?_ ?_ ?_
     rotate_left
     ·intro w'
      go_simp
      with_reducible rfl
     rotate_left
     ·refine pt ?_
      rfl
     refine pq 6 (some 19) ?_ (fl 19 7) HT_.out rfl rfl ?_ ?_ ?_ ?_
     rotate_left
     ·intro w'
      go_simp
      with_reducible rfl
     rotate_left
     ·refine pt ?_
      rfl
     refine pq 7 (some 20) ?_ (fl 19 8) HT_.out rfl rfl ?_ ?_ ?_ ?_
     rotate_left
     ·intro w'
      go_simp
      with_reducible rfl
     rotate_left
     ·refine pt ?_
      rfl
     refine pk 8 (some 21) ?_ (fl 19 9) HT_.out HW_.out rfl rfl ?_ hHeld ?_ ?_ ?_
     rotate_left
     ·rintro w' ⟨s0, s1, s2, s3, s4, s5⟩
      go_simp
      with_reducible rfl
     rotate_left
     ·refine pt ?_
      rfl
     refine one_ (i := 9) (N := some 22) (fl 19 10) rfl rfl (one_of HT_.out (by kernel_rfl)) (by decide) (fun K hK => ?_)
     refine goes_ Try.func64 (by kernel_rfl) rfl #[] (by rfl) rfl rfl ga ?_
     with_reducible refine (cand_start.calls  t116 t117 _ A40.out).mono ?_
     rintro e w63 ⟨rfl, hb⟩
     refine ⟨_, rfl, ?_⟩
     have n0_ := Aside0.mk (blk_below (g := gb110) (o := .cells #[.slice A0_0 l0_0.length c0_0, .slice A0_1 l0_1.length c0_1] 42 (0, 0)) (bk BK110.out) hb)
     have n1_ := Aside0.mk (blk_below (g := gb112) (o := .cells #[.int .i64 ((rd_T75 l1 x9_1).f0), .int .i64 ((rd_T75 l1 x9_1).f1), .int .i64 ((rd_T75 l1 x9_1).f2.f0), .int .i64 ((rd_T75 l1 x9_1).f2.f1), .bool false, .bool ((rd_T75 l1 x9_1).f4)] 75 (0, 0)) (bk BK112.out) hb)
     have n2_ := Aside0.mk (below_step bl hb)
     clear BK110
     clear BK112
     clear HB
     have BK110 := n0_
     have BK112 := n1_
     have HB := n2_
     clear n0_ n1_ n2_
     (try clear hb)
     (try clear hb2)
     (try clear hk)
     (try clear hi)
     refine hK.out _ _ (cy6 BK112.out) (fun hHeld => ?_)
     clear hK K
     refine norm_ (a' := ?_) ?_ ?_
     rotate_left
     ·show Act.put _ (some 22) _ = _
      refine pt ?_
      rfl
     refine pq 10 (some 23) ?_ (fl 19 11) HT_.out rfl rfl ?_ ?_ ?_ ?_
     rotate_left
     ·intro w'
      go_simp
      with_reducible rfl
     rotate_left
     ·refine pt ?_
      rfl
     refine pq 11 (some 24) ?_ (fl 19 12) HT_.out rfl rfl ?_ ?_ ?_ ?_
     rotate_left
     ·intro w'
      go_simp
      with_reducible rfl
     rotate_left
     ·refine pt ?_
      rfl
     refine pr 12 (some 25) ?_ (fl 19 13) HT_.out rfl rfl ?_ ?_
     rotate_left
     ·refine pt ?_
      rfl
     refine pr 13 (some 26) ?_ (fl 19 14) HT_.out rfl rfl ?_ ?_
     rotate_left
     ·refine pt ?_
      rfl
     refine pr 14 (some 27) ?_ (fl 19 15) HT_.out rfl rfl ?_ ?_
     rotate_left
     ·refine pt ?_
      rfl
     refine pr 15 (some 28) ?_ (fl 19 16) HT_.out rfl rfl ?_ ?_
     rotate_left
     ·refine pt ?_
      rfl
     refine pr 16 (some 29) ?_ (fl 19 17) HT_.out rfl rfl ?_ ?_
     rotate_left
     ·refine pt ?_
      rfl
     refine pq 17 (some 30) ?_ (fl 19 18) HT_.out rfl rfl ?_ ?_ ?_ ?_
     rotate_left
     ·intro w'
      go_simp
      with_reducible rfl
     rotate_left
     ·refine pt ?_
      rfl
     refine pq 18 (some 31) ?_ (fl 19 19) HT_.out rfl rfl ?_ ?_ ?_ ?_
     rotate_left
     ·intro w'
      go_simp
      with_reducible rfl
     rotate_left
     ·refine pt ?_
      rfl
     refine done_ (done_of HT_.out (by kernel_rfl)) ?_
     try go_wp2
     go_roundg k1
     case measure => have := HK1.out; omega
     case rel => exact ⟨(wrap64 (x9_1 + 1)), fj, H', ⟨by have := HK1.out; omega⟩, ⟨by refine bx ?_; exact BK110.out⟩, ⟨bl⟩⟩
    rw [if_pos c41] at H
    have c41b0 : (!(((rd_T75 l1 x9_1).f2.f0) == t116) || (!(((rd_T75 l1 x9_1).f2.f1) == t117))) = true := c41
    clear c41
    replace H := be H
    obtain ⟨t118, A42, H⟩ := H
    by_cases c43 : t118 = true
    rotate_left
    ·replace c43 := Bool.eq_false_iff.mpr c43
     subst c43
     have H1 : (some false) = some r := by rw [if_neg (show ¬ (false = true) by decide)] at H; exact H
     clear H
     have H := H1
     clear H1
     obtain rfl := Option.some.inj H
     have p111 : 0 ≤ (x9_1 : Int) := od
     have q111 : x9_1 < (l1.length : Int) := od
     obtain ⟨ad111, e111, hx111_0, hx111_1, hx111_2, hx111_3, hx111_4, hx111_5⟩ := at_T75 HR1.out x9_1 p111 q111
     (try rw [← Nbq7.out] at hx111_4)
     (try rw [← Nbq7.out] at hx111_5)
     cases e111
     replace hx111_0 := cb HB.out hx111_0
     replace hx111_1 := cb HB.out hx111_1
     replace hx111_2 := cb HB.out hx111_2
     replace hx111_3 := cb HB.out hx111_3
     replace hx111_4 := cb HB.out hx111_4
     replace hx111_5 := cb HB.out hx111_5
     replace p111 := eq_true p111
     replace q111 := eq_true q111
     try go_wp2_with (first | ((with_reducible refine gate_dst (N := 6) rfl ?_); refine bv 6 #[.int .i64 0, .int .i64 0, .int .i64 0, .int .i64 0, .bool false, .bool false] 75 ?_; intro gb112 hg w51 hbox hb; have n0_ := Aside0.mk (blk_below (g := gb110) (o := .cells #[.slice A0_0 l0_0.length c0_0, .slice A0_1 l0_1.length c0_1] 42 (0, 0)) (bk BK110.out) hb); have n1_ := Aside0.mk (below_step bl hb); have n2_ := Aside0.mk (hbox); have n3_ := Aside0.mk ((by rw [hg]; exact (below_size bl) : w.heap.size ≤ gb112)); have n4_ := Aside0.mk ((by rw [hg]; exact (below_size bl) : w.heap.size ≤ gb112)); have n5_ := Aside0.mk ((nl hg (bk BK110.out) : gb110 ≠ gb112)); have n6_ := Aside0.mk ((ng hg (bk BK110.out) : gb112 ≠ gb110)); clear BK110; clear HB; have BK110 := n0_; have HB := n1_; have BK112 := n2_; have GW112 := n3_; have GE112 := n4_; have NB110_112 := n5_; have NB112_110 := n6_; clear n0_ n1_ n2_ n3_ n4_ n5_ n6_; clear hb hbox hg; have hnb52 := NB112_110.out; have hnc52 := NB110_112.out; obtain ⟨hcz53_0, hcz53_1, hcz53_2, hcz53_3, hcz53_4, hcz53_5, hfz53_0, hfz53_1, hfz53_2, hfz53_3, hfz53_4, hfz53_5⟩ := cz6 (w := w51) BK112.out))
     have n0_ : Aside0 (((((((w51.setCell ⟨gb112, 0, none⟩ (.int .i64 ((rd_T75 l1 x9_1).f0))).setCell ⟨gb112, 1, none⟩ (.int .i64 ((rd_T75 l1 x9_1).f1))).setCell ⟨gb112, 2, none⟩ (.int .i64 ((rd_T75 l1 x9_1).f2.f0))).setCell ⟨gb112, 3, none⟩ (.int .i64 ((rd_T75 l1 x9_1).f2.f1))).setCell ⟨gb112, 4, none⟩ (.bool false)).setCell ⟨gb112, 5, none⟩ (.bool ((rd_T75 l1 x9_1).f4))).heap[gb110]? = some (.cells #[.slice A0_0 l0_0.length c0_0, .slice A0_1 l0_1.length c0_1] 42 (0, 0))) := ⟨by refine bx ?_; refine blk_far ?_ NB110_112.out _; refine bx ?_; refine blk_far ?_ NB110_112.out _; refine bx ?_; refine blk_far ?_ NB110_112.out _; refine bx ?_; refine blk_far ?_ NB110_112.out _; refine bx ?_; refine blk_far ?_ NB110_112.out _; refine bx ?_; refine blk_far ?_ NB110_112.out _; refine bx ?_; exact BK110.out⟩
     have n1_ : Aside0 (((((((w51.setCell ⟨gb112, 0, none⟩ (.int .i64 ((rd_T75 l1 x9_1).f0))).setCell ⟨gb112, 1, none⟩ (.int .i64 ((rd_T75 l1 x9_1).f1))).setCell ⟨gb112, 2, none⟩ (.int .i64 ((rd_T75 l1 x9_1).f2.f0))).setCell ⟨gb112, 3, none⟩ (.int .i64 ((rd_T75 l1 x9_1).f2.f1))).setCell ⟨gb112, 4, none⟩ (.bool false)).setCell ⟨gb112, 5, none⟩ (.bool ((rd_T75 l1 x9_1).f4))).heap[gb112]? = some (.cells #[.int .i64 ((rd_T75 l1 x9_1).f0), .int .i64 ((rd_T75 l1 x9_1).f1), .int .i64 ((rd_T75 l1 x9_1).f2.f0), .int .i64 ((rd_T75 l1 x9_1).f2.f1), .bool false, .bool ((rd_T75 l1 x9_1).f4)] 75 (0, 0))) := ⟨by refine bx ?_; refine blk_put (cs := #[.int .i64 ((rd_T75 l1 x9_1).f0), .int .i64 ((rd_T75 l1 x9_1).f1), .int .i64 ((rd_T75 l1 x9_1).f2.f0), .int .i64 ((rd_T75 l1 x9_1).f2.f1), .bool false, .bool false]) ?_ 5 _ rfl; refine bx ?_; refine blk_put (cs := #[.int .i64 ((rd_T75 l1 x9_1).f0), .int .i64 ((rd_T75 l1 x9_1).f1), .int .i64 ((rd_T75 l1 x9_1).f2.f0), .int .i64 ((rd_T75 l1 x9_1).f2.f1), .bool false, .bool false]) ?_ 4 _ rfl; refine bx ?_; refine blk_put (cs := #[.int .i64 ((rd_T75 l1 x9_1).f0), .int .i64 ((rd_T75 l1 x9_1).f1), .int .i64 ((rd_T75 l1 x9_1).f2.f0), .int .i64 0, .bool false, .bool false]) ?_ 3 _ rfl; refine bx ?_; refine blk_put (cs := #[.int .i64 ((rd_T75 l1 x9_1).f0), .int .i64 ((rd_T75 l1 x9_1).f1), .int .i64 0, .int .i64 0, .bool false, .bool false]) ?_ 2 _ rfl; refine bx ?_; refine blk_put (cs := #[.int .i64 ((rd_T75 l1 x9_1).f0), .int .i64 0, .int .i64 0, .int .i64 0, .bool false, .bool false]) ?_ 1 _ rfl; refine bx ?_; refine blk_put (cs := #[.int .i64 0, .int .i64 0, .int .i64 0, .int .i64 0, .bool false, .bool false]) ?_ 0 _ rfl; refine bx ?_; exact BK112.out⟩
     have n2_ : Aside0 (Below w.heap.size w ((((((w51.setCell ⟨gb112, 0, none⟩ (.int .i64 ((rd_T75 l1 x9_1).f0))).setCell ⟨gb112, 1, none⟩ (.int .i64 ((rd_T75 l1 x9_1).f1))).setCell ⟨gb112, 2, none⟩ (.int .i64 ((rd_T75 l1 x9_1).f2.f0))).setCell ⟨gb112, 3, none⟩ (.int .i64 ((rd_T75 l1 x9_1).f2.f1))).setCell ⟨gb112, 4, none⟩ (.bool false)).setCell ⟨gb112, 5, none⟩ (.bool ((rd_T75 l1 x9_1).f4)))) := ⟨bl⟩
     (try clear BK110)
     (try clear BK112)
     (try clear HB)
     generalize ((((((w51.setCell ⟨gb112, 0, none⟩ (.int .i64 ((rd_T75 l1 x9_1).f0))).setCell ⟨gb112, 1, none⟩ (.int .i64 ((rd_T75 l1 x9_1).f1))).setCell ⟨gb112, 2, none⟩ (.int .i64 ((rd_T75 l1 x9_1).f2.f0))).setCell ⟨gb112, 3, none⟩ (.int .i64 ((rd_T75 l1 x9_1).f2.f1))).setCell ⟨gb112, 4, none⟩ (.bool false)).setCell ⟨gb112, 5, none⟩ (.bool ((rd_T75 l1 x9_1).f4))) = w54 at n0_ n1_ n2_ ⊢
     have BK110 := n0_
     have BK112 := n1_
     have HB := n2_
     clear n0_ n1_ n2_
     have n0_ := Aside0.mk (blk_drew BK110.out)
     have n1_ := Aside0.mk (blk_drew BK112.out)
     have n2_ := Aside0.mk (below_drew1 HB.out)
     clear BK110
     clear BK112
     clear HB
     have BK110 := n0_
     have BK112 := n1_
     have HB := n2_
     clear n0_ n1_ n2_
     refine start_ (n := 19) (S := fun w' => w'.cell? ⟨gb112, 0, none⟩ = some (.int .i64 ((rd_T75 l1 x9_1).f0)) ∧ w'.cell? ⟨gb112, 1, none⟩ = some (.int .i64 ((rd_T75 l1 x9_1).f1)) ∧ w'.cell? ⟨gb112, 2, none⟩ = some (.int .i64 ((rd_T75 l1 x9_1).f2.f0)) ∧ w'.cell? ⟨gb112, 3, none⟩ = some (.int .i64 ((rd_T75 l1 x9_1).f2.f1)) ∧ w'.cell? ⟨gb112, 4, none⟩ = some (.bool false) ∧ w'.cell? ⟨gb112, 5, none⟩ = some (.bool ((rd_T75 l1 x9_1).f4)) ∧ w'.cell? ⟨gb110, 0, none⟩ = some (.slice A0_0 l0_0.length c0_0) ∧ w'.cell? ⟨gb110, 1, none⟩ = some (.slice A0_1 l0_1.length c0_1)) (ds := []) (fl 19 0) (by kernel_rfl) rfl rfl ⟨(blk_cell BK112.out 0).trans rfl, (blk_cell BK112.out 1).trans rfl, (blk_cell BK112.out 2).trans rfl, (blk_cell BK112.out 3).trans rfl, (blk_cell BK112.out 4).trans rfl, (blk_cell BK112.out 5).trans rfl, (blk_cell BK110.out 0).trans rfl, (blk_cell BK110.out 1).trans rfl⟩ (fun hHeld => ?_); refine with_tabW cand_records.tab4 cand_records.bits4 (fun HT_ HW_ => ?_)
     generalize w54.drew = w55 at BK110 BK112 HB hHeld ⊢
     refine pq 0 (some 13) ?_ (fl 19 1) HT_.out rfl rfl ?_ ?_ ?_ ?_
     rotate_left
     ·intro w'
      go_simp
      with_reducible rfl
     rotate_left
     ·refine pt ?_
      rfl
     refine pk 1 (some 14) ?_ (fl 19 2) HT_.out HW_.out rfl rfl ?_ hHeld ?_ ?_ ?_
     rotate_left
     ·rintro w' ⟨s0, s1, s2, s3, s4, s5, s6, s7⟩
      go_simp
      with_reducible rfl
     rotate_left
     ·refine pt ?_
      rfl
     refine pq 2 (some 15) ?_ (fl 19 3) HT_.out rfl rfl ?_ ?_ ?_ ?_
     rotate_left
     ·intro w'
      go_simp
      with_reducible rfl
     rotate_left
     ·refine pt ?_
      rfl
     refine pr 3 (some 16) ?_ (fl 19 4) HT_.out rfl rfl ?_ ?_
     rotate_left
     ·refine pt ?_
      rfl
     refine pr 4 (some 17) ?_ (fl 19 5) HT_.out rfl rfl ?_ ?_
     rotate_left
     ·refine pt ?_
      rfl
     refine pq 5 (some 18) ?_ (fl 19 6) HT_.out rfl rfl ?_ ?_ ?_ ?_
     rotate_left
     ·intro w'
      go_simp
      with_reducible rfl
     rotate_left
     ·refine pt ?_
      rfl
     refine pq 6 (some 19) ?_ (fl 19 7) HT_.out rfl rfl ?_ ?_ ?_ ?_
     rotate_left
     ·intro w'
      go_simp
      with_reducible rfl
     rotate_left
     ·refine pt ?_
      rfl
     refine pq 7 (some 20) ?_ (fl 19 8) HT_.out rfl rfl ?_ ?_ ?_ ?_
     rotate_left
     ·intro w'
      go_simp
      with_reducible rfl
     rotate_left
     ·refine pt ?_
      rfl
     refine pk 8 (some 21) ?_ (fl 19 9) HT_.out HW_.out rfl rfl ?_ hHeld ?_ ?_ ?_
     rotate_left
     ·rintro w' ⟨s0, s1, s2, s3, s4, s5, s6, s7⟩
      go_simp
      with_reducible rfl
     rotate_left
     ·refine pt ?_
      rfl
     refine one_ (i := 9) (N := some 22) (fl 19 10) rfl rfl (one_of HT_.out (by kernel_rfl)) (by decide) (fun K hK => ?_)
     refine goes_ Try.func64 (by kernel_rfl) rfl #[] (by rfl) rfl rfl ga ?_
     with_reducible refine (cand_start.calls  t116 t117 _ A40.out).mono ?_
     rintro e w56 ⟨rfl, hb⟩
     refine ⟨_, rfl, ?_⟩
     have n0_ := Aside0.mk (blk_below (g := gb110) (o := .cells #[.slice A0_0 l0_0.length c0_0, .slice A0_1 l0_1.length c0_1] 42 (0, 0)) (bk BK110.out) hb)
     have n1_ := Aside0.mk (blk_below (g := gb112) (o := .cells #[.int .i64 ((rd_T75 l1 x9_1).f0), .int .i64 ((rd_T75 l1 x9_1).f1), .int .i64 ((rd_T75 l1 x9_1).f2.f0), .int .i64 ((rd_T75 l1 x9_1).f2.f1), .bool false, .bool ((rd_T75 l1 x9_1).f4)] 75 (0, 0)) (bk BK112.out) hb)
     have n2_ := Aside0.mk (below_step bl hb)
     clear BK110
     clear BK112
     clear HB
     have BK110 := n0_
     have BK112 := n1_
     have HB := n2_
     clear n0_ n1_ n2_
     (try clear hb)
     (try clear hb2)
     (try clear hk)
     (try clear hi)
     refine hK.out _ _ ⟨(blk_cell BK112.out 0).trans rfl, (blk_cell BK112.out 1).trans rfl, (blk_cell BK112.out 2).trans rfl, (blk_cell BK112.out 3).trans rfl, (blk_cell BK112.out 4).trans rfl, (blk_cell BK112.out 5).trans rfl, (blk_cell BK110.out 0).trans rfl, (blk_cell BK110.out 1).trans rfl⟩ (fun hHeld => ?_)
     clear hK K
     refine norm_ (a' := ?_) ?_ ?_
     rotate_left
     ·show Act.put _ (some 22) _ = _
      refine pt ?_
      rfl
     refine pq 10 (some 23) ?_ (fl 19 11) HT_.out rfl rfl ?_ ?_ ?_ ?_
     rotate_left
     ·intro w'
      go_simp
      with_reducible rfl
     rotate_left
     ·refine pt ?_
      rfl
     refine pq 11 (some 24) ?_ (fl 19 12) HT_.out rfl rfl ?_ ?_ ?_ ?_
     rotate_left
     ·intro w'
      go_simp
      with_reducible rfl
     rotate_left
     ·refine pt ?_
      rfl
     refine pq 13 (some 26) ?_ #[true, true, true, true, true, true, true, true, true, true, true, true, false, true, false, false, false, false, false] HT_.out rfl rfl ?_ ?_ ?_ ?_
     rotate_left
     ·intro w'
      go_simp
      with_reducible rfl
     rotate_left
     ·refine pt ?_
      rfl
     refine pk 12 (some 25) ?_ (fl 19 14) HT_.out HW_.out rfl rfl ?_ hHeld ?_ ?_ ?_
     rotate_left
     ·rintro w' ⟨s0, s1, s2, s3, s4, s5, s6, s7⟩
      go_simp
      with_reducible rfl
     rotate_left
     ·refine pt ?_
      rfl
     refine pk 14 (some 27) ?_ (fl 19 15) HT_.out HW_.out rfl rfl ?_ hHeld ?_ ?_ ?_
     rotate_left
     ·rintro w' ⟨s0, s1, s2, s3, s4, s5, s6, s7⟩
      go_simp
      with_reducible rfl
     rotate_left
     ·refine pt ?_
      rfl
     refine one_ (i := 15) (N := some 28) (fl 19 16) rfl rfl (one_of HT_.out (by kernel_rfl)) (by decide) (fun K hK => ?_)
     refine goes_ Try.func65 (by kernel_rfl) rfl #[.agg #[.slice A0_0 l0_0.length c0_0, .slice A0_1 l0_1.length c0_1], .agg #[.int .i64 ((rd_T75 l1 x9_1).f2.f0), .int .i64 ((rd_T75 l1 x9_1).f2.f1)]] (by rfl) rfl rfl ga ?_
     with_reducible refine (cand_there.calls _ _ l0_0 _ _ l0_1 ((rd_T75 l1 x9_1).f2.f0) ((rd_T75 l1 x9_1).f2.f1) false _ ?side1 ?side2 ?side3 ?side4 A42.out).mono ?_
     (case side1 => repeat (first | exact (Kd.C_below HR0_0.out HB.out) | (with_reducible refine Kd.C_alloc ?_ _) | (with_reducible refine Kd.C_drewN ?_ _) | (with_reducible refine Kd.C_drew ?_)))
     (case side2 => exact HC0_0.out)
     (case side3 => repeat (first | exact (Kd.C_below HR0_1.out HB.out) | (with_reducible refine Kd.C_alloc ?_ _) | (with_reducible refine Kd.C_drewN ?_ _) | (with_reducible refine Kd.C_drew ?_)))
     (case side4 => exact HC0_1.out)
     rintro e w57 ⟨rfl, hb⟩
     refine ⟨_, rfl, ?_⟩
     have n0_ := Aside0.mk (blk_below (g := gb110) (o := .cells #[.slice A0_0 l0_0.length c0_0, .slice A0_1 l0_1.length c0_1] 42 (0, 0)) (bk BK110.out) hb)
     have n1_ := Aside0.mk (blk_below (g := gb112) (o := .cells #[.int .i64 ((rd_T75 l1 x9_1).f0), .int .i64 ((rd_T75 l1 x9_1).f1), .int .i64 ((rd_T75 l1 x9_1).f2.f0), .int .i64 ((rd_T75 l1 x9_1).f2.f1), .bool false, .bool ((rd_T75 l1 x9_1).f4)] 75 (0, 0)) (bk BK112.out) hb)
     have n2_ := Aside0.mk (below_step bl hb)
     clear BK110
     clear BK112
     clear HB
     have BK110 := n0_
     have BK112 := n1_
     have HB := n2_
     clear n0_ n1_ n2_
     (try clear hb)
     (try clear hb2)
     (try clear hk)
     (try clear hi)
     refine hK.out _ _ ⟨(blk_cell BK112.out 0).trans rfl, (blk_cell BK112.out 1).trans rfl, (blk_cell BK112.out 2).trans rfl, (blk_cell BK112.out 3).trans rfl, (blk_cell BK112.out 4).trans rfl, (blk_cell BK112.out 5).trans rfl, (blk_cell BK110.out 0).trans rfl, (blk_cell BK110.out 1).trans rfl⟩ (fun hHeld => ?_)
     clear hK K
     refine norm_ (a' := ?_) ?_ ?_
     rotate_left
     ·show Act.put _ (some 28) _ = _
      refine pt ?_
      rfl
     refine pq 16 (some 29) ?_ (fl 19 17) HT_.out rfl rfl ?_ ?_ ?_ ?_
     rotate_left
     ·intro w'
      go_simp
      with_reducible rfl
     rotate_left
     ·refine pt ?_
      rfl
     refine pq 17 (some 30) ?_ (fl 19 18) HT_.out rfl rfl ?_ ?_ ?_ ?_
     rotate_left
     ·intro w'
      go_simp
      with_reducible rfl
     rotate_left
     ·refine pt ?_
      rfl
     refine pq 18 (some 31) ?_ (fl 19 19) HT_.out rfl rfl ?_ ?_ ?_ ?_
     rotate_left
     ·intro w'
      go_simp
      with_reducible rfl
     rotate_left
     ·refine pt ?_
      rfl
     refine done_ (done_of HT_.out (by kernel_rfl)) ?_
     try go_wp2
     go_ret
     exact ⟨fi, bl⟩
    subst c43
    have H1 : (cand_records.l0 k1 l1 (l1.length : Int) (wrap64 (x9_1 + 1)) l0_0 l0_1) = some r := by rw [if_pos rfl] at H; exact H
    clear H
    have H := H1
    clear H1
    have H' := Aside0.mk H
    clear H
    have p111 : 0 ≤ (x9_1 : Int) := od
    have q111 : x9_1 < (l1.length : Int) := od
    obtain ⟨ad111, e111, hx111_0, hx111_1, hx111_2, hx111_3, hx111_4, hx111_5⟩ := at_T75 HR1.out x9_1 p111 q111
    (try rw [← Nbq7.out] at hx111_4)
    (try rw [← Nbq7.out] at hx111_5)
    cases e111
    replace hx111_0 := cb HB.out hx111_0
    replace hx111_1 := cb HB.out hx111_1
    replace hx111_2 := cb HB.out hx111_2
    replace hx111_3 := cb HB.out hx111_3
    replace hx111_4 := cb HB.out hx111_4
    replace hx111_5 := cb HB.out hx111_5
    replace p111 := eq_true p111
    replace q111 := eq_true q111
    try go_wp2_with (first | ((with_reducible refine gate_dst (N := 6) rfl ?_); refine bv 6 #[.int .i64 0, .int .i64 0, .int .i64 0, .int .i64 0, .bool false, .bool false] 75 ?_; intro gb112 hg w44 hbox hb; have n0_ := Aside0.mk (blk_below (g := gb110) (o := .cells #[.slice A0_0 l0_0.length c0_0, .slice A0_1 l0_1.length c0_1] 42 (0, 0)) (bk BK110.out) hb); have n1_ := Aside0.mk (below_step bl hb); have n2_ := Aside0.mk (hbox); have n3_ := Aside0.mk ((by rw [hg]; exact (below_size bl) : w.heap.size ≤ gb112)); have n4_ := Aside0.mk ((by rw [hg]; exact (below_size bl) : w.heap.size ≤ gb112)); have n5_ := Aside0.mk ((nl hg (bk BK110.out) : gb110 ≠ gb112)); have n6_ := Aside0.mk ((ng hg (bk BK110.out) : gb112 ≠ gb110)); clear BK110; clear HB; have BK110 := n0_; have HB := n1_; have BK112 := n2_; have GW112 := n3_; have GE112 := n4_; have NB110_112 := n5_; have NB112_110 := n6_; clear n0_ n1_ n2_ n3_ n4_ n5_ n6_; clear hb hbox hg; have hnb45 := NB112_110.out; have hnc45 := NB110_112.out; obtain ⟨hcz46_0, hcz46_1, hcz46_2, hcz46_3, hcz46_4, hcz46_5, hfz46_0, hfz46_1, hfz46_2, hfz46_3, hfz46_4, hfz46_5⟩ := cz6 (w := w44) BK112.out))
    have n0_ : Aside0 (((((((w44.setCell ⟨gb112, 0, none⟩ (.int .i64 ((rd_T75 l1 x9_1).f0))).setCell ⟨gb112, 1, none⟩ (.int .i64 ((rd_T75 l1 x9_1).f1))).setCell ⟨gb112, 2, none⟩ (.int .i64 ((rd_T75 l1 x9_1).f2.f0))).setCell ⟨gb112, 3, none⟩ (.int .i64 ((rd_T75 l1 x9_1).f2.f1))).setCell ⟨gb112, 4, none⟩ (.bool false)).setCell ⟨gb112, 5, none⟩ (.bool ((rd_T75 l1 x9_1).f4))).heap[gb110]? = some (.cells #[.slice A0_0 l0_0.length c0_0, .slice A0_1 l0_1.length c0_1] 42 (0, 0))) := ⟨by refine bx ?_; refine blk_far ?_ NB110_112.out _; refine bx ?_; refine blk_far ?_ NB110_112.out _; refine bx ?_; refine blk_far ?_ NB110_112.out _; refine bx ?_; refine blk_far ?_ NB110_112.out _; refine bx ?_; refine blk_far ?_ NB110_112.out _; refine bx ?_; refine blk_far ?_ NB110_112.out _; refine bx ?_; exact BK110.out⟩
    have n1_ : Aside0 (((((((w44.setCell ⟨gb112, 0, none⟩ (.int .i64 ((rd_T75 l1 x9_1).f0))).setCell ⟨gb112, 1, none⟩ (.int .i64 ((rd_T75 l1 x9_1).f1))).setCell ⟨gb112, 2, none⟩ (.int .i64 ((rd_T75 l1 x9_1).f2.f0))).setCell ⟨gb112, 3, none⟩ (.int .i64 ((rd_T75 l1 x9_1).f2.f1))).setCell ⟨gb112, 4, none⟩ (.bool false)).setCell ⟨gb112, 5, none⟩ (.bool ((rd_T75 l1 x9_1).f4))).heap[gb112]? = some (.cells #[.int .i64 ((rd_T75 l1 x9_1).f0), .int .i64 ((rd_T75 l1 x9_1).f1), .int .i64 ((rd_T75 l1 x9_1).f2.f0), .int .i64 ((rd_T75 l1 x9_1).f2.f1), .bool false, .bool ((rd_T75 l1 x9_1).f4)] 75 (0, 0))) := ⟨by refine bx ?_; refine blk_put (cs := #[.int .i64 ((rd_T75 l1 x9_1).f0), .int .i64 ((rd_T75 l1 x9_1).f1), .int .i64 ((rd_T75 l1 x9_1).f2.f0), .int .i64 ((rd_T75 l1 x9_1).f2.f1), .bool false, .bool false]) ?_ 5 _ rfl; refine bx ?_; refine blk_put (cs := #[.int .i64 ((rd_T75 l1 x9_1).f0), .int .i64 ((rd_T75 l1 x9_1).f1), .int .i64 ((rd_T75 l1 x9_1).f2.f0), .int .i64 ((rd_T75 l1 x9_1).f2.f1), .bool false, .bool false]) ?_ 4 _ rfl; refine bx ?_; refine blk_put (cs := #[.int .i64 ((rd_T75 l1 x9_1).f0), .int .i64 ((rd_T75 l1 x9_1).f1), .int .i64 ((rd_T75 l1 x9_1).f2.f0), .int .i64 0, .bool false, .bool false]) ?_ 3 _ rfl; refine bx ?_; refine blk_put (cs := #[.int .i64 ((rd_T75 l1 x9_1).f0), .int .i64 ((rd_T75 l1 x9_1).f1), .int .i64 0, .int .i64 0, .bool false, .bool false]) ?_ 2 _ rfl; refine bx ?_; refine blk_put (cs := #[.int .i64 ((rd_T75 l1 x9_1).f0), .int .i64 0, .int .i64 0, .int .i64 0, .bool false, .bool false]) ?_ 1 _ rfl; refine bx ?_; refine blk_put (cs := #[.int .i64 0, .int .i64 0, .int .i64 0, .int .i64 0, .bool false, .bool false]) ?_ 0 _ rfl; refine bx ?_; exact BK112.out⟩
    have n2_ : Aside0 (Below w.heap.size w ((((((w44.setCell ⟨gb112, 0, none⟩ (.int .i64 ((rd_T75 l1 x9_1).f0))).setCell ⟨gb112, 1, none⟩ (.int .i64 ((rd_T75 l1 x9_1).f1))).setCell ⟨gb112, 2, none⟩ (.int .i64 ((rd_T75 l1 x9_1).f2.f0))).setCell ⟨gb112, 3, none⟩ (.int .i64 ((rd_T75 l1 x9_1).f2.f1))).setCell ⟨gb112, 4, none⟩ (.bool false)).setCell ⟨gb112, 5, none⟩ (.bool ((rd_T75 l1 x9_1).f4)))) := ⟨bl⟩
    (try clear BK110)
    (try clear BK112)
    (try clear HB)
    generalize ((((((w44.setCell ⟨gb112, 0, none⟩ (.int .i64 ((rd_T75 l1 x9_1).f0))).setCell ⟨gb112, 1, none⟩ (.int .i64 ((rd_T75 l1 x9_1).f1))).setCell ⟨gb112, 2, none⟩ (.int .i64 ((rd_T75 l1 x9_1).f2.f0))).setCell ⟨gb112, 3, none⟩ (.int .i64 ((rd_T75 l1 x9_1).f2.f1))).setCell ⟨gb112, 4, none⟩ (.bool false)).setCell ⟨gb112, 5, none⟩ (.bool ((rd_T75 l1 x9_1).f4))) = w47 at n0_ n1_ n2_ ⊢
    have BK110 := n0_
    have BK112 := n1_
    have HB := n2_
    clear n0_ n1_ n2_
    have n0_ := Aside0.mk (blk_drew BK110.out)
    have n1_ := Aside0.mk (blk_drew BK112.out)
    have n2_ := Aside0.mk (below_drew1 HB.out)
    clear BK110
    clear BK112
    clear HB
    have BK110 := n0_
    have BK112 := n1_
    have HB := n2_
    clear n0_ n1_ n2_
    refine start_ (n := 19) (S := fun w' => w'.cell? ⟨gb112, 0, none⟩ = some (.int .i64 ((rd_T75 l1 x9_1).f0)) ∧ w'.cell? ⟨gb112, 1, none⟩ = some (.int .i64 ((rd_T75 l1 x9_1).f1)) ∧ w'.cell? ⟨gb112, 2, none⟩ = some (.int .i64 ((rd_T75 l1 x9_1).f2.f0)) ∧ w'.cell? ⟨gb112, 3, none⟩ = some (.int .i64 ((rd_T75 l1 x9_1).f2.f1)) ∧ w'.cell? ⟨gb112, 4, none⟩ = some (.bool false) ∧ w'.cell? ⟨gb112, 5, none⟩ = some (.bool ((rd_T75 l1 x9_1).f4)) ∧ w'.cell? ⟨gb110, 0, none⟩ = some (.slice A0_0 l0_0.length c0_0) ∧ w'.cell? ⟨gb110, 1, none⟩ = some (.slice A0_1 l0_1.length c0_1)) (ds := []) (fl 19 0) (by kernel_rfl) rfl rfl ⟨(blk_cell BK112.out 0).trans rfl, (blk_cell BK112.out 1).trans rfl, (blk_cell BK112.out 2).trans rfl, (blk_cell BK112.out 3).trans rfl, (blk_cell BK112.out 4).trans rfl, (blk_cell BK112.out 5).trans rfl, (blk_cell BK110.out 0).trans rfl, (blk_cell BK110.out 1).trans rfl⟩ (fun hHeld => ?_); refine with_tabW cand_records.tab4 cand_records.bits4 (fun HT_ HW_ => ?_)
    generalize w47.drew = w48 at BK110 BK112 HB hHeld ⊢
    refine pq 0 (some 13) ?_ (fl 19 1) HT_.out rfl rfl ?_ ?_ ?_ ?_
    rotate_left
    ·intro w'
     go_simp
     with_reducible rfl
    rotate_left
    ·refine pt ?_
     rfl
    refine pk 1 (some 14) ?_ (fl 19 2) HT_.out HW_.out rfl rfl ?_ hHeld ?_ ?_ ?_
    rotate_left
    ·rintro w' ⟨s0, s1, s2, s3, s4, s5, s6, s7⟩
     go_simp
     with_reducible rfl
    rotate_left
    ·refine pt ?_
     rfl
    refine pq 2 (some 15) ?_ (fl 19 3) HT_.out rfl rfl ?_ ?_ ?_ ?_
    rotate_left
    ·intro w'
     go_simp
     with_reducible rfl
    rotate_left
    ·refine pt ?_
     rfl
    refine pr 3 (some 16) ?_ (fl 19 4) HT_.out rfl rfl ?_ ?_
    rotate_left
    ·refine pt ?_
     rfl
    refine pr 4 (some 17) ?_ (fl 19 5) HT_.out rfl rfl ?_ ?_
    rotate_left
    ·refine pt ?_
     rfl
    refine pq 5 (some 18) ?_ (fl 19 6) HT_.out rfl rfl ?_ ?_ ?_ ?_
    rotate_left
    ·intro w'
     go_simp
     with_reducible rfl
    rotate_left
    ·refine pt ?_
     rfl
    refine pq 6 (some 19) ?_ (fl 19 7) HT_.out rfl rfl ?_ ?_ ?_ ?_
    rotate_left
    ·intro w'
     go_simp
     with_reducible rfl
    rotate_left
    ·refine pt ?_
     rfl
    refine pq 7 (some 20) ?_ (fl 19 8) HT_.out rfl rfl ?_ ?_ ?_ ?_
    rotate_left
    ·intro w'
     go_simp
     with_reducible rfl
    rotate_left
    ·refine pt ?_
     rfl
    refine pk 8 (some 21) ?_ (fl 19 9) HT_.out HW_.out rfl rfl ?_ hHeld ?_ ?_ ?_
    rotate_left
    ·rintro w' ⟨s0, s1, s2, s3, s4, s5, s6, s7⟩
     go_simp
     with_reducible rfl
    rotate_left
    ·refine pt ?_
     rfl
    refine one_ (i := 9) (N := some 22) (fl 19 10) rfl rfl (one_of HT_.out (by kernel_rfl)) (by decide) (fun K hK => ?_)
    refine goes_ Try.func64 (by kernel_rfl) rfl #[] (by rfl) rfl rfl ga ?_
    with_reducible refine (cand_start.calls  t116 t117 _ A40.out).mono ?_
    rintro e w49 ⟨rfl, hb⟩
    refine ⟨_, rfl, ?_⟩
    have n0_ := Aside0.mk (blk_below (g := gb110) (o := .cells #[.slice A0_0 l0_0.length c0_0, .slice A0_1 l0_1.length c0_1] 42 (0, 0)) (bk BK110.out) hb)
    have n1_ := Aside0.mk (blk_below (g := gb112) (o := .cells #[.int .i64 ((rd_T75 l1 x9_1).f0), .int .i64 ((rd_T75 l1 x9_1).f1), .int .i64 ((rd_T75 l1 x9_1).f2.f0), .int .i64 ((rd_T75 l1 x9_1).f2.f1), .bool false, .bool ((rd_T75 l1 x9_1).f4)] 75 (0, 0)) (bk BK112.out) hb)
    have n2_ := Aside0.mk (below_step bl hb)
    clear BK110
    clear BK112
    clear HB
    have BK110 := n0_
    have BK112 := n1_
    have HB := n2_
    clear n0_ n1_ n2_
    (try clear hb)
    (try clear hb2)
    (try clear hk)
    (try clear hi)
    refine hK.out _ _ ⟨(blk_cell BK112.out 0).trans rfl, (blk_cell BK112.out 1).trans rfl, (blk_cell BK112.out 2).trans rfl, (blk_cell BK112.out 3).trans rfl, (blk_cell BK112.out 4).trans rfl, (blk_cell BK112.out 5).trans rfl, (blk_cell BK110.out 0).trans rfl, (blk_cell BK110.out 1).trans rfl⟩ (fun hHeld => ?_)
    clear hK K
    refine norm_ (a' := ?_) ?_ ?_
    rotate_left
    ·show Act.put _ (some 22) _ = _
     refine pt ?_
     rfl
    refine pq 10 (some 23) ?_ (fl 19 11) HT_.out rfl rfl ?_ ?_ ?_ ?_
    rotate_left
    ·intro w'
     go_simp
     with_reducible rfl
    rotate_left
    ·refine pt ?_
     rfl
    refine pq 11 (some 24) ?_ (fl 19 12) HT_.out rfl rfl ?_ ?_ ?_ ?_
    rotate_left
    ·intro w'
     go_simp
     with_reducible rfl
    rotate_left
    ·refine pt ?_
     rfl
    refine pq 13 (some 26) ?_ #[true, true, true, true, true, true, true, true, true, true, true, true, false, true, false, false, false, false, false] HT_.out rfl rfl ?_ ?_ ?_ ?_
    rotate_left
    ·intro w'
     go_simp
     with_reducible rfl
    rotate_left
    ·refine pt ?_
     rfl
    refine pk 12 (some 25) ?_ (fl 19 14) HT_.out HW_.out rfl rfl ?_ hHeld ?_ ?_ ?_
    rotate_left
    ·rintro w' ⟨s0, s1, s2, s3, s4, s5, s6, s7⟩
     go_simp
     with_reducible rfl
    rotate_left
    ·refine pt ?_
     rfl
    refine pk 14 (some 27) ?_ (fl 19 15) HT_.out HW_.out rfl rfl ?_ hHeld ?_ ?_ ?_
    rotate_left
    ·rintro w' ⟨s0, s1, s2, s3, s4, s5, s6, s7⟩
     go_simp
     with_reducible rfl
    rotate_left
    ·refine pt ?_
     rfl
    refine one_ (i := 15) (N := some 28) (fl 19 16) rfl rfl (one_of HT_.out (by kernel_rfl)) (by decide) (fun K hK => ?_)
    refine goes_ Try.func65 (by kernel_rfl) rfl #[.agg #[.slice A0_0 l0_0.length c0_0, .slice A0_1 l0_1.length c0_1], .agg #[.int .i64 ((rd_T75 l1 x9_1).f2.f0), .int .i64 ((rd_T75 l1 x9_1).f2.f1)]] (by rfl) rfl rfl ga ?_
    with_reducible refine (cand_there.calls _ _ l0_0 _ _ l0_1 ((rd_T75 l1 x9_1).f2.f0) ((rd_T75 l1 x9_1).f2.f1) true _ ?side1 ?side2 ?side3 ?side4 A42.out).mono ?_
    (case side1 => repeat (first | exact (Kd.C_below HR0_0.out HB.out) | (with_reducible refine Kd.C_alloc ?_ _) | (with_reducible refine Kd.C_drewN ?_ _) | (with_reducible refine Kd.C_drew ?_)))
    (case side2 => exact HC0_0.out)
    (case side3 => repeat (first | exact (Kd.C_below HR0_1.out HB.out) | (with_reducible refine Kd.C_alloc ?_ _) | (with_reducible refine Kd.C_drewN ?_ _) | (with_reducible refine Kd.C_drew ?_)))
    (case side4 => exact HC0_1.out)
    rintro e w50 ⟨rfl, hb⟩
    refine ⟨_, rfl, ?_⟩
    have n0_ := Aside0.mk (blk_below (g := gb110) (o := .cells #[.slice A0_0 l0_0.length c0_0, .slice A0_1 l0_1.length c0_1] 42 (0, 0)) (bk BK110.out) hb)
    have n1_ := Aside0.mk (blk_below (g := gb112) (o := .cells #[.int .i64 ((rd_T75 l1 x9_1).f0), .int .i64 ((rd_T75 l1 x9_1).f1), .int .i64 ((rd_T75 l1 x9_1).f2.f0), .int .i64 ((rd_T75 l1 x9_1).f2.f1), .bool false, .bool ((rd_T75 l1 x9_1).f4)] 75 (0, 0)) (bk BK112.out) hb)
    have n2_ := Aside0.mk (below_step bl hb)
    clear BK110
    clear BK112
    clear HB
    have BK110 := n0_
    have BK112 := n1_
    have HB := n2_
    clear n0_ n1_ n2_
    (try clear hb)
    (try clear hb2)
    (try clear hk)
    (try clear hi)
    refine hK.out _ _ ⟨(blk_cell BK112.out 0).trans rfl, (blk_cell BK112.out 1).trans rfl, (blk_cell BK112.out 2).trans rfl, (blk_cell BK112.out 3).trans rfl, (blk_cell BK112.out 4).trans rfl, (blk_cell BK112.out 5).trans rfl, (blk_cell BK110.out 0).trans rfl, (blk_cell BK110.out 1).trans rfl⟩ (fun hHeld => ?_)
    clear hK K
    refine norm_ (a' := ?_) ?_ ?_
    rotate_left
    ·show Act.put _ (some 28) _ = _
     refine pt ?_
     rfl
    refine pq 16 (some 29) ?_ (fl 19 17) HT_.out rfl rfl ?_ ?_ ?_ ?_
    rotate_left
    ·intro w'
     go_simp
     with_reducible rfl
    rotate_left
    ·refine pt ?_
     rfl
    refine pq 17 (some 30) ?_ (fl 19 18) HT_.out rfl rfl ?_ ?_ ?_ ?_
    rotate_left
    ·intro w'
     go_simp
     with_reducible rfl
    rotate_left
    ·refine pt ?_
     rfl
    refine pq 18 (some 31) ?_ (fl 19 19) HT_.out rfl rfl ?_ ?_ ?_ ?_
    rotate_left
    ·intro w'
     go_simp
     with_reducible rfl
    rotate_left
    ·refine pt ?_
     rfl
    refine done_ (done_of HT_.out (by kernel_rfl)) ?_
    try go_wp2
    go_roundg k1
    case measure => have := HK1.out; omega
    case rel => exact ⟨(wrap64 (x9_1 + 1)), fj, H', ⟨by have := HK1.out; omega⟩, ⟨by refine bx ?_; exact BK110.out⟩, ⟨bl⟩⟩
   subst c8
   have H1 : (if (rd_T75 l1 x9_1).f4 = true then (some false) else ((cand_start.f).bind fun bt113 => (if (!(((rd_T75 l1 x9_1).f2.f0) == bt113.1) || (!(((rd_T75 l1 x9_1).f2.f1) == bt113.2))) = true then ((cand_there.f l0_0 l0_1 ((rd_T75 l1 x9_1).f2.f0) ((rd_T75 l1 x9_1).f2.f1)).bind fun t115 => (if t115 = true then (cand_records.l0 k1 l1 (l1.length : Int) (wrap64 (x9_1 + 1)) l0_0 l0_1) else (some false))) else (cand_records.l0 k1 l1 (l1.length : Int) (wrap64 (x9_1 + 1)) l0_0 l0_1)))) = some r := by rw [if_pos rfl] at H; exact H
   clear H
   have H := H1
   clear H1
   obtain ⟨bq9, hbq9⟩ : ∃ b_ : Bool, b_ = ((rd_T75 l1 x9_1).f4) := ⟨_, rfl⟩
   replace H : (if bq9 = true then (some false) else ((cand_start.f).bind fun bt113 => (if (!(((rd_T75 l1 x9_1).f2.f0) == bt113.1) || (!(((rd_T75 l1 x9_1).f2.f1) == bt113.2))) = true then ((cand_there.f l0_0 l0_1 ((rd_T75 l1 x9_1).f2.f0) ((rd_T75 l1 x9_1).f2.f1)).bind fun t115 => (if t115 = true then (cand_records.l0 k1 l1 (l1.length : Int) (wrap64 (x9_1 + 1)) l0_0 l0_1) else (some false))) else (cand_records.l0 k1 l1 (l1.length : Int) (wrap64 (x9_1 + 1)) l0_0 l0_1)))) = some r := by rw [← hbq9] at H; exact H
   have Nbq9 := Aside0.mk hbq9
   clear hbq9
   by_cases c10 : bq9 = true
   ·subst c10
    have H1 : (some false) = some r := by rw [if_pos rfl] at H; exact H
    clear H
    have H := H1
    clear H1
    obtain rfl := Option.some.inj H
    have p111 : 0 ≤ (x9_1 : Int) := od
    have q111 : x9_1 < (l1.length : Int) := od
    obtain ⟨ad111, e111, hx111_0, hx111_1, hx111_2, hx111_3, hx111_4, hx111_5⟩ := at_T75 HR1.out x9_1 p111 q111
    (try rw [← Nbq7.out] at hx111_4)
    (try rw [← Nbq9.out] at hx111_4)
    (try rw [← Nbq7.out] at hx111_5)
    (try rw [← Nbq9.out] at hx111_5)
    cases e111
    replace hx111_0 := cb HB.out hx111_0
    replace hx111_1 := cb HB.out hx111_1
    replace hx111_2 := cb HB.out hx111_2
    replace hx111_3 := cb HB.out hx111_3
    replace hx111_4 := cb HB.out hx111_4
    replace hx111_5 := cb HB.out hx111_5
    replace p111 := eq_true p111
    replace q111 := eq_true q111
    try go_wp2_with (first | ((with_reducible refine gate_dst (N := 6) rfl ?_); refine bv 6 #[.int .i64 0, .int .i64 0, .int .i64 0, .int .i64 0, .bool false, .bool false] 75 ?_; intro gb112 hg w11 hbox hb; have n0_ := Aside0.mk (blk_below (g := gb110) (o := .cells #[.slice A0_0 l0_0.length c0_0, .slice A0_1 l0_1.length c0_1] 42 (0, 0)) (bk BK110.out) hb); have n1_ := Aside0.mk (below_step bl hb); have n2_ := Aside0.mk (hbox); have n3_ := Aside0.mk ((by rw [hg]; exact (below_size bl) : w.heap.size ≤ gb112)); have n4_ := Aside0.mk ((by rw [hg]; exact (below_size bl) : w.heap.size ≤ gb112)); have n5_ := Aside0.mk ((nl hg (bk BK110.out) : gb110 ≠ gb112)); have n6_ := Aside0.mk ((ng hg (bk BK110.out) : gb112 ≠ gb110)); clear BK110; clear HB; have BK110 := n0_; have HB := n1_; have BK112 := n2_; have GW112 := n3_; have GE112 := n4_; have NB110_112 := n5_; have NB112_110 := n6_; clear n0_ n1_ n2_ n3_ n4_ n5_ n6_; clear hb hbox hg; have hnb12 := NB112_110.out; have hnc12 := NB110_112.out; obtain ⟨hcz13_0, hcz13_1, hcz13_2, hcz13_3, hcz13_4, hcz13_5, hfz13_0, hfz13_1, hfz13_2, hfz13_3, hfz13_4, hfz13_5⟩ := cz6 (w := w11) BK112.out))
    have n0_ : Aside0 (((((((w11.setCell ⟨gb112, 0, none⟩ (.int .i64 ((rd_T75 l1 x9_1).f0))).setCell ⟨gb112, 1, none⟩ (.int .i64 ((rd_T75 l1 x9_1).f1))).setCell ⟨gb112, 2, none⟩ (.int .i64 ((rd_T75 l1 x9_1).f2.f0))).setCell ⟨gb112, 3, none⟩ (.int .i64 ((rd_T75 l1 x9_1).f2.f1))).setCell ⟨gb112, 4, none⟩ (.bool true)).setCell ⟨gb112, 5, none⟩ (.bool true)).heap[gb110]? = some (.cells #[.slice A0_0 l0_0.length c0_0, .slice A0_1 l0_1.length c0_1] 42 (0, 0))) := ⟨by refine bx ?_; refine blk_far ?_ NB110_112.out _; refine bx ?_; refine blk_far ?_ NB110_112.out _; refine bx ?_; refine blk_far ?_ NB110_112.out _; refine bx ?_; refine blk_far ?_ NB110_112.out _; refine bx ?_; refine blk_far ?_ NB110_112.out _; refine bx ?_; refine blk_far ?_ NB110_112.out _; refine bx ?_; exact BK110.out⟩
    have n1_ : Aside0 (((((((w11.setCell ⟨gb112, 0, none⟩ (.int .i64 ((rd_T75 l1 x9_1).f0))).setCell ⟨gb112, 1, none⟩ (.int .i64 ((rd_T75 l1 x9_1).f1))).setCell ⟨gb112, 2, none⟩ (.int .i64 ((rd_T75 l1 x9_1).f2.f0))).setCell ⟨gb112, 3, none⟩ (.int .i64 ((rd_T75 l1 x9_1).f2.f1))).setCell ⟨gb112, 4, none⟩ (.bool true)).setCell ⟨gb112, 5, none⟩ (.bool true)).heap[gb112]? = some (.cells #[.int .i64 ((rd_T75 l1 x9_1).f0), .int .i64 ((rd_T75 l1 x9_1).f1), .int .i64 ((rd_T75 l1 x9_1).f2.f0), .int .i64 ((rd_T75 l1 x9_1).f2.f1), .bool true, .bool true] 75 (0, 0))) := ⟨by refine bx ?_; refine blk_put (cs := #[.int .i64 ((rd_T75 l1 x9_1).f0), .int .i64 ((rd_T75 l1 x9_1).f1), .int .i64 ((rd_T75 l1 x9_1).f2.f0), .int .i64 ((rd_T75 l1 x9_1).f2.f1), .bool true, .bool false]) ?_ 5 _ rfl; refine bx ?_; refine blk_put (cs := #[.int .i64 ((rd_T75 l1 x9_1).f0), .int .i64 ((rd_T75 l1 x9_1).f1), .int .i64 ((rd_T75 l1 x9_1).f2.f0), .int .i64 ((rd_T75 l1 x9_1).f2.f1), .bool false, .bool false]) ?_ 4 _ rfl; refine bx ?_; refine blk_put (cs := #[.int .i64 ((rd_T75 l1 x9_1).f0), .int .i64 ((rd_T75 l1 x9_1).f1), .int .i64 ((rd_T75 l1 x9_1).f2.f0), .int .i64 0, .bool false, .bool false]) ?_ 3 _ rfl; refine bx ?_; refine blk_put (cs := #[.int .i64 ((rd_T75 l1 x9_1).f0), .int .i64 ((rd_T75 l1 x9_1).f1), .int .i64 0, .int .i64 0, .bool false, .bool false]) ?_ 2 _ rfl; refine bx ?_; refine blk_put (cs := #[.int .i64 ((rd_T75 l1 x9_1).f0), .int .i64 0, .int .i64 0, .int .i64 0, .bool false, .bool false]) ?_ 1 _ rfl; refine bx ?_; refine blk_put (cs := #[.int .i64 0, .int .i64 0, .int .i64 0, .int .i64 0, .bool false, .bool false]) ?_ 0 _ rfl; refine bx ?_; exact BK112.out⟩
    have n2_ : Aside0 (Below w.heap.size w ((((((w11.setCell ⟨gb112, 0, none⟩ (.int .i64 ((rd_T75 l1 x9_1).f0))).setCell ⟨gb112, 1, none⟩ (.int .i64 ((rd_T75 l1 x9_1).f1))).setCell ⟨gb112, 2, none⟩ (.int .i64 ((rd_T75 l1 x9_1).f2.f0))).setCell ⟨gb112, 3, none⟩ (.int .i64 ((rd_T75 l1 x9_1).f2.f1))).setCell ⟨gb112, 4, none⟩ (.bool true)).setCell ⟨gb112, 5, none⟩ (.bool true))) := ⟨bl⟩
    (try clear BK110)
    (try clear BK112)
    (try clear HB)
    generalize ((((((w11.setCell ⟨gb112, 0, none⟩ (.int .i64 ((rd_T75 l1 x9_1).f0))).setCell ⟨gb112, 1, none⟩ (.int .i64 ((rd_T75 l1 x9_1).f1))).setCell ⟨gb112, 2, none⟩ (.int .i64 ((rd_T75 l1 x9_1).f2.f0))).setCell ⟨gb112, 3, none⟩ (.int .i64 ((rd_T75 l1 x9_1).f2.f1))).setCell ⟨gb112, 4, none⟩ (.bool true)).setCell ⟨gb112, 5, none⟩ (.bool true)) = w14 at n0_ n1_ n2_ ⊢
    have BK110 := n0_
    have BK112 := n1_
    have HB := n2_
    clear n0_ n1_ n2_
    have n0_ := Aside0.mk (blk_drew BK110.out)
    have n1_ := Aside0.mk (blk_drew BK112.out)
    have n2_ := Aside0.mk (below_drew1 HB.out)
    clear BK110
    clear BK112
    clear HB
    have BK110 := n0_
    have BK112 := n1_
    have HB := n2_
    clear n0_ n1_ n2_
    refine start_ (n := 19) (S := fun w' => w'.cell? ⟨gb112, 0, none⟩ = some (.int .i64 ((rd_T75 l1 x9_1).f0)) ∧ w'.cell? ⟨gb112, 1, none⟩ = some (.int .i64 ((rd_T75 l1 x9_1).f1)) ∧ w'.cell? ⟨gb112, 2, none⟩ = some (.int .i64 ((rd_T75 l1 x9_1).f2.f0)) ∧ w'.cell? ⟨gb112, 3, none⟩ = some (.int .i64 ((rd_T75 l1 x9_1).f2.f1)) ∧ w'.cell? ⟨gb112, 4, none⟩ = some (.bool true) ∧ w'.cell? ⟨gb112, 5, none⟩ = some (.bool true)) (ds := []) (fl 19 0) (by kernel_rfl) rfl rfl (cy6 BK112.out) (fun hHeld => ?_); refine with_tabW cand_records.tab4 cand_records.bits4 (fun HT_ HW_ => ?_)
    generalize w14.drew = w15 at BK110 BK112 HB hHeld ⊢
    refine pq 0 (some 13) ?_ (fl 19 1) HT_.out rfl rfl ?_ ?_ ?_ ?_
    rotate_left
    ·intro w'
     go_simp
     with_reducible rfl
    rotate_left
    ·refine pt ?_
     rfl
    refine pk 1 (some 14) ?_ (fl 19 2) HT_.out HW_.out rfl rfl ?_ hHeld ?_ ?_ ?_
    rotate_left
    ·rintro w' ⟨s0, s1, s2, s3, s4, s5⟩
     go_simp
     with_reducible rfl
    rotate_left
    ·refine pt ?_
     rfl
    refine pq 2 (some 15) ?_ (fl 19 3) HT_.out rfl rfl ?_ ?_ ?_ ?_
    rotate_left
    ·intro w'
     go_simp
     with_reducible rfl
    rotate_left
    ·refine pt ?_
     rfl
    refine pq 3 (some 16) ?_ (fl 19 4) HT_.out rfl rfl ?_ ?_ ?_ ?_
    rotate_left
    ·intro w'
     go_simp
     with_reducible rfl
    rotate_left
    ·refine pt ?_
     rfl
    refine pk 4 (some 17) ?_ (fl 19 5) HT_.out HW_.out rfl rfl ?_ hHeld ?_ ?_ ?_
    rotate_left
    ·rintro w' ⟨s0, s1, s2, s3, s4, s5⟩
     go_simp
     with_reducible rfl
    rotate_left
    ·refine pt ?_
     rfl
    refine pq 5 (some 18) ?_ (fl 19 6) HT_.out rfl rfl ?_ ?_ ?_ ?_
    rotate_left
    ·intro w'
     go_simp
     with_reducible rfl
    rotate_left
    ·refine pt ?_
     rfl
    refine pq 6 (some 19) ?_ (fl 19 7) HT_.out rfl rfl ?_ ?_ ?_ ?_
    rotate_left
    ·intro w'
     go_simp
     with_reducible rfl
    rotate_left
    ·refine pt ?_
     rfl
    refine pr 7 (some 20) ?_ (fl 19 8) HT_.out rfl rfl ?_ ?_
    rotate_left
    ·refine pt ?_
     rfl
    refine pr 8 (some 21) ?_ (fl 19 9) HT_.out rfl rfl ?_ ?_
    rotate_left
    ·refine pt ?_
     rfl
    refine pr 9 (some 22) ?_ (fl 19 10) HT_.out rfl rfl ?_ ?_
    rotate_left
    ·refine pt ?_
     rfl
    refine pr 10 (some 23) ?_ (fl 19 11) HT_.out rfl rfl ?_ ?_
    rotate_left
    ·refine pt ?_
     rfl
    refine pr 11 (some 24) ?_ (fl 19 12) HT_.out rfl rfl ?_ ?_
    rotate_left
    ·refine pt ?_
     rfl
    refine pr 12 (some 25) ?_ (fl 19 13) HT_.out rfl rfl ?_ ?_
    rotate_left
    ·refine pt ?_
     rfl
    refine pr 13 (some 26) ?_ (fl 19 14) HT_.out rfl rfl ?_ ?_
    rotate_left
    ·refine pt ?_
     rfl
    refine pr 14 (some 27) ?_ (fl 19 15) HT_.out rfl rfl ?_ ?_
    rotate_left
    ·refine pt ?_
     rfl
    refine pr 15 (some 28) ?_ (fl 19 16) HT_.out rfl rfl ?_ ?_
    rotate_left
    ·refine pt ?_
     rfl
    refine pr 16 (some 29) ?_ (fl 19 17) HT_.out rfl rfl ?_ ?_
    rotate_left
    ·refine pt ?_
     rfl
    refine pr 17 (some 30) ?_ (fl 19 18) HT_.out rfl rfl ?_ ?_
    rotate_left
    ·refine pt ?_
     rfl
    refine pq 18 (some 31) ?_ (fl 19 19) HT_.out rfl rfl ?_ ?_ ?_ ?_
    rotate_left
    ·intro w'
     go_simp
     with_reducible rfl
    rotate_left
    ·refine pt ?_
     rfl
    refine done_ (done_of HT_.out (by kernel_rfl)) ?_
    try go_wp2
    go_ret
    exact ⟨fi, bl⟩
   replace c10 := Bool.eq_false_iff.mpr c10
   subst c10
   have H1 : ((cand_start.f).bind fun bt113 => (if (!(((rd_T75 l1 x9_1).f2.f0) == bt113.1) || (!(((rd_T75 l1 x9_1).f2.f1) == bt113.2))) = true then ((cand_there.f l0_0 l0_1 ((rd_T75 l1 x9_1).f2.f0) ((rd_T75 l1 x9_1).f2.f1)).bind fun t115 => (if t115 = true then (cand_records.l0 k1 l1 (l1.length : Int) (wrap64 (x9_1 + 1)) l0_0 l0_1) else (some false))) else (cand_records.l0 k1 l1 (l1.length : Int) (wrap64 (x9_1 + 1)) l0_0 l0_1))) = some r := by rw [if_neg (show ¬ (false = true) by decide)] at H; exact H
   clear H
   have H := H1
   clear H1
   replace H := be H
   obtain ⟨⟨t113, t114⟩, A16, H⟩ := H
   dsimp only at H
   by_cases c17 : (!(((rd_T75 l1 x9_1).f2.f0) == t113) || (!(((rd_T75 l1 x9_1).f2.f1) == t114))) = true
   rotate_left
   ·rw [if_neg c17] at H
    have c17b0 : (!(((rd_T75 l1 x9_1).f2.f0) == t113) || (!(((rd_T75 l1 x9_1).f2.f1) == t114))) = false := by simpa using c17
    clear c17
    have H' := Aside0.mk H
    clear H
    have p111 : 0 ≤ (x9_1 : Int) := od
    have q111 : x9_1 < (l1.length : Int) := od
    obtain ⟨ad111, e111, hx111_0, hx111_1, hx111_2, hx111_3, hx111_4, hx111_5⟩ := at_T75 HR1.out x9_1 p111 q111
    (try rw [← Nbq7.out] at hx111_4)
    (try rw [← Nbq9.out] at hx111_4)
    (try rw [← Nbq7.out] at hx111_5)
    (try rw [← Nbq9.out] at hx111_5)
    cases e111
    replace hx111_0 := cb HB.out hx111_0
    replace hx111_1 := cb HB.out hx111_1
    replace hx111_2 := cb HB.out hx111_2
    replace hx111_3 := cb HB.out hx111_3
    replace hx111_4 := cb HB.out hx111_4
    replace hx111_5 := cb HB.out hx111_5
    replace p111 := eq_true p111
    replace q111 := eq_true q111
    try go_wp2_with (first | ((with_reducible refine gate_dst (N := 6) rfl ?_); refine bv 6 #[.int .i64 0, .int .i64 0, .int .i64 0, .int .i64 0, .bool false, .bool false] 75 ?_; intro gb112 hg w34 hbox hb; have n0_ := Aside0.mk (blk_below (g := gb110) (o := .cells #[.slice A0_0 l0_0.length c0_0, .slice A0_1 l0_1.length c0_1] 42 (0, 0)) (bk BK110.out) hb); have n1_ := Aside0.mk (below_step bl hb); have n2_ := Aside0.mk (hbox); have n3_ := Aside0.mk ((by rw [hg]; exact (below_size bl) : w.heap.size ≤ gb112)); have n4_ := Aside0.mk ((by rw [hg]; exact (below_size bl) : w.heap.size ≤ gb112)); have n5_ := Aside0.mk ((nl hg (bk BK110.out) : gb110 ≠ gb112)); have n6_ := Aside0.mk ((ng hg (bk BK110.out) : gb112 ≠ gb110)); clear BK110; clear HB; have BK110 := n0_; have HB := n1_; have BK112 := n2_; have GW112 := n3_; have GE112 := n4_; have NB110_112 := n5_; have NB112_110 := n6_; clear n0_ n1_ n2_ n3_ n4_ n5_ n6_; clear hb hbox hg; have hnb35 := NB112_110.out; have hnc35 := NB110_112.out; obtain ⟨hcz36_0, hcz36_1, hcz36_2, hcz36_3, hcz36_4, hcz36_5, hfz36_0, hfz36_1, hfz36_2, hfz36_3, hfz36_4, hfz36_5⟩ := cz6 (w := w34) BK112.out))
    have n0_ : Aside0 (((((((w34.setCell ⟨gb112, 0, none⟩ (.int .i64 ((rd_T75 l1 x9_1).f0))).setCell ⟨gb112, 1, none⟩ (.int .i64 ((rd_T75 l1 x9_1).f1))).setCell ⟨gb112, 2, none⟩ (.int .i64 ((rd_T75 l1 x9_1).f2.f0))).setCell ⟨gb112, 3, none⟩ (.int .i64 ((rd_T75 l1 x9_1).f2.f1))).setCell ⟨gb112, 4, none⟩ (.bool true)).setCell ⟨gb112, 5, none⟩ (.bool false)).heap[gb110]? = some (.cells #[.slice A0_0 l0_0.length c0_0, .slice A0_1 l0_1.length c0_1] 42 (0, 0))) := ⟨by refine bx ?_; refine blk_far ?_ NB110_112.out _; refine bx ?_; refine blk_far ?_ NB110_112.out _; refine bx ?_; refine blk_far ?_ NB110_112.out _; refine bx ?_; refine blk_far ?_ NB110_112.out _; refine bx ?_; refine blk_far ?_ NB110_112.out _; refine bx ?_; refine blk_far ?_ NB110_112.out _; refine bx ?_; exact BK110.out⟩
    have n1_ : Aside0 (((((((w34.setCell ⟨gb112, 0, none⟩ (.int .i64 ((rd_T75 l1 x9_1).f0))).setCell ⟨gb112, 1, none⟩ (.int .i64 ((rd_T75 l1 x9_1).f1))).setCell ⟨gb112, 2, none⟩ (.int .i64 ((rd_T75 l1 x9_1).f2.f0))).setCell ⟨gb112, 3, none⟩ (.int .i64 ((rd_T75 l1 x9_1).f2.f1))).setCell ⟨gb112, 4, none⟩ (.bool true)).setCell ⟨gb112, 5, none⟩ (.bool false)).heap[gb112]? = some (.cells #[.int .i64 ((rd_T75 l1 x9_1).f0), .int .i64 ((rd_T75 l1 x9_1).f1), .int .i64 ((rd_T75 l1 x9_1).f2.f0), .int .i64 ((rd_T75 l1 x9_1).f2.f1), .bool true, .bool false] 75 (0, 0))) := ⟨by refine bx ?_; refine blk_put (cs := #[.int .i64 ((rd_T75 l1 x9_1).f0), .int .i64 ((rd_T75 l1 x9_1).f1), .int .i64 ((rd_T75 l1 x9_1).f2.f0), .int .i64 ((rd_T75 l1 x9_1).f2.f1), .bool true, .bool false]) ?_ 5 _ rfl; refine bx ?_; refine blk_put (cs := #[.int .i64 ((rd_T75 l1 x9_1).f0), .int .i64 ((rd_T75 l1 x9_1).f1), .int .i64 ((rd_T75 l1 x9_1).f2.f0), .int .i64 ((rd_T75 l1 x9_1).f2.f1), .bool false, .bool false]) ?_ 4 _ rfl; refine bx ?_; refine blk_put (cs := #[.int .i64 ((rd_T75 l1 x9_1).f0), .int .i64 ((rd_T75 l1 x9_1).f1), .int .i64 ((rd_T75 l1 x9_1).f2.f0), .int .i64 0, .bool false, .bool false]) ?_ 3 _ rfl; refine bx ?_; refine blk_put (cs := #[.int .i64 ((rd_T75 l1 x9_1).f0), .int .i64 ((rd_T75 l1 x9_1).f1), .int .i64 0, .int .i64 0, .bool false, .bool false]) ?_ 2 _ rfl; refine bx ?_; refine blk_put (cs := #[.int .i64 ((rd_T75 l1 x9_1).f0), .int .i64 0, .int .i64 0, .int .i64 0, .bool false, .bool false]) ?_ 1 _ rfl; refine bx ?_; refine blk_put (cs := #[.int .i64 0, .int .i64 0, .int .i64 0, .int .i64 0, .bool false, .bool false]) ?_ 0 _ rfl; refine bx ?_; exact BK112.out⟩
    have n2_ : Aside0 (Below w.heap.size w ((((((w34.setCell ⟨gb112, 0, none⟩ (.int .i64 ((rd_T75 l1 x9_1).f0))).setCell ⟨gb112, 1, none⟩ (.int .i64 ((rd_T75 l1 x9_1).f1))).setCell ⟨gb112, 2, none⟩ (.int .i64 ((rd_T75 l1 x9_1).f2.f0))).setCell ⟨gb112, 3, none⟩ (.int .i64 ((rd_T75 l1 x9_1).f2.f1))).setCell ⟨gb112, 4, none⟩ (.bool true)).setCell ⟨gb112, 5, none⟩ (.bool false))) := ⟨bl⟩
    (try clear BK110)
    (try clear BK112)
    (try clear HB)
    generalize ((((((w34.setCell ⟨gb112, 0, none⟩ (.int .i64 ((rd_T75 l1 x9_1).f0))).setCell ⟨gb112, 1, none⟩ (.int .i64 ((rd_T75 l1 x9_1).f1))).setCell ⟨gb112, 2, none⟩ (.int .i64 ((rd_T75 l1 x9_1).f2.f0))).setCell ⟨gb112, 3, none⟩ (.int .i64 ((rd_T75 l1 x9_1).f2.f1))).setCell ⟨gb112, 4, none⟩ (.bool true)).setCell ⟨gb112, 5, none⟩ (.bool false)) = w37 at n0_ n1_ n2_ ⊢
    have BK110 := n0_
    have BK112 := n1_
    have HB := n2_
    clear n0_ n1_ n2_
    have n0_ := Aside0.mk (blk_drew BK110.out)
    have n1_ := Aside0.mk (blk_drew BK112.out)
    have n2_ := Aside0.mk (below_drew1 HB.out)
    clear BK110
    clear BK112
    clear HB
    have BK110 := n0_
    have BK112 := n1_
    have HB := n2_
    clear n0_ n1_ n2_
    refine start_ (n := 19) (S := fun w' => w'.cell? ⟨gb112, 0, none⟩ = some (.int .i64 ((rd_T75 l1 x9_1).f0)) ∧ w'.cell? ⟨gb112, 1, none⟩ = some (.int .i64 ((rd_T75 l1 x9_1).f1)) ∧ w'.cell? ⟨gb112, 2, none⟩ = some (.int .i64 ((rd_T75 l1 x9_1).f2.f0)) ∧ w'.cell? ⟨gb112, 3, none⟩ = some (.int .i64 ((rd_T75 l1 x9_1).f2.f1)) ∧ w'.cell? ⟨gb112, 4, none⟩ = some (.bool true) ∧ w'.cell? ⟨gb112, 5, none⟩ = some (.bool false)) (ds := []) (fl 19 0) (by kernel_rfl) rfl rfl (cy6 BK112.out) (fun hHeld => ?_); refine with_tabW cand_records.tab4 cand_records.bits4 (fun HT_ HW_ => ?_)
    generalize w37.drew = w38 at BK110 BK112 HB hHeld ⊢
    refine pq 0 (some 13) ?_ (fl 19 1) HT_.out rfl rfl ?_ ?_ ?_ ?_
    rotate_left
    ·intro w'
     go_simp
     with_reducible rfl
    rotate_left
    ·refine pt ?_
     rfl
    refine pk 1 (some 14) ?_ (fl 19 2) HT_.out HW_.out rfl rfl ?_ hHeld ?_ ?_ ?_
    rotate_left
    ·rintro w' ⟨s0, s1, s2, s3, s4, s5⟩
     go_simp
     with_reducible rfl
    rotate_left
    ·refine pt ?_
     rfl
    refine pq 2 (some 15) ?_ (fl 19 3) HT_.out rfl rfl ?_ ?_ ?_ ?_
    rotate_left
    ·intro w'
     go_simp
     with_reducible rfl
    rotate_left
    ·refine pt ?_
     rfl
    refine pq 3 (some 16) ?_ (fl 19 4) HT_.out rfl rfl ?_ ?_ ?_ ?_
    rotate_left
    ·intro w'
     go_simp
     with_reducible rfl
    rotate_left
    ·refine pt ?_
     rfl
    refine pk 4 (some 17) ?_ (fl 19 5) HT_.out HW_.out rfl rfl ?_ hHeld ?_ ?_ ?_
    rotate_left
    ·rintro w' ⟨s0, s1, s2, s3, s4, s5⟩
     go_simp
     with_reducible rfl
    rotate_left
    ·refine pt ?_
     rfl
    refine pq 5 (some 18) ?_ (fl 19 6) HT_.out rfl rfl ?_ ?_ ?_ ?_
    rotate_left
    ·intro w'
     go_simp
     with_reducible rfl
    rotate_left
    ·refine pt ?_
     rfl
    refine pq 6 (some 19) ?_ (fl 19 7) HT_.out rfl rfl ?_ ?_ ?_ ?_
    rotate_left
    ·intro w'
     go_simp
     with_reducible rfl
    rotate_left
    ·refine pt ?_
     rfl
    refine pq 7 (some 20) ?_ (fl 19 8) HT_.out rfl rfl ?_ ?_ ?_ ?_
    rotate_left
    ·intro w'
     go_simp
     with_reducible rfl
    rotate_left
    ·refine pt ?_
     rfl
    refine pk 8 (some 21) ?_ (fl 19 9) HT_.out HW_.out rfl rfl ?_ hHeld ?_ ?_ ?_
    rotate_left
    ·rintro w' ⟨s0, s1, s2, s3, s4, s5⟩
     go_simp
     with_reducible rfl
    rotate_left
    ·refine pt ?_
     rfl
    refine one_ (i := 9) (N := some 22) (fl 19 10) rfl rfl (one_of HT_.out (by kernel_rfl)) (by decide) (fun K hK => ?_)
    refine goes_ Try.func64 (by kernel_rfl) rfl #[] (by rfl) rfl rfl ga ?_
    with_reducible refine (cand_start.calls  t113 t114 _ A16.out).mono ?_
    rintro e w39 ⟨rfl, hb⟩
    refine ⟨_, rfl, ?_⟩
    have n0_ := Aside0.mk (blk_below (g := gb110) (o := .cells #[.slice A0_0 l0_0.length c0_0, .slice A0_1 l0_1.length c0_1] 42 (0, 0)) (bk BK110.out) hb)
    have n1_ := Aside0.mk (blk_below (g := gb112) (o := .cells #[.int .i64 ((rd_T75 l1 x9_1).f0), .int .i64 ((rd_T75 l1 x9_1).f1), .int .i64 ((rd_T75 l1 x9_1).f2.f0), .int .i64 ((rd_T75 l1 x9_1).f2.f1), .bool true, .bool false] 75 (0, 0)) (bk BK112.out) hb)
    have n2_ := Aside0.mk (below_step bl hb)
    clear BK110
    clear BK112
    clear HB
    have BK110 := n0_
    have BK112 := n1_
    have HB := n2_
    clear n0_ n1_ n2_
    (try clear hb)
    (try clear hb2)
    (try clear hk)
    (try clear hi)
    refine hK.out _ _ (cy6 BK112.out) (fun hHeld => ?_)
    clear hK K
    refine norm_ (a' := ?_) ?_ ?_
    rotate_left
    ·show Act.put _ (some 22) _ = _
     refine pt ?_
     rfl
    refine pq 10 (some 23) ?_ (fl 19 11) HT_.out rfl rfl ?_ ?_ ?_ ?_
    rotate_left
    ·intro w'
     go_simp
     with_reducible rfl
    rotate_left
    ·refine pt ?_
     rfl
    refine pq 11 (some 24) ?_ (fl 19 12) HT_.out rfl rfl ?_ ?_ ?_ ?_
    rotate_left
    ·intro w'
     go_simp
     with_reducible rfl
    rotate_left
    ·refine pt ?_
     rfl
    refine pr 12 (some 25) ?_ (fl 19 13) HT_.out rfl rfl ?_ ?_
    rotate_left
    ·refine pt ?_
     rfl
    refine pr 13 (some 26) ?_ (fl 19 14) HT_.out rfl rfl ?_ ?_
    rotate_left
    ·refine pt ?_
     rfl
    refine pr 14 (some 27) ?_ (fl 19 15) HT_.out rfl rfl ?_ ?_
    rotate_left
    ·refine pt ?_
     rfl
    refine pr 15 (some 28) ?_ (fl 19 16) HT_.out rfl rfl ?_ ?_
    rotate_left
    ·refine pt ?_
     rfl
    refine pr 16 (some 29) ?_ (fl 19 17) HT_.out rfl rfl ?_ ?_
    rotate_left
    ·refine pt ?_
     rfl
    refine pq 17 (some 30) ?_ (fl 19 18) HT_.out rfl rfl ?_ ?_ ?_ ?_
    rotate_left
    ·intro w'
     go_simp
     with_reducible rfl
    rotate_left
    ·refine pt ?_
     rfl
    refine pq 18 (some 31) ?_ (fl 19 19) HT_.out rfl rfl ?_ ?_ ?_ ?_
    rotate_left
    ·intro w'
     go_simp
     with_reducible rfl
    rotate_left
    ·refine pt ?_
     rfl
    refine done_ (done_of HT_.out (by kernel_rfl)) ?_
    try go_wp2
    go_roundg k1
    case measure => have := HK1.out; omega
    case rel => exact ⟨(wrap64 (x9_1 + 1)), fj, H', ⟨by have := HK1.out; omega⟩, ⟨by refine bx ?_; exact BK110.out⟩, ⟨bl⟩⟩
   rw [if_pos c17] at H
   have c17b0 : (!(((rd_T75 l1 x9_1).f2.f0) == t113) || (!(((rd_T75 l1 x9_1).f2.f1) == t114))) = true := c17
   clear c17
   replace H := be H
   obtain ⟨t115, A18, H⟩ := H
   by_cases c19 : t115 = true
   rotate_left
   ·replace c19 := Bool.eq_false_iff.mpr c19
    subst c19
    have H1 : (some false) = some r := by rw [if_neg (show ¬ (false = true) by decide)] at H; exact H
    clear H
    have H := H1
    clear H1
    obtain rfl := Option.some.inj H
    have p111 : 0 ≤ (x9_1 : Int) := od
    have q111 : x9_1 < (l1.length : Int) := od
    obtain ⟨ad111, e111, hx111_0, hx111_1, hx111_2, hx111_3, hx111_4, hx111_5⟩ := at_T75 HR1.out x9_1 p111 q111
    (try rw [← Nbq7.out] at hx111_4)
    (try rw [← Nbq9.out] at hx111_4)
    (try rw [← Nbq7.out] at hx111_5)
    (try rw [← Nbq9.out] at hx111_5)
    cases e111
    replace hx111_0 := cb HB.out hx111_0
    replace hx111_1 := cb HB.out hx111_1
    replace hx111_2 := cb HB.out hx111_2
    replace hx111_3 := cb HB.out hx111_3
    replace hx111_4 := cb HB.out hx111_4
    replace hx111_5 := cb HB.out hx111_5
    replace p111 := eq_true p111
    replace q111 := eq_true q111
    try go_wp2_with (first | ((with_reducible refine gate_dst (N := 6) rfl ?_); refine bv 6 #[.int .i64 0, .int .i64 0, .int .i64 0, .int .i64 0, .bool false, .bool false] 75 ?_; intro gb112 hg w27 hbox hb; have n0_ := Aside0.mk (blk_below (g := gb110) (o := .cells #[.slice A0_0 l0_0.length c0_0, .slice A0_1 l0_1.length c0_1] 42 (0, 0)) (bk BK110.out) hb); have n1_ := Aside0.mk (below_step bl hb); have n2_ := Aside0.mk (hbox); have n3_ := Aside0.mk ((by rw [hg]; exact (below_size bl) : w.heap.size ≤ gb112)); have n4_ := Aside0.mk ((by rw [hg]; exact (below_size bl) : w.heap.size ≤ gb112)); have n5_ := Aside0.mk ((nl hg (bk BK110.out) : gb110 ≠ gb112)); have n6_ := Aside0.mk ((ng hg (bk BK110.out) : gb112 ≠ gb110)); clear BK110; clear HB; have BK110 := n0_; have HB := n1_; have BK112 := n2_; have GW112 := n3_; have GE112 := n4_; have NB110_112 := n5_; have NB112_110 := n6_; clear n0_ n1_ n2_ n3_ n4_ n5_ n6_; clear hb hbox hg; have hnb28 := NB112_110.out; have hnc28 := NB110_112.out; obtain ⟨hcz29_0, hcz29_1, hcz29_2, hcz29_3, hcz29_4, hcz29_5, hfz29_0, hfz29_1, hfz29_2, hfz29_3, hfz29_4, hfz29_5⟩ := cz6 (w := w27) BK112.out))
    have n0_ : Aside0 (((((((w27.setCell ⟨gb112, 0, none⟩ (.int .i64 ((rd_T75 l1 x9_1).f0))).setCell ⟨gb112, 1, none⟩ (.int .i64 ((rd_T75 l1 x9_1).f1))).setCell ⟨gb112, 2, none⟩ (.int .i64 ((rd_T75 l1 x9_1).f2.f0))).setCell ⟨gb112, 3, none⟩ (.int .i64 ((rd_T75 l1 x9_1).f2.f1))).setCell ⟨gb112, 4, none⟩ (.bool true)).setCell ⟨gb112, 5, none⟩ (.bool false)).heap[gb110]? = some (.cells #[.slice A0_0 l0_0.length c0_0, .slice A0_1 l0_1.length c0_1] 42 (0, 0))) := ⟨by refine bx ?_; refine blk_far ?_ NB110_112.out _; refine bx ?_; refine blk_far ?_ NB110_112.out _; refine bx ?_; refine blk_far ?_ NB110_112.out _; refine bx ?_; refine blk_far ?_ NB110_112.out _; refine bx ?_; refine blk_far ?_ NB110_112.out _; refine bx ?_; refine blk_far ?_ NB110_112.out _; refine bx ?_; exact BK110.out⟩
    have n1_ : Aside0 (((((((w27.setCell ⟨gb112, 0, none⟩ (.int .i64 ((rd_T75 l1 x9_1).f0))).setCell ⟨gb112, 1, none⟩ (.int .i64 ((rd_T75 l1 x9_1).f1))).setCell ⟨gb112, 2, none⟩ (.int .i64 ((rd_T75 l1 x9_1).f2.f0))).setCell ⟨gb112, 3, none⟩ (.int .i64 ((rd_T75 l1 x9_1).f2.f1))).setCell ⟨gb112, 4, none⟩ (.bool true)).setCell ⟨gb112, 5, none⟩ (.bool false)).heap[gb112]? = some (.cells #[.int .i64 ((rd_T75 l1 x9_1).f0), .int .i64 ((rd_T75 l1 x9_1).f1), .int .i64 ((rd_T75 l1 x9_1).f2.f0), .int .i64 ((rd_T75 l1 x9_1).f2.f1), .bool true, .bool false] 75 (0, 0))) := ⟨by refine bx ?_; refine blk_put (cs := #[.int .i64 ((rd_T75 l1 x9_1).f0), .int .i64 ((rd_T75 l1 x9_1).f1), .int .i64 ((rd_T75 l1 x9_1).f2.f0), .int .i64 ((rd_T75 l1 x9_1).f2.f1), .bool true, .bool false]) ?_ 5 _ rfl; refine bx ?_; refine blk_put (cs := #[.int .i64 ((rd_T75 l1 x9_1).f0), .int .i64 ((rd_T75 l1 x9_1).f1), .int .i64 ((rd_T75 l1 x9_1).f2.f0), .int .i64 ((rd_T75 l1 x9_1).f2.f1), .bool false, .bool false]) ?_ 4 _ rfl; refine bx ?_; refine blk_put (cs := #[.int .i64 ((rd_T75 l1 x9_1).f0), .int .i64 ((rd_T75 l1 x9_1).f1), .int .i64 ((rd_T75 l1 x9_1).f2.f0), .int .i64 0, .bool false, .bool false]) ?_ 3 _ rfl; refine bx ?_; refine blk_put (cs := #[.int .i64 ((rd_T75 l1 x9_1).f0), .int .i64 ((rd_T75 l1 x9_1).f1), .int .i64 0, .int .i64 0, .bool false, .bool false]) ?_ 2 _ rfl; refine bx ?_; refine blk_put (cs := #[.int .i64 ((rd_T75 l1 x9_1).f0), .int .i64 0, .int .i64 0, .int .i64 0, .bool false, .bool false]) ?_ 1 _ rfl; refine bx ?_; refine blk_put (cs := #[.int .i64 0, .int .i64 0, .int .i64 0, .int .i64 0, .bool false, .bool false]) ?_ 0 _ rfl; refine bx ?_; exact BK112.out⟩
    have n2_ : Aside0 (Below w.heap.size w ((((((w27.setCell ⟨gb112, 0, none⟩ (.int .i64 ((rd_T75 l1 x9_1).f0))).setCell ⟨gb112, 1, none⟩ (.int .i64 ((rd_T75 l1 x9_1).f1))).setCell ⟨gb112, 2, none⟩ (.int .i64 ((rd_T75 l1 x9_1).f2.f0))).setCell ⟨gb112, 3, none⟩ (.int .i64 ((rd_T75 l1 x9_1).f2.f1))).setCell ⟨gb112, 4, none⟩ (.bool true)).setCell ⟨gb112, 5, none⟩ (.bool false))) := ⟨bl⟩
    (try clear BK110)
    (try clear BK112)
    (try clear HB)
    generalize ((((((w27.setCell ⟨gb112, 0, none⟩ (.int .i64 ((rd_T75 l1 x9_1).f0))).setCell ⟨gb112, 1, none⟩ (.int .i64 ((rd_T75 l1 x9_1).f1))).setCell ⟨gb112, 2, none⟩ (.int .i64 ((rd_T75 l1 x9_1).f2.f0))).setCell ⟨gb112, 3, none⟩ (.int .i64 ((rd_T75 l1 x9_1).f2.f1))).setCell ⟨gb112, 4, none⟩ (.bool true)).setCell ⟨gb112, 5, none⟩ (.bool false)) = w30 at n0_ n1_ n2_ ⊢
    have BK110 := n0_
    have BK112 := n1_
    have HB := n2_
    clear n0_ n1_ n2_
    have n0_ := Aside0.mk (blk_drew BK110.out)
    have n1_ := Aside0.mk (blk_drew BK112.out)
    have n2_ := Aside0.mk (below_drew1 HB.out)
    clear BK110
    clear BK112
    clear HB
    have BK110 := n0_
    have BK112 := n1_
    have HB := n2_
    clear n0_ n1_ n2_
    refine start_ (n := 19) (S := fun w' => w'.cell? ⟨gb112, 0, none⟩ = some (.int .i64 ((rd_T75 l1 x9_1).f0)) ∧ w'.cell? ⟨gb112, 1, none⟩ = some (.int .i64 ((rd_T75 l1 x9_1).f1)) ∧ w'.cell? ⟨gb112, 2, none⟩ = some (.int .i64 ((rd_T75 l1 x9_1).f2.f0)) ∧ w'.cell? ⟨gb112, 3, none⟩ = some (.int .i64 ((rd_T75 l1 x9_1).f2.f1)) ∧ w'.cell? ⟨gb112, 4, none⟩ = some (.bool true) ∧ w'.cell? ⟨gb112, 5, none⟩ = some (.bool false) ∧ w'.cell? ⟨gb110, 0, none⟩ = some (.slice A0_0 l0_0.length c0_0) ∧ w'.cell? ⟨gb110, 1, none⟩ = some (.slice A0_1 l0_1.length c0_1)) (ds := []) (fl 19 0) (by kernel_rfl) rfl rfl ⟨(blk_cell BK112.out 0).trans rfl, (blk_cell BK112.out 1).trans rfl, (blk_cell BK112.out 2).trans rfl, (blk_cell BK112.out 3).trans rfl, (blk_cell BK112.out 4).trans rfl, (blk_cell BK112.out 5).trans rfl, (blk_cell BK110.out 0).trans rfl, (blk_cell BK110.out 1).trans rfl⟩ (fun hHeld => ?_); refine with_tabW cand_records.tab4 cand_records.bits4 (fun HT_ HW_ => ?_)
    generalize w30.drew = w31 at BK110 BK112 HB hHeld ⊢
    refine pq 0 (some 13) ?_ (fl 19 1) HT_.out rfl rfl ?_ ?_ ?_ ?_
    rotate_left
    ·intro w'
     go_simp
     with_reducible rfl
    rotate_left
    ·refine pt ?_
     rfl
    refine pk 1 (some 14) ?_ (fl 19 2) HT_.out HW_.out rfl rfl ?_ hHeld ?_ ?_ ?_
    rotate_left
    ·rintro w' ⟨s0, s1, s2, s3, s4, s5, s6, s7⟩
     go_simp
     with_reducible rfl
    rotate_left
    ·refine pt ?_
     rfl
    refine pq 2 (some 15) ?_ (fl 19 3) HT_.out rfl rfl ?_ ?_ ?_ ?_
    rotate_left
    ·intro w'
     go_simp
     with_reducible rfl
    rotate_left
    ·refine pt ?_
     rfl
    refine pq 3 (some 16) ?_ (fl 19 4) HT_.out rfl rfl ?_ ?_ ?_ ?_
    rotate_left
    ·intro w'
     go_simp
     with_reducible rfl
    rotate_left
    ·refine pt ?_
     rfl
    refine pk 4 (some 17) ?_ (fl 19 5) HT_.out HW_.out rfl rfl ?_ hHeld ?_ ?_ ?_
    rotate_left
    ·rintro w' ⟨s0, s1, s2, s3, s4, s5, s6, s7⟩
     go_simp
     with_reducible rfl
    rotate_left
    ·refine pt ?_
     rfl
    refine pq 5 (some 18) ?_ (fl 19 6) HT_.out rfl rfl ?_ ?_ ?_ ?_
    rotate_left
    ·intro w'
     go_simp
     with_reducible rfl
    rotate_left
    ·refine pt ?_
     rfl
    refine pq 6 (some 19) ?_ (fl 19 7) HT_.out rfl rfl ?_ ?_ ?_ ?_
    rotate_left
    ·intro w'
     go_simp
     with_reducible rfl
    rotate_left
    ·refine pt ?_
     rfl
    refine pq 7 (some 20) ?_ (fl 19 8) HT_.out rfl rfl ?_ ?_ ?_ ?_
    rotate_left
    ·intro w'
     go_simp
     with_reducible rfl
    rotate_left
    ·refine pt ?_
     rfl
    refine pk 8 (some 21) ?_ (fl 19 9) HT_.out HW_.out rfl rfl ?_ hHeld ?_ ?_ ?_
    rotate_left
    ·rintro w' ⟨s0, s1, s2, s3, s4, s5, s6, s7⟩
     go_simp
     with_reducible rfl
    rotate_left
    ·refine pt ?_
     rfl
    refine one_ (i := 9) (N := some 22) (fl 19 10) rfl rfl (one_of HT_.out (by kernel_rfl)) (by decide) (fun K hK => ?_)
    refine goes_ Try.func64 (by kernel_rfl) rfl #[] (by rfl) rfl rfl ga ?_
    with_reducible refine (cand_start.calls  t113 t114 _ A16.out).mono ?_
    rintro e w32 ⟨rfl, hb⟩
    refine ⟨_, rfl, ?_⟩
    have n0_ := Aside0.mk (blk_below (g := gb110) (o := .cells #[.slice A0_0 l0_0.length c0_0, .slice A0_1 l0_1.length c0_1] 42 (0, 0)) (bk BK110.out) hb)
    have n1_ := Aside0.mk (blk_below (g := gb112) (o := .cells #[.int .i64 ((rd_T75 l1 x9_1).f0), .int .i64 ((rd_T75 l1 x9_1).f1), .int .i64 ((rd_T75 l1 x9_1).f2.f0), .int .i64 ((rd_T75 l1 x9_1).f2.f1), .bool true, .bool false] 75 (0, 0)) (bk BK112.out) hb)
    have n2_ := Aside0.mk (below_step bl hb)
    clear BK110
    clear BK112
    clear HB
    have BK110 := n0_
    have BK112 := n1_
    have HB := n2_
    clear n0_ n1_ n2_
    (try clear hb)
    (try clear hb2)
    (try clear hk)
    (try clear hi)
    refine hK.out _ _ ⟨(blk_cell BK112.out 0).trans rfl, (blk_cell BK112.out 1).trans rfl, (blk_cell BK112.out 2).trans rfl, (blk_cell BK112.out 3).trans rfl, (blk_cell BK112.out 4).trans rfl, (blk_cell BK112.out 5).trans rfl, (blk_cell BK110.out 0).trans rfl, (blk_cell BK110.out 1).trans rfl⟩ (fun hHeld => ?_)
    clear hK K
    refine norm_ (a' := ?_) ?_ ?_
    rotate_left
    ·show Act.put _ (some 22) _ = _
     refine pt ?_
     rfl
    refine pq 10 (some 23) ?_ (fl 19 11) HT_.out rfl rfl ?_ ?_ ?_ ?_
    rotate_left
    ·intro w'
     go_simp
     with_reducible rfl
    rotate_left
    ·refine pt ?_
     rfl
    refine pq 11 (some 24) ?_ (fl 19 12) HT_.out rfl rfl ?_ ?_ ?_ ?_
    rotate_left
    ·intro w'
     go_simp
     with_reducible rfl
    rotate_left
    ·refine pt ?_
     rfl
    refine pq 13 (some 26) ?_ #[true, true, true, true, true, true, true, true, true, true, true, true, false, true, false, false, false, false, false] HT_.out rfl rfl ?_ ?_ ?_ ?_
    rotate_left
    ·intro w'
     go_simp
     with_reducible rfl
    rotate_left
    ·refine pt ?_
     rfl
    refine pk 12 (some 25) ?_ (fl 19 14) HT_.out HW_.out rfl rfl ?_ hHeld ?_ ?_ ?_
    rotate_left
    ·rintro w' ⟨s0, s1, s2, s3, s4, s5, s6, s7⟩
     go_simp
     with_reducible rfl
    rotate_left
    ·refine pt ?_
     rfl
    refine pk 14 (some 27) ?_ (fl 19 15) HT_.out HW_.out rfl rfl ?_ hHeld ?_ ?_ ?_
    rotate_left
    ·rintro w' ⟨s0, s1, s2, s3, s4, s5, s6, s7⟩
     go_simp
     with_reducible rfl
    rotate_left
    ·refine pt ?_
     rfl
    refine one_ (i := 15) (N := some 28) (fl 19 16) rfl rfl (one_of HT_.out (by kernel_rfl)) (by decide) (fun K hK => ?_)
    refine goes_ Try.func65 (by kernel_rfl) rfl #[.agg #[.slice A0_0 l0_0.length c0_0, .slice A0_1 l0_1.length c0_1], .agg #[.int .i64 ((rd_T75 l1 x9_1).f2.f0), .int .i64 ((rd_T75 l1 x9_1).f2.f1)]] (by rfl) rfl rfl ga ?_
    with_reducible refine (cand_there.calls _ _ l0_0 _ _ l0_1 ((rd_T75 l1 x9_1).f2.f0) ((rd_T75 l1 x9_1).f2.f1) false _ ?side1 ?side2 ?side3 ?side4 A18.out).mono ?_
    (case side1 => repeat (first | exact (Kd.C_below HR0_0.out HB.out) | (with_reducible refine Kd.C_alloc ?_ _) | (with_reducible refine Kd.C_drewN ?_ _) | (with_reducible refine Kd.C_drew ?_)))
    (case side2 => exact HC0_0.out)
    (case side3 => repeat (first | exact (Kd.C_below HR0_1.out HB.out) | (with_reducible refine Kd.C_alloc ?_ _) | (with_reducible refine Kd.C_drewN ?_ _) | (with_reducible refine Kd.C_drew ?_)))
    (case side4 => exact HC0_1.out)
    rintro e w33 ⟨rfl, hb⟩
    refine ⟨_, rfl, ?_⟩
    have n0_ := Aside0.mk (blk_below (g := gb110) (o := .cells #[.slice A0_0 l0_0.length c0_0, .slice A0_1 l0_1.length c0_1] 42 (0, 0)) (bk BK110.out) hb)
    have n1_ := Aside0.mk (blk_below (g := gb112) (o := .cells #[.int .i64 ((rd_T75 l1 x9_1).f0), .int .i64 ((rd_T75 l1 x9_1).f1), .int .i64 ((rd_T75 l1 x9_1).f2.f0), .int .i64 ((rd_T75 l1 x9_1).f2.f1), .bool true, .bool false] 75 (0, 0)) (bk BK112.out) hb)
    have n2_ := Aside0.mk (below_step bl hb)
    clear BK110
    clear BK112
    clear HB
    have BK110 := n0_
    have BK112 := n1_
    have HB := n2_
    clear n0_ n1_ n2_
    (try clear hb)
    (try clear hb2)
    (try clear hk)
    (try clear hi)
    refine hK.out _ _ ⟨(blk_cell BK112.out 0).trans rfl, (blk_cell BK112.out 1).trans rfl, (blk_cell BK112.out 2).trans rfl, (blk_cell BK112.out 3).trans rfl, (blk_cell BK112.out 4).trans rfl, (blk_cell BK112.out 5).trans rfl, (blk_cell BK110.out 0).trans rfl, (blk_cell BK110.out 1).trans rfl⟩ (fun hHeld => ?_)
    clear hK K
    refine norm_ (a' := ?_) ?_ ?_
    rotate_left
    ·show Act.put _ (some 28) _ = _
     refine pt ?_
     rfl
    refine pq 16 (some 29) ?_ (fl 19 17) HT_.out rfl rfl ?_ ?_ ?_ ?_
    rotate_left
    ·intro w'
     go_simp
     with_reducible rfl
    rotate_left
    ·refine pt ?_
     rfl
    refine pq 17 (some 30) ?_ (fl 19 18) HT_.out rfl rfl ?_ ?_ ?_ ?_
    rotate_left
    ·intro w'
     go_simp
     with_reducible rfl
    rotate_left
    ·refine pt ?_
     rfl
    refine pq 18 (some 31) ?_ (fl 19 19) HT_.out rfl rfl ?_ ?_ ?_ ?_
    rotate_left
    ·intro w'
     go_simp
     with_reducible rfl
    rotate_left
    ·refine pt ?_
     rfl
    refine done_ (done_of HT_.out (by kernel_rfl)) ?_
    try go_wp2
    go_ret
    exact ⟨fi, bl⟩
   subst c19
   have H1 : (cand_records.l0 k1 l1 (l1.length : Int) (wrap64 (x9_1 + 1)) l0_0 l0_1) = some r := by rw [if_pos rfl] at H; exact H
   clear H
   have H := H1
   clear H1
   have H' := Aside0.mk H
   clear H
   have p111 : 0 ≤ (x9_1 : Int) := od
   have q111 : x9_1 < (l1.length : Int) := od
   obtain ⟨ad111, e111, hx111_0, hx111_1, hx111_2, hx111_3, hx111_4, hx111_5⟩ := at_T75 HR1.out x9_1 p111 q111
   (try rw [← Nbq7.out] at hx111_4)
   (try rw [← Nbq9.out] at hx111_4)
   (try rw [← Nbq7.out] at hx111_5)
   (try rw [← Nbq9.out] at hx111_5)
   cases e111
   replace hx111_0 := cb HB.out hx111_0
   replace hx111_1 := cb HB.out hx111_1
   replace hx111_2 := cb HB.out hx111_2
   replace hx111_3 := cb HB.out hx111_3
   replace hx111_4 := cb HB.out hx111_4
   replace hx111_5 := cb HB.out hx111_5
   replace p111 := eq_true p111
   replace q111 := eq_true q111
   try go_wp2_with (first | ((with_reducible refine gate_dst (N := 6) rfl ?_); refine bv 6 #[.int .i64 0, .int .i64 0, .int .i64 0, .int .i64 0, .bool false, .bool false] 75 ?_; intro gb112 hg w20 hbox hb; have n0_ := Aside0.mk (blk_below (g := gb110) (o := .cells #[.slice A0_0 l0_0.length c0_0, .slice A0_1 l0_1.length c0_1] 42 (0, 0)) (bk BK110.out) hb); have n1_ := Aside0.mk (below_step bl hb); have n2_ := Aside0.mk (hbox); have n3_ := Aside0.mk ((by rw [hg]; exact (below_size bl) : w.heap.size ≤ gb112)); have n4_ := Aside0.mk ((by rw [hg]; exact (below_size bl) : w.heap.size ≤ gb112)); have n5_ := Aside0.mk ((nl hg (bk BK110.out) : gb110 ≠ gb112)); have n6_ := Aside0.mk ((ng hg (bk BK110.out) : gb112 ≠ gb110)); clear BK110; clear HB; have BK110 := n0_; have HB := n1_; have BK112 := n2_; have GW112 := n3_; have GE112 := n4_; have NB110_112 := n5_; have NB112_110 := n6_; clear n0_ n1_ n2_ n3_ n4_ n5_ n6_; clear hb hbox hg; have hnb21 := NB112_110.out; have hnc21 := NB110_112.out; obtain ⟨hcz22_0, hcz22_1, hcz22_2, hcz22_3, hcz22_4, hcz22_5, hfz22_0, hfz22_1, hfz22_2, hfz22_3, hfz22_4, hfz22_5⟩ := cz6 (w := w20) BK112.out))
   have n0_ : Aside0 (((((((w20.setCell ⟨gb112, 0, none⟩ (.int .i64 ((rd_T75 l1 x9_1).f0))).setCell ⟨gb112, 1, none⟩ (.int .i64 ((rd_T75 l1 x9_1).f1))).setCell ⟨gb112, 2, none⟩ (.int .i64 ((rd_T75 l1 x9_1).f2.f0))).setCell ⟨gb112, 3, none⟩ (.int .i64 ((rd_T75 l1 x9_1).f2.f1))).setCell ⟨gb112, 4, none⟩ (.bool true)).setCell ⟨gb112, 5, none⟩ (.bool false)).heap[gb110]? = some (.cells #[.slice A0_0 l0_0.length c0_0, .slice A0_1 l0_1.length c0_1] 42 (0, 0))) := ⟨by refine bx ?_; refine blk_far ?_ NB110_112.out _; refine bx ?_; refine blk_far ?_ NB110_112.out _; refine bx ?_; refine blk_far ?_ NB110_112.out _; refine bx ?_; refine blk_far ?_ NB110_112.out _; refine bx ?_; refine blk_far ?_ NB110_112.out _; refine bx ?_; refine blk_far ?_ NB110_112.out _; refine bx ?_; exact BK110.out⟩
   have n1_ : Aside0 (((((((w20.setCell ⟨gb112, 0, none⟩ (.int .i64 ((rd_T75 l1 x9_1).f0))).setCell ⟨gb112, 1, none⟩ (.int .i64 ((rd_T75 l1 x9_1).f1))).setCell ⟨gb112, 2, none⟩ (.int .i64 ((rd_T75 l1 x9_1).f2.f0))).setCell ⟨gb112, 3, none⟩ (.int .i64 ((rd_T75 l1 x9_1).f2.f1))).setCell ⟨gb112, 4, none⟩ (.bool true)).setCell ⟨gb112, 5, none⟩ (.bool false)).heap[gb112]? = some (.cells #[.int .i64 ((rd_T75 l1 x9_1).f0), .int .i64 ((rd_T75 l1 x9_1).f1), .int .i64 ((rd_T75 l1 x9_1).f2.f0), .int .i64 ((rd_T75 l1 x9_1).f2.f1), .bool true, .bool false] 75 (0, 0))) := ⟨by refine bx ?_; refine blk_put (cs := #[.int .i64 ((rd_T75 l1 x9_1).f0), .int .i64 ((rd_T75 l1 x9_1).f1), .int .i64 ((rd_T75 l1 x9_1).f2.f0), .int .i64 ((rd_T75 l1 x9_1).f2.f1), .bool true, .bool false]) ?_ 5 _ rfl; refine bx ?_; refine blk_put (cs := #[.int .i64 ((rd_T75 l1 x9_1).f0), .int .i64 ((rd_T75 l1 x9_1).f1), .int .i64 ((rd_T75 l1 x9_1).f2.f0), .int .i64 ((rd_T75 l1 x9_1).f2.f1), .bool false, .bool false]) ?_ 4 _ rfl; refine bx ?_; refine blk_put (cs := #[.int .i64 ((rd_T75 l1 x9_1).f0), .int .i64 ((rd_T75 l1 x9_1).f1), .int .i64 ((rd_T75 l1 x9_1).f2.f0), .int .i64 0, .bool false, .bool false]) ?_ 3 _ rfl; refine bx ?_; refine blk_put (cs := #[.int .i64 ((rd_T75 l1 x9_1).f0), .int .i64 ((rd_T75 l1 x9_1).f1), .int .i64 0, .int .i64 0, .bool false, .bool false]) ?_ 2 _ rfl; refine bx ?_; refine blk_put (cs := #[.int .i64 ((rd_T75 l1 x9_1).f0), .int .i64 0, .int .i64 0, .int .i64 0, .bool false, .bool false]) ?_ 1 _ rfl; refine bx ?_; refine blk_put (cs := #[.int .i64 0, .int .i64 0, .int .i64 0, .int .i64 0, .bool false, .bool false]) ?_ 0 _ rfl; refine bx ?_; exact BK112.out⟩
   have n2_ : Aside0 (Below w.heap.size w ((((((w20.setCell ⟨gb112, 0, none⟩ (.int .i64 ((rd_T75 l1 x9_1).f0))).setCell ⟨gb112, 1, none⟩ (.int .i64 ((rd_T75 l1 x9_1).f1))).setCell ⟨gb112, 2, none⟩ (.int .i64 ((rd_T75 l1 x9_1).f2.f0))).setCell ⟨gb112, 3, none⟩ (.int .i64 ((rd_T75 l1 x9_1).f2.f1))).setCell ⟨gb112, 4, none⟩ (.bool true)).setCell ⟨gb112, 5, none⟩ (.bool false))) := ⟨bl⟩
   (try clear BK110)
   (try clear BK112)
   (try clear HB)
   generalize ((((((w20.setCell ⟨gb112, 0, none⟩ (.int .i64 ((rd_T75 l1 x9_1).f0))).setCell ⟨gb112, 1, none⟩ (.int .i64 ((rd_T75 l1 x9_1).f1))).setCell ⟨gb112, 2, none⟩ (.int .i64 ((rd_T75 l1 x9_1).f2.f0))).setCell ⟨gb112, 3, none⟩ (.int .i64 ((rd_T75 l1 x9_1).f2.f1))).setCell ⟨gb112, 4, none⟩ (.bool true)).setCell ⟨gb112, 5, none⟩ (.bool false)) = w23 at n0_ n1_ n2_ ⊢
   have BK110 := n0_
   have BK112 := n1_
   have HB := n2_
   clear n0_ n1_ n2_
   have n0_ := Aside0.mk (blk_drew BK110.out)
   have n1_ := Aside0.mk (blk_drew BK112.out)
   have n2_ := Aside0.mk (below_drew1 HB.out)
   clear BK110
   clear BK112
   clear HB
   have BK110 := n0_
   have BK112 := n1_
   have HB := n2_
   clear n0_ n1_ n2_
   refine start_ (n := 19) (S := fun w' => w'.cell? ⟨gb112, 0, none⟩ = some (.int .i64 ((rd_T75 l1 x9_1).f0)) ∧ w'.cell? ⟨gb112, 1, none⟩ = some (.int .i64 ((rd_T75 l1 x9_1).f1)) ∧ w'.cell? ⟨gb112, 2, none⟩ = some (.int .i64 ((rd_T75 l1 x9_1).f2.f0)) ∧ w'.cell? ⟨gb112, 3, none⟩ = some (.int .i64 ((rd_T75 l1 x9_1).f2.f1)) ∧ w'.cell? ⟨gb112, 4, none⟩ = some (.bool true) ∧ w'.cell? ⟨gb112, 5, none⟩ = some (.bool false) ∧ w'.cell? ⟨gb110, 0, none⟩ = some (.slice A0_0 l0_0.length c0_0) ∧ w'.cell? ⟨gb110, 1, none⟩ = some (.slice A0_1 l0_1.length c0_1)) (ds := []) (fl 19 0) (by kernel_rfl) rfl rfl ⟨(blk_cell BK112.out 0).trans rfl, (blk_cell BK112.out 1).trans rfl, (blk_cell BK112.out 2).trans rfl, (blk_cell BK112.out 3).trans rfl, (blk_cell BK112.out 4).trans rfl, (blk_cell BK112.out 5).trans rfl, (blk_cell BK110.out 0).trans rfl, (blk_cell BK110.out 1).trans rfl⟩ (fun hHeld => ?_); refine with_tabW cand_records.tab4 cand_records.bits4 (fun HT_ HW_ => ?_)
   generalize w23.drew = w24 at BK110 BK112 HB hHeld ⊢
   refine pq 0 (some 13) ?_ (fl 19 1) HT_.out rfl rfl ?_ ?_ ?_ ?_
   rotate_left
   ·intro w'
    go_simp
    with_reducible rfl
   rotate_left
   ·refine pt ?_
    rfl
   refine pk 1 (some 14) ?_ (fl 19 2) HT_.out HW_.out rfl rfl ?_ hHeld ?_ ?_ ?_
   rotate_left
   ·rintro w' ⟨s0, s1, s2, s3, s4, s5, s6, s7⟩
    go_simp
    with_reducible rfl
   rotate_left
   ·refine pt ?_
    rfl
   refine pq 2 (some 15) ?_ (fl 19 3) HT_.out rfl rfl ?_ ?_ ?_ ?_
   rotate_left
   ·intro w'
    go_simp
    with_reducible rfl
   rotate_left
   ·refine pt ?_
    rfl
   refine pq 3 (some 16) ?_ (fl 19 4) HT_.out rfl rfl ?_ ?_ ?_ ?_
   rotate_left
   ·intro w'
    go_simp
    with_reducible rfl
   rotate_left
   ·refine pt ?_
    rfl
   refine pk 4 (some 17) ?_ (fl 19 5) HT_.out HW_.out rfl rfl ?_ hHeld ?_ ?_ ?_
   rotate_left
   ·rintro w' ⟨s0, s1, s2, s3, s4, s5, s6, s7⟩
    go_simp
    with_reducible rfl
   rotate_left
   ·refine pt ?_
    rfl
   refine pq 5 (some 18) ?_ (fl 19 6) HT_.out rfl rfl ?_ ?_ ?_ ?_
   rotate_left
   ·intro w'
    go_simp
    with_reducible rfl
   rotate_left
   ·refine pt ?_
    rfl
   refine pq 6 (some 19) ?_ (fl 19 7) HT_.out rfl rfl ?_ ?_ ?_ ?_
   rotate_left
   ·intro w'
    go_simp
    with_reducible rfl
   rotate_left
   ·refine pt ?_
    rfl
   refine pq 7 (some 20) ?_ (fl 19 8) HT_.out rfl rfl ?_ ?_ ?_ ?_
   rotate_left
   ·intro w'
    go_simp
    with_reducible rfl
   rotate_left
   ·refine pt ?_
    rfl
   refine pk 8 (some 21) ?_ (fl 19 9) HT_.out HW_.out rfl rfl ?_ hHeld ?_ ?_ ?_
   rotate_left
   ·rintro w' ⟨s0, s1, s2, s3, s4, s5, s6, s7⟩
    go_simp
    with_reducible rfl
   rotate_left
   ·refine pt ?_
    rfl
   refine one_ (i := 9) (N := some 22) (fl 19 10) rfl rfl (one_of HT_.out (by kernel_rfl)) (by decide) (fun K hK => ?_)
   refine goes_ Try.func64 (by kernel_rfl) rfl #[] (by rfl) rfl rfl ga ?_
   with_reducible refine (cand_start.calls  t113 t114 _ A16.out).mono ?_
   rintro e w25 ⟨rfl, hb⟩
   refine ⟨_, rfl, ?_⟩
   have n0_ := Aside0.mk (blk_below (g := gb110) (o := .cells #[.slice A0_0 l0_0.length c0_0, .slice A0_1 l0_1.length c0_1] 42 (0, 0)) (bk BK110.out) hb)
   have n1_ := Aside0.mk (blk_below (g := gb112) (o := .cells #[.int .i64 ((rd_T75 l1 x9_1).f0), .int .i64 ((rd_T75 l1 x9_1).f1), .int .i64 ((rd_T75 l1 x9_1).f2.f0), .int .i64 ((rd_T75 l1 x9_1).f2.f1), .bool true, .bool false] 75 (0, 0)) (bk BK112.out) hb)
   have n2_ := Aside0.mk (below_step bl hb)
   clear BK110
   clear BK112
   clear HB
   have BK110 := n0_
   have BK112 := n1_
   have HB := n2_
   clear n0_ n1_ n2_
   (try clear hb)
   (try clear hb2)
   (try clear hk)
   (try clear hi)
   refine hK.out _ _ ⟨(blk_cell BK112.out 0).trans rfl, (blk_cell BK112.out 1).trans rfl, (blk_cell BK112.out 2).trans rfl, (blk_cell BK112.out 3).trans rfl, (blk_cell BK112.out 4).trans rfl, (blk_cell BK112.out 5).trans rfl, (blk_cell BK110.out 0).trans rfl, (blk_cell BK110.out 1).trans rfl⟩ (fun hHeld => ?_)
   clear hK K
   refine norm_ (a' := ?_) ?_ ?_
   rotate_left
   ·show Act.put _ (some 22) _ = _
    refine pt ?_
    rfl
   refine pq 10 (some 23) ?_ (fl 19 11) HT_.out rfl rfl ?_ ?_ ?_ ?_
   rotate_left
   ·intro w'
    go_simp
    with_reducible rfl
   rotate_left
   ·refine pt ?_
    rfl
   refine pq 11 (some 24) ?_ (fl 19 12) HT_.out rfl rfl ?_ ?_ ?_ ?_
   rotate_left
   ·intro w'
    go_simp
    with_reducible rfl
   rotate_left
   ·refine pt ?_
    rfl
   refine pq 13 (some 26) ?_ #[true, true, true, true, true, true, true, true, true, true, true, true, false, true, false, false, false, false, false] HT_.out rfl rfl ?_ ?_ ?_ ?_
   rotate_left
   ·intro w'
    go_simp
    with_reducible rfl
   rotate_left
   ·refine pt ?_
    rfl
   refine pk 12 (some 25) ?_ (fl 19 14) HT_.out HW_.out rfl rfl ?_ hHeld ?_ ?_ ?_
   rotate_left
   ·rintro w' ⟨s0, s1, s2, s3, s4, s5, s6, s7⟩
    go_simp
    with_reducible rfl
   rotate_left
   ·refine pt ?_
    rfl
   refine pk 14 (some 27) ?_ (fl 19 15) HT_.out HW_.out rfl rfl ?_ hHeld ?_ ?_ ?_
   rotate_left
   ·rintro w' ⟨s0, s1, s2, s3, s4, s5, s6, s7⟩
    go_simp
    with_reducible rfl
   rotate_left
   ·refine pt ?_
    rfl
   refine one_ (i := 15) (N := some 28) (fl 19 16) rfl rfl (one_of HT_.out (by kernel_rfl)) (by decide) (fun K hK => ?_)
   refine goes_ Try.func65 (by kernel_rfl) rfl #[.agg #[.slice A0_0 l0_0.length c0_0, .slice A0_1 l0_1.length c0_1], .agg #[.int .i64 ((rd_T75 l1 x9_1).f2.f0), .int .i64 ((rd_T75 l1 x9_1).f2.f1)]] (by rfl) rfl rfl ga ?_
   with_reducible refine (cand_there.calls _ _ l0_0 _ _ l0_1 ((rd_T75 l1 x9_1).f2.f0) ((rd_T75 l1 x9_1).f2.f1) true _ ?side1 ?side2 ?side3 ?side4 A18.out).mono ?_
   (case side1 => repeat (first | exact (Kd.C_below HR0_0.out HB.out) | (with_reducible refine Kd.C_alloc ?_ _) | (with_reducible refine Kd.C_drewN ?_ _) | (with_reducible refine Kd.C_drew ?_)))
   (case side2 => exact HC0_0.out)
   (case side3 => repeat (first | exact (Kd.C_below HR0_1.out HB.out) | (with_reducible refine Kd.C_alloc ?_ _) | (with_reducible refine Kd.C_drewN ?_ _) | (with_reducible refine Kd.C_drew ?_)))
   (case side4 => exact HC0_1.out)
   rintro e w26 ⟨rfl, hb⟩
   refine ⟨_, rfl, ?_⟩
   have n0_ := Aside0.mk (blk_below (g := gb110) (o := .cells #[.slice A0_0 l0_0.length c0_0, .slice A0_1 l0_1.length c0_1] 42 (0, 0)) (bk BK110.out) hb)
   have n1_ := Aside0.mk (blk_below (g := gb112) (o := .cells #[.int .i64 ((rd_T75 l1 x9_1).f0), .int .i64 ((rd_T75 l1 x9_1).f1), .int .i64 ((rd_T75 l1 x9_1).f2.f0), .int .i64 ((rd_T75 l1 x9_1).f2.f1), .bool true, .bool false] 75 (0, 0)) (bk BK112.out) hb)
   have n2_ := Aside0.mk (below_step bl hb)
   clear BK110
   clear BK112
   clear HB
   have BK110 := n0_
   have BK112 := n1_
   have HB := n2_
   clear n0_ n1_ n2_
   (try clear hb)
   (try clear hb2)
   (try clear hk)
   (try clear hi)
   refine hK.out _ _ ⟨(blk_cell BK112.out 0).trans rfl, (blk_cell BK112.out 1).trans rfl, (blk_cell BK112.out 2).trans rfl, (blk_cell BK112.out 3).trans rfl, (blk_cell BK112.out 4).trans rfl, (blk_cell BK112.out 5).trans rfl, (blk_cell BK110.out 0).trans rfl, (blk_cell BK110.out 1).trans rfl⟩ (fun hHeld => ?_)
   clear hK K
   refine norm_ (a' := ?_) ?_ ?_
   rotate_left
   ·show Act.put _ (some 28) _ = _
    refine pt ?_
    rfl
   refine pq 16 (some 29) ?_ (fl 19 17) HT_.out rfl rfl ?_ ?_ ?_ ?_
   rotate_left
   ·intro w'
    go_simp
    with_reducible rfl
   rotate_left
   ·refine pt ?_
    rfl
   refine pq 17 (some 30) ?_ (fl 19 18) HT_.out rfl rfl ?_ ?_ ?_ ?_
   rotate_left
   ·intro w'
    go_simp
    with_reducible rfl
   rotate_left
   ·refine pt ?_
    rfl
   refine pq 18 (some 31) ?_ (fl 19 19) HT_.out rfl rfl ?_ ?_ ?_ ?_
   rotate_left
   ·intro w'
    go_simp
    with_reducible rfl
   rotate_left
   ·refine pt ?_
    rfl
   refine done_ (done_of HT_.out (by kernel_rfl)) ?_
   try go_wp2
   go_roundg k1
   case measure => have := HK1.out; omega
   case rel => exact ⟨(wrap64 (x9_1 + 1)), fj, H', ⟨by have := HK1.out; omega⟩, ⟨by refine bx ?_; exact BK110.out⟩, ⟨bl⟩⟩

end Go.Proofs.Ytfpphaflbmlpeaa.GCandChecks
