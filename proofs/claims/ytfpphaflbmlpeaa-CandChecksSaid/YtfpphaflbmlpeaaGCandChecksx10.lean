-- Written by wip/stub.py of this repo.
import Derived.Test.YtfpphaflbmlpeaaGCandChecksx0
import Derived.Test.YtfpphaflbmlpeaaGCandChecksx1
namespace Go.Proofs.Ytfpphaflbmlpeaa.GCandChecks
open Go.RowKit Go.Proofs.YtfpphaflbmlpeaaW.PrintWords Go.Proofs.YtfpphaflbmlpeaaW.PrintLast Go.Proofs.YtfpphaflbmlpeaaW.PrintMore
attribute [local go_sem] max2_int min2_int max_two min_two max_three min_three max_four min_four   -- for this text's walks alone
set_option linter.unusedVariables false
set_option linter.unusedSimpArgs false

attribute [local go_sem high] eqA73
/-! ### spinnakerref13_There: function 46 -/
def spinnakerref13_There.f (l0_0 : List (List (S75))) (l0_1 : List (S70)) (a1_0 : Int) (a1_1 : Int) : Option (Bool) := if a1_0 < 0 then (some false) else (if a1_0 ≥ (l0_0.length : Int) then (some false) else (if a1_1 ≥ 0 then (if 0 ≤ a1_0 then (if a1_0 < (l0_0.length : Int) then (some (decide (a1_1 < ((rd_L5 l0_0 a1_0).length : Int)))) else (none)) else (none)) else (some false)))
set_option maxHeartbeats 8000000 in
set_option maxRecDepth 100000 in
theorem spinnakerref13_There.calls (A0_0 : Option Addr) (c0_0 : Nat) (l0_0 : List (List (S75))) (A0_1 : Option Addr) (c0_1 : Nat) (l0_1 : List (S70)) (a1_0 : Int) (a1_1 : Int) (r : Bool) (w : World) (hr0_0 : Kd.C (Kd.slice 75 k75) w A0_0 l0_0.length l0_0) (hc0_0 : l0_0.length ≤ c0_0) (hr0_1 : Kd.C k70 w A0_1 l0_1.length l0_1) (hc0_1 : l0_1.length ≤ c0_1) (h : spinnakerref13_There.f l0_0 l0_1 a1_0 a1_1 = some r) :
  Calls Try.prog 46 #[.agg #[.slice A0_0 l0_0.length c0_0, .slice A0_1 l0_1.length c0_1], .agg #[.int .i64 a1_0, .int .i64 a1_1]] w fun e w' => e = .returned (.bool r) ∧ Below w.heap.size w w' := by
 have hu42 := Try.underlying42
 have hu73 := Try.underlying73
 have HR0_0 := Aside0.mk hr0_0
 have HC0_0 := Aside0.mk hc0_0
 clear hr0_0 hc0_0
 have HR0_1 := Aside0.mk hr0_1
 have HC0_1 := Aside0.mk hc0_1
 clear hr0_1 hc0_1
 have HB := Aside0.mk (Below.refl w.heap.size w)
 have H : (if a1_0 < 0 then (some false) else (if a1_0 ≥ (l0_0.length : Int) then (some false) else (if a1_1 ≥ 0 then (if 0 ≤ a1_0 then (if a1_0 < (l0_0.length : Int) then (some (decide (a1_1 < ((rd_L5 l0_0 a1_0).length : Int)))) else (none)) else (none)) else (some false)))) = some r := h
 clear h
 by_cases c3 : a1_0 < 0
 ·rw [if_pos c3] at H
  have c3b0 := decide_eq_true c3
  clear c3
  obtain rfl := Option.some.inj H
  go_enter Try.func46, Try.ntmps46
  go_wp2_with (first | ((with_reducible refine gate_dst (N := 2) rfl ?_); (try (refine gate_guard (by rfl) ?_; dsimp only)); refine bv 2 #[.slice A0_0 l0_0.length c0_0, .slice A0_1 l0_1.length c0_1] 42 ?_; intro gb244 hg w4 hbox hb; obtain ⟨n0_, GW244⟩ := nb (w := w) hg hb; clear HB; have HB := n0_; have BK244 := Aside0.mk hbox; have GE244 := GW244; clear n0_ hb hbox hg) | ((with_reducible refine gate_dst (N := 3) rfl ?_); (try (refine gate_guard (by rfl) ?_; dsimp only)); refine bv 3 #[.int .i64 a1_0, .int .i64 a1_1] 73 ?_; intro gb245 hg w5 hbox hb; have n0_ := Aside0.mk (blk_below (g := gb244) (o := .cells #[.slice A0_0 l0_0.length c0_0, .slice A0_1 l0_1.length c0_1] 42 (0, 0)) (bk BK244.out) hb); have n1_ := Aside0.mk (below_step bl hb); have n2_ := Aside0.mk (hbox); have n3_ := Aside0.mk ((by rw [hg]; exact (below_size bl) : w.heap.size ≤ gb245)); have n4_ := Aside0.mk ((by rw [hg]; exact (below_size bl) : w.heap.size ≤ gb245)); have n5_ := Aside0.mk ((nl hg (bk BK244.out) : gb244 ≠ gb245)); have n6_ := Aside0.mk ((ng hg (bk BK244.out) : gb245 ≠ gb244)); clear BK244; clear HB; have BK244 := n0_; have HB := n1_; have BK245 := n2_; have GW245 := n3_; have GE245 := n4_; have NB244_245 := n5_; have NB245_244 := n6_; clear n0_ n1_ n2_ n3_ n4_ n5_ n6_; clear hb hbox hg; have hnb6 := NB245_244.out; have hnc6 := NB244_245.out; obtain ⟨hcz7_0, hcz7_1, hfz7_0, hfz7_1⟩ := cz2 (w := w5) BK245.out))
  repeat (go_quiet (first | ((with_reducible refine gate_dst (N := 2) rfl ?_); (try (refine gate_guard (by rfl) ?_; dsimp only)); refine bv 2 #[.slice A0_0 l0_0.length c0_0, .slice A0_1 l0_1.length c0_1] 42 ?_; intro gb244 hg w4 hbox hb; obtain ⟨n0_, GW244⟩ := nb (w := w) hg hb; clear HB; have HB := n0_; have BK244 := Aside0.mk hbox; have GE244 := GW244; clear n0_ hb hbox hg) | ((with_reducible refine gate_dst (N := 3) rfl ?_); (try (refine gate_guard (by rfl) ?_; dsimp only)); refine bv 3 #[.int .i64 a1_0, .int .i64 a1_1] 73 ?_; intro gb245 hg w5 hbox hb; have n0_ := Aside0.mk (blk_below (g := gb244) (o := .cells #[.slice A0_0 l0_0.length c0_0, .slice A0_1 l0_1.length c0_1] 42 (0, 0)) (bk BK244.out) hb); have n1_ := Aside0.mk (below_step bl hb); have n2_ := Aside0.mk (hbox); have n3_ := Aside0.mk ((by rw [hg]; exact (below_size bl) : w.heap.size ≤ gb245)); have n4_ := Aside0.mk ((by rw [hg]; exact (below_size bl) : w.heap.size ≤ gb245)); have n5_ := Aside0.mk ((nl hg (bk BK244.out) : gb244 ≠ gb245)); have n6_ := Aside0.mk ((ng hg (bk BK244.out) : gb245 ≠ gb244)); clear BK244; clear HB; have BK244 := n0_; have HB := n1_; have BK245 := n2_; have GW245 := n3_; have GE245 := n4_; have NB244_245 := n5_; have NB245_244 := n6_; clear n0_ n1_ n2_ n3_ n4_ n5_ n6_; clear hb hbox hg; have hnb6 := NB245_244.out; have hnc6 := NB244_245.out; obtain ⟨hcz7_0, hcz7_1, hfz7_0, hfz7_1⟩ := cz2 (w := w5) BK245.out)); try go_wp2_with (first | ((with_reducible refine gate_dst (N := 2) rfl ?_); (try (refine gate_guard (by rfl) ?_; dsimp only)); refine bv 2 #[.slice A0_0 l0_0.length c0_0, .slice A0_1 l0_1.length c0_1] 42 ?_; intro gb244 hg w4 hbox hb; obtain ⟨n0_, GW244⟩ := nb (w := w) hg hb; clear HB; have HB := n0_; have BK244 := Aside0.mk hbox; have GE244 := GW244; clear n0_ hb hbox hg) | ((with_reducible refine gate_dst (N := 3) rfl ?_); (try (refine gate_guard (by rfl) ?_; dsimp only)); refine bv 3 #[.int .i64 a1_0, .int .i64 a1_1] 73 ?_; intro gb245 hg w5 hbox hb; have n0_ := Aside0.mk (blk_below (g := gb244) (o := .cells #[.slice A0_0 l0_0.length c0_0, .slice A0_1 l0_1.length c0_1] 42 (0, 0)) (bk BK244.out) hb); have n1_ := Aside0.mk (below_step bl hb); have n2_ := Aside0.mk (hbox); have n3_ := Aside0.mk ((by rw [hg]; exact (below_size bl) : w.heap.size ≤ gb245)); have n4_ := Aside0.mk ((by rw [hg]; exact (below_size bl) : w.heap.size ≤ gb245)); have n5_ := Aside0.mk ((nl hg (bk BK244.out) : gb244 ≠ gb245)); have n6_ := Aside0.mk ((ng hg (bk BK244.out) : gb245 ≠ gb244)); clear BK244; clear HB; have BK244 := n0_; have HB := n1_; have BK245 := n2_; have GW245 := n3_; have GE245 := n4_; have NB244_245 := n5_; have NB245_244 := n6_; clear n0_ n1_ n2_ n3_ n4_ n5_ n6_; clear hb hbox hg; have hnb6 := NB245_244.out; have hnc6 := NB244_245.out; obtain ⟨hcz7_0, hcz7_1, hfz7_0, hfz7_1⟩ := cz2 (w := w5) BK245.out)))
  go_ret
  exact ⟨fi, bl⟩
 rw [if_neg c3] at H
 have c3b0 := decide_eq_false c3
 clear c3
 by_cases c8 : a1_0 ≥ (l0_0.length : Int)
 ·rw [if_pos c8] at H
  have c8b0 := decide_eq_true c8
  clear c8
  obtain rfl := Option.some.inj H
  go_enter Try.func46, Try.ntmps46
  go_wp2_with (first | ((with_reducible refine gate_dst (N := 2) rfl ?_); (try (refine gate_guard (by rfl) ?_; dsimp only)); refine bv 2 #[.slice A0_0 l0_0.length c0_0, .slice A0_1 l0_1.length c0_1] 42 ?_; intro gb244 hg w9 hbox hb; obtain ⟨n0_, GW244⟩ := nb (w := w) hg hb; clear HB; have HB := n0_; have BK244 := Aside0.mk hbox; have GE244 := GW244; clear n0_ hb hbox hg) | ((with_reducible refine gate_dst (N := 3) rfl ?_); (try (refine gate_guard (by rfl) ?_; dsimp only)); refine bv 3 #[.int .i64 a1_0, .int .i64 a1_1] 73 ?_; intro gb245 hg w10 hbox hb; have n0_ := Aside0.mk (blk_below (g := gb244) (o := .cells #[.slice A0_0 l0_0.length c0_0, .slice A0_1 l0_1.length c0_1] 42 (0, 0)) (bk BK244.out) hb); have n1_ := Aside0.mk (below_step bl hb); have n2_ := Aside0.mk (hbox); have n3_ := Aside0.mk ((by rw [hg]; exact (below_size bl) : w.heap.size ≤ gb245)); have n4_ := Aside0.mk ((by rw [hg]; exact (below_size bl) : w.heap.size ≤ gb245)); have n5_ := Aside0.mk ((nl hg (bk BK244.out) : gb244 ≠ gb245)); have n6_ := Aside0.mk ((ng hg (bk BK244.out) : gb245 ≠ gb244)); clear BK244; clear HB; have BK244 := n0_; have HB := n1_; have BK245 := n2_; have GW245 := n3_; have GE245 := n4_; have NB244_245 := n5_; have NB245_244 := n6_; clear n0_ n1_ n2_ n3_ n4_ n5_ n6_; clear hb hbox hg; have hnb11 := NB245_244.out; have hnc11 := NB244_245.out; obtain ⟨hcz12_0, hcz12_1, hfz12_0, hfz12_1⟩ := cz2 (w := w10) BK245.out; obtain ⟨hcz13_0, hcz13_1, hfz13_0, hfz13_1⟩ := cz2 (w := w10) BK244.out))
  repeat (go_quiet (first | ((with_reducible refine gate_dst (N := 2) rfl ?_); (try (refine gate_guard (by rfl) ?_; dsimp only)); refine bv 2 #[.slice A0_0 l0_0.length c0_0, .slice A0_1 l0_1.length c0_1] 42 ?_; intro gb244 hg w9 hbox hb; obtain ⟨n0_, GW244⟩ := nb (w := w) hg hb; clear HB; have HB := n0_; have BK244 := Aside0.mk hbox; have GE244 := GW244; clear n0_ hb hbox hg) | ((with_reducible refine gate_dst (N := 3) rfl ?_); (try (refine gate_guard (by rfl) ?_; dsimp only)); refine bv 3 #[.int .i64 a1_0, .int .i64 a1_1] 73 ?_; intro gb245 hg w10 hbox hb; have n0_ := Aside0.mk (blk_below (g := gb244) (o := .cells #[.slice A0_0 l0_0.length c0_0, .slice A0_1 l0_1.length c0_1] 42 (0, 0)) (bk BK244.out) hb); have n1_ := Aside0.mk (below_step bl hb); have n2_ := Aside0.mk (hbox); have n3_ := Aside0.mk ((by rw [hg]; exact (below_size bl) : w.heap.size ≤ gb245)); have n4_ := Aside0.mk ((by rw [hg]; exact (below_size bl) : w.heap.size ≤ gb245)); have n5_ := Aside0.mk ((nl hg (bk BK244.out) : gb244 ≠ gb245)); have n6_ := Aside0.mk ((ng hg (bk BK244.out) : gb245 ≠ gb244)); clear BK244; clear HB; have BK244 := n0_; have HB := n1_; have BK245 := n2_; have GW245 := n3_; have GE245 := n4_; have NB244_245 := n5_; have NB245_244 := n6_; clear n0_ n1_ n2_ n3_ n4_ n5_ n6_; clear hb hbox hg; have hnb11 := NB245_244.out; have hnc11 := NB244_245.out; obtain ⟨hcz12_0, hcz12_1, hfz12_0, hfz12_1⟩ := cz2 (w := w10) BK245.out; obtain ⟨hcz13_0, hcz13_1, hfz13_0, hfz13_1⟩ := cz2 (w := w10) BK244.out)); try go_wp2_with (first | ((with_reducible refine gate_dst (N := 2) rfl ?_); (try (refine gate_guard (by rfl) ?_; dsimp only)); refine bv 2 #[.slice A0_0 l0_0.length c0_0, .slice A0_1 l0_1.length c0_1] 42 ?_; intro gb244 hg w9 hbox hb; obtain ⟨n0_, GW244⟩ := nb (w := w) hg hb; clear HB; have HB := n0_; have BK244 := Aside0.mk hbox; have GE244 := GW244; clear n0_ hb hbox hg) | ((with_reducible refine gate_dst (N := 3) rfl ?_); (try (refine gate_guard (by rfl) ?_; dsimp only)); refine bv 3 #[.int .i64 a1_0, .int .i64 a1_1] 73 ?_; intro gb245 hg w10 hbox hb; have n0_ := Aside0.mk (blk_below (g := gb244) (o := .cells #[.slice A0_0 l0_0.length c0_0, .slice A0_1 l0_1.length c0_1] 42 (0, 0)) (bk BK244.out) hb); have n1_ := Aside0.mk (below_step bl hb); have n2_ := Aside0.mk (hbox); have n3_ := Aside0.mk ((by rw [hg]; exact (below_size bl) : w.heap.size ≤ gb245)); have n4_ := Aside0.mk ((by rw [hg]; exact (below_size bl) : w.heap.size ≤ gb245)); have n5_ := Aside0.mk ((nl hg (bk BK244.out) : gb244 ≠ gb245)); have n6_ := Aside0.mk ((ng hg (bk BK244.out) : gb245 ≠ gb244)); clear BK244; clear HB; have BK244 := n0_; have HB := n1_; have BK245 := n2_; have GW245 := n3_; have GE245 := n4_; have NB244_245 := n5_; have NB245_244 := n6_; clear n0_ n1_ n2_ n3_ n4_ n5_ n6_; clear hb hbox hg; have hnb11 := NB245_244.out; have hnc11 := NB244_245.out; obtain ⟨hcz12_0, hcz12_1, hfz12_0, hfz12_1⟩ := cz2 (w := w10) BK245.out; obtain ⟨hcz13_0, hcz13_1, hfz13_0, hfz13_1⟩ := cz2 (w := w10) BK244.out)))
  go_ret
  exact ⟨fi, bl⟩
 rw [if_neg c8] at H
 have c8b0 := decide_eq_false c8
 clear c8
 by_cases c14 : a1_1 ≥ 0
 rotate_left
 ·rw [if_neg c14] at H
  have c14b0 := decide_eq_false c14
  clear c14
  obtain rfl := Option.some.inj H
  go_enter Try.func46, Try.ntmps46
  go_wp2_with (first | ((with_reducible refine gate_dst (N := 2) rfl ?_); (try (refine gate_guard (by rfl) ?_; dsimp only)); refine bv 2 #[.slice A0_0 l0_0.length c0_0, .slice A0_1 l0_1.length c0_1] 42 ?_; intro gb244 hg w22 hbox hb; obtain ⟨n0_, GW244⟩ := nb (w := w) hg hb; clear HB; have HB := n0_; have BK244 := Aside0.mk hbox; have GE244 := GW244; clear n0_ hb hbox hg) | ((with_reducible refine gate_dst (N := 3) rfl ?_); (try (refine gate_guard (by rfl) ?_; dsimp only)); refine bv 3 #[.int .i64 a1_0, .int .i64 a1_1] 73 ?_; intro gb245 hg w23 hbox hb; have n0_ := Aside0.mk (blk_below (g := gb244) (o := .cells #[.slice A0_0 l0_0.length c0_0, .slice A0_1 l0_1.length c0_1] 42 (0, 0)) (bk BK244.out) hb); have n1_ := Aside0.mk (below_step bl hb); have n2_ := Aside0.mk (hbox); have n3_ := Aside0.mk ((by rw [hg]; exact (below_size bl) : w.heap.size ≤ gb245)); have n4_ := Aside0.mk ((by rw [hg]; exact (below_size bl) : w.heap.size ≤ gb245)); have n5_ := Aside0.mk ((nl hg (bk BK244.out) : gb244 ≠ gb245)); have n6_ := Aside0.mk ((ng hg (bk BK244.out) : gb245 ≠ gb244)); clear BK244; clear HB; have BK244 := n0_; have HB := n1_; have BK245 := n2_; have GW245 := n3_; have GE245 := n4_; have NB244_245 := n5_; have NB245_244 := n6_; clear n0_ n1_ n2_ n3_ n4_ n5_ n6_; clear hb hbox hg; have hnb24 := NB245_244.out; have hnc24 := NB244_245.out; obtain ⟨hcz25_0, hcz25_1, hfz25_0, hfz25_1⟩ := cz2 (w := w23) BK245.out; obtain ⟨hcz26_0, hcz26_1, hfz26_0, hfz26_1⟩ := cz2 (w := w23) BK244.out))
  repeat (go_quiet (first | ((with_reducible refine gate_dst (N := 2) rfl ?_); (try (refine gate_guard (by rfl) ?_; dsimp only)); refine bv 2 #[.slice A0_0 l0_0.length c0_0, .slice A0_1 l0_1.length c0_1] 42 ?_; intro gb244 hg w22 hbox hb; obtain ⟨n0_, GW244⟩ := nb (w := w) hg hb; clear HB; have HB := n0_; have BK244 := Aside0.mk hbox; have GE244 := GW244; clear n0_ hb hbox hg) | ((with_reducible refine gate_dst (N := 3) rfl ?_); (try (refine gate_guard (by rfl) ?_; dsimp only)); refine bv 3 #[.int .i64 a1_0, .int .i64 a1_1] 73 ?_; intro gb245 hg w23 hbox hb; have n0_ := Aside0.mk (blk_below (g := gb244) (o := .cells #[.slice A0_0 l0_0.length c0_0, .slice A0_1 l0_1.length c0_1] 42 (0, 0)) (bk BK244.out) hb); have n1_ := Aside0.mk (below_step bl hb); have n2_ := Aside0.mk (hbox); have n3_ := Aside0.mk ((by rw [hg]; exact (below_size bl) : w.heap.size ≤ gb245)); have n4_ := Aside0.mk ((by rw [hg]; exact (below_size bl) : w.heap.size ≤ gb245)); have n5_ := Aside0.mk ((nl hg (bk BK244.out) : gb244 ≠ gb245)); have n6_ := Aside0.mk ((ng hg (bk BK244.out) : gb245 ≠ gb244)); clear BK244; clear HB; have BK244 := n0_; have HB := n1_; have BK245 := n2_; have GW245 := n3_; have GE245 := n4_; have NB244_245 := n5_; have NB245_244 := n6_; clear n0_ n1_ n2_ n3_ n4_ n5_ n6_; clear hb hbox hg; have hnb24 := NB245_244.out; have hnc24 := NB244_245.out; obtain ⟨hcz25_0, hcz25_1, hfz25_0, hfz25_1⟩ := cz2 (w := w23) BK245.out; obtain ⟨hcz26_0, hcz26_1, hfz26_0, hfz26_1⟩ := cz2 (w := w23) BK244.out)); try go_wp2_with (first | ((with_reducible refine gate_dst (N := 2) rfl ?_); (try (refine gate_guard (by rfl) ?_; dsimp only)); refine bv 2 #[.slice A0_0 l0_0.length c0_0, .slice A0_1 l0_1.length c0_1] 42 ?_; intro gb244 hg w22 hbox hb; obtain ⟨n0_, GW244⟩ := nb (w := w) hg hb; clear HB; have HB := n0_; have BK244 := Aside0.mk hbox; have GE244 := GW244; clear n0_ hb hbox hg) | ((with_reducible refine gate_dst (N := 3) rfl ?_); (try (refine gate_guard (by rfl) ?_; dsimp only)); refine bv 3 #[.int .i64 a1_0, .int .i64 a1_1] 73 ?_; intro gb245 hg w23 hbox hb; have n0_ := Aside0.mk (blk_below (g := gb244) (o := .cells #[.slice A0_0 l0_0.length c0_0, .slice A0_1 l0_1.length c0_1] 42 (0, 0)) (bk BK244.out) hb); have n1_ := Aside0.mk (below_step bl hb); have n2_ := Aside0.mk (hbox); have n3_ := Aside0.mk ((by rw [hg]; exact (below_size bl) : w.heap.size ≤ gb245)); have n4_ := Aside0.mk ((by rw [hg]; exact (below_size bl) : w.heap.size ≤ gb245)); have n5_ := Aside0.mk ((nl hg (bk BK244.out) : gb244 ≠ gb245)); have n6_ := Aside0.mk ((ng hg (bk BK244.out) : gb245 ≠ gb244)); clear BK244; clear HB; have BK244 := n0_; have HB := n1_; have BK245 := n2_; have GW245 := n3_; have GE245 := n4_; have NB244_245 := n5_; have NB245_244 := n6_; clear n0_ n1_ n2_ n3_ n4_ n5_ n6_; clear hb hbox hg; have hnb24 := NB245_244.out; have hnc24 := NB244_245.out; obtain ⟨hcz25_0, hcz25_1, hfz25_0, hfz25_1⟩ := cz2 (w := w23) BK245.out; obtain ⟨hcz26_0, hcz26_1, hfz26_0, hfz26_1⟩ := cz2 (w := w23) BK244.out)))
  go_ret
  exact ⟨fi, bl⟩
 rw [if_pos c14] at H
 have c14b0 := decide_eq_true c14
 clear c14
 by_cases c15 : 0 ≤ a1_0
 rotate_left
 ·rw [if_neg c15] at H
  exact absurd H (by simp)
 rw [if_pos c15] at H
 have c15b0 := decide_eq_true c15
 clear c15
 by_cases c16 : a1_0 < (l0_0.length : Int)
 rotate_left
 ·rw [if_neg c16] at H
  exact absurd H (by simp)
 rw [if_pos c16] at H
 have c16b0 := decide_eq_true c16
 clear c16
 obtain rfl := Option.some.inj H
 go_enter Try.func46, Try.ntmps46
 go_wp2_with (first | ((with_reducible refine gate_dst (N := 2) rfl ?_); (try (refine gate_guard (by rfl) ?_; dsimp only)); refine bv 2 #[.slice A0_0 l0_0.length c0_0, .slice A0_1 l0_1.length c0_1] 42 ?_; intro gb244 hg w17 hbox hb; obtain ⟨n0_, GW244⟩ := nb (w := w) hg hb; clear HB; have HB := n0_; have BK244 := Aside0.mk hbox; have GE244 := GW244; clear n0_ hb hbox hg) | ((with_reducible refine gate_dst (N := 3) rfl ?_); (try (refine gate_guard (by rfl) ?_; dsimp only)); refine bv 3 #[.int .i64 a1_0, .int .i64 a1_1] 73 ?_; intro gb245 hg w18 hbox hb; have n0_ := Aside0.mk (blk_below (g := gb244) (o := .cells #[.slice A0_0 l0_0.length c0_0, .slice A0_1 l0_1.length c0_1] 42 (0, 0)) (bk BK244.out) hb); have n1_ := Aside0.mk (below_step bl hb); have n2_ := Aside0.mk (hbox); have n3_ := Aside0.mk ((by rw [hg]; exact (below_size bl) : w.heap.size ≤ gb245)); have n4_ := Aside0.mk ((by rw [hg]; exact (below_size bl) : w.heap.size ≤ gb245)); have n5_ := Aside0.mk ((nl hg (bk BK244.out) : gb244 ≠ gb245)); have n6_ := Aside0.mk ((ng hg (bk BK244.out) : gb245 ≠ gb244)); clear BK244; clear HB; have BK244 := n0_; have HB := n1_; have BK245 := n2_; have GW245 := n3_; have GE245 := n4_; have NB244_245 := n5_; have NB245_244 := n6_; clear n0_ n1_ n2_ n3_ n4_ n5_ n6_; clear hb hbox hg; have hnb19 := NB245_244.out; have hnc19 := NB244_245.out; obtain ⟨hcz20_0, hcz20_1, hfz20_0, hfz20_1⟩ := cz2 (w := w18) BK245.out; obtain ⟨hcz21_0, hcz21_1, hfz21_0, hfz21_1⟩ := cz2 (w := w18) BK244.out; have p246 : 0 ≤ (a1_0 : Int) := od; have q246 : a1_0 < (l0_0.length : Int) := od; obtain ⟨ad246, A246_0, c246_0, e246, hx246_0, hl246_0, hi246_0⟩ := at_L5 HR0_0.out a1_0 p246 q246; cases e246; replace hx246_0 := cb HB.out hx246_0; have HR246_0 := Aside0.mk hi246_0; have HC246_0 := Aside0.mk hl246_0; clear hi246_0 hl246_0; replace p246 := eq_true p246; replace q246 := eq_true q246))
 repeat (go_quiet (first | ((with_reducible refine gate_dst (N := 2) rfl ?_); (try (refine gate_guard (by rfl) ?_; dsimp only)); refine bv 2 #[.slice A0_0 l0_0.length c0_0, .slice A0_1 l0_1.length c0_1] 42 ?_; intro gb244 hg w17 hbox hb; obtain ⟨n0_, GW244⟩ := nb (w := w) hg hb; clear HB; have HB := n0_; have BK244 := Aside0.mk hbox; have GE244 := GW244; clear n0_ hb hbox hg) | ((with_reducible refine gate_dst (N := 3) rfl ?_); (try (refine gate_guard (by rfl) ?_; dsimp only)); refine bv 3 #[.int .i64 a1_0, .int .i64 a1_1] 73 ?_; intro gb245 hg w18 hbox hb; have n0_ := Aside0.mk (blk_below (g := gb244) (o := .cells #[.slice A0_0 l0_0.length c0_0, .slice A0_1 l0_1.length c0_1] 42 (0, 0)) (bk BK244.out) hb); have n1_ := Aside0.mk (below_step bl hb); have n2_ := Aside0.mk (hbox); have n3_ := Aside0.mk ((by rw [hg]; exact (below_size bl) : w.heap.size ≤ gb245)); have n4_ := Aside0.mk ((by rw [hg]; exact (below_size bl) : w.heap.size ≤ gb245)); have n5_ := Aside0.mk ((nl hg (bk BK244.out) : gb244 ≠ gb245)); have n6_ := Aside0.mk ((ng hg (bk BK244.out) : gb245 ≠ gb244)); clear BK244; clear HB; have BK244 := n0_; have HB := n1_; have BK245 := n2_; have GW245 := n3_; have GE245 := n4_; have NB244_245 := n5_; have NB245_244 := n6_; clear n0_ n1_ n2_ n3_ n4_ n5_ n6_; clear hb hbox hg; have hnb19 := NB245_244.out; have hnc19 := NB244_245.out; obtain ⟨hcz20_0, hcz20_1, hfz20_0, hfz20_1⟩ := cz2 (w := w18) BK245.out; obtain ⟨hcz21_0, hcz21_1, hfz21_0, hfz21_1⟩ := cz2 (w := w18) BK244.out; have p246 : 0 ≤ (a1_0 : Int) := od; have q246 : a1_0 < (l0_0.length : Int) := od; obtain ⟨ad246, A246_0, c246_0, e246, hx246_0, hl246_0, hi246_0⟩ := at_L5 HR0_0.out a1_0 p246 q246; cases e246; replace hx246_0 := cb HB.out hx246_0; have HR246_0 := Aside0.mk hi246_0; have HC246_0 := Aside0.mk hl246_0; clear hi246_0 hl246_0; replace p246 := eq_true p246; replace q246 := eq_true q246)); try go_wp2_with (first | ((with_reducible refine gate_dst (N := 2) rfl ?_); (try (refine gate_guard (by rfl) ?_; dsimp only)); refine bv 2 #[.slice A0_0 l0_0.length c0_0, .slice A0_1 l0_1.length c0_1] 42 ?_; intro gb244 hg w17 hbox hb; obtain ⟨n0_, GW244⟩ := nb (w := w) hg hb; clear HB; have HB := n0_; have BK244 := Aside0.mk hbox; have GE244 := GW244; clear n0_ hb hbox hg) | ((with_reducible refine gate_dst (N := 3) rfl ?_); (try (refine gate_guard (by rfl) ?_; dsimp only)); refine bv 3 #[.int .i64 a1_0, .int .i64 a1_1] 73 ?_; intro gb245 hg w18 hbox hb; have n0_ := Aside0.mk (blk_below (g := gb244) (o := .cells #[.slice A0_0 l0_0.length c0_0, .slice A0_1 l0_1.length c0_1] 42 (0, 0)) (bk BK244.out) hb); have n1_ := Aside0.mk (below_step bl hb); have n2_ := Aside0.mk (hbox); have n3_ := Aside0.mk ((by rw [hg]; exact (below_size bl) : w.heap.size ≤ gb245)); have n4_ := Aside0.mk ((by rw [hg]; exact (below_size bl) : w.heap.size ≤ gb245)); have n5_ := Aside0.mk ((nl hg (bk BK244.out) : gb244 ≠ gb245)); have n6_ := Aside0.mk ((ng hg (bk BK244.out) : gb245 ≠ gb244)); clear BK244; clear HB; have BK244 := n0_; have HB := n1_; have BK245 := n2_; have GW245 := n3_; have GE245 := n4_; have NB244_245 := n5_; have NB245_244 := n6_; clear n0_ n1_ n2_ n3_ n4_ n5_ n6_; clear hb hbox hg; have hnb19 := NB245_244.out; have hnc19 := NB244_245.out; obtain ⟨hcz20_0, hcz20_1, hfz20_0, hfz20_1⟩ := cz2 (w := w18) BK245.out; obtain ⟨hcz21_0, hcz21_1, hfz21_0, hfz21_1⟩ := cz2 (w := w18) BK244.out; have p246 : 0 ≤ (a1_0 : Int) := od; have q246 : a1_0 < (l0_0.length : Int) := od; obtain ⟨ad246, A246_0, c246_0, e246, hx246_0, hl246_0, hi246_0⟩ := at_L5 HR0_0.out a1_0 p246 q246; cases e246; replace hx246_0 := cb HB.out hx246_0; have HR246_0 := Aside0.mk hi246_0; have HC246_0 := Aside0.mk hl246_0; clear hi246_0 hl246_0; replace p246 := eq_true p246; replace q246 := eq_true q246)))
 go_ret
 exact ⟨fi, bl⟩

/-! ### spinnakerref13_twice: function 47 -/
mutual
def spinnakerref13_twice.l0 : Nat → Int → Int → Int → List (List (S75)) → List (S70) → Int → Int → Option (Bool)
  | 0, _, _, _, _, _, _, _ => none
  | k + 1, x1, x2, x8, x248000, x248001, x251000, x251001 => if x8 ≤ x1 then (spinnakerref13_twice.l1 k x1 x2 x8 0 x248000 x248001 x251000 x251001) else (some false)
def spinnakerref13_twice.l1 : Nat → Int → Int → Int → Int → List (List (S75)) → List (S70) → Int → Int → Option (Bool)
  | 0, _, _, _, _, _, _, _, _ => none
  | k + 1, x1, x2, x8, x9, x248000, x248001, x251000, x251001 => if 0 ≤ x8 then (if x8 < (x248001.length : Int) then (if x9 < (((rd_T70 x248001 x8).f1).length : Int) then (if x8 < x1 then (if 0 ≤ x9 then (if (((rd_T73 ((rd_T70 x248001 x8).f1) x9).f0) == x251000 && (((rd_T73 ((rd_T70 x248001 x8).f1) x9).f1) == x251001)) = true then (some true) else (spinnakerref13_twice.l1 k x1 x2 x8 (wrap64 (x9 + 1)) x248000 x248001 x251000 x251001)) else (none)) else (if x9 < x2 then (if 0 ≤ x9 then (if (((rd_T73 ((rd_T70 x248001 x8).f1) x9).f0) == x251000 && (((rd_T73 ((rd_T70 x248001 x8).f1) x9).f1) == x251001)) = true then (some true) else (spinnakerref13_twice.l1 k x1 x2 x8 (wrap64 (x9 + 1)) x248000 x248001 x251000 x251001)) else (none)) else (spinnakerref13_twice.l1 k x1 x2 x8 (wrap64 (x9 + 1)) x248000 x248001 x251000 x251001))) else (spinnakerref13_twice.l0 k x1 x2 (wrap64 (x8 + 1)) x248000 x248001 x251000 x251001)) else (none)) else (none)
end
def spinnakerref13_twice.f (k : Nat) (l0_0 : List (List (S75))) (l0_1 : List (S70)) (a1 : Int) (a2 : Int) : Option (Bool) := if 0 ≤ a1 then (if a1 < (l0_1.length : Int) then (if 0 ≤ a2 then (if a2 < (((rd_T70 l0_1 a1).f1).length : Int) then (spinnakerref13_twice.l0 k a1 a2 0 l0_0 l0_1 ((rd_T73 ((rd_T70 l0_1 a1).f1) a2).f0) ((rd_T73 ((rd_T70 l0_1 a1).f1) a2).f1)) else (none)) else (none)) else (none)) else (none)
theorem spinnakerref13_twice.mono_l : ∀ k, (∀ y0 y1 y2 y3 y4 y5 y6, LeO (spinnakerref13_twice.l0 k y0 y1 y2 y3 y4 y5 y6) (spinnakerref13_twice.l0 (k + 1) y0 y1 y2 y3 y4 y5 y6)) ∧ (∀ y0 y1 y2 y3 y4 y5 y6 y7, LeO (spinnakerref13_twice.l1 k y0 y1 y2 y3 y4 y5 y6 y7) (spinnakerref13_twice.l1 (k + 1) y0 y1 y2 y3 y4 y5 y6 y7))
 | 0 => ⟨fun _ _ _ _ _ _ _ r h => by simp [spinnakerref13_twice.l0] at h, fun _ _ _ _ _ _ _ _ r h => by simp [spinnakerref13_twice.l1] at h⟩
 | k + 1 => by
  obtain ⟨ih0, ih1⟩ := spinnakerref13_twice.mono_l k
  refine ⟨?_, ?_⟩
  all_goals (intros; (first | unfold spinnakerref13_twice.l0 | unfold spinnakerref13_twice.l1); repeat' first | (with_reducible first | exact ih0 _ _ _ _ _ _ _ | exact ih1 _ _ _ _ _ _ _ _ | exact LeO.refl _ | exact LeO.none _ | refine LeO.ite ?_ ?_ | refine LeO.bind ?_ (fun _ => ?_)) | exact ih0 _ _ _ _ _ _ _ | exact ih1 _ _ _ _ _ _ _ _ | exact LeO.none _ | refine LeO.ite ?_ ?_ | refine LeO.bind ?_ (fun _ => ?_))
theorem spinnakerref13_twice.mono : ∀ a0 a1 a2 a3 k, LeO (spinnakerref13_twice.f k a0 a1 a2 a3) (spinnakerref13_twice.f (k + 1) a0 a1 a2 a3) := by
 intro a0 a1 a2 a3 k
 obtain ⟨ih0, ih1⟩ := spinnakerref13_twice.mono_l k
 unfold spinnakerref13_twice.f
 repeat' first | (with_reducible first | exact ih0 _ _ _ _ _ _ _ | exact ih1 _ _ _ _ _ _ _ _ | exact LeO.refl _ | exact LeO.none _ | refine LeO.ite ?_ ?_ | refine LeO.bind ?_ (fun _ => ?_)) | exact ih0 _ _ _ _ _ _ _ | exact ih1 _ _ _ _ _ _ _ _ | exact LeO.none _ | refine LeO.ite ?_ ?_ | refine LeO.bind ?_ (fun _ => ?_)
set_option maxHeartbeats 8000000 in
set_option maxRecDepth 100000 in
theorem spinnakerref13_twice.calls (k : Nat) (A0_0 : Option Addr) (c0_0 : Nat) (l0_0 : List (List (S75))) (A0_1 : Option Addr) (c0_1 : Nat) (l0_1 : List (S70)) (a1 : Int) (a2 : Int) (r : Bool) (w : World) (hr0_0 : Kd.C (Kd.slice 75 k75) w A0_0 l0_0.length l0_0) (hc0_0 : l0_0.length ≤ c0_0) (hr0_1 : Kd.C k70 w A0_1 l0_1.length l0_1) (hc0_1 : l0_1.length ≤ c0_1) (h : spinnakerref13_twice.f k l0_0 l0_1 a1 a2 = some r) :
  Calls Try.prog 47 #[.agg #[.slice A0_0 l0_0.length c0_0, .slice A0_1 l0_1.length c0_1], .int .i64 a1, .int .i64 a2] w fun e w' => e = .returned (.bool r) ∧ Below w.heap.size w w' := by
 have hu42 := Try.underlying42
 have hu73 := Try.underlying73
 have HR0_0 := Aside0.mk hr0_0
 have HC0_0 := Aside0.mk hc0_0
 clear hr0_0 hc0_0
 have HR0_1 := Aside0.mk hr0_1
 have HC0_1 := Aside0.mk hc0_1
 clear hr0_1 hc0_1
 have HB := Aside0.mk (Below.refl w.heap.size w)
 have H : (if 0 ≤ a1 then (if a1 < (l0_1.length : Int) then (if 0 ≤ a2 then (if a2 < (((rd_T70 l0_1 a1).f1).length : Int) then (spinnakerref13_twice.l0 k a1 a2 0 l0_0 l0_1 ((rd_T73 ((rd_T70 l0_1 a1).f1) a2).f0) ((rd_T73 ((rd_T70 l0_1 a1).f1) a2).f1)) else (none)) else (none)) else (none)) else (none)) = some r := h
 clear h
 by_cases c4 : 0 ≤ a1
 rotate_left
 ·rw [if_neg c4] at H
  exact absurd H (by simp)
 rw [if_pos c4] at H
 have c4b0 := decide_eq_true c4
 clear c4
 by_cases c5 : a1 < (l0_1.length : Int)
 rotate_left
 ·rw [if_neg c5] at H
  exact absurd H (by simp)
 rw [if_pos c5] at H
 have c5b0 := decide_eq_true c5
 clear c5
 by_cases c6 : 0 ≤ a2
 rotate_left
 ·rw [if_neg c6] at H
  exact absurd H (by simp)
 rw [if_pos c6] at H
 have c6b0 := decide_eq_true c6
 clear c6
 by_cases c7 : a2 < (((rd_T70 l0_1 a1).f1).length : Int)
 rotate_left
 ·rw [if_neg c7] at H
  exact absurd H (by simp)
 rw [if_pos c7] at H
 have c7b0 := decide_eq_true c7
 clear c7
 have H' := Aside0.mk H
 clear H
 go_enter Try.func47, Try.ntmps47
 go_wp2_with (first | ((with_reducible refine gate_dst (N := 3) rfl ?_); refine bv 3 #[.slice A0_0 l0_0.length c0_0, .slice A0_1 l0_1.length c0_1] 42 ?_; intro gb247 hg w8 hbox hb; obtain ⟨n0_, GW247⟩ := nb (w := w) hg hb; clear HB; have HB := n0_; have BK247 := Aside0.mk hbox; have GE247 := GW247; clear n0_ hb hbox hg; obtain ⟨hcz9_0, hcz9_1, hfz9_0, hfz9_1⟩ := cz2 (w := w8) BK247.out; have p248 : 0 ≤ (a1 : Int) := od; have q248 : a1 < (l0_1.length : Int) := od; obtain ⟨ad248, A248_1, c248_1, e248, hx248_0, hx248_1, hl248_1, hi248_1⟩ := at_T70 HR0_1.out a1 p248 q248; cases e248; replace hx248_0 := cb HB.out hx248_0; replace hx248_1 := cb HB.out hx248_1; have HR248_1 := Aside0.mk hi248_1; have HC248_1 := Aside0.mk hl248_1; clear hi248_1 hl248_1; replace p248 := eq_true p248; replace q248 := eq_true q248; have p249 : 0 ≤ (a2 : Int) := od; have q249 : a2 < (((rd_T70 l0_1 a1).f1).length : Int) := od; obtain ⟨ad249, e249, hx249_0, hx249_1⟩ := at_T73 HR248_1.out a2 p249 q249; cases e249; replace hx249_0 := cb HB.out hx249_0; replace hx249_1 := cb HB.out hx249_1; replace p249 := eq_true p249; replace q249 := eq_true q249) | ((with_reducible refine gate_dst (N := 7) rfl ?_); refine bv 7 #[.int .i64 0, .int .i64 0] 73 ?_; intro gb250 hg w10 hbox hb; have n0_ := Aside0.mk (blk_below (g := gb247) (o := .cells #[.slice A0_0 l0_0.length c0_0, .slice (some ad248) l0_1.length c0_1] 42 (0, 0)) (bk BK247.out) hb); have n1_ := Aside0.mk (below_step bl hb); have n2_ := Aside0.mk (hbox); have n3_ := Aside0.mk ((by rw [hg]; exact (below_size bl) : w.heap.size ≤ gb250)); have n4_ := Aside0.mk ((by rw [hg]; exact (below_size bl) : w.heap.size ≤ gb250)); have n5_ := Aside0.mk ((nl hg (bk BK247.out) : gb247 ≠ gb250)); have n6_ := Aside0.mk ((ng hg (bk BK247.out) : gb250 ≠ gb247)); clear BK247; clear HB; have BK247 := n0_; have HB := n1_; have BK250 := n2_; have GW250 := n3_; have GE250 := n4_; have NB247_250 := n5_; have NB250_247 := n6_; clear n0_ n1_ n2_ n3_ n4_ n5_ n6_; clear hb hbox hg; have hnb11 := NB250_247.out; have hnc11 := NB247_250.out; obtain ⟨hcz12_0, hcz12_1, hfz12_0, hfz12_1⟩ := cz2 (w := w10) BK250.out))
 repeat (go_quiet (first | ((with_reducible refine gate_dst (N := 3) rfl ?_); refine bv 3 #[.slice A0_0 l0_0.length c0_0, .slice A0_1 l0_1.length c0_1] 42 ?_; intro gb247 hg w8 hbox hb; obtain ⟨n0_, GW247⟩ := nb (w := w) hg hb; clear HB; have HB := n0_; have BK247 := Aside0.mk hbox; have GE247 := GW247; clear n0_ hb hbox hg; obtain ⟨hcz9_0, hcz9_1, hfz9_0, hfz9_1⟩ := cz2 (w := w8) BK247.out; have p248 : 0 ≤ (a1 : Int) := od; have q248 : a1 < (l0_1.length : Int) := od; obtain ⟨ad248, A248_1, c248_1, e248, hx248_0, hx248_1, hl248_1, hi248_1⟩ := at_T70 HR0_1.out a1 p248 q248; cases e248; replace hx248_0 := cb HB.out hx248_0; replace hx248_1 := cb HB.out hx248_1; have HR248_1 := Aside0.mk hi248_1; have HC248_1 := Aside0.mk hl248_1; clear hi248_1 hl248_1; replace p248 := eq_true p248; replace q248 := eq_true q248; have p249 : 0 ≤ (a2 : Int) := od; have q249 : a2 < (((rd_T70 l0_1 a1).f1).length : Int) := od; obtain ⟨ad249, e249, hx249_0, hx249_1⟩ := at_T73 HR248_1.out a2 p249 q249; cases e249; replace hx249_0 := cb HB.out hx249_0; replace hx249_1 := cb HB.out hx249_1; replace p249 := eq_true p249; replace q249 := eq_true q249) | ((with_reducible refine gate_dst (N := 7) rfl ?_); refine bv 7 #[.int .i64 0, .int .i64 0] 73 ?_; intro gb250 hg w10 hbox hb; have n0_ := Aside0.mk (blk_below (g := gb247) (o := .cells #[.slice A0_0 l0_0.length c0_0, .slice (some ad248) l0_1.length c0_1] 42 (0, 0)) (bk BK247.out) hb); have n1_ := Aside0.mk (below_step bl hb); have n2_ := Aside0.mk (hbox); have n3_ := Aside0.mk ((by rw [hg]; exact (below_size bl) : w.heap.size ≤ gb250)); have n4_ := Aside0.mk ((by rw [hg]; exact (below_size bl) : w.heap.size ≤ gb250)); have n5_ := Aside0.mk ((nl hg (bk BK247.out) : gb247 ≠ gb250)); have n6_ := Aside0.mk ((ng hg (bk BK247.out) : gb250 ≠ gb247)); clear BK247; clear HB; have BK247 := n0_; have HB := n1_; have BK250 := n2_; have GW250 := n3_; have GE250 := n4_; have NB247_250 := n5_; have NB250_247 := n6_; clear n0_ n1_ n2_ n3_ n4_ n5_ n6_; clear hb hbox hg; have hnb11 := NB250_247.out; have hnc11 := NB247_250.out; obtain ⟨hcz12_0, hcz12_1, hfz12_0, hfz12_1⟩ := cz2 (w := w10) BK250.out)); try go_wp2_with (first | ((with_reducible refine gate_dst (N := 3) rfl ?_); refine bv 3 #[.slice A0_0 l0_0.length c0_0, .slice A0_1 l0_1.length c0_1] 42 ?_; intro gb247 hg w8 hbox hb; obtain ⟨n0_, GW247⟩ := nb (w := w) hg hb; clear HB; have HB := n0_; have BK247 := Aside0.mk hbox; have GE247 := GW247; clear n0_ hb hbox hg; obtain ⟨hcz9_0, hcz9_1, hfz9_0, hfz9_1⟩ := cz2 (w := w8) BK247.out; have p248 : 0 ≤ (a1 : Int) := od; have q248 : a1 < (l0_1.length : Int) := od; obtain ⟨ad248, A248_1, c248_1, e248, hx248_0, hx248_1, hl248_1, hi248_1⟩ := at_T70 HR0_1.out a1 p248 q248; cases e248; replace hx248_0 := cb HB.out hx248_0; replace hx248_1 := cb HB.out hx248_1; have HR248_1 := Aside0.mk hi248_1; have HC248_1 := Aside0.mk hl248_1; clear hi248_1 hl248_1; replace p248 := eq_true p248; replace q248 := eq_true q248; have p249 : 0 ≤ (a2 : Int) := od; have q249 : a2 < (((rd_T70 l0_1 a1).f1).length : Int) := od; obtain ⟨ad249, e249, hx249_0, hx249_1⟩ := at_T73 HR248_1.out a2 p249 q249; cases e249; replace hx249_0 := cb HB.out hx249_0; replace hx249_1 := cb HB.out hx249_1; replace p249 := eq_true p249; replace q249 := eq_true q249) | ((with_reducible refine gate_dst (N := 7) rfl ?_); refine bv 7 #[.int .i64 0, .int .i64 0] 73 ?_; intro gb250 hg w10 hbox hb; have n0_ := Aside0.mk (blk_below (g := gb247) (o := .cells #[.slice A0_0 l0_0.length c0_0, .slice (some ad248) l0_1.length c0_1] 42 (0, 0)) (bk BK247.out) hb); have n1_ := Aside0.mk (below_step bl hb); have n2_ := Aside0.mk (hbox); have n3_ := Aside0.mk ((by rw [hg]; exact (below_size bl) : w.heap.size ≤ gb250)); have n4_ := Aside0.mk ((by rw [hg]; exact (below_size bl) : w.heap.size ≤ gb250)); have n5_ := Aside0.mk ((nl hg (bk BK247.out) : gb247 ≠ gb250)); have n6_ := Aside0.mk ((ng hg (bk BK247.out) : gb250 ≠ gb247)); clear BK247; clear HB; have BK247 := n0_; have HB := n1_; have BK250 := n2_; have GW250 := n3_; have GE250 := n4_; have NB247_250 := n5_; have NB250_247 := n6_; clear n0_ n1_ n2_ n3_ n4_ n5_ n6_; clear hb hbox hg; have hnb11 := NB250_247.out; have hnc11 := NB247_250.out; obtain ⟨hcz12_0, hcz12_1, hfz12_0, hfz12_1⟩ := cz2 (w := w10) BK250.out)))
 go_loopg [8] k (fun kq v8 w' => ∃ (x8_1 : Int), v8 = .int .i64 x8_1 ∧ Aside0 (spinnakerref13_twice.l0 kq a1 a2 x8_1 l0_0 l0_1 ((rd_T73 ((rd_T70 l0_1 a1).f1) a2).f0) ((rd_T73 ((rd_T70 l0_1 a1).f1) a2).f1) = some r) ∧ Aside0 (kq ≤ k) ∧ Aside0 (w'.heap[gb247]? = some (.cells #[(.slice A0_0 l0_0.length c0_0), (.slice (some ad248) l0_1.length c0_1)] 42 (0, 0))) ∧ Aside0 (w'.heap[gb250]? = some (.cells #[.int .i64 ((rd_T73 ((rd_T70 l0_1 a1).f1) a2).f0), .int .i64 ((rd_T73 ((rd_T70 l0_1 a1).f1) a2).f1)] 73 (0, 0))) ∧ Aside0 (Below w.heap.size w w'))
 case atStart => exact ⟨(0), fj, H', ⟨Nat.le_refl _⟩, ⟨by refine bx ?_; refine blk_far ?_ NB247_250.out _; refine bx ?_; refine blk_far ?_ NB247_250.out _; refine bx ?_; exact BK247.out⟩, ⟨by refine bx ?_; refine blk_put (cs := #[.int .i64 ((rd_T73 ((rd_T70 l0_1 a1).f1) a2).f0), .int .i64 0]) ?_ 1 _ rfl; refine bx ?_; refine blk_put (cs := #[.int .i64 0, .int .i64 0]) ?_ 0 _ rfl; refine bx ?_; exact BK250.out⟩, ⟨bl⟩⟩
 case round =>
  clear H'
  try clear c1
  try clear c2
  try clear p2
  try clear q2
  try clear hx2
  try clear c4
  try clear c4b0
  try clear c5
  try clear c5b0
  try clear c6
  try clear c6b0
  try clear c7
  try clear c7b0
  try clear c11
  try clear hcz12_0 hcz12_1
  try clear hcz9_0 hcz9_1
  try clear hfz12_0 hfz12_1
  try clear hfz9_0 hfz9_1
  try clear hx248_0
  try clear hx248_1
  try clear hx249_0
  try clear hx249_1
  try clear p248
  try clear p249
  try clear q248
  try clear q249
  obtain ⟨x8_1, rfl, HA, HK1, BK247, BK250, HB⟩ := hrel
  cases gk with
  | zero => exact absurd HA.out (by simp [spinnakerref13_twice.l0])
  | succ k1 =>
   have H := HA.out
   clear HA
   simp only [spinnakerref13_twice.l0] at H
   by_cases c13 : x8_1 ≤ a1
   rotate_left
   ·rw [if_neg c13] at H
    have c13b0 := decide_eq_false c13
    clear c13
    obtain rfl := Option.some.inj H
    go_wp2
    repeat (go_quiet (fail); try go_wp2)
    go_ret
    exact ⟨fi, bl⟩
   rw [if_pos c13] at H
   have c13b0 := decide_eq_true c13
   clear c13
   have H' := Aside0.mk H
   clear H
   go_wp2
   repeat (go_quiet (fail); try go_wp2)
   go_loopg [9] k1 (fun kq v9 w' => ∃ (x9_2 : Int), v9 = .int .i64 x9_2 ∧ Aside0 (spinnakerref13_twice.l1 kq a1 a2 x8_1 x9_2 l0_0 l0_1 ((rd_T73 ((rd_T70 l0_1 a1).f1) a2).f0) ((rd_T73 ((rd_T70 l0_1 a1).f1) a2).f1) = some r) ∧ Aside0 (kq ≤ k1) ∧ Aside0 (w'.heap[gb247]? = some (.cells #[(.slice A0_0 l0_0.length c0_0), (.slice (some ad248) l0_1.length c0_1)] 42 (0, 0))) ∧ Aside0 (w'.heap[gb250]? = some (.cells #[.int .i64 ((rd_T73 ((rd_T70 l0_1 a1).f1) a2).f0), .int .i64 ((rd_T73 ((rd_T70 l0_1 a1).f1) a2).f1)] 73 (0, 0))) ∧ Aside0 (Below w.heap.size w w'))
   case atStart => exact ⟨(0), fj, H', ⟨Nat.le_refl _⟩, ⟨by refine bx ?_; exact BK247.out⟩, ⟨by refine bx ?_; exact BK250.out⟩, ⟨bl⟩⟩
   case round =>
    clear H'
    try clear c1
    try clear c2
    try clear p2
    try clear q2
    try clear hx2
    try clear c4
    try clear c4b0
    try clear c5
    try clear c5b0
    try clear c6
    try clear c6b0
    try clear c7
    try clear c7b0
    try clear c11
    try clear c13
    try clear c13b0
    try clear hcz12_0 hcz12_1
    try clear hcz9_0 hcz9_1
    try clear hfz12_0 hfz12_1
    try clear hfz9_0 hfz9_1
    try clear hx248_0
    try clear hx248_1
    try clear hx249_0
    try clear hx249_1
    try clear p2
    try clear p248
    try clear p249
    try clear q2
    try clear q248
    try clear q249
    obtain ⟨x9_2, rfl, HA, HK2, BK247, BK250, HB⟩ := hrel
    cases gk with
    | zero => exact absurd HA.out (by simp [spinnakerref13_twice.l1])
    | succ k2 =>
     have H := HA.out
     clear HA
     simp only [spinnakerref13_twice.l1] at H
     by_cases c14 : 0 ≤ x8_1
     rotate_left
     ·rw [if_neg c14] at H
      exact absurd H (by simp)
     rw [if_pos c14] at H
     have c14b0 := decide_eq_true c14
     clear c14
     by_cases c15 : x8_1 < (l0_1.length : Int)
     rotate_left
     ·rw [if_neg c15] at H
      exact absurd H (by simp)
     rw [if_pos c15] at H
     have c15b0 := decide_eq_true c15
     clear c15
     by_cases c16 : x9_2 < (((rd_T70 l0_1 x8_1).f1).length : Int)
     rotate_left
     ·rw [if_neg c16] at H
      have c16b0 := decide_eq_false c16
      clear c16
      have H' := Aside0.mk H
      clear H
      have hnb37 := NB247_250.out
      have hnc37 := NB250_247.out
      obtain ⟨hcz38_0, hcz38_1, hfz38_0, hfz38_1⟩ := cz2 (w := wr) BK247.out
      have p251 : 0 ≤ (x8_1 : Int) := od
      have q251 : x8_1 < (l0_1.length : Int) := od
      obtain ⟨ad251, A251_1, c251_1, e251, hx251_0, hx251_1, hl251_1, hi251_1⟩ := at_T70 HR0_1.out x8_1 p251 q251
      obtain rfl : ad248 = ad251 := (by injection e251)
      replace hx251_0 := cb HB.out hx251_0
      replace hx251_1 := cb HB.out hx251_1
      have HR251_1 := Aside0.mk hi251_1
      have HC251_1 := Aside0.mk hl251_1
      clear hi251_1 hl251_1
      replace p251 := eq_true p251
      replace q251 := eq_true q251
      go_wp2
      repeat (go_quiet (fail); try go_wp2)
      go_roundg k2
      case measure => have := HK1.out; have := HK2.out; omega
      case rel => exact ⟨(wrap64 (x8_1 + 1)), fj, H', ⟨by have := HK1.out; have := HK2.out; omega⟩, ⟨by refine bx ?_; exact BK247.out⟩, ⟨by refine bx ?_; exact BK250.out⟩, ⟨bl⟩⟩
     rw [if_pos c16] at H
     have c16b0 := decide_eq_true c16
     clear c16
     by_cases c17 : x8_1 < a1
     ·rw [if_pos c17] at H
      have c17b0 := decide_eq_true c17
      clear c17
      by_cases c18 : 0 ≤ x9_2
      rotate_left
      ·rw [if_neg c18] at H
       exact absurd H (by simp)
      rw [if_pos c18] at H
      have c18b0 := decide_eq_true c18
      clear c18
      by_cases c19 : (((rd_T73 ((rd_T70 l0_1 x8_1).f1) x9_2).f0) == ((rd_T73 ((rd_T70 l0_1 a1).f1) a2).f0) && (((rd_T73 ((rd_T70 l0_1 x8_1).f1) x9_2).f1) == ((rd_T73 ((rd_T70 l0_1 a1).f1) a2).f1))) = true
      ·rw [if_pos c19] at H
       have c19b0 : (((rd_T73 ((rd_T70 l0_1 x8_1).f1) x9_2).f0) == ((rd_T73 ((rd_T70 l0_1 a1).f1) a2).f0) && (((rd_T73 ((rd_T70 l0_1 x8_1).f1) x9_2).f1) == ((rd_T73 ((rd_T70 l0_1 a1).f1) a2).f1))) = true := c19
       (try (have c19b1 : decide (((rd_T73 ((rd_T70 l0_1 x8_1).f1) x9_2).f0) = ((rd_T73 ((rd_T70 l0_1 a1).f1) a2).f0) && (((rd_T73 ((rd_T70 l0_1 x8_1).f1) x9_2).f1) == ((rd_T73 ((rd_T70 l0_1 a1).f1) a2).f1))) = true := by simpa using c19))
       (try (have c19b2 : (((rd_T73 ((rd_T70 l0_1 x8_1).f1) x9_2).f0) == ((rd_T73 ((rd_T70 l0_1 a1).f1) a2).f0) && (((rd_T73 ((rd_T70 l0_1 x8_1).f1) x9_2).f1) == ((rd_T73 ((rd_T70 l0_1 a1).f1) a2).f1))) = true := by simpa using c19))
       clear c19
       obtain rfl := Option.some.inj H
       have hnb20 := NB247_250.out
       have hnc20 := NB250_247.out
       obtain ⟨hcz21_0, hcz21_1, hfz21_0, hfz21_1⟩ := cz2 (w := wr) BK247.out
       have p251 : 0 ≤ (x8_1 : Int) := od
       have q251 : x8_1 < (l0_1.length : Int) := od
       obtain ⟨ad251, A251_1, c251_1, e251, hx251_0, hx251_1, hl251_1, hi251_1⟩ := at_T70 HR0_1.out x8_1 p251 q251
       obtain rfl : ad248 = ad251 := (by injection e251)
       replace hx251_0 := cb HB.out hx251_0
       replace hx251_1 := cb HB.out hx251_1
       have HR251_1 := Aside0.mk hi251_1
       have HC251_1 := Aside0.mk hl251_1
       clear hi251_1 hl251_1
       replace p251 := eq_true p251
       replace q251 := eq_true q251
       have p252 : 0 ≤ (x8_1 : Int) := od
       have q252 : x8_1 < (l0_1.length : Int) := od
       obtain ⟨ad252, A252_1, c252_1, e252, hx252_0, hx252_1, hl252_1, hi252_1⟩ := at_T70 HR0_1.out x8_1 p252 q252
       obtain rfl : ad248 = ad252 := (by injection e252)
       replace hx252_0 := cb HB.out hx252_0
       replace hx252_1 := cb HB.out hx252_1
       have HR252_1 := Aside0.mk hi252_1
       have HC252_1 := Aside0.mk hl252_1
       clear hi252_1 hl252_1
       replace p252 := eq_true p252
       replace q252 := eq_true q252
       have ea_ := Option.some.inj (hx251_1.symm.trans hx252_1)
       injection ea_ with ea_ en_ ec_
       subst ea_
       subst ec_
       clear en_
       have p253 : 0 ≤ (x9_2 : Int) := od
       have q253 : x9_2 < (((rd_T70 l0_1 x8_1).f1).length : Int) := od
       obtain ⟨ad253, e253, hx253_0, hx253_1⟩ := at_T73 HR252_1.out x9_2 p253 q253
       cases e253
       replace hx253_0 := cb HB.out hx253_0
       replace hx253_1 := cb HB.out hx253_1
       replace p253 := eq_true p253
       replace q253 := eq_true q253
       obtain ⟨hcz22_0, hcz22_1, hfz22_0, hfz22_1⟩ := cz2 (w := wr) BK250.out
       go_wp2
       repeat (go_quiet (fail); try go_wp2)
       go_ret
       exact ⟨fi, bl⟩
      rw [if_neg c19] at H
      have c19b0 : (((rd_T73 ((rd_T70 l0_1 x8_1).f1) x9_2).f0) == ((rd_T73 ((rd_T70 l0_1 a1).f1) a2).f0) && (((rd_T73 ((rd_T70 l0_1 x8_1).f1) x9_2).f1) == ((rd_T73 ((rd_T70 l0_1 a1).f1) a2).f1))) = false := by simpa using c19
      (try (have c19b1 : decide (((rd_T73 ((rd_T70 l0_1 x8_1).f1) x9_2).f0) = ((rd_T73 ((rd_T70 l0_1 a1).f1) a2).f0) && (((rd_T73 ((rd_T70 l0_1 x8_1).f1) x9_2).f1) == ((rd_T73 ((rd_T70 l0_1 a1).f1) a2).f1))) = false := by simpa using c19))
      (try (have c19b2 : (((rd_T73 ((rd_T70 l0_1 x8_1).f1) x9_2).f0) == ((rd_T73 ((rd_T70 l0_1 a1).f1) a2).f0) && (((rd_T73 ((rd_T70 l0_1 x8_1).f1) x9_2).f1) == ((rd_T73 ((rd_T70 l0_1 a1).f1) a2).f1))) = false := by simpa using c19))
      (try (have c19b3 : ¬ (((rd_T73 ((rd_T70 l0_1 x8_1).f1) x9_2).f0) = ((rd_T73 ((rd_T70 l0_1 a1).f1) a2).f0) && (((rd_T73 ((rd_T70 l0_1 x8_1).f1) x9_2).f1) == ((rd_T73 ((rd_T70 l0_1 a1).f1) a2).f1))) := by simpa using c19))
      clear c19
      have H' := Aside0.mk H
      clear H
      have hnb23 := NB247_250.out
      have hnc23 := NB250_247.out
      obtain ⟨hcz24_0, hcz24_1, hfz24_0, hfz24_1⟩ := cz2 (w := wr) BK247.out
      have p251 : 0 ≤ (x8_1 : Int) := od
      have q251 : x8_1 < (l0_1.length : Int) := od
      obtain ⟨ad251, A251_1, c251_1, e251, hx251_0, hx251_1, hl251_1, hi251_1⟩ := at_T70 HR0_1.out x8_1 p251 q251
      obtain rfl : ad248 = ad251 := (by injection e251)
      replace hx251_0 := cb HB.out hx251_0
      replace hx251_1 := cb HB.out hx251_1
      have HR251_1 := Aside0.mk hi251_1
      have HC251_1 := Aside0.mk hl251_1
      clear hi251_1 hl251_1
      replace p251 := eq_true p251
      replace q251 := eq_true q251
      have p252 : 0 ≤ (x8_1 : Int) := od
      have q252 : x8_1 < (l0_1.length : Int) := od
      obtain ⟨ad252, A252_1, c252_1, e252, hx252_0, hx252_1, hl252_1, hi252_1⟩ := at_T70 HR0_1.out x8_1 p252 q252
      obtain rfl : ad248 = ad252 := (by injection e252)
      replace hx252_0 := cb HB.out hx252_0
      replace hx252_1 := cb HB.out hx252_1
      have HR252_1 := Aside0.mk hi252_1
      have HC252_1 := Aside0.mk hl252_1
      clear hi252_1 hl252_1
      replace p252 := eq_true p252
      replace q252 := eq_true q252
      have ea_ := Option.some.inj (hx251_1.symm.trans hx252_1)
      injection ea_ with ea_ en_ ec_
      subst ea_
      subst ec_
      clear en_
      have p253 : 0 ≤ (x9_2 : Int) := od
      have q253 : x9_2 < (((rd_T70 l0_1 x8_1).f1).length : Int) := od
      obtain ⟨ad253, e253, hx253_0, hx253_1⟩ := at_T73 HR252_1.out x9_2 p253 q253
      cases e253
      replace hx253_0 := cb HB.out hx253_0
      replace hx253_1 := cb HB.out hx253_1
      replace p253 := eq_true p253
      replace q253 := eq_true q253
      obtain ⟨hcz25_0, hcz25_1, hfz25_0, hfz25_1⟩ := cz2 (w := wr) BK250.out
      go_wp2
      repeat (go_quiet (fail); try go_wp2)
      go_roundg k2
      case measure => have := HK1.out; have := HK2.out; omega
      case rel => exact ⟨(wrap64 (x9_2 + 1)), fj, H', ⟨by have := HK1.out; have := HK2.out; omega⟩, ⟨by refine bx ?_; exact BK247.out⟩, ⟨by refine bx ?_; exact BK250.out⟩, ⟨bl⟩⟩
     rw [if_neg c17] at H
     have c17b0 := decide_eq_false c17
     clear c17
     by_cases c26 : x9_2 < a2
     rotate_left
     ·rw [if_neg c26] at H
      have c26b0 := decide_eq_false c26
      clear c26
      have H' := Aside0.mk H
      clear H
      have hnb35 := NB247_250.out
      have hnc35 := NB250_247.out
      obtain ⟨hcz36_0, hcz36_1, hfz36_0, hfz36_1⟩ := cz2 (w := wr) BK247.out
      have p251 : 0 ≤ (x8_1 : Int) := od
      have q251 : x8_1 < (l0_1.length : Int) := od
      obtain ⟨ad251, A251_1, c251_1, e251, hx251_0, hx251_1, hl251_1, hi251_1⟩ := at_T70 HR0_1.out x8_1 p251 q251
      obtain rfl : ad248 = ad251 := (by injection e251)
      replace hx251_0 := cb HB.out hx251_0
      replace hx251_1 := cb HB.out hx251_1
      have HR251_1 := Aside0.mk hi251_1
      have HC251_1 := Aside0.mk hl251_1
      clear hi251_1 hl251_1
      replace p251 := eq_true p251
      replace q251 := eq_true q251
      go_wp2
      repeat (go_quiet (fail); try go_wp2)
      go_roundg k2
      case measure => have := HK1.out; have := HK2.out; omega
      case rel => exact ⟨(wrap64 (x9_2 + 1)), fj, H', ⟨by have := HK1.out; have := HK2.out; omega⟩, ⟨by refine bx ?_; exact BK247.out⟩, ⟨by refine bx ?_; exact BK250.out⟩, ⟨bl⟩⟩
     rw [if_pos c26] at H
     have c26b0 := decide_eq_true c26
     clear c26
     by_cases c27 : 0 ≤ x9_2
     rotate_left
     ·rw [if_neg c27] at H
      exact absurd H (by simp)
     rw [if_pos c27] at H
     have c27b0 := decide_eq_true c27
     clear c27
     by_cases c28 : (((rd_T73 ((rd_T70 l0_1 x8_1).f1) x9_2).f0) == ((rd_T73 ((rd_T70 l0_1 a1).f1) a2).f0) && (((rd_T73 ((rd_T70 l0_1 x8_1).f1) x9_2).f1) == ((rd_T73 ((rd_T70 l0_1 a1).f1) a2).f1))) = true
     ·rw [if_pos c28] at H
      have c28b0 : (((rd_T73 ((rd_T70 l0_1 x8_1).f1) x9_2).f0) == ((rd_T73 ((rd_T70 l0_1 a1).f1) a2).f0) && (((rd_T73 ((rd_T70 l0_1 x8_1).f1) x9_2).f1) == ((rd_T73 ((rd_T70 l0_1 a1).f1) a2).f1))) = true := c28
      (try (have c28b1 : decide (((rd_T73 ((rd_T70 l0_1 x8_1).f1) x9_2).f0) = ((rd_T73 ((rd_T70 l0_1 a1).f1) a2).f0) && (((rd_T73 ((rd_T70 l0_1 x8_1).f1) x9_2).f1) == ((rd_T73 ((rd_T70 l0_1 a1).f1) a2).f1))) = true := by simpa using c28))
      (try (have c28b2 : (((rd_T73 ((rd_T70 l0_1 x8_1).f1) x9_2).f0) == ((rd_T73 ((rd_T70 l0_1 a1).f1) a2).f0) && (((rd_T73 ((rd_T70 l0_1 x8_1).f1) x9_2).f1) == ((rd_T73 ((rd_T70 l0_1 a1).f1) a2).f1))) = true := by simpa using c28))
      clear c28
      obtain rfl := Option.some.inj H
      have hnb29 := NB247_250.out
      have hnc29 := NB250_247.out
      obtain ⟨hcz30_0, hcz30_1, hfz30_0, hfz30_1⟩ := cz2 (w := wr) BK247.out
      have p251 : 0 ≤ (x8_1 : Int) := od
      have q251 : x8_1 < (l0_1.length : Int) := od
      obtain ⟨ad251, A251_1, c251_1, e251, hx251_0, hx251_1, hl251_1, hi251_1⟩ := at_T70 HR0_1.out x8_1 p251 q251
      obtain rfl : ad248 = ad251 := (by injection e251)
      replace hx251_0 := cb HB.out hx251_0
      replace hx251_1 := cb HB.out hx251_1
      have HR251_1 := Aside0.mk hi251_1
      have HC251_1 := Aside0.mk hl251_1
      clear hi251_1 hl251_1
      replace p251 := eq_true p251
      replace q251 := eq_true q251
      have p254 : 0 ≤ (x8_1 : Int) := od
      have q254 : x8_1 < (l0_1.length : Int) := od
      obtain ⟨ad254, A254_1, c254_1, e254, hx254_0, hx254_1, hl254_1, hi254_1⟩ := at_T70 HR0_1.out x8_1 p254 q254
      obtain rfl : ad248 = ad254 := (by injection e254)
      replace hx254_0 := cb HB.out hx254_0
      replace hx254_1 := cb HB.out hx254_1
      have HR254_1 := Aside0.mk hi254_1
      have HC254_1 := Aside0.mk hl254_1
      clear hi254_1 hl254_1
      replace p254 := eq_true p254
      replace q254 := eq_true q254
      have ea_ := Option.some.inj (hx251_1.symm.trans hx254_1)
      injection ea_ with ea_ en_ ec_
      subst ea_
      subst ec_
      clear en_
      have p255 : 0 ≤ (x9_2 : Int) := od
      have q255 : x9_2 < (((rd_T70 l0_1 x8_1).f1).length : Int) := od
      obtain ⟨ad255, e255, hx255_0, hx255_1⟩ := at_T73 HR254_1.out x9_2 p255 q255
      cases e255
      replace hx255_0 := cb HB.out hx255_0
      replace hx255_1 := cb HB.out hx255_1
      replace p255 := eq_true p255
      replace q255 := eq_true q255
      obtain ⟨hcz31_0, hcz31_1, hfz31_0, hfz31_1⟩ := cz2 (w := wr) BK250.out
      go_wp2
      repeat (go_quiet (fail); try go_wp2)
      go_ret
      exact ⟨fi, bl⟩
     rw [if_neg c28] at H
     have c28b0 : (((rd_T73 ((rd_T70 l0_1 x8_1).f1) x9_2).f0) == ((rd_T73 ((rd_T70 l0_1 a1).f1) a2).f0) && (((rd_T73 ((rd_T70 l0_1 x8_1).f1) x9_2).f1) == ((rd_T73 ((rd_T70 l0_1 a1).f1) a2).f1))) = false := by simpa using c28
     (try (have c28b1 : decide (((rd_T73 ((rd_T70 l0_1 x8_1).f1) x9_2).f0) = ((rd_T73 ((rd_T70 l0_1 a1).f1) a2).f0) && (((rd_T73 ((rd_T70 l0_1 x8_1).f1) x9_2).f1) == ((rd_T73 ((rd_T70 l0_1 a1).f1) a2).f1))) = false := by simpa using c28))
     (try (have c28b2 : (((rd_T73 ((rd_T70 l0_1 x8_1).f1) x9_2).f0) == ((rd_T73 ((rd_T70 l0_1 a1).f1) a2).f0) && (((rd_T73 ((rd_T70 l0_1 x8_1).f1) x9_2).f1) == ((rd_T73 ((rd_T70 l0_1 a1).f1) a2).f1))) = false := by simpa using c28))
     (try (have c28b3 : ¬ (((rd_T73 ((rd_T70 l0_1 x8_1).f1) x9_2).f0) = ((rd_T73 ((rd_T70 l0_1 a1).f1) a2).f0) && (((rd_T73 ((rd_T70 l0_1 x8_1).f1) x9_2).f1) == ((rd_T73 ((rd_T70 l0_1 a1).f1) a2).f1))) := by simpa using c28))
     clear c28
     have H' := Aside0.mk H
     clear H
     have hnb32 := NB247_250.out
     have hnc32 := NB250_247.out
     obtain ⟨hcz33_0, hcz33_1, hfz33_0, hfz33_1⟩ := cz2 (w := wr) BK247.out
     have p251 : 0 ≤ (x8_1 : Int) := od
     have q251 : x8_1 < (l0_1.length : Int) := od
     obtain ⟨ad251, A251_1, c251_1, e251, hx251_0, hx251_1, hl251_1, hi251_1⟩ := at_T70 HR0_1.out x8_1 p251 q251
     obtain rfl : ad248 = ad251 := (by injection e251)
     replace hx251_0 := cb HB.out hx251_0
     replace hx251_1 := cb HB.out hx251_1
     have HR251_1 := Aside0.mk hi251_1
     have HC251_1 := Aside0.mk hl251_1
     clear hi251_1 hl251_1
     replace p251 := eq_true p251
     replace q251 := eq_true q251
     have p254 : 0 ≤ (x8_1 : Int) := od
     have q254 : x8_1 < (l0_1.length : Int) := od
     obtain ⟨ad254, A254_1, c254_1, e254, hx254_0, hx254_1, hl254_1, hi254_1⟩ := at_T70 HR0_1.out x8_1 p254 q254
     obtain rfl : ad248 = ad254 := (by injection e254)
     replace hx254_0 := cb HB.out hx254_0
     replace hx254_1 := cb HB.out hx254_1
     have HR254_1 := Aside0.mk hi254_1
     have HC254_1 := Aside0.mk hl254_1
     clear hi254_1 hl254_1
     replace p254 := eq_true p254
     replace q254 := eq_true q254
     have ea_ := Option.some.inj (hx251_1.symm.trans hx254_1)
     injection ea_ with ea_ en_ ec_
     subst ea_
     subst ec_
     clear en_
     have p255 : 0 ≤ (x9_2 : Int) := od
     have q255 : x9_2 < (((rd_T70 l0_1 x8_1).f1).length : Int) := od
     obtain ⟨ad255, e255, hx255_0, hx255_1⟩ := at_T73 HR254_1.out x9_2 p255 q255
     cases e255
     replace hx255_0 := cb HB.out hx255_0
     replace hx255_1 := cb HB.out hx255_1
     replace p255 := eq_true p255
     replace q255 := eq_true q255
     obtain ⟨hcz34_0, hcz34_1, hfz34_0, hfz34_1⟩ := cz2 (w := wr) BK250.out
     go_wp2
     repeat (go_quiet (fail); try go_wp2)
     go_roundg k2
     case measure => have := HK1.out; have := HK2.out; omega
     case rel => exact ⟨(wrap64 (x9_2 + 1)), fj, H', ⟨by have := HK1.out; have := HK2.out; omega⟩, ⟨by refine bx ?_; exact BK247.out⟩, ⟨by refine bx ?_; exact BK250.out⟩, ⟨bl⟩⟩

end Go.Proofs.Ytfpphaflbmlpeaa.GCandChecks
