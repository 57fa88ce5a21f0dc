-- Written by wip/stub.py of this repo.
import Derived.Test.YtfpphaflbmlpeaaGCandDecodesx0
import Derived.Test.YtfpphaflbmlpeaaGCandDecodesx1
namespace Go.Proofs.Ytfpphaflbmlpeaa.GCandDecodes
open Go.RowKit Go.Proofs.YtfpphaflbmlpeaaW.PrintWords Go.Proofs.YtfpphaflbmlpeaaW.PrintLast Go.Proofs.YtfpphaflbmlpeaaW.PrintMore
attribute [local go_sem] max2_int min2_int max_two min_two max_three min_three max_four min_four   -- for this text's walks alone
set_option linter.unusedVariables false
set_option linter.unusedSimpArgs false

attribute [local go_sem high] eqA73
/-! ### spinnakerref13_There: function 46 -/
def spinnakerref13_There.f (l0_0 : List (List (S75))) (l0_1 : List (S70)) (a1_0 : Int) (a1_1 : Int) : Option (Bool) := if a1_0 < 0 then (some false) else (if a1_0 ≥ (l0_0.length : Int) then (some false) else (if a1_1 ≥ 0 then (if 0 ≤ a1_0 then (if a1_0 < (l0_0.length : Int) then (some (decide (a1_1 < ((rd_L5 l0_0 a1_0).length : Int)))) else (none)) else (none)) else (some false)))
set_option maxHeartbeats 8000000 in
set_option maxRecDepth 100000 in
theorem spinnakerref13_There.calls (A0_0 : Option Addr) (c0_0 : Nat) (l0_0 : List (List (S75))) (A0_1 : Option Addr) (c0_1 : Nat) (l0_1 : List (S70)) (a1_0 : Int) (a1_1 : Int) (r : Bool) (w : World) (hr0_0 : Kd.C (Kd.slice 75 k75) w A0_0 l0_0.length l0_0) (hc0_0 : l0_0.length ≤ c0_0) (hr0_1 : Kd.C k70 w A0_1 l0_1.length l0_1) (hc0_1 : l0_1.length ≤ c0_1) (h : spinnakerref13_There.f l0_0 l0_1 a1_0 a1_1 = some r) :
  Calls Try.prog 46 #[.agg #[.slice A0_0 l0_0.length c0_0, .slice A0_1 l0_1.length c0_1], .agg #[.int .i64 a1_0, .int .i64 a1_1]] w fun e w' => e = .returned (.bool r) ∧ Below w.heap.size w w' := by
 have hu42 := Try.underlying42
 have hu73 := Try.underlying73
 have HR0_0 := Aside0.mk hr0_0
 have HC0_0 := Aside0.mk hc0_0
 clear hr0_0 hc0_0
 have HR0_1 := Aside0.mk hr0_1
 have HC0_1 := Aside0.mk hc0_1
 clear hr0_1 hc0_1
 have HB := Aside0.mk (Below.refl w.heap.size w)
 have H : (if a1_0 < 0 then (some false) else (if a1_0 ≥ (l0_0.length : Int) then (some false) else (if a1_1 ≥ 0 then (if 0 ≤ a1_0 then (if a1_0 < (l0_0.length : Int) then (some (decide (a1_1 < ((rd_L5 l0_0 a1_0).length : Int)))) else (none)) else (none)) else (some false)))) = some r := h
 clear h
 by_cases c3 : a1_0 < 0
 ·rw [if_pos c3] at H
  have c3b0 := decide_eq_true c3
  clear c3
  obtain rfl := Option.some.inj H
  go_enter Try.func46, Try.ntmps46
  go_wp2_with (first | ((with_reducible refine gate_dst (N := 2) rfl ?_); (try (refine gate_guard (by rfl) ?_; dsimp only)); refine bv 2 #[.slice A0_0 l0_0.length c0_0, .slice A0_1 l0_1.length c0_1] 42 ?_; intro gb241 hg w4 hbox hb; obtain ⟨n0_, GW241⟩ := nb (w := w) hg hb; clear HB; have HB := n0_; have BK241 := Aside0.mk hbox; have GE241 := GW241; clear n0_ hb hbox hg) | ((with_reducible refine gate_dst (N := 3) rfl ?_); (try (refine gate_guard (by rfl) ?_; dsimp only)); refine bv 3 #[.int .i64 a1_0, .int .i64 a1_1] 73 ?_; intro gb242 hg w5 hbox hb; have n0_ := Aside0.mk (blk_below (g := gb241) (o := .cells #[.slice A0_0 l0_0.length c0_0, .slice A0_1 l0_1.length c0_1] 42 (0, 0)) (bk BK241.out) hb); have n1_ := Aside0.mk (below_step bl hb); have n2_ := Aside0.mk (hbox); have n3_ := Aside0.mk ((by rw [hg]; exact (below_size bl) : w.heap.size ≤ gb242)); have n4_ := Aside0.mk ((by rw [hg]; exact (below_size bl) : w.heap.size ≤ gb242)); have n5_ := Aside0.mk ((nl hg (bk BK241.out) : gb241 ≠ gb242)); have n6_ := Aside0.mk ((ng hg (bk BK241.out) : gb242 ≠ gb241)); clear BK241; clear HB; have BK241 := n0_; have HB := n1_; have BK242 := n2_; have GW242 := n3_; have GE242 := n4_; have NB241_242 := n5_; have NB242_241 := n6_; clear n0_ n1_ n2_ n3_ n4_ n5_ n6_; clear hb hbox hg; have hnb6 := NB242_241.out; have hnc6 := NB241_242.out; obtain ⟨hcz7_0, hcz7_1, hfz7_0, hfz7_1⟩ := cz2 (w := w5) BK242.out))
  repeat (go_quiet (first | ((with_reducible refine gate_dst (N := 2) rfl ?_); (try (refine gate_guard (by rfl) ?_; dsimp only)); refine bv 2 #[.slice A0_0 l0_0.length c0_0, .slice A0_1 l0_1.length c0_1] 42 ?_; intro gb241 hg w4 hbox hb; obtain ⟨n0_, GW241⟩ := nb (w := w) hg hb; clear HB; have HB := n0_; have BK241 := Aside0.mk hbox; have GE241 := GW241; clear n0_ hb hbox hg) | ((with_reducible refine gate_dst (N := 3) rfl ?_); (try (refine gate_guard (by rfl) ?_; dsimp only)); refine bv 3 #[.int .i64 a1_0, .int .i64 a1_1] 73 ?_; intro gb242 hg w5 hbox hb; have n0_ := Aside0.mk (blk_below (g := gb241) (o := .cells #[.slice A0_0 l0_0.length c0_0, .slice A0_1 l0_1.length c0_1] 42 (0, 0)) (bk BK241.out) hb); have n1_ := Aside0.mk (below_step bl hb); have n2_ := Aside0.mk (hbox); have n3_ := Aside0.mk ((by rw [hg]; exact (below_size bl) : w.heap.size ≤ gb242)); have n4_ := Aside0.mk ((by rw [hg]; exact (below_size bl) : w.heap.size ≤ gb242)); have n5_ := Aside0.mk ((nl hg (bk BK241.out) : gb241 ≠ gb242)); have n6_ := Aside0.mk ((ng hg (bk BK241.out) : gb242 ≠ gb241)); clear BK241; clear HB; have BK241 := n0_; have HB := n1_; have BK242 := n2_; have GW242 := n3_; have GE242 := n4_; have NB241_242 := n5_; have NB242_241 := n6_; clear n0_ n1_ n2_ n3_ n4_ n5_ n6_; clear hb hbox hg; have hnb6 := NB242_241.out; have hnc6 := NB241_242.out; obtain ⟨hcz7_0, hcz7_1, hfz7_0, hfz7_1⟩ := cz2 (w := w5) BK242.out)); try go_wp2_with (first | ((with_reducible refine gate_dst (N := 2) rfl ?_); (try (refine gate_guard (by rfl) ?_; dsimp only)); refine bv 2 #[.slice A0_0 l0_0.length c0_0, .slice A0_1 l0_1.length c0_1] 42 ?_; intro gb241 hg w4 hbox hb; obtain ⟨n0_, GW241⟩ := nb (w := w) hg hb; clear HB; have HB := n0_; have BK241 := Aside0.mk hbox; have GE241 := GW241; clear n0_ hb hbox hg) | ((with_reducible refine gate_dst (N := 3) rfl ?_); (try (refine gate_guard (by rfl) ?_; dsimp only)); refine bv 3 #[.int .i64 a1_0, .int .i64 a1_1] 73 ?_; intro gb242 hg w5 hbox hb; have n0_ := Aside0.mk (blk_below (g := gb241) (o := .cells #[.slice A0_0 l0_0.length c0_0, .slice A0_1 l0_1.length c0_1] 42 (0, 0)) (bk BK241.out) hb); have n1_ := Aside0.mk (below_step bl hb); have n2_ := Aside0.mk (hbox); have n3_ := Aside0.mk ((by rw [hg]; exact (below_size bl) : w.heap.size ≤ gb242)); have n4_ := Aside0.mk ((by rw [hg]; exact (below_size bl) : w.heap.size ≤ gb242)); have n5_ := Aside0.mk ((nl hg (bk BK241.out) : gb241 ≠ gb242)); have n6_ := Aside0.mk ((ng hg (bk BK241.out) : gb242 ≠ gb241)); clear BK241; clear HB; have BK241 := n0_; have HB := n1_; have BK242 := n2_; have GW242 := n3_; have GE242 := n4_; have NB241_242 := n5_; have NB242_241 := n6_; clear n0_ n1_ n2_ n3_ n4_ n5_ n6_; clear hb hbox hg; have hnb6 := NB242_241.out; have hnc6 := NB241_242.out; obtain ⟨hcz7_0, hcz7_1, hfz7_0, hfz7_1⟩ := cz2 (w := w5) BK242.out)))
  go_ret
  exact ⟨fi, bl⟩
 rw [if_neg c3] at H
 have c3b0 := decide_eq_false c3
 clear c3
 by_cases c8 : a1_0 ≥ (l0_0.length : Int)
 ·rw [if_pos c8] at H
  have c8b0 := decide_eq_true c8
  clear c8
  obtain rfl := Option.some.inj H
  go_enter Try.func46, Try.ntmps46
  go_wp2_with (first | ((with_reducible refine gate_dst (N := 2) rfl ?_); (try (refine gate_guard (by rfl) ?_; dsimp only)); refine bv 2 #[.slice A0_0 l0_0.length c0_0, .slice A0_1 l0_1.length c0_1] 42 ?_; intro gb241 hg w9 hbox hb; obtain ⟨n0_, GW241⟩ := nb (w := w) hg hb; clear HB; have HB := n0_; have BK241 := Aside0.mk hbox; have GE241 := GW241; clear n0_ hb hbox hg) | ((with_reducible refine gate_dst (N := 3) rfl ?_); (try (refine gate_guard (by rfl) ?_; dsimp only)); refine bv 3 #[.int .i64 a1_0, .int .i64 a1_1] 73 ?_; intro gb242 hg w10 hbox hb; have n0_ := Aside0.mk (blk_below (g := gb241) (o := .cells #[.slice A0_0 l0_0.length c0_0, .slice A0_1 l0_1.length c0_1] 42 (0, 0)) (bk BK241.out) hb); have n1_ := Aside0.mk (below_step bl hb); have n2_ := Aside0.mk (hbox); have n3_ := Aside0.mk ((by rw [hg]; exact (below_size bl) : w.heap.size ≤ gb242)); have n4_ := Aside0.mk ((by rw [hg]; exact (below_size bl) : w.heap.size ≤ gb242)); have n5_ := Aside0.mk ((nl hg (bk BK241.out) : gb241 ≠ gb242)); have n6_ := Aside0.mk ((ng hg (bk BK241.out) : gb242 ≠ gb241)); clear BK241; clear HB; have BK241 := n0_; have HB := n1_; have BK242 := n2_; have GW242 := n3_; have GE242 := n4_; have NB241_242 := n5_; have NB242_241 := n6_; clear n0_ n1_ n2_ n3_ n4_ n5_ n6_; clear hb hbox hg; have hnb11 := NB242_241.out; have hnc11 := NB241_242.out; obtain ⟨hcz12_0, hcz12_1, hfz12_0, hfz12_1⟩ := cz2 (w := w10) BK242.out; obtain ⟨hcz13_0, hcz13_1, hfz13_0, hfz13_1⟩ := cz2 (w := w10) BK241.out))
  repeat (go_quiet (first | ((with_reducible refine gate_dst (N := 2) rfl ?_); (try (refine gate_guard (by rfl) ?_; dsimp only)); refine bv 2 #[.slice A0_0 l0_0.length c0_0, .slice A0_1 l0_1.length c0_1] 42 ?_; intro gb241 hg w9 hbox hb; obtain ⟨n0_, GW241⟩ := nb (w := w) hg hb; clear HB; have HB := n0_; have BK241 := Aside0.mk hbox; have GE241 := GW241; clear n0_ hb hbox hg) | ((with_reducible refine gate_dst (N := 3) rfl ?_); (try (refine gate_guard (by rfl) ?_; dsimp only)); refine bv 3 #[.int .i64 a1_0, .int .i64 a1_1] 73 ?_; intro gb242 hg w10 hbox hb; have n0_ := Aside0.mk (blk_below (g := gb241) (o := .cells #[.slice A0_0 l0_0.length c0_0, .slice A0_1 l0_1.length c0_1] 42 (0, 0)) (bk BK241.out) hb); have n1_ := Aside0.mk (below_step bl hb); have n2_ := Aside0.mk (hbox); have n3_ := Aside0.mk ((by rw [hg]; exact (below_size bl) : w.heap.size ≤ gb242)); have n4_ := Aside0.mk ((by rw [hg]; exact (below_size bl) : w.heap.size ≤ gb242)); have n5_ := Aside0.mk ((nl hg (bk BK241.out) : gb241 ≠ gb242)); have n6_ := Aside0.mk ((ng hg (bk BK241.out) : gb242 ≠ gb241)); clear BK241; clear HB; have BK241 := n0_; have HB := n1_; have BK242 := n2_; have GW242 := n3_; have GE242 := n4_; have NB241_242 := n5_; have NB242_241 := n6_; clear n0_ n1_ n2_ n3_ n4_ n5_ n6_; clear hb hbox hg; have hnb11 := NB242_241.out; have hnc11 := NB241_242.out; obtain ⟨hcz12_0, hcz12_1, hfz12_0, hfz12_1⟩ := cz2 (w := w10) BK242.out; obtain ⟨hcz13_0, hcz13_1, hfz13_0, hfz13_1⟩ := cz2 (w := w10) BK241.out)); try go_wp2_with (first | ((with_reducible refine gate_dst (N := 2) rfl ?_); (try (refine gate_guard (by rfl) ?_; dsimp only)); refine bv 2 #[.slice A0_0 l0_0.length c0_0, .slice A0_1 l0_1.length c0_1] 42 ?_; intro gb241 hg w9 hbox hb; obtain ⟨n0_, GW241⟩ := nb (w := w) hg hb; clear HB; have HB := n0_; have BK241 := Aside0.mk hbox; have GE241 := GW241; clear n0_ hb hbox hg) | ((with_reducible refine gate_dst (N := 3) rfl ?_); (try (refine gate_guard (by rfl) ?_; dsimp only)); refine bv 3 #[.int .i64 a1_0, .int .i64 a1_1] 73 ?_; intro gb242 hg w10 hbox hb; have n0_ := Aside0.mk (blk_below (g := gb241) (o := .cells #[.slice A0_0 l0_0.length c0_0, .slice A0_1 l0_1.length c0_1] 42 (0, 0)) (bk BK241.out) hb); have n1_ := Aside0.mk (below_step bl hb); have n2_ := Aside0.mk (hbox); have n3_ := Aside0.mk ((by rw [hg]; exact (below_size bl) : w.heap.size ≤ gb242)); have n4_ := Aside0.mk ((by rw [hg]; exact (below_size bl) : w.heap.size ≤ gb242)); have n5_ := Aside0.mk ((nl hg (bk BK241.out) : gb241 ≠ gb242)); have n6_ := Aside0.mk ((ng hg (bk BK241.out) : gb242 ≠ gb241)); clear BK241; clear HB; have BK241 := n0_; have HB := n1_; have BK242 := n2_; have GW242 := n3_; have GE242 := n4_; have NB241_242 := n5_; have NB242_241 := n6_; clear n0_ n1_ n2_ n3_ n4_ n5_ n6_; clear hb hbox hg; have hnb11 := NB242_241.out; have hnc11 := NB241_242.out; obtain ⟨hcz12_0, hcz12_1, hfz12_0, hfz12_1⟩ := cz2 (w := w10) BK242.out; obtain ⟨hcz13_0, hcz13_1, hfz13_0, hfz13_1⟩ := cz2 (w := w10) BK241.out)))
  go_ret
  exact ⟨fi, bl⟩
 rw [if_neg c8] at H
 have c8b0 := decide_eq_false c8
 clear c8
 by_cases c14 : a1_1 ≥ 0
 rotate_left
 ·rw [if_neg c14] at H
  have c14b0 := decide_eq_false c14
  clear c14
  obtain rfl := Option.some.inj H
  go_enter Try.func46, Try.ntmps46
  go_wp2_with (first | ((with_reducible refine gate_dst (N := 2) rfl ?_); (try (refine gate_guard (by rfl) ?_; dsimp only)); refine bv 2 #[.slice A0_0 l0_0.length c0_0, .slice A0_1 l0_1.length c0_1] 42 ?_; intro gb241 hg w22 hbox hb; obtain ⟨n0_, GW241⟩ := nb (w := w) hg hb; clear HB; have HB := n0_; have BK241 := Aside0.mk hbox; have GE241 := GW241; clear n0_ hb hbox hg) | ((with_reducible refine gate_dst (N := 3) rfl ?_); (try (refine gate_guard (by rfl) ?_; dsimp only)); refine bv 3 #[.int .i64 a1_0, .int .i64 a1_1] 73 ?_; intro gb242 hg w23 hbox hb; have n0_ := Aside0.mk (blk_below (g := gb241) (o := .cells #[.slice A0_0 l0_0.length c0_0, .slice A0_1 l0_1.length c0_1] 42 (0, 0)) (bk BK241.out) hb); have n1_ := Aside0.mk (below_step bl hb); have n2_ := Aside0.mk (hbox); have n3_ := Aside0.mk ((by rw [hg]; exact (below_size bl) : w.heap.size ≤ gb242)); have n4_ := Aside0.mk ((by rw [hg]; exact (below_size bl) : w.heap.size ≤ gb242)); have n5_ := Aside0.mk ((nl hg (bk BK241.out) : gb241 ≠ gb242)); have n6_ := Aside0.mk ((ng hg (bk BK241.out) : gb242 ≠ gb241)); clear BK241; clear HB; have BK241 := n0_; have HB := n1_; have BK242 := n2_; have GW242 := n3_; have GE242 := n4_; have NB241_242 := n5_; have NB242_241 := n6_; clear n0_ n1_ n2_ n3_ n4_ n5_ n6_; clear hb hbox hg; have hnb24 := NB242_241.out; have hnc24 := NB241_242.out; obtain ⟨hcz25_0, hcz25_1, hfz25_0, hfz25_1⟩ := cz2 (w := w23) BK242.out; obtain ⟨hcz26_0, hcz26_1, hfz26_0, hfz26_1⟩ := cz2 (w := w23) BK241.out))
  repeat (go_quiet (first | ((with_reducible refine gate_dst (N := 2) rfl ?_); (try (refine gate_guard (by rfl) ?_; dsimp only)); refine bv 2 #[.slice A0_0 l0_0.length c0_0, .slice A0_1 l0_1.length c0_1] 42 ?_; intro gb241 hg w22 hbox hb; obtain ⟨n0_, GW241⟩ := nb (w := w) hg hb; clear HB; have HB := n0_; have BK241 := Aside0.mk hbox; have GE241 := GW241; clear n0_ hb hbox hg) | ((with_reducible refine gate_dst (N := 3) rfl ?_); (try (refine gate_guard (by rfl) ?_; dsimp only)); refine bv 3 #[.int .i64 a1_0, .int .i64 a1_1] 73 ?_; intro gb242 hg w23 hbox hb; have n0_ := Aside0.mk (blk_below (g := gb241) (o := .cells #[.slice A0_0 l0_0.length c0_0, .slice A0_1 l0_1.length c0_1] 42 (0, 0)) (bk BK241.out) hb); have n1_ := Aside0.mk (below_step bl hb); have n2_ := Aside0.mk (hbox); have n3_ := Aside0.mk ((by rw [hg]; exact (below_size bl) : w.heap.size ≤ gb242)); have n4_ := Aside0.mk ((by rw [hg]; exact (below_size bl) : w.heap.size ≤ gb242)); have n5_ := Aside0.mk ((nl hg (bk BK241.out) : gb241 ≠ gb242)); have n6_ := Aside0.mk ((ng hg (bk BK241.out) : gb242 ≠ gb241)); clear BK241; clear HB; have BK241 := n0_; have HB := n1_; have BK242 := n2_; have GW242 := n3_; have GE242 := n4_; have NB241_242 := n5_; have NB242_241 := n6_; clear n0_ n1_ n2_ n3_ n4_ n5_ n6_; clear hb hbox hg; have hnb24 := NB242_241.out; have hnc24 := NB241_242.out; obtain ⟨hcz25_0, hcz25_1, hfz25_0, hfz25_1⟩ := cz2 (w := w23) BK242.out; obtain ⟨hcz26_0, hcz26_1, hfz26_0, hfz26_1⟩ := cz2 (w := w23) BK241.out)); try go_wp2_with (first | ((with_reducible refine gate_dst (N := 2) rfl ?_); (try (refine gate_guard (by rfl) ?_; dsimp only)); refine bv 2 #[.slice A0_0 l0_0.length c0_0, .slice A0_1 l0_1.length c0_1] 42 ?_; intro gb241 hg w22 hbox hb; obtain ⟨n0_, GW241⟩ := nb (w := w) hg hb; clear HB; have HB := n0_; have BK241 := Aside0.mk hbox; have GE241 := GW241; clear n0_ hb hbox hg) | ((with_reducible refine gate_dst (N := 3) rfl ?_); (try (refine gate_guard (by rfl) ?_; dsimp only)); refine bv 3 #[.int .i64 a1_0, .int .i64 a1_1] 73 ?_; intro gb242 hg w23 hbox hb; have n0_ := Aside0.mk (blk_below (g := gb241) (o := .cells #[.slice A0_0 l0_0.length c0_0, .slice A0_1 l0_1.length c0_1] 42 (0, 0)) (bk BK241.out) hb); have n1_ := Aside0.mk (below_step bl hb); have n2_ := Aside0.mk (hbox); have n3_ := Aside0.mk ((by rw [hg]; exact (below_size bl) : w.heap.size ≤ gb242)); have n4_ := Aside0.mk ((by rw [hg]; exact (below_size bl) : w.heap.size ≤ gb242)); have n5_ := Aside0.mk ((nl hg (bk BK241.out) : gb241 ≠ gb242)); have n6_ := Aside0.mk ((ng hg (bk BK241.out) : gb242 ≠ gb241)); clear BK241; clear HB; have BK241 := n0_; have HB := n1_; have BK242 := n2_; have GW242 := n3_; have GE242 := n4_; have NB241_242 := n5_; have NB242_241 := n6_; clear n0_ n1_ n2_ n3_ n4_ n5_ n6_; clear hb hbox hg; have hnb24 := NB242_241.out; have hnc24 := NB241_242.out; obtain ⟨hcz25_0, hcz25_1, hfz25_0, hfz25_1⟩ := cz2 (w := w23) BK242.out; obtain ⟨hcz26_0, hcz26_1, hfz26_0, hfz26_1⟩ := cz2 (w := w23) BK241.out)))
  go_ret
  exact ⟨fi, bl⟩
 rw [if_pos c14] at H
 have c14b0 := decide_eq_true c14
 clear c14
 by_cases c15 : 0 ≤ a1_0
 rotate_left
 ·rw [if_neg c15] at H
  exact absurd H (by simp)
 rw [if_pos c15] at H
 have c15b0 := decide_eq_true c15
 clear c15
 by_cases c16 : a1_0 < (l0_0.length : Int)
 rotate_left
 ·rw [if_neg c16] at H
  exact absurd H (by simp)
 rw [if_pos c16] at H
 have c16b0 := decide_eq_true c16
 clear c16
 obtain rfl := Option.some.inj H
 go_enter Try.func46, Try.ntmps46
 go_wp2_with (first | ((with_reducible refine gate_dst (N := 2) rfl ?_); (try (refine gate_guard (by rfl) ?_; dsimp only)); refine bv 2 #[.slice A0_0 l0_0.length c0_0, .slice A0_1 l0_1.length c0_1] 42 ?_; intro gb241 hg w17 hbox hb; obtain ⟨n0_, GW241⟩ := nb (w := w) hg hb; clear HB; have HB := n0_; have BK241 := Aside0.mk hbox; have GE241 := GW241; clear n0_ hb hbox hg) | ((with_reducible refine gate_dst (N := 3) rfl ?_); (try (refine gate_guard (by rfl) ?_; dsimp only)); refine bv 3 #[.int .i64 a1_0, .int .i64 a1_1] 73 ?_; intro gb242 hg w18 hbox hb; have n0_ := Aside0.mk (blk_below (g := gb241) (o := .cells #[.slice A0_0 l0_0.length c0_0, .slice A0_1 l0_1.length c0_1] 42 (0, 0)) (bk BK241.out) hb); have n1_ := Aside0.mk (below_step bl hb); have n2_ := Aside0.mk (hbox); have n3_ := Aside0.mk ((by rw [hg]; exact (below_size bl) : w.heap.size ≤ gb242)); have n4_ := Aside0.mk ((by rw [hg]; exact (below_size bl) : w.heap.size ≤ gb242)); have n5_ := Aside0.mk ((nl hg (bk BK241.out) : gb241 ≠ gb242)); have n6_ := Aside0.mk ((ng hg (bk BK241.out) : gb242 ≠ gb241)); clear BK241; clear HB; have BK241 := n0_; have HB := n1_; have BK242 := n2_; have GW242 := n3_; have GE242 := n4_; have NB241_242 := n5_; have NB242_241 := n6_; clear n0_ n1_ n2_ n3_ n4_ n5_ n6_; clear hb hbox hg; have hnb19 := NB242_241.out; have hnc19 := NB241_242.out; obtain ⟨hcz20_0, hcz20_1, hfz20_0, hfz20_1⟩ := cz2 (w := w18) BK242.out; obtain ⟨hcz21_0, hcz21_1, hfz21_0, hfz21_1⟩ := cz2 (w := w18) BK241.out; have p243 : 0 ≤ (a1_0 : Int) := od; have q243 : a1_0 < (l0_0.length : Int) := od; obtain ⟨ad243, A243_0, c243_0, e243, hx243_0, hl243_0, hi243_0⟩ := at_L5 HR0_0.out a1_0 p243 q243; cases e243; replace hx243_0 := cb HB.out hx243_0; have HR243_0 := Aside0.mk hi243_0; have HC243_0 := Aside0.mk hl243_0; clear hi243_0 hl243_0; replace p243 := eq_true p243; replace q243 := eq_true q243))
 repeat (go_quiet (first | ((with_reducible refine gate_dst (N := 2) rfl ?_); (try (refine gate_guard (by rfl) ?_; dsimp only)); refine bv 2 #[.slice A0_0 l0_0.length c0_0, .slice A0_1 l0_1.length c0_1] 42 ?_; intro gb241 hg w17 hbox hb; obtain ⟨n0_, GW241⟩ := nb (w := w) hg hb; clear HB; have HB := n0_; have BK241 := Aside0.mk hbox; have GE241 := GW241; clear n0_ hb hbox hg) | ((with_reducible refine gate_dst (N := 3) rfl ?_); (try (refine gate_guard (by rfl) ?_; dsimp only)); refine bv 3 #[.int .i64 a1_0, .int .i64 a1_1] 73 ?_; intro gb242 hg w18 hbox hb; have n0_ := Aside0.mk (blk_below (g := gb241) (o := .cells #[.slice A0_0 l0_0.length c0_0, .slice A0_1 l0_1.length c0_1] 42 (0, 0)) (bk BK241.out) hb); have n1_ := Aside0.mk (below_step bl hb); have n2_ := Aside0.mk (hbox); have n3_ := Aside0.mk ((by rw [hg]; exact (below_size bl) : w.heap.size ≤ gb242)); have n4_ := Aside0.mk ((by rw [hg]; exact (below_size bl) : w.heap.size ≤ gb242)); have n5_ := Aside0.mk ((nl hg (bk BK241.out) : gb241 ≠ gb242)); have n6_ := Aside0.mk ((ng hg (bk BK241.out) : gb242 ≠ gb241)); clear BK241; clear HB; have BK241 := n0_; have HB := n1_; have BK242 := n2_; have GW242 := n3_; have GE242 := n4_; have NB241_242 := n5_; have NB242_241 := n6_; clear n0_ n1_ n2_ n3_ n4_ n5_ n6_; clear hb hbox hg; have hnb19 := NB242_241.out; have hnc19 := NB241_242.out; obtain ⟨hcz20_0, hcz20_1, hfz20_0, hfz20_1⟩ := cz2 (w := w18) BK242.out; obtain ⟨hcz21_0, hcz21_1, hfz21_0, hfz21_1⟩ := cz2 (w := w18) BK241.out; have p243 : 0 ≤ (a1_0 : Int) := od; have q243 : a1_0 < (l0_0.length : Int) := od; obtain ⟨ad243, A243_0, c243_0, e243, hx243_0, hl243_0, hi243_0⟩ := at_L5 HR0_0.out a1_0 p243 q243; cases e243; replace hx243_0 := cb HB.out hx243_0; have HR243_0 := Aside0.mk hi243_0; have HC243_0 := Aside0.mk hl243_0; clear hi243_0 hl243_0; replace p243 := eq_true p243; replace q243 := eq_true q243)); try go_wp2_with (first | ((with_reducible refine gate_dst (N := 2) rfl ?_); (try (refine gate_guard (by rfl) ?_; dsimp only)); refine bv 2 #[.slice A0_0 l0_0.length c0_0, .slice A0_1 l0_1.length c0_1] 42 ?_; intro gb241 hg w17 hbox hb; obtain ⟨n0_, GW241⟩ := nb (w := w) hg hb; clear HB; have HB := n0_; have BK241 := Aside0.mk hbox; have GE241 := GW241; clear n0_ hb hbox hg) | ((with_reducible refine gate_dst (N := 3) rfl ?_); (try (refine gate_guard (by rfl) ?_; dsimp only)); refine bv 3 #[.int .i64 a1_0, .int .i64 a1_1] 73 ?_; intro gb242 hg w18 hbox hb; have n0_ := Aside0.mk (blk_below (g := gb241) (o := .cells #[.slice A0_0 l0_0.length c0_0, .slice A0_1 l0_1.length c0_1] 42 (0, 0)) (bk BK241.out) hb); have n1_ := Aside0.mk (below_step bl hb); have n2_ := Aside0.mk (hbox); have n3_ := Aside0.mk ((by rw [hg]; exact (below_size bl) : w.heap.size ≤ gb242)); have n4_ := Aside0.mk ((by rw [hg]; exact (below_size bl) : w.heap.size ≤ gb242)); have n5_ := Aside0.mk ((nl hg (bk BK241.out) : gb241 ≠ gb242)); have n6_ := Aside0.mk ((ng hg (bk BK241.out) : gb242 ≠ gb241)); clear BK241; clear HB; have BK241 := n0_; have HB := n1_; have BK242 := n2_; have GW242 := n3_; have GE242 := n4_; have NB241_242 := n5_; have NB242_241 := n6_; clear n0_ n1_ n2_ n3_ n4_ n5_ n6_; clear hb hbox hg; have hnb19 := NB242_241.out; have hnc19 := NB241_242.out; obtain ⟨hcz20_0, hcz20_1, hfz20_0, hfz20_1⟩ := cz2 (w := w18) BK242.out; obtain ⟨hcz21_0, hcz21_1, hfz21_0, hfz21_1⟩ := cz2 (w := w18) BK241.out; have p243 : 0 ≤ (a1_0 : Int) := od; have q243 : a1_0 < (l0_0.length : Int) := od; obtain ⟨ad243, A243_0, c243_0, e243, hx243_0, hl243_0, hi243_0⟩ := at_L5 HR0_0.out a1_0 p243 q243; cases e243; replace hx243_0 := cb HB.out hx243_0; have HR243_0 := Aside0.mk hi243_0; have HC243_0 := Aside0.mk hl243_0; clear hi243_0 hl243_0; replace p243 := eq_true p243; replace q243 := eq_true q243)))
 go_ret
 exact ⟨fi, bl⟩

/-! ### spinnakerref13_twice: function 47 -/
mutual
def spinnakerref13_twice.l0 : Nat → Int → Int → Int → List (List (S75)) → List (S70) → Int → Int → Option (Bool)
  | 0, _, _, _, _, _, _, _ => none
  | k + 1, x1, x2, x8, x245000, x245001, x248000, x248001 => if x8 ≤ x1 then (spinnakerref13_twice.l1 k x1 x2 x8 0 x245000 x245001 x248000 x248001) else (some false)
def spinnakerref13_twice.l1 : Nat → Int → Int → Int → Int → List (List (S75)) → List (S70) → Int → Int → Option (Bool)
  | 0, _, _, _, _, _, _, _, _ => none
  | k + 1, x1, x2, x8, x9, x245000, x245001, x248000, x248001 => if 0 ≤ x8 then (if x8 < (x245001.length : Int) then (if x9 < (((rd_T70 x245001 x8).f1).length : Int) then (if x8 < x1 then (if 0 ≤ x9 then (if (((rd_T73 ((rd_T70 x245001 x8).f1) x9).f0) == x248000 && (((rd_T73 ((rd_T70 x245001 x8).f1) x9).f1) == x248001)) = true then (some true) else (spinnakerref13_twice.l1 k x1 x2 x8 (wrap64 (x9 + 1)) x245000 x245001 x248000 x248001)) else (none)) else (if x9 < x2 then (if 0 ≤ x9 then (if (((rd_T73 ((rd_T70 x245001 x8).f1) x9).f0) == x248000 && (((rd_T73 ((rd_T70 x245001 x8).f1) x9).f1) == x248001)) = true then (some true) else (spinnakerref13_twice.l1 k x1 x2 x8 (wrap64 (x9 + 1)) x245000 x245001 x248000 x248001)) else (none)) else (spinnakerref13_twice.l1 k x1 x2 x8 (wrap64 (x9 + 1)) x245000 x245001 x248000 x248001))) else (spinnakerref13_twice.l0 k x1 x2 (wrap64 (x8 + 1)) x245000 x245001 x248000 x248001)) else (none)) else (none)
end
def spinnakerref13_twice.f (k : Nat) (l0_0 : List (List (S75))) (l0_1 : List (S70)) (a1 : Int) (a2 : Int) : Option (Bool) := if 0 ≤ a1 then (if a1 < (l0_1.length : Int) then (if 0 ≤ a2 then (if a2 < (((rd_T70 l0_1 a1).f1).length : Int) then (spinnakerref13_twice.l0 k a1 a2 0 l0_0 l0_1 ((rd_T73 ((rd_T70 l0_1 a1).f1) a2).f0) ((rd_T73 ((rd_T70 l0_1 a1).f1) a2).f1)) else (none)) else (none)) else (none)) else (none)
theorem spinnakerref13_twice.mono_l : ∀ k, (∀ y0 y1 y2 y3 y4 y5 y6, LeO (spinnakerref13_twice.l0 k y0 y1 y2 y3 y4 y5 y6) (spinnakerref13_twice.l0 (k + 1) y0 y1 y2 y3 y4 y5 y6)) ∧ (∀ y0 y1 y2 y3 y4 y5 y6 y7, LeO (spinnakerref13_twice.l1 k y0 y1 y2 y3 y4 y5 y6 y7) (spinnakerref13_twice.l1 (k + 1) y0 y1 y2 y3 y4 y5 y6 y7))
 | 0 => ⟨fun _ _ _ _ _ _ _ r h => by simp [spinnakerref13_twice.l0] at h, fun _ _ _ _ _ _ _ _ r h => by simp [spinnakerref13_twice.l1] at h⟩
 | k + 1 => by
  obtain ⟨ih0, ih1⟩ := spinnakerref13_twice.mono_l k
  refine ⟨?_, ?_⟩
  all_goals (intros; (first | unfold spinnakerref13_twice.l0 | unfold spinnakerref13_twice.l1); repeat' first | (with_reducible first | exact ih0 _ _ _ _ _ _ _ | exact ih1 _ _ _ _ _ _ _ _ | exact LeO.refl _ | exact LeO.none _ | refine LeO.ite ?_ ?_ | refine LeO.bind ?_ (fun _ => ?_)) | exact ih0 _ _ _ _ _ _ _ | exact ih1 _ _ _ _ _ _ _ _ | exact LeO.none _ | refine LeO.ite ?_ ?_ | refine LeO.bind ?_ (fun _ => ?_))
theorem spinnakerref13_twice.mono : ∀ a0 a1 a2 a3 k, LeO (spinnakerref13_twice.f k a0 a1 a2 a3) (spinnakerref13_twice.f (k + 1) a0 a1 a2 a3) := by
 intro a0 a1 a2 a3 k
 obtain ⟨ih0, ih1⟩ := spinnakerref13_twice.mono_l k
 unfold spinnakerref13_twice.f
 repeat' first | (with_reducible first | exact ih0 _ _ _ _ _ _ _ | exact ih1 _ _ _ _ _ _ _ _ | exact LeO.refl _ | exact LeO.none _ | refine LeO.ite ?_ ?_ | refine LeO.bind ?_ (fun _ => ?_)) | exact ih0 _ _ _ _ _ _ _ | exact ih1 _ _ _ _ _ _ _ _ | exact LeO.none _ | refine LeO.ite ?_ ?_ | refine LeO.bind ?_ (fun _ => ?_)
set_option maxHeartbeats 8000000 in
set_option maxRecDepth 100000 in
theorem spinnakerref13_twice.calls (k : Nat) (A0_0 : Option Addr) (c0_0 : Nat) (l0_0 : List (List (S75))) (A0_1 : Option Addr) (c0_1 : Nat) (l0_1 : List (S70)) (a1 : Int) (a2 : Int) (r : Bool) (w : World) (hr0_0 : Kd.C (Kd.slice 75 k75) w A0_0 l0_0.length l0_0) (hc0_0 : l0_0.length ≤ c0_0) (hr0_1 : Kd.C k70 w A0_1 l0_1.length l0_1) (hc0_1 : l0_1.length ≤ c0_1) (h : spinnakerref13_twice.f k l0_0 l0_1 a1 a2 = some r) :
  Calls Try.prog 47 #[.agg #[.slice A0_0 l0_0.length c0_0, .slice A0_1 l0_1.length c0_1], .int .i64 a1, .int .i64 a2] w fun e w' => e = .returned (.bool r) ∧ Below w.heap.size w w' := by
 have hu42 := Try.underlying42
 have hu73 := Try.underlying73
 have HR0_0 := Aside0.mk hr0_0
 have HC0_0 := Aside0.mk hc0_0
 clear hr0_0 hc0_0
 have HR0_1 := Aside0.mk hr0_1
 have HC0_1 := Aside0.mk hc0_1
 clear hr0_1 hc0_1
 have HB := Aside0.mk (Below.refl w.heap.size w)
 have H : (if 0 ≤ a1 then (if a1 < (l0_1.length : Int) then (if 0 ≤ a2 then (if a2 < (((rd_T70 l0_1 a1).f1).length : Int) then (spinnakerref13_twice.l0 k a1 a2 0 l0_0 l0_1 ((rd_T73 ((rd_T70 l0_1 a1).f1) a2).f0) ((rd_T73 ((rd_T70 l0_1 a1).f1) a2).f1)) else (none)) else (none)) else (none)) else (none)) = some r := h
 clear h
 by_cases c4 : 0 ≤ a1
 rotate_left
 ·rw [if_neg c4] at H
  exact absurd H (by simp)
 rw [if_pos c4] at H
 have c4b0 := decide_eq_true c4
 clear c4
 by_cases c5 : a1 < (l0_1.length : Int)
 rotate_left
 ·rw [if_neg c5] at H
  exact absurd H (by simp)
 rw [if_pos c5] at H
 have c5b0 := decide_eq_true c5
 clear c5
 by_cases c6 : 0 ≤ a2
 rotate_left
 ·rw [if_neg c6] at H
  exact absurd H (by simp)
 rw [if_pos c6] at H
 have c6b0 := decide_eq_true c6
 clear c6
 by_cases c7 : a2 < (((rd_T70 l0_1 a1).f1).length : Int)
 rotate_left
 ·rw [if_neg c7] at H
  exact absurd H (by simp)
 rw [if_pos c7] at H
 have c7b0 := decide_eq_true c7
 clear c7
 have H' := Aside0.mk H
 clear H
 go_enter Try.func47, Try.ntmps47
 go_wp2_with (first | ((with_reducible refine gate_dst (N := 3) rfl ?_); refine bv 3 #[.slice A0_0 l0_0.length c0_0, .slice A0_1 l0_1.length c0_1] 42 ?_; intro gb244 hg w8 hbox hb; obtain ⟨n0_, GW244⟩ := nb (w := w) hg hb; clear HB; have HB := n0_; have BK244 := Aside0.mk hbox; have GE244 := GW244; clear n0_ hb hbox hg; obtain ⟨hcz9_0, hcz9_1, hfz9_0, hfz9_1⟩ := cz2 (w := w8) BK244.out; have p245 : 0 ≤ (a1 : Int) := od; have q245 : a1 < (l0_1.length : Int) := od; obtain ⟨ad245, A245_1, c245_1, e245, hx245_0, hx245_1, hl245_1, hi245_1⟩ := at_T70 HR0_1.out a1 p245 q245; cases e245; replace hx245_0 := cb HB.out hx245_0; replace hx245_1 := cb HB.out hx245_1; have HR245_1 := Aside0.mk hi245_1; have HC245_1 := Aside0.mk hl245_1; clear hi245_1 hl245_1; replace p245 := eq_true p245; replace q245 := eq_true q245; have p246 : 0 ≤ (a2 : Int) := od; have q246 : a2 < (((rd_T70 l0_1 a1).f1).length : Int) := od; obtain ⟨ad246, e246, hx246_0, hx246_1⟩ := at_T73 HR245_1.out a2 p246 q246; cases e246; replace hx246_0 := cb HB.out hx246_0; replace hx246_1 := cb HB.out hx246_1; replace p246 := eq_true p246; replace q246 := eq_true q246) | ((with_reducible refine gate_dst (N := 7) rfl ?_); refine bv 7 #[.int .i64 0, .int .i64 0] 73 ?_; intro gb247 hg w10 hbox hb; have n0_ := Aside0.mk (blk_below (g := gb244) (o := .cells #[.slice A0_0 l0_0.length c0_0, .slice (some ad245) l0_1.length c0_1] 42 (0, 0)) (bk BK244.out) hb); have n1_ := Aside0.mk (below_step bl hb); have n2_ := Aside0.mk (hbox); have n3_ := Aside0.mk ((by rw [hg]; exact (below_size bl) : w.heap.size ≤ gb247)); have n4_ := Aside0.mk ((by rw [hg]; exact (below_size bl) : w.heap.size ≤ gb247)); have n5_ := Aside0.mk ((nl hg (bk BK244.out) : gb244 ≠ gb247)); have n6_ := Aside0.mk ((ng hg (bk BK244.out) : gb247 ≠ gb244)); clear BK244; clear HB; have BK244 := n0_; have HB := n1_; have BK247 := n2_; have GW247 := n3_; have GE247 := n4_; have NB244_247 := n5_; have NB247_244 := n6_; clear n0_ n1_ n2_ n3_ n4_ n5_ n6_; clear hb hbox hg; have hnb11 := NB247_244.out; have hnc11 := NB244_247.out; obtain ⟨hcz12_0, hcz12_1, hfz12_0, hfz12_1⟩ := cz2 (w := w10) BK247.out))
 repeat (go_quiet (first | ((with_reducible refine gate_dst (N := 3) rfl ?_); refine bv 3 #[.slice A0_0 l0_0.length c0_0, .slice A0_1 l0_1.length c0_1] 42 ?_; intro gb244 hg w8 hbox hb; obtain ⟨n0_, GW244⟩ := nb (w := w) hg hb; clear HB; have HB := n0_; have BK244 := Aside0.mk hbox; have GE244 := GW244; clear n0_ hb hbox hg; obtain ⟨hcz9_0, hcz9_1, hfz9_0, hfz9_1⟩ := cz2 (w := w8) BK244.out; have p245 : 0 ≤ (a1 : Int) := od; have q245 : a1 < (l0_1.length : Int) := od; obtain ⟨ad245, A245_1, c245_1, e245, hx245_0, hx245_1, hl245_1, hi245_1⟩ := at_T70 HR0_1.out a1 p245 q245; cases e245; replace hx245_0 := cb HB.out hx245_0; replace hx245_1 := cb HB.out hx245_1; have HR245_1 := Aside0.mk hi245_1; have HC245_1 := Aside0.mk hl245_1; clear hi245_1 hl245_1; replace p245 := eq_true p245; replace q245 := eq_true q245; have p246 : 0 ≤ (a2 : Int) := od; have q246 : a2 < (((rd_T70 l0_1 a1).f1).length : Int) := od; obtain ⟨ad246, e246, hx246_0, hx246_1⟩ := at_T73 HR245_1.out a2 p246 q246; cases e246; replace hx246_0 := cb HB.out hx246_0; replace hx246_1 := cb HB.out hx246_1; replace p246 := eq_true p246; replace q246 := eq_true q246) | ((with_reducible refine gate_dst (N := 7) rfl ?_); refine bv 7 #[.int .i64 0, .int .i64 0] 73 ?_; intro gb247 hg w10 hbox hb; have n0_ := Aside0.mk (blk_below (g := gb244) (o := .cells #[.slice A0_0 l0_0.length c0_0, .slice (some ad245) l0_1.length c0_1] 42 (0, 0)) (bk BK244.out) hb); have n1_ := Aside0.mk (below_step bl hb); have n2_ := Aside0.mk (hbox); have n3_ := Aside0.mk ((by rw [hg]; exact (below_size bl) : w.heap.size ≤ gb247)); have n4_ := Aside0.mk ((by rw [hg]; exact (below_size bl) : w.heap.size ≤ gb247)); have n5_ := Aside0.mk ((nl hg (bk BK244.out) : gb244 ≠ gb247)); have n6_ := Aside0.mk ((ng hg (bk BK244.out) : gb247 ≠ gb244)); clear BK244; clear HB; have BK244 := n0_; have HB := n1_; have BK247 := n2_; have GW247 := n3_; have GE247 := n4_; have NB244_247 := n5_; have NB247_244 := n6_; clear n0_ n1_ n2_ n3_ n4_ n5_ n6_; clear hb hbox hg; have hnb11 := NB247_244.out; have hnc11 := NB244_247.out; obtain ⟨hcz12_0, hcz12_1, hfz12_0, hfz12_1⟩ := cz2 (w := w10) BK247.out)); try go_wp2_with (first | ((with_reducible refine gate_dst (N := 3) rfl ?_); refine bv 3 #[.slice A0_0 l0_0.length c0_0, .slice A0_1 l0_1.length c0_1] 42 ?_; intro gb244 hg w8 hbox hb; obtain ⟨n0_, GW244⟩ := nb (w := w) hg hb; clear HB; have HB := n0_; have BK244 := Aside0.mk hbox; have GE244 := GW244; clear n0_ hb hbox hg; obtain ⟨hcz9_0, hcz9_1, hfz9_0, hfz9_1⟩ := cz2 (w := w8) BK244.out; have p245 : 0 ≤ (a1 : Int) := od; have q245 : a1 < (l0_1.length : Int) := od; obtain ⟨ad245, A245_1, c245_1, e245, hx245_0, hx245_1, hl245_1, hi245_1⟩ := at_T70 HR0_1.out a1 p245 q245; cases e245; replace hx245_0 := cb HB.out hx245_0; replace hx245_1 := cb HB.out hx245_1; have HR245_1 := Aside0.mk hi245_1; have HC245_1 := Aside0.mk hl245_1; clear hi245_1 hl245_1; replace p245 := eq_true p245; replace q245 := eq_true q245; have p246 : 0 ≤ (a2 : Int) := od; have q246 : a2 < (((rd_T70 l0_1 a1).f1).length : Int) := od; obtain ⟨ad246, e246, hx246_0, hx246_1⟩ := at_T73 HR245_1.out a2 p246 q246; cases e246; replace hx246_0 := cb HB.out hx246_0; replace hx246_1 := cb HB.out hx246_1; replace p246 := eq_true p246; replace q246 := eq_true q246) | ((with_reducible refine gate_dst (N := 7) rfl ?_); refine bv 7 #[.int .i64 0, .int .i64 0] 73 ?_; intro gb247 hg w10 hbox hb; have n0_ := Aside0.mk (blk_below (g := gb244) (o := .cells #[.slice A0_0 l0_0.length c0_0, .slice (some ad245) l0_1.length c0_1] 42 (0, 0)) (bk BK244.out) hb); have n1_ := Aside0.mk (below_step bl hb); have n2_ := Aside0.mk (hbox); have n3_ := Aside0.mk ((by rw [hg]; exact (below_size bl) : w.heap.size ≤ gb247)); have n4_ := Aside0.mk ((by rw [hg]; exact (below_size bl) : w.heap.size ≤ gb247)); have n5_ := Aside0.mk ((nl hg (bk BK244.out) : gb244 ≠ gb247)); have n6_ := Aside0.mk ((ng hg (bk BK244.out) : gb247 ≠ gb244)); clear BK244; clear HB; have BK244 := n0_; have HB := n1_; have BK247 := n2_; have GW247 := n3_; have GE247 := n4_; have NB244_247 := n5_; have NB247_244 := n6_; clear n0_ n1_ n2_ n3_ n4_ n5_ n6_; clear hb hbox hg; have hnb11 := NB247_244.out; have hnc11 := NB244_247.out; obtain ⟨hcz12_0, hcz12_1, hfz12_0, hfz12_1⟩ := cz2 (w := w10) BK247.out)))
 go_loopg [8] k (fun kq v8 w' => ∃ (x8_1 : Int), v8 = .int .i64 x8_1 ∧ Aside0 (spinnakerref13_twice.l0 kq a1 a2 x8_1 l0_0 l0_1 ((rd_T73 ((rd_T70 l0_1 a1).f1) a2).f0) ((rd_T73 ((rd_T70 l0_1 a1).f1) a2).f1) = some r) ∧ Aside0 (kq ≤ k) ∧ Aside0 (w'.heap[gb244]? = some (.cells #[(.slice A0_0 l0_0.length c0_0), (.slice (some ad245) l0_1.length c0_1)] 42 (0, 0))) ∧ Aside0 (w'.heap[gb247]? = some (.cells #[.int .i64 ((rd_T73 ((rd_T70 l0_1 a1).f1) a2).f0), .int .i64 ((rd_T73 ((rd_T70 l0_1 a1).f1) a2).f1)] 73 (0, 0))) ∧ Aside0 (Below w.heap.size w w'))
 case atStart => exact ⟨(0), fj, H', ⟨Nat.le_refl _⟩, ⟨by refine bx ?_; refine blk_far ?_ NB244_247.out _; refine bx ?_; refine blk_far ?_ NB244_247.out _; refine bx ?_; exact BK244.out⟩, ⟨by refine bx ?_; refine blk_put (cs := #[.int .i64 ((rd_T73 ((rd_T70 l0_1 a1).f1) a2).f0), .int .i64 0]) ?_ 1 _ rfl; refine bx ?_; refine blk_put (cs := #[.int .i64 0, .int .i64 0]) ?_ 0 _ rfl; refine bx ?_; exact BK247.out⟩, ⟨bl⟩⟩
 case round =>
  clear H'
  try clear c1
  try clear c2
  try clear p2
  try clear q2
  try clear hx2
  try clear c4
  try clear c4b0
  try clear c5
  try clear c5b0
  try clear c6
  try clear c6b0
  try clear c7
  try clear c7b0
  try clear c11
  try clear hcz12_0 hcz12_1
  try clear hcz9_0 hcz9_1
  try clear hfz12_0 hfz12_1
  try clear hfz9_0 hfz9_1
  try clear hx245_0
  try clear hx245_1
  try clear hx246_0
  try clear hx246_1
  try clear p245
  try clear p246
  try clear q245
  try clear q246
  obtain ⟨x8_1, rfl, HA, HK1, BK244, BK247, HB⟩ := hrel
  cases gk with
  | zero => exact absurd HA.out (by simp [spinnakerref13_twice.l0])
  | succ k1 =>
   have H := HA.out
   clear HA
   simp only [spinnakerref13_twice.l0] at H
   by_cases c13 : x8_1 ≤ a1
   rotate_left
   ·rw [if_neg c13] at H
    have c13b0 := decide_eq_false c13
    clear c13
    obtain rfl := Option.some.inj H
    go_wp2
    repeat (go_quiet (fail); try go_wp2)
    go_ret
    exact ⟨fi, bl⟩
   rw [if_pos c13] at H
   have c13b0 := decide_eq_true c13
   clear c13
   have H' := Aside0.mk H
   clear H
   go_wp2
   repeat (go_quiet (fail); try go_wp2)
   go_loopg [9] k1 (fun kq v9 w' => ∃ (x9_2 : Int), v9 = .int .i64 x9_2 ∧ Aside0 (spinnakerref13_twice.l1 kq a1 a2 x8_1 x9_2 l0_0 l0_1 ((rd_T73 ((rd_T70 l0_1 a1).f1) a2).f0) ((rd_T73 ((rd_T70 l0_1 a1).f1) a2).f1) = some r) ∧ Aside0 (kq ≤ k1) ∧ Aside0 (w'.heap[gb244]? = some (.cells #[(.slice A0_0 l0_0.length c0_0), (.slice (some ad245) l0_1.length c0_1)] 42 (0, 0))) ∧ Aside0 (w'.heap[gb247]? = some (.cells #[.int .i64 ((rd_T73 ((rd_T70 l0_1 a1).f1) a2).f0), .int .i64 ((rd_T73 ((rd_T70 l0_1 a1).f1) a2).f1)] 73 (0, 0))) ∧ Aside0 (Below w.heap.size w w'))
   case atStart => exact ⟨(0), fj, H', ⟨Nat.le_refl _⟩, ⟨by refine bx ?_; exact BK244.out⟩, ⟨by refine bx ?_; exact BK247.out⟩, ⟨bl⟩⟩
   case round =>
    clear H'
    try clear c1
    try clear c2
    try clear p2
    try clear q2
    try clear hx2
    try clear c4
    try clear c4b0
    try clear c5
    try clear c5b0
    try clear c6
    try clear c6b0
    try clear c7
    try clear c7b0
    try clear c11
    try clear c13
    try clear c13b0
    try clear hcz12_0 hcz12_1
    try clear hcz9_0 hcz9_1
    try clear hfz12_0 hfz12_1
    try clear hfz9_0 hfz9_1
    try clear hx245_0
    try clear hx245_1
    try clear hx246_0
    try clear hx246_1
    try clear p2
    try clear p245
    try clear p246
    try clear q2
    try clear q245
    try clear q246
    obtain ⟨x9_2, rfl, HA, HK2, BK244, BK247, HB⟩ := hrel
    cases gk with
    | zero => exact absurd HA.out (by simp [spinnakerref13_twice.l1])
    | succ k2 =>
     have H := HA.out
     clear HA
     simp only [spinnakerref13_twice.l1] at H
     by_cases c14 : 0 ≤ x8_1
     rotate_left
     ·rw [if_neg c14] at H
      exact absurd H (by simp)
     rw [if_pos c14] at H
     have c14b0 := decide_eq_true c14
     clear c14
     by_cases c15 : x8_1 < (l0_1.length : Int)
     rotate_left
     ·rw [if_neg c15] at H
      exact absurd H (by simp)
     rw [if_pos c15] at H
     have c15b0 := decide_eq_true c15
     clear c15
     by_cases c16 : x9_2 < (((rd_T70 l0_1 x8_1).f1).length : Int)
     rotate_left
     ·rw [if_neg c16] at H
      have c16b0 := decide_eq_false c16
      clear c16
      have H' := Aside0.mk H
      clear H
      have hnb37 := NB244_247.out
      have hnc37 := NB247_244.out
      obtain ⟨hcz38_0, hcz38_1, hfz38_0, hfz38_1⟩ := cz2 (w := wr) BK244.out
      have p248 : 0 ≤ (x8_1 : Int) := od
      have q248 : x8_1 < (l0_1.length : Int) := od
      obtain ⟨ad248, A248_1, c248_1, e248, hx248_0, hx248_1, hl248_1, hi248_1⟩ := at_T70 HR0_1.out x8_1 p248 q248
      obtain rfl : ad245 = ad248 := (by injection e248)
      replace hx248_0 := cb HB.out hx248_0
      replace hx248_1 := cb HB.out hx248_1
      have HR248_1 := Aside0.mk hi248_1
      have HC248_1 := Aside0.mk hl248_1
      clear hi248_1 hl248_1
      replace p248 := eq_true p248
      replace q248 := eq_true q248
      go_wp2
      repeat (go_quiet (fail); try go_wp2)
      go_roundg k2
      case measure => have := HK1.out; have := HK2.out; omega
      case rel => exact ⟨(wrap64 (x8_1 + 1)), fj, H', ⟨by have := HK1.out; have := HK2.out; omega⟩, ⟨by refine bx ?_; exact BK244.out⟩, ⟨by refine bx ?_; exact BK247.out⟩, ⟨bl⟩⟩
     rw [if_pos c16] at H
     have c16b0 := decide_eq_true c16
     clear c16
     by_cases c17 : x8_1 < a1
     ·rw [if_pos c17] at H
      have c17b0 := decide_eq_true c17
      clear c17
      by_cases c18 : 0 ≤ x9_2
      rotate_left
      ·rw [if_neg c18] at H
       exact absurd H (by simp)
      rw [if_pos c18] at H
      have c18b0 := decide_eq_true c18
      clear c18
      by_cases c19 : (((rd_T73 ((rd_T70 l0_1 x8_1).f1) x9_2).f0) == ((rd_T73 ((rd_T70 l0_1 a1).f1) a2).f0) && (((rd_T73 ((rd_T70 l0_1 x8_1).f1) x9_2).f1) == ((rd_T73 ((rd_T70 l0_1 a1).f1) a2).f1))) = true
      ·rw [if_pos c19] at H
       have c19b0 : (((rd_T73 ((rd_T70 l0_1 x8_1).f1) x9_2).f0) == ((rd_T73 ((rd_T70 l0_1 a1).f1) a2).f0) && (((rd_T73 ((rd_T70 l0_1 x8_1).f1) x9_2).f1) == ((rd_T73 ((rd_T70 l0_1 a1).f1) a2).f1))) = true := c19
       (try (have c19b1 : decide (((rd_T73 ((rd_T70 l0_1 x8_1).f1) x9_2).f0) = ((rd_T73 ((rd_T70 l0_1 a1).f1) a2).f0) && (((rd_T73 ((rd_T70 l0_1 x8_1).f1) x9_2).f1) == ((rd_T73 ((rd_T70 l0_1 a1).f1) a2).f1))) = true := by simpa using c19))
       (try (have c19b2 : (((rd_T73 ((rd_T70 l0_1 x8_1).f1) x9_2).f0) == ((rd_T73 ((rd_T70 l0_1 a1).f1) a2).f0) && (((rd_T73 ((rd_T70 l0_1 x8_1).f1) x9_2).f1) == ((rd_T73 ((rd_T70 l0_1 a1).f1) a2).f1))) = true := by simpa using c19))
       clear c19
       obtain rfl := Option.some.inj H
       have hnb20 := NB244_247.out
       have hnc20 := NB247_244.out
       obtain ⟨hcz21_0, hcz21_1, hfz21_0, hfz21_1⟩ := cz2 (w := wr) BK244.out
       have p248 : 0 ≤ (x8_1 : Int) := od
       have q248 : x8_1 < (l0_1.length : Int) := od
       obtain ⟨ad248, A248_1, c248_1, e248, hx248_0, hx248_1, hl248_1, hi248_1⟩ := at_T70 HR0_1.out x8_1 p248 q248
       obtain rfl : ad245 = ad248 := (by injection e248)
       replace hx248_0 := cb HB.out hx248_0
       replace hx248_1 := cb HB.out hx248_1
       have HR248_1 := Aside0.mk hi248_1
       have HC248_1 := Aside0.mk hl248_1
       clear hi248_1 hl248_1
       replace p248 := eq_true p248
       replace q248 := eq_true q248
       have p249 : 0 ≤ (x8_1 : Int) := od
       have q249 : x8_1 < (l0_1.length : Int) := od
       obtain ⟨ad249, A249_1, c249_1, e249, hx249_0, hx249_1, hl249_1, hi249_1⟩ := at_T70 HR0_1.out x8_1 p249 q249
       obtain rfl : ad245 = ad249 := (by injection e249)
       replace hx249_0 := cb HB.out hx249_0
       replace hx249_1 := cb HB.out hx249_1
       have HR249_1 := Aside0.mk hi249_1
       have HC249_1 := Aside0.mk hl249_1
       clear hi249_1 hl249_1
       replace p249 := eq_true p249
       replace q249 := eq_true q249
       have ea_ := Option.some.inj (hx248_1.symm.trans hx249_1)
       injection ea_ with ea_ en_ ec_
       subst ea_
       subst ec_
       clear en_
       have p250 : 0 ≤ (x9_2 : Int) := od
       have q250 : x9_2 < (((rd_T70 l0_1 x8_1).f1).length : Int) := od
       obtain ⟨ad250, e250, hx250_0, hx250_1⟩ := at_T73 HR249_1.out x9_2 p250 q250
       cases e250
       replace hx250_0 := cb HB.out hx250_0
       replace hx250_1 := cb HB.out hx250_1
       replace p250 := eq_true p250
       replace q250 := eq_true q250
       obtain ⟨hcz22_0, hcz22_1, hfz22_0, hfz22_1⟩ := cz2 (w := wr) BK247.out
       go_wp2
       repeat (go_quiet (fail); try go_wp2)
       go_ret
       exact ⟨fi, bl⟩
      rw [if_neg c19] at H
      have c19b0 : (((rd_T73 ((rd_T70 l0_1 x8_1).f1) x9_2).f0) == ((rd_T73 ((rd_T70 l0_1 a1).f1) a2).f0) && (((rd_T73 ((rd_T70 l0_1 x8_1).f1) x9_2).f1) == ((rd_T73 ((rd_T70 l0_1 a1).f1) a2).f1))) = false := by simpa using c19
      (try (have c19b1 : decide (((rd_T73 ((rd_T70 l0_1 x8_1).f1) x9_2).f0) = ((rd_T73 ((rd_T70 l0_1 a1).f1) a2).f0) && (((rd_T73 ((rd_T70 l0_1 x8_1).f1) x9_2).f1) == ((rd_T73 ((rd_T70 l0_1 a1).f1) a2).f1))) = false := by simpa using c19))
      (try (have c19b2 : (((rd_T73 ((rd_T70 l0_1 x8_1).f1) x9_2).f0) == ((rd_T73 ((rd_T70 l0_1 a1).f1) a2).f0) && (((rd_T73 ((rd_T70 l0_1 x8_1).f1) x9_2).f1) == ((rd_T73 ((rd_T70 l0_1 a1).f1) a2).f1))) = false := by simpa using c19))
      (try (have c19b3 : ¬ (((rd_T73 ((rd_T70 l0_1 x8_1).f1) x9_2).f0) = ((rd_T73 ((rd_T70 l0_1 a1).f1) a2).f0) && (((rd_T73 ((rd_T70 l0_1 x8_1).f1) x9_2).f1) == ((rd_T73 ((rd_T70 l0_1 a1).f1) a2).f1))) := by simpa using c19))
      clear c19
      have H' := Aside0.mk H
      clear H
      have hnb23 := NB244_247.out
      have hnc23 := NB247_244.out
      obtain ⟨hcz24_0, hcz24_1, hfz24_0, hfz24_1⟩ := cz2 (w := wr) BK244.out
      have p248 : 0 ≤ (x8_1 : Int) := od
      have q248 : x8_1 < (l0_1.length : Int) := od
      obtain ⟨ad248, A248_1, c248_1, e248, hx248_0, hx248_1, hl248_1, hi248_1⟩ := at_T70 HR0_1.out x8_1 p248 q248
      obtain rfl : ad245 = ad248 := (by injection e248)
      replace hx248_0 := cb HB.out hx248_0
      replace hx248_1 := cb HB.out hx248_1
      have HR248_1 := Aside0.mk hi248_1
      have HC248_1 := Aside0.mk hl248_1
      clear hi248_1 hl248_1
      replace p248 := eq_true p248
      replace q248 := eq_true q248
      have p249 : 0 ≤ (x8_1 : Int) := od
      have q249 : x8_1 < (l0_1.length : Int) := od
      obtain ⟨ad249, A249_1, c249_1, e249, hx249_0, hx249_1, hl249_1, hi249_1⟩ := at_T70 HR0_1.out x8_1 p249 q249
      obtain rfl : ad245 = ad249 := (by injection e249)
      replace hx249_0 := cb HB.out hx249_0
      replace hx249_1 := cb HB.out hx249_1
      have HR249_1 := Aside0.mk hi249_1
      have HC249_1 := Aside0.mk hl249_1
      clear hi249_1 hl249_1
      replace p249 := eq_true p249
      replace q249 := eq_true q249
      have ea_ := Option.some.inj (hx248_1.symm.trans hx249_1)
      injection ea_ with ea_ en_ ec_
      subst ea_
      subst ec_
      clear en_
      have p250 : 0 ≤ (x9_2 : Int) := od
      have q250 : x9_2 < (((rd_T70 l0_1 x8_1).f1).length : Int) := od
      obtain ⟨ad250, e250, hx250_0, hx250_1⟩ := at_T73 HR249_1.out x9_2 p250 q250
      cases e250
      replace hx250_0 := cb HB.out hx250_0
      replace hx250_1 := cb HB.out hx250_1
      replace p250 := eq_true p250
      replace q250 := eq_true q250
      obtain ⟨hcz25_0, hcz25_1, hfz25_0, hfz25_1⟩ := cz2 (w := wr) BK247.out
      go_wp2
      repeat (go_quiet (fail); try go_wp2)
      go_roundg k2
      case measure => have := HK1.out; have := HK2.out; omega
      case rel => exact ⟨(wrap64 (x9_2 + 1)), fj, H', ⟨by have := HK1.out; have := HK2.out; omega⟩, ⟨by refine bx ?_; exact BK244.out⟩, ⟨by refine bx ?_; exact BK247.out⟩, ⟨bl⟩⟩
     rw [if_neg c17] at H
     have c17b0 := decide_eq_false c17
     clear c17
     by_cases c26 : x9_2 < a2
     rotate_left
     ·rw [if_neg c26] at H
      have c26b0 := decide_eq_false c26
      clear c26
      have H' := Aside0.mk H
      clear H
      have hnb35 := NB244_247.out
      have hnc35 := NB247_244.out
      obtain ⟨hcz36_0, hcz36_1, hfz36_0, hfz36_1⟩ := cz2 (w := wr) BK244.out
      have p248 : 0 ≤ (x8_1 : Int) := od
      have q248 : x8_1 < (l0_1.length : Int) := od
      obtain ⟨ad248, A248_1, c248_1, e248, hx248_0, hx248_1, hl248_1, hi248_1⟩ := at_T70 HR0_1.out x8_1 p248 q248
      obtain rfl : ad245 = ad248 := (by injection e248)
      replace hx248_0 := cb HB.out hx248_0
      replace hx248_1 := cb HB.out hx248_1
      have HR248_1 := Aside0.mk hi248_1
      have HC248_1 := Aside0.mk hl248_1
      clear hi248_1 hl248_1
      replace p248 := eq_true p248
      replace q248 := eq_true q248
      go_wp2
      repeat (go_quiet (fail); try go_wp2)
      go_roundg k2
      case measure => have := HK1.out; have := HK2.out; omega
      case rel => exact ⟨(wrap64 (x9_2 + 1)), fj, H', ⟨by have := HK1.out; have := HK2.out; omega⟩, ⟨by refine bx ?_; exact BK244.out⟩, ⟨by refine bx ?_; exact BK247.out⟩, ⟨bl⟩⟩
     rw [if_pos c26] at H
     have c26b0 := decide_eq_true c26
     clear c26
     by_cases c27 : 0 ≤ x9_2
     rotate_left
     ·rw [if_neg c27] at H
      exact absurd H (by simp)
     rw [if_pos c27] at H
     have c27b0 := decide_eq_true c27
     clear c27
     by_cases c28 : (((rd_T73 ((rd_T70 l0_1 x8_1).f1) x9_2).f0) == ((rd_T73 ((rd_T70 l0_1 a1).f1) a2).f0) && (((rd_T73 ((rd_T70 l0_1 x8_1).f1) x9_2).f1) == ((rd_T73 ((rd_T70 l0_1 a1).f1) a2).f1))) = true
     ·rw [if_pos c28] at H
      have c28b0 : (((rd_T73 ((rd_T70 l0_1 x8_1).f1) x9_2).f0) == ((rd_T73 ((rd_T70 l0_1 a1).f1) a2).f0) && (((rd_T73 ((rd_T70 l0_1 x8_1).f1) x9_2).f1) == ((rd_T73 ((rd_T70 l0_1 a1).f1) a2).f1))) = true := c28
      (try (have c28b1 : decide (((rd_T73 ((rd_T70 l0_1 x8_1).f1) x9_2).f0) = ((rd_T73 ((rd_T70 l0_1 a1).f1) a2).f0) && (((rd_T73 ((rd_T70 l0_1 x8_1).f1) x9_2).f1) == ((rd_T73 ((rd_T70 l0_1 a1).f1) a2).f1))) = true := by simpa using c28))
      (try (have c28b2 : (((rd_T73 ((rd_T70 l0_1 x8_1).f1) x9_2).f0) == ((rd_T73 ((rd_T70 l0_1 a1).f1) a2).f0) && (((rd_T73 ((rd_T70 l0_1 x8_1).f1) x9_2).f1) == ((rd_T73 ((rd_T70 l0_1 a1).f1) a2).f1))) = true := by simpa using c28))
      clear c28
      obtain rfl := Option.some.inj H
      have hnb29 := NB244_247.out
      have hnc29 := NB247_244.out
      obtain ⟨hcz30_0, hcz30_1, hfz30_0, hfz30_1⟩ := cz2 (w := wr) BK244.out
      have p248 : 0 ≤ (x8_1 : Int) := od
      have q248 : x8_1 < (l0_1.length : Int) := od
      obtain ⟨ad248, A248_1, c248_1, e248, hx248_0, hx248_1, hl248_1, hi248_1⟩ := at_T70 HR0_1.out x8_1 p248 q248
      obtain rfl : ad245 = ad248 := (by injection e248)
      replace hx248_0 := cb HB.out hx248_0
      replace hx248_1 := cb HB.out hx248_1
      have HR248_1 := Aside0.mk hi248_1
      have HC248_1 := Aside0.mk hl248_1
      clear hi248_1 hl248_1
      replace p248 := eq_true p248
      replace q248 := eq_true q248
      have p251 : 0 ≤ (x8_1 : Int) := od
      have q251 : x8_1 < (l0_1.length : Int) := od
      obtain ⟨ad251, A251_1, c251_1, e251, hx251_0, hx251_1, hl251_1, hi251_1⟩ := at_T70 HR0_1.out x8_1 p251 q251
      obtain rfl : ad245 = ad251 := (by injection e251)
      replace hx251_0 := cb HB.out hx251_0
      replace hx251_1 := cb HB.out hx251_1
      have HR251_1 := Aside0.mk hi251_1
      have HC251_1 := Aside0.mk hl251_1
      clear hi251_1 hl251_1
      replace p251 := eq_true p251
      replace q251 := eq_true q251
      have ea_ := Option.some.inj (hx248_1.symm.trans hx251_1)
      injection ea_ with ea_ en_ ec_
      subst ea_
      subst ec_
      clear en_
      have p252 : 0 ≤ (x9_2 : Int) := od
      have q252 : x9_2 < (((rd_T70 l0_1 x8_1).f1).length : Int) := od
      obtain ⟨ad252, e252, hx252_0, hx252_1⟩ := at_T73 HR251_1.out x9_2 p252 q252
      cases e252
      replace hx252_0 := cb HB.out hx252_0
      replace hx252_1 := cb HB.out hx252_1
      replace p252 := eq_true p252
      replace q252 := eq_true q252
      obtain ⟨hcz31_0, hcz31_1, hfz31_0, hfz31_1⟩ := cz2 (w := wr) BK247.out
      go_wp2
      repeat (go_quiet (fail); try go_wp2)
      go_ret
      exact ⟨fi, bl⟩
     rw [if_neg c28] at H
     have c28b0 : (((rd_T73 ((rd_T70 l0_1 x8_1).f1) x9_2).f0) == ((rd_T73 ((rd_T70 l0_1 a1).f1) a2).f0) && (((rd_T73 ((rd_T70 l0_1 x8_1).f1) x9_2).f1) == ((rd_T73 ((rd_T70 l0_1 a1).f1) a2).f1))) = false := by simpa using c28
     (try (have c28b1 : decide (((rd_T73 ((rd_T70 l0_1 x8_1).f1) x9_2).f0) = ((rd_T73 ((rd_T70 l0_1 a1).f1) a2).f0) && (((rd_T73 ((rd_T70 l0_1 x8_1).f1) x9_2).f1) == ((rd_T73 ((rd_T70 l0_1 a1).f1) a2).f1))) = false := by simpa using c28))
     (try (have c28b2 : (((rd_T73 ((rd_T70 l0_1 x8_1).f1) x9_2).f0) == ((rd_T73 ((rd_T70 l0_1 a1).f1) a2).f0) && (((rd_T73 ((rd_T70 l0_1 x8_1).f1) x9_2).f1) == ((rd_T73 ((rd_T70 l0_1 a1).f1) a2).f1))) = false := by simpa using c28))
     (try (have c28b3 : ¬ (((rd_T73 ((rd_T70 l0_1 x8_1).f1) x9_2).f0) = ((rd_T73 ((rd_T70 l0_1 a1).f1) a2).f0) && (((rd_T73 ((rd_T70 l0_1 x8_1).f1) x9_2).f1) == ((rd_T73 ((rd_T70 l0_1 a1).f1) a2).f1))) := by simpa using c28))
     clear c28
     have H' := Aside0.mk H
     clear H
     have hnb32 := NB244_247.out
     have hnc32 := NB247_244.out
     obtain ⟨hcz33_0, hcz33_1, hfz33_0, hfz33_1⟩ := cz2 (w := wr) BK244.out
     have p248 : 0 ≤ (x8_1 : Int) := od
     have q248 : x8_1 < (l0_1.length : Int) := od
     obtain ⟨ad248, A248_1, c248_1, e248, hx248_0, hx248_1, hl248_1, hi248_1⟩ := at_T70 HR0_1.out x8_1 p248 q248
     obtain rfl : ad245 = ad248 := (by injection e248)
     replace hx248_0 := cb HB.out hx248_0
     replace hx248_1 := cb HB.out hx248_1
     have HR248_1 := Aside0.mk hi248_1
     have HC248_1 := Aside0.mk hl248_1
     clear hi248_1 hl248_1
     replace p248 := eq_true p248
     replace q248 := eq_true q248
     have p251 : 0 ≤ (x8_1 : Int) := od
     have q251 : x8_1 < (l0_1.length : Int) := od
     obtain ⟨ad251, A251_1, c251_1, e251, hx251_0, hx251_1, hl251_1, hi251_1⟩ := at_T70 HR0_1.out x8_1 p251 q251
     obtain rfl : ad245 = ad251 := (by injection e251)
     replace hx251_0 := cb HB.out hx251_0
     replace hx251_1 := cb HB.out hx251_1
     have HR251_1 := Aside0.mk hi251_1
     have HC251_1 := Aside0.mk hl251_1
     clear hi251_1 hl251_1
     replace p251 := eq_true p251
     replace q251 := eq_true q251
     have ea_ := Option.some.inj (hx248_1.symm.trans hx251_1)
     injection ea_ with ea_ en_ ec_
     subst ea_
     subst ec_
     clear en_
     have p252 : 0 ≤ (x9_2 : Int) := od
     have q252 : x9_2 < (((rd_T70 l0_1 x8_1).f1).length : Int) := od
     obtain ⟨ad252, e252, hx252_0, hx252_1⟩ := at_T73 HR251_1.out x9_2 p252 q252
     cases e252
     replace hx252_0 := cb HB.out hx252_0
     replace hx252_1 := cb HB.out hx252_1
     replace p252 := eq_true p252
     replace q252 := eq_true q252
     obtain ⟨hcz34_0, hcz34_1, hfz34_0, hfz34_1⟩ := cz2 (w := wr) BK247.out
     go_wp2
     repeat (go_quiet (fail); try go_wp2)
     go_roundg k2
     case measure => have := HK1.out; have := HK2.out; omega
     case rel => exact ⟨(wrap64 (x9_2 + 1)), fj, H', ⟨by have := HK1.out; have := HK2.out; omega⟩, ⟨by refine bx ?_; exact BK244.out⟩, ⟨by refine bx ?_; exact BK247.out⟩, ⟨bl⟩⟩

end Go.Proofs.Ytfpphaflbmlpeaa.GCandDecodes
