-- Written by wip/stub.py of this repo.
import Derived.Test.YtfpphaflbmlpeaaGCandChecksx0
namespace Go.Proofs.Ytfpphaflbmlpeaa.GCandChecks
open Go.RowKit Go.Proofs.YtfpphaflbmlpeaaW.PrintWords Go.Proofs.YtfpphaflbmlpeaaW.PrintLast Go.Proofs.YtfpphaflbmlpeaaW.PrintMore
attribute [local go_sem] max2_int min2_int max_two min_two max_three min_three max_four min_four   -- for this text's walks alone
set_option linter.unusedVariables false
set_option linter.unusedSimpArgs false

/-- A state of type 59 at block g of W; what its slices lead to came in by w0. -/
def St91 (w0 : World) (A0 : Option Addr) (c0 : Nat × Nat) (f0 : List Int) (f1 : Int) : Prop := Kd.C (Kd.int .u8) w0 A0 c0.2 (f0.drop f1.toNat) ∧ c0.2 ≤ c0.1 ∧ 0 ≤ f1 ∧ f1 ≤ (f0.length : Int) ∧ (f0.length : Int) ≤ 9223372036854775807
theorem St91.new {w0 : World} {A0 : Option Addr} {c : Nat} {l0 : List Int} (h : Kd.C (Kd.int .u8) w0 A0 l0.length l0) (hc : l0.length ≤ c) : St91 w0 A0 (c, l0.length) l0 0 := ⟨h, hc, Int.le_refl _, Int.natCast_nonneg _, Int.ofNat_le.2 h.2.1⟩
theorem St91.len {w0 : World} {A0 : Option Addr} {c0 : Nat × Nat} {f0 : List Int} {f1 : Int} (h : St91 w0 A0 c0 f0 f1) : ((c0.2 : Nat) : Int) = (f0.length : Int) - f1 := by
 have h1 := Kd.C_len h.1
 rw [List.length_drop] at h1
 have h2 := h.2.2.1
 have h3 := h.2.2.2.1
 omega
theorem St91.lenw {w0 : World} {A0 : Option Addr} {c0 : Nat × Nat} {f0 : List Int} {f1 : Int} (h : St91 w0 A0 c0 f0 f1) : ((c0.2 : Nat) : Int) = wrap64 ((f0.length : Int) - f1) := by
 have h1 := h.len
 have h2 := h.2.2.1
 have h3 := h.2.2.2.1
 have h4 := h.2.2.2.2
 unfold wrap64
 rw [Int.emod_eq_of_lt (by omega) (by omega)]
 omega
def IsS59 (w0 W : World) (g : Nat) (f0 : List Int) (f1 : Int) (f2 : Bool) : Prop := ∃ (A0 : Option Addr) (c0 : Nat × Nat), W.heap[g]? = some (.cells #[.slice A0 c0.2 c0.1, .bool f2] 91 (0, 0)) ∧ w0.heap.size ≤ g ∧ St91 w0 A0 c0 f0 f1
theorem IsS59.grown {w0 W : World} {g : Nat} {f0 : List Int} {f1 : Int} {f2 : Bool} {W1 : World} {row : Option Nat} (h : IsS59 w0 W g f0 f1 f2) (hw : W.grownBy W1 row) (hne : some g ≠ row) : IsS59 w0 W1 g f0 f1 f2 := by
 obtain ⟨A0, c0, hb, hg, hr0⟩ := h
 exact ⟨A0, c0, blk_grown hb hw hne, hg, hr0⟩
theorem IsS59.own_neN {w0 W : World} {g : Nat} {f0 : List Int} {f1 : Int} {f2 : Bool} {α : Type} {d : Kd α} {e : Nat} {base : Nat} {ok : Nat → Prop} {v : Value} {xs : List α} (h : IsS59 w0 W g f0 f1 f2) (ho : Kd.N d e W base ok v xs) (ht : e ≠ 91) : some g ≠ v.ownBlock := by
 obtain ⟨A0, c0, hb, hg, hr0⟩ := h
 exact Kd.N_ne ho hb ht
theorem IsS59.fresh {w0 W : World} {g : Nat} {f0 : List Int} {f1 : Int} {f2 : Bool} (h : IsS59 w0 W g f0 f1 f2) : ∀ k, W.heap.size ≤ k → k ≠ g := by
 obtain ⟨A0, c0, hb, hg, hr0⟩ := h
 exact Kd.freshB hb
theorem IsS59.kept {w0 W : World} {g : Nat} {f0 : List Int} {f1 : Int} {f2 : Bool} {W1 : World} {S : Nat → Prop} (h : IsS59 w0 W g f0 f1 f2) (hk : Kept W W1 S) (hne : ¬ S g) : IsS59 w0 W1 g f0 f1 f2 := by
 obtain ⟨A0, c0, hb, hg, hr0⟩ := h
 exact ⟨A0, c0, blk_kept hb hk hne, hg, hr0⟩
theorem IsS59.below {w0 W : World} {g : Nat} {f0 : List Int} {f1 : Int} {f2 : Bool} {W1 : World} (h : IsS59 w0 W g f0 f1 f2) (hw : Below W.heap.size W W1) : IsS59 w0 W1 g f0 f1 f2 := h.grown (grown_of_below hw none) (by simp)
theorem IsS59.alloc {w0 W : World} {g : Nat} {f0 : List Int} {f1 : Int} {f2 : Bool} (h : IsS59 w0 W g f0 f1 f2) (o : Obj) : IsS59 w0 (W.alloc o) g f0 f1 f2 := h.below (below_alloc (Below.refl _ _) o)
theorem IsS59.drewN {w0 W : World} {g : Nat} {f0 : List Int} {f1 : Int} {f2 : Bool} (h : IsS59 w0 W g f0 f1 f2) (m : Nat) : IsS59 w0 (W.drewN m) g f0 f1 f2 := h
theorem IsS59.drew {w0 W : World} {g : Nat} {f0 : List Int} {f1 : Int} {f2 : Bool} (h : IsS59 w0 W g f0 f1 f2) : IsS59 w0 W.drew g f0 f1 f2 := h
theorem IsS59.at_ {w0 W : World} {g : Nat} {f0 : List Int} {f1 : Int} {f2 : Bool} {w' : World} {m : Nat} (hq : W.drewN m = w') (h : IsS59 w0 W g f0 f1 f2) : IsS59 w0 w' g f0 f1 f2 := by subst hq; exact IsS59.drewN h m
theorem IsS59.apart {w0 W : World} {g : Nat} {f0 : List Int} {f1 : Int} {f2 : Bool} {α : Type} {d : Kd α} {e : Nat} {base : Nat} {ok : Nat → Prop} {v : Value} {xs : List α} (h : IsS59 w0 W g f0 f1 f2) (ho : d.R e W base ok v xs) (ht : ∀ q, q ∈ e :: d.E → q ≠ 91) : d.R e W base (fun k => ok k ∧ k ≠ g) v xs := by
 obtain ⟨A0, c0, hb, hg, hr0⟩ := h
 exact Kd.R_types ho hb ht
theorem IsS59.own_ne {w0 W : World} {g : Nat} {f0 : List Int} {f1 : Int} {f2 : Bool} {α : Type} {d : Kd α} {e : Nat} {base : Nat} {ok : Nat → Prop} {v : Value} {xs : List α} (h : IsS59 w0 W g f0 f1 f2) (ho : d.R e W base ok v xs) (ht : e ≠ 91) : some g ≠ v.ownBlock := by
 obtain ⟨A0, c0, hb, hg, hr0⟩ := h
 exact Kd.R_ne ho hb ht
theorem IsS59.apartQ {w0 W : World} {g : Nat} {f0 : List Int} {f1 : Int} {f2 : Bool} {α : Type} {d : Kd α} {e : Nat} {base : Nat} {ok : Nat → Prop} {v : Value} {xs : List α} (h : IsS59 w0 W g f0 f1 f2) (ho : d.Q e W base ok v xs) (ht : ∀ q, q ∈ e :: d.E → q ≠ 91) : d.Q e W base (fun k => ok k ∧ k ≠ g) v xs := by
 obtain ⟨A0, c0, hb, hg, hr0⟩ := h
 exact Kd.Q_types ho hb ht
theorem IsS59.own_neQ {w0 W : World} {g : Nat} {f0 : List Int} {f1 : Int} {f2 : Bool} {α : Type} {d : Kd α} {e : Nat} {base : Nat} {ok : Nat → Prop} {v : Value} {xs : List α} (h : IsS59 w0 W g f0 f1 f2) (ho : d.Q e W base ok v xs) (ht : e ≠ 91) : some g ≠ v.ownBlock := by
 obtain ⟨A0, c0, hb, hg, hr0⟩ := h
 exact Kd.Q_ne ho hb ht
theorem IsS59.apartS {w0 W : World} {g : Nat} {f0 : List Int} {f1 : Int} {f2 : Bool} {α : Type} {d : Kd α} {e : Nat} {base : Nat} {ok : Nat → Prop} {v : Value} {xs : List α} (h : IsS59 w0 W g f0 f1 f2) (ho : d.S e W base ok v xs) (ht : ∀ q, q ∈ e :: d.E → q ≠ 91) : d.S e W base (fun k => ok k ∧ k ≠ g) v xs := by
 obtain ⟨A0, c0, hb, hg, hr0⟩ := h
 exact Kd.S_types ho hb ht
theorem IsS59.own_neS {w0 W : World} {g : Nat} {f0 : List Int} {f1 : Int} {f2 : Bool} {α : Type} {d : Kd α} {e : Nat} {base : Nat} {ok : Nat → Prop} {v : Value} {xs : List α} (h : IsS59 w0 W g f0 f1 f2) (ho : d.S e W base ok v xs) (ht : e ≠ 91) : some g ≠ v.ownBlock := by
 obtain ⟨A0, c0, hb, hg, hr0⟩ := h
 exact Kd.S_ne ho hb ht
theorem IsS59.lt {w0 W : World} {g : Nat} {f0 : List Int} {f1 : Int} {f2 : Bool} (h : IsS59 w0 W g f0 f1 f2) : g < W.heap.size := by
 obtain ⟨A0, c0, hb, hg, hr0⟩ := h
 exact blk_lt hb
theorem IsS59.ge {w0 W : World} {g : Nat} {f0 : List Int} {f1 : Int} {f2 : Bool} (h : IsS59 w0 W g f0 f1 f2) : w0.heap.size ≤ g := by
 obtain ⟨A0, c0, hb, hg, hr0⟩ := h
 exact hg
theorem IsS59.ne_blk {w0 W : World} {g : Nat} {f0 : List Int} {f1 : Int} {f2 : Bool} {a : Nat} {cs : Array Value} {t : TypeId} {fr : Nat × Nat} (h : IsS59 w0 W g f0 f1 f2) (hb2 : W.heap[a]? = some (.cells cs t fr)) (ht : t ≠ 91) : g ≠ a := by
 obtain ⟨A0, c0, hb, hg, hr0⟩ := h
 rintro rfl
 rw [hb] at hb2
 injection hb2 with hb2
 injection hb2 with _ ht2
 exact ht ht2.symm
theorem IsS59.far {w0 W : World} {g : Nat} {f0 : List Int} {f1 : Int} {f2 : Bool} {p : Addr} (h : IsS59 w0 W g f0 f1 f2) (hne : g ≠ p.block) (u : Value) : IsS59 w0 (W.setCell p u) g f0 f1 f2 := by
 obtain ⟨A0, c0, hb, hg, hr0⟩ := h
 exact ⟨A0, c0, blk_far hb hne u, hg, hr0⟩
theorem cellS59_0 {W : World} {g : Nat} {A0 : Option Addr} {c0 : Nat × Nat} {f2 : Bool} (h : W.heap[g]? = some (.cells #[.slice A0 c0.2 c0.1, .bool f2] 91 (0, 0))) : W.cell? ⟨g, 0, none⟩ = some (.slice A0 c0.2 c0.1) := (blk_cell h 0).trans rfl
theorem IsS59.move {w0 W : World} {g : Nat} {f0 : List Int} {f1 f3 : Int} {f2 : Bool} {A1 : Option Addr} {c1 : Nat × Nat} (h : IsS59 w0 W g f0 f1 f2) (hs : St91 w0 A1 c1 f0 f3) : IsS59 w0 (W.setCell ⟨g, 0, none⟩ (.slice A1 c1.2 c1.1)) g f0 f3 f2 := by
 obtain ⟨A0, c0, hb, hg, hr0⟩ := h
 exact ⟨A1, c1, by simpa using blk_set hb 0 (.slice A1 c1.2 c1.1), hg, hs⟩
theorem cellS59_2 {W : World} {g : Nat} {A0 : Option Addr} {c0 : Nat × Nat} {f2 : Bool} (h : W.heap[g]? = some (.cells #[.slice A0 c0.2 c0.1, .bool f2] 91 (0, 0))) : W.cell? ⟨g, 1, none⟩ = some (.bool f2) := (blk_cell h 1).trans rfl
theorem IsS59.set_2 {w0 W : World} {g : Nat} {f0 : List Int} {f1 : Int} {f2 : Bool} (h : IsS59 w0 W g f0 f1 f2) (x : Bool) : IsS59 w0 (W.setCell ⟨g, 1, none⟩ (.bool x)) g f0 f1 x := by
 obtain ⟨A0, c0, hb, hg, hr0⟩ := h
 exact ⟨A0, c0, by simpa using blk_set hb 1 (.bool x), hg, hr0⟩
theorem IsS59.new (w0 W : World) (A0 : Option Addr) (c0 : Nat × Nat) (f0 : List Int) (f1 : Int) (f2 : Bool) (hB : Below w0.heap.size w0 W) (hr0 : St91 w0 A0 c0 f0 f1) : IsS59 w0 (W.alloc (.cells #[.slice A0 c0.2 c0.1, .bool f2] 91)) W.heap.size f0 f1 f2 := ⟨A0, c0, by simpa using heap_alloc_new W _, hB.size, hr0⟩

/-! ### cand_reader_next: function 66 -/
def cand_reader_next.f (s0_0 : List Int) (s0_1 : Int) (s0_2 : Bool) : Option (Int × Int × Bool) := if s0_1 = (s0_0.length : Int) then (some (0, s0_1, true)) else (if 0 ≤ s0_1 then (if s0_1 < (s0_0.length : Int) then (some (rd s0_0 s0_1, wrap64 (s0_1 + 1), s0_2)) else (none)) else (none))
theorem cut91 {w0 : World} {A0 : Option Addr} {c0 : Nat × Nat} {f0 : List Int} {f1 : Int} (h : St91 w0 A0 c0 f0 f1) (hlt : f1 < (f0.length : Int)) :
  ∃ (A1 : Option Addr) (c1 : Nat × Nat), (∀ W : World, (Instr.slice 30 (.slice A0 c0.2 c0.1) (some (.int .i64 1)) none none).run Try.prog W = .ok (.slice A1 c1.2 c1.1) W) ∧ St91 w0 A1 c1 f0 (wrap64 (f1 + 1)) := by
 have hl := h.len
 obtain ⟨h1, h2, h3, h4, h5⟩ := h
 have hL := Kd.C_len h1
 have hw : wrap64 (f1 + 1) = f1 + 1 := by unfold wrap64; rw [Int.emod_eq_of_lt (by omega) (by omega)]; omega
 obtain ⟨i0, hi0, _, hsz, _⟩ := info_parts info5
 obtain ⟨A1, hc, hA, hC⟩ := print_drop_of (P := Try.prog) (Value.int .u8) (0 : Int) 30 5 .i64 Try.underlying30 hi0 hsz A0 c0.1 (f0.drop f1.toNat) 1 (by decide) (by rw [hL]; omega) (by rw [hL]; exact h2)
 refine ⟨A1, (c0.1 - 1, c0.2 - 1), fun W => ?_, ?_⟩
 ·have := hc W
  rw [hL, List.length_drop, hL] at this
  exact this
 ·rw [hw]
  have hd : f0.drop (f1 + 1).toNat = (f0.drop f1.toNat).drop (1 : Int).toNat := by
   show _ = (f0.drop f1.toNat).drop 1
   rw [List.drop_drop, show (f1 + 1).toNat = f1.toNat + 1 from by omega]
  refine ⟨?_, by show c0.2 - 1 ≤ c0.1 - 1; omega, by omega, by omega, h5⟩
  rw [hd]
  have hr := hA w0 (Kd.reads_of_C (enc := Value.int .u8) (d := (0 : Int)) (h1 := fun _ => rfl) (by rw [hL]; exact h1))
  have hn : ((f0.drop f1.toNat).drop (1 : Int).toNat).length = c0.2 - 1 := by rw [List.length_drop, hL]; rfl
  have hx := Kd.C_of_reads (enc := Value.int .u8) (h1 := fun _ => rfl) hr
  rw [hn] at hx
  exact hx
set_option maxHeartbeats 8000000 in
set_option maxRecDepth 100000 in
theorem cand_reader_next.calls (g : Nat) (s0_0 : List Int) (s0_1 : Int) (s0_2 : Bool) (r1 : Int) (r2 : Int) (r3 : Bool) (w0 w : World) (hI : IsS59 w0 w g s0_0 s0_1 s0_2) (hB : Below w0.heap.size w0 w) (h : cand_reader_next.f s0_0 s0_1 s0_2 = some (r1, r2, r3)) :
  Calls Try.prog 66 #[.pointer (some ⟨g, 0, none⟩)] w fun e w' => e = .returned (.int .u8 r1) ∧ IsS59 w0 w' g s0_0 r2 r3 ∧ Below w0.heap.size w0 w' ∧ KeepBut w w' g none := by
 have HI0 := Aside0.mk hI
 have HK := Aside0.mk (KeepBut.refl w g none)
 have HL := Aside0.mk hB.size
 clear hI
 have HW0 := Aside0.mk hB.size
 have HB := Aside0.mk hB
 clear hB
 have H : (if s0_1 = (s0_0.length : Int) then (some (0, s0_1, true)) else (if 0 ≤ s0_1 then (if s0_1 < (s0_0.length : Int) then (some (rd s0_0 s0_1, wrap64 (s0_1 + 1), s0_2)) else (none)) else (none))) = some (r1, r2, r3) := h
 clear h
 by_cases c2 : s0_1 = (s0_0.length : Int)
 ·rw [if_pos c2] at H
  have c2b0 : (s0_1 == (s0_0.length : Int)) = true := beq_iff_eq.mpr c2
  have c2b1 : (s0_1 != (s0_0.length : Int)) = false := bne_eq_false_iff_eq.mpr c2
  simp only [Option.some.injEq, Prod.mk.injEq] at H
  obtain ⟨rfl, rfl, rfl⟩ := H
  obtain ⟨ASz3_0, cSz3_0, HGz3, hgz3, HSz3_0⟩ := HI0.out
  have hcz3_0 := cellS59_0 HGz3
  have hcz3_2 := cellS59_2 HGz3
  have hfz3_1 := blk_frozen HGz3 1
  have hfz3_2 := blk_frozen HGz3 2
  clear HGz3 hgz3
  have hz : cSz3_0.2 = 0 := by have := HSz3_0.len; omega
  go_enter Try.func66, Try.ntmps66
  go_wp2
  go_ret
  exact ⟨fi, by repeat (first | (with_reducible first | exact HI0.out | apply IsS59.alloc | apply IsS59.drewN | apply IsS59.drew | apply IsS59.set_2) | exact HI0.out), by repeat (first | (with_reducible first | exact HB.out | apply below_alloc | apply pw_below_drewN | apply below_drew1 | refine below_set ?_ (IsS59.ge HI0.out)) | exact HB.out), by repeat (first | (with_reducible first | exact HK.out | apply KeepBut.set_ | apply keep_drewN | apply keep_drew | apply keep_alloc) | exact HK.out)⟩
 rw [if_neg c2] at H
 have c2b0 : (s0_1 == (s0_0.length : Int)) = false := beq_eq_false_iff_ne.mpr c2
 have c2b1 : (s0_1 != (s0_0.length : Int)) = true := bne_iff_ne.mpr c2
 by_cases c4 : 0 ≤ s0_1
 rotate_left
 ·rw [if_neg c4] at H
  exact absurd H (by simp)
 rw [if_pos c4] at H
 have c4b0 := decide_eq_true c4
 clear c4
 by_cases c5 : s0_1 < (s0_0.length : Int)
 rotate_left
 ·rw [if_neg c5] at H
  exact absurd H (by simp)
 rw [if_pos c5] at H
 have c5b0 := decide_eq_true c5
 clear c5
 simp only [Option.some.injEq, Prod.mk.injEq] at H
 obtain ⟨rfl, rfl, rfl⟩ := H
 obtain ⟨ASz6_0, cSz6_0, HGz6, hgz6, HSz6_0⟩ := HI0.out
 have hcz6_0 := cellS59_0 HGz6
 have hcz6_2 := cellS59_2 HGz6
 have hfz6_1 := blk_frozen HGz6 1
 have hfz6_2 := blk_frozen HGz6 2
 have hfz6_0 := blk_frozen HGz6 0
 clear HGz6 hgz6
 have hlt : s0_1 < (s0_0.length : Int) := of_decide_eq_true c5b0
 have hln := HSz6_0.len
 have hpos : (0 : Int) < ((cSz6_0.2 : Nat) : Int) := by omega
 obtain ⟨A1, c1, hcut, hst⟩ := cut91 HSz6_0 hlt
 obtain ⟨adb, eb, hxb⟩ := Kd.at_int HSz6_0.1 0 (Int.le_refl _) hpos
 cases eb
 replace hxb := pw_cell_below HB.out hxb
 have hge := HSz6_0.2.2.1
 have hrd : rd (s0_0.drop s0_1.toNat) 0 = rd s0_0 s0_1 := by unfold rd; rw [List.getD_eq_getElem?_getD, List.getD_eq_getElem?_getD, List.getElem?_drop]; rfl
 rw [hrd] at hxb
 have hxc : w.cell? adb = some (.int .u8 (rd s0_0 s0_1)) := hxb
 have hq0 : ((((cSz6_0.2 : Nat) : Int)) == 0) = false := beq_eq_false_iff_ne.mpr (by omega)
 have hq1 := eq_true hpos
 have hq2 : (0 < cSz6_0.2) = True := eq_true (by omega)
 have hq3 : (cSz6_0.2 = 0) = False := eq_false (by omega)
 clear hln hpos hge hlt
 go_enter Try.func66, Try.ntmps66
 go_wp2
 go_ret
 exact ⟨fi, by repeat (first | (with_reducible first | exact HI0.out | apply IsS59.alloc | apply IsS59.drewN | apply IsS59.drew | apply IsS59.set_2 | refine IsS59.move (f1 := s0_1) ?_ hst) | exact HI0.out), by repeat (first | (with_reducible first | exact HB.out | apply below_alloc | apply pw_below_drewN | apply below_drew1 | refine below_set ?_ (IsS59.ge HI0.out)) | exact HB.out), by repeat (first | (with_reducible first | exact HK.out | apply KeepBut.set_ | apply keep_drewN | apply keep_drew | apply keep_alloc) | exact HK.out)⟩

/-! ### cand_reader_number: function 54 -/
mutual
def cand_reader_number.l0 : Nat → Int → Int → List Int → Int → Bool → Option (Int × Int × Bool)
  | 0, _, _, _, _, _ => none
  | k + 1, x3, x6, x1000, x1001, x1002 => if x6 < 10 then ((cand_reader_next.f x1000 x1001 x1002).bind fun bt275 => (if bt275.1 = 0 then (if x6 > 0 then (cand_reader_number.j1 k x3 x6 bt275.1 x6 true x1000 bt275.2.1 bt275.2.2) else (if bt275.1 > 1 then (cand_reader_number.j1 k x3 x6 bt275.1 x6 (x6 == 9) x1000 bt275.2.1 bt275.2.2) else (cand_reader_number.j1 k x3 x6 bt275.1 x6 false x1000 bt275.2.1 bt275.2.2))) else (if bt275.1 > 1 then (cand_reader_number.j1 k x3 x6 bt275.1 x6 (x6 == 9) x1000 bt275.2.1 bt275.2.2) else (cand_reader_number.j1 k x3 x6 bt275.1 x6 false x1000 bt275.2.1 bt275.2.2)))) else (some (Go.bits .xor .i64 (wrap64 (x3 / 2)) (wrap64 (-(wrap64 (Go.bits .and .u64 x3 1)))), x1001, x1002))
def cand_reader_number.j1 : Nat → Int → Int → Int → Int → Bool → List Int → Int → Bool → Option (Int × Int × Bool)
  | 0, _, _, _, _, _, _, _, _ => none
  | k + 1, x3, x4, x5, x6, x24, x1000, x1001, x1002 => if x24 = true then (if 0 ≤ (wrap64 (7 * x4)) then (if x5 < 128 then (some (Go.bits .xor .i64 (wrap64 ((Go.bits .or .u64 x3 (shl .u64 (IntKind.u64.wrap (Go.bits .and .u8 x5 127)) (wrap64 (7 * x4)))) / 2)) (wrap64 (-(wrap64 (Go.bits .and .u64 (Go.bits .or .u64 x3 (shl .u64 (IntKind.u64.wrap (Go.bits .and .u8 x5 127)) (wrap64 (7 * x4)))) 1)))), x1001, true)) else (cand_reader_number.l0 k (Go.bits .or .u64 x3 (shl .u64 (IntKind.u64.wrap (Go.bits .and .u8 x5 127)) (wrap64 (7 * x4)))) (wrap64 (x6 + 1)) x1000 x1001 true)) else (none)) else (if 0 ≤ (wrap64 (7 * x4)) then (if x5 < 128 then (some (Go.bits .xor .i64 (wrap64 ((Go.bits .or .u64 x3 (shl .u64 (IntKind.u64.wrap (Go.bits .and .u8 x5 127)) (wrap64 (7 * x4)))) / 2)) (wrap64 (-(wrap64 (Go.bits .and .u64 (Go.bits .or .u64 x3 (shl .u64 (IntKind.u64.wrap (Go.bits .and .u8 x5 127)) (wrap64 (7 * x4)))) 1)))), x1001, x1002)) else (cand_reader_number.l0 k (Go.bits .or .u64 x3 (shl .u64 (IntKind.u64.wrap (Go.bits .and .u8 x5 127)) (wrap64 (7 * x4)))) (wrap64 (x6 + 1)) x1000 x1001 x1002)) else (none))
end
def cand_reader_number.f (k : Nat) (s0_0 : List Int) (s0_1 : Int) (s0_2 : Bool) : Option (Int × Int × Bool) := cand_reader_number.l0 k 0 0 s0_0 s0_1 s0_2
theorem cand_reader_number.mono_l : ∀ k, (∀ y0 y1 y2 y3 y4, LeO (cand_reader_number.l0 k y0 y1 y2 y3 y4) (cand_reader_number.l0 (k + 1) y0 y1 y2 y3 y4)) ∧ (∀ y0 y1 y2 y3 y4 y5 y6 y7, LeO (cand_reader_number.j1 k y0 y1 y2 y3 y4 y5 y6 y7) (cand_reader_number.j1 (k + 1) y0 y1 y2 y3 y4 y5 y6 y7))
 | 0 => ⟨fun _ _ _ _ _ r h => by simp [cand_reader_number.l0] at h, fun _ _ _ _ _ _ _ _ r h => by simp [cand_reader_number.j1] at h⟩
 | k + 1 => by
  obtain ⟨ih0, ih1⟩ := cand_reader_number.mono_l k
  refine ⟨?_, ?_⟩
  all_goals (intros; (first | unfold cand_reader_number.l0 | unfold cand_reader_number.j1); repeat' first | (with_reducible first | exact ih0 _ _ _ _ _ | exact ih1 _ _ _ _ _ _ _ _ | exact LeO.refl _ | exact LeO.none _ | refine LeO.ite ?_ ?_ | refine LeO.bind ?_ (fun _ => ?_)) | exact ih0 _ _ _ _ _ | exact ih1 _ _ _ _ _ _ _ _ | exact LeO.none _ | refine LeO.ite ?_ ?_ | refine LeO.bind ?_ (fun _ => ?_))
theorem cand_reader_number.mono : ∀ a0 a1 a2 k, LeO (cand_reader_number.f k a0 a1 a2) (cand_reader_number.f (k + 1) a0 a1 a2) := by
 intro a0 a1 a2 k
 obtain ⟨ih0, ih1⟩ := cand_reader_number.mono_l k
 unfold cand_reader_number.f
 repeat' first | (with_reducible first | exact ih0 _ _ _ _ _ | exact ih1 _ _ _ _ _ _ _ _ | exact LeO.refl _ | exact LeO.none _ | refine LeO.ite ?_ ?_ | refine LeO.bind ?_ (fun _ => ?_)) | exact ih0 _ _ _ _ _ | exact ih1 _ _ _ _ _ _ _ _ | exact LeO.none _ | refine LeO.ite ?_ ?_ | refine LeO.bind ?_ (fun _ => ?_)
set_option maxHeartbeats 8000000 in
set_option maxRecDepth 100000 in
theorem cand_reader_number.calls (k : Nat) (g : Nat) (s0_0 : List Int) (s0_1 : Int) (s0_2 : Bool) (r1 : Int) (r2 : Int) (r3 : Bool) (w0 w : World) (hI : IsS59 w0 w g s0_0 s0_1 s0_2) (hB : Below w0.heap.size w0 w) (h : cand_reader_number.f k s0_0 s0_1 s0_2 = some (r1, r2, r3)) :
  Calls Try.prog 54 #[.pointer (some ⟨g, 0, none⟩)] w fun e w' => e = .returned (.int .i64 r1) ∧ IsS59 w0 w' g s0_0 r2 r3 ∧ Below w0.heap.size w0 w' ∧ KeepBut w w' g none := by
 have HI0 := Aside0.mk hI
 have HK := Aside0.mk (KeepBut.refl w g none)
 have HL := Aside0.mk hB.size
 clear hI
 have HW0 := Aside0.mk hB.size
 have HB := Aside0.mk hB
 clear hB
 have H : (cand_reader_number.l0 k 0 0 s0_0 s0_1 s0_2) = some (r1, r2, r3) := h
 clear h
 have H' := Aside0.mk H
 clear H
 go_enter Try.func54, Try.ntmps54
 go_wp2
 go_loopg [3, 6] k (fun kq v3 v6 w' => ∃ (x3_1 : Int) (x6_1 : Int) (x1001_1 : Int) (x1002_1 : Bool), v3 = .int .u64 x3_1 ∧ v6 = .int .i64 x6_1 ∧ Aside0 (cand_reader_number.l0 kq x3_1 x6_1 s0_0 x1001_1 x1002_1 = some (r1, r2, r3)) ∧ Aside0 (kq ≤ k) ∧ Aside0 (IsS59 w0 w' g s0_0 x1001_1 x1002_1) ∧ Aside0 (KeepBut w w' g none) ∧ Aside0 (Below w0.heap.size w0 w'))
 case atStart => exact ⟨(0), (0), (s0_1), (s0_2), fj, fj, H', ⟨Nat.le_refl _⟩, ⟨by repeat (first | (with_reducible first | exact HI0.out | apply IsS59.alloc | apply IsS59.drewN | apply IsS59.drew | apply IsS59.set_2) | exact HI0.out)⟩, ⟨by repeat (first | (with_reducible first | exact HK.out | apply KeepBut.set_ | apply keep_drewN | apply keep_drew | apply keep_alloc) | exact HK.out)⟩, ⟨by repeat (first | (with_reducible first | exact HB.out | apply below_alloc | apply pw_below_drewN | apply below_drew1 | refine below_set ?_ (IsS59.ge HI0.out)) | exact HB.out)⟩⟩
 case round =>
  clear H'
  obtain ⟨x3_1, x6_1, x1001_1, x1002_1, rfl, rfl, HA, HK1, HI0, HK, HB⟩ := hrel
  cases gk with
  | zero => exact absurd HA.out (by simp [cand_reader_number.l0])
  | succ k1 =>
   have H := HA.out
   clear HA
   simp only [cand_reader_number.l0] at H
   by_cases c2 : x6_1 < 10
   rotate_left
   ·rw [if_neg c2] at H
    have c2b0 := decide_eq_false c2
    clear c2
    simp only [Option.some.injEq, Prod.mk.injEq] at H
    obtain ⟨rfl, rfl, rfl⟩ := H
    go_wp2
    go_ret
    exact ⟨fi, by repeat (first | (with_reducible first | exact HI0.out | apply IsS59.alloc | apply IsS59.drewN | apply IsS59.drew | apply IsS59.set_2) | exact HI0.out), by repeat (first | (with_reducible first | exact HB.out | apply below_alloc | apply pw_below_drewN | apply below_drew1 | refine below_set ?_ (IsS59.ge HI0.out)) | exact HB.out), by repeat (first | (with_reducible first | exact HK.out | apply KeepBut.set_ | apply keep_drewN | apply keep_drew | apply keep_alloc) | exact HK.out)⟩
   rw [if_pos c2] at H
   have c2b0 := decide_eq_true c2
   clear c2
   replace H := be H
   obtain ⟨⟨t275, t276, t277⟩, A3, H⟩ := H
   dsimp only at H
   have HC4 := Aside0.mk H
   clear H
   go_upto_region 6 with (first | ((with_reducible refine gate_callee (f := 66) rfl ?_); refine goesL_ (some 10) rfl rfl Try.func66 (by kernel_rfl) rfl #[.pointer (some ⟨g, 0, none⟩)] rfl ga ?_; (with_reducible refine (cand_reader_next.calls g s0_0 x1001_1 x1002_1 t275 t276 t277 w0 _ ?side1 ?side2 A3.out).mono ?_); (case side1 => repeat (first | (with_reducible first | exact HI0.out | apply IsS59.alloc | apply IsS59.drewN | apply IsS59.drew | apply IsS59.set_2) | exact HI0.out)); (case side2 => repeat (first | (with_reducible first | exact HB.out | apply below_alloc | apply pw_below_drewN | apply below_drew1 | refine below_set ?_ (IsS59.ge HI0.out)) | exact HB.out)); rintro e w5 ⟨rfl, hi, hb, hk⟩; refine ⟨_, rfl, ?_⟩; have n0_ := Aside0.mk (KeepBut.trans (by repeat (first | (with_reducible first | exact HK.out | apply KeepBut.set_ | apply keep_drewN | apply keep_drew | apply keep_alloc) | exact HK.out)) hk (.inl rfl)); have n1_ := Aside0.mk (hb); have n2_ := Aside0.mk (hi); clear HK; clear HB; clear HI0; have HK := n0_; have HB := n1_; have HI0 := n2_; clear n0_ n1_ n2_; (try clear hb)))
   (try simp only [Act.put, List.setIfInBounds_toArray, List.set_cons_zero, List.set_cons_succ])
   go_cut [24] (fun v24 wc => ∃ (kq : Nat) (x24_3 : Bool), v24 = .bool x24_3 ∧ Aside0 (cand_reader_number.j1 kq x3_1 x6_1 t275 x6_1 x24_3 s0_0 t276 t277 = some (r1, r2, r3)) ∧ Aside0 (kq ≤ k1) ∧ Aside0 (IsS59 w0 wc g s0_0 t276 t277) ∧ Aside0 (KeepBut w wc g none) ∧ Aside0 (Below w0.heap.size w0 wc))
   case first =>
    have H := HC4.out
    clear HC4
    by_cases c6 : t275 = 0
    rotate_left
    ·rw [if_neg c6] at H
     have c6b0 : (t275 == 0) = false := beq_eq_false_iff_ne.mpr c6
     have c6b1 : (t275 != 0) = true := bne_iff_ne.mpr c6
     (first | rw [c6b0] | (simp only [i64_w, i32_w]; rw [c6b0]) | skip)
     by_cases c9 : t275 > 1
     rotate_left
     ·rw [if_neg c9] at H
      have c9b0 := decide_eq_false c9
      clear c9
      have H' := Aside0.mk H
      clear H
      go_wp2
      go_meet
      case rel => exact ⟨_, (false), fj, H', ⟨by have := HK1.out; first | omega | exact Nat.le_refl _⟩, ⟨by repeat (first | (with_reducible first | exact HI0.out | apply IsS59.alloc | apply IsS59.drewN | apply IsS59.drew | apply IsS59.set_2) | exact HI0.out)⟩, ⟨by repeat (first | (with_reducible first | exact HK.out | apply KeepBut.set_ | apply keep_drewN | apply keep_drew | apply keep_alloc) | exact HK.out)⟩, ⟨by repeat (first | (with_reducible first | exact HB.out | apply below_alloc | apply pw_below_drewN | apply below_drew1 | refine below_set ?_ (IsS59.ge HI0.out)) | exact HB.out)⟩⟩
     rw [if_pos c9] at H
     have c9b0 := decide_eq_true c9
     clear c9
     have H' := Aside0.mk H
     clear H
     go_wp2
     go_meet
     case rel => exact ⟨_, ((x6_1 == 9)), fj, H', ⟨by have := HK1.out; first | omega | exact Nat.le_refl _⟩, ⟨by repeat (first | (with_reducible first | exact HI0.out | apply IsS59.alloc | apply IsS59.drewN | apply IsS59.drew | apply IsS59.set_2) | exact HI0.out)⟩, ⟨by repeat (first | (with_reducible first | exact HK.out | apply KeepBut.set_ | apply keep_drewN | apply keep_drew | apply keep_alloc) | exact HK.out)⟩, ⟨by repeat (first | (with_reducible first | exact HB.out | apply below_alloc | apply pw_below_drewN | apply below_drew1 | refine below_set ?_ (IsS59.ge HI0.out)) | exact HB.out)⟩⟩
    rw [if_pos c6] at H
    obtain ⟨c6b0, c6b1⟩ := eqs c6
    clear c6
    (first | rw [c6b0] | (simp only [i64_w, i32_w]; rw [c6b0]) | skip)
    by_cases c7 : x6_1 > 0
    ·rw [if_pos c7] at H
     have c7b0 := decide_eq_true c7
     clear c7
     have H' := Aside0.mk H
     clear H
     go_wp2
     go_meet
     case rel => exact ⟨_, (true), fj, H', ⟨by have := HK1.out; first | omega | exact Nat.le_refl _⟩, ⟨by repeat (first | (with_reducible first | exact HI0.out | apply IsS59.alloc | apply IsS59.drewN | apply IsS59.drew | apply IsS59.set_2) | exact HI0.out)⟩, ⟨by repeat (first | (with_reducible first | exact HK.out | apply KeepBut.set_ | apply keep_drewN | apply keep_drew | apply keep_alloc) | exact HK.out)⟩, ⟨by repeat (first | (with_reducible first | exact HB.out | apply below_alloc | apply pw_below_drewN | apply below_drew1 | refine below_set ?_ (IsS59.ge HI0.out)) | exact HB.out)⟩⟩
    rw [if_neg c7] at H
    have c7b0 := decide_eq_false c7
    clear c7
    by_cases c8 : t275 > 1
    rotate_left
    ·rw [if_neg c8] at H
     have c8b0 := decide_eq_false c8
     clear c8
     have H' := Aside0.mk H
     clear H
     go_wp2
     go_meet
     case rel => exact ⟨_, (false), fj, H', ⟨by have := HK1.out; first | omega | exact Nat.le_refl _⟩, ⟨by repeat (first | (with_reducible first | exact HI0.out | apply IsS59.alloc | apply IsS59.drewN | apply IsS59.drew | apply IsS59.set_2) | exact HI0.out)⟩, ⟨by repeat (first | (with_reducible first | exact HK.out | apply KeepBut.set_ | apply keep_drewN | apply keep_drew | apply keep_alloc) | exact HK.out)⟩, ⟨by repeat (first | (with_reducible first | exact HB.out | apply below_alloc | apply pw_below_drewN | apply below_drew1 | refine below_set ?_ (IsS59.ge HI0.out)) | exact HB.out)⟩⟩
    rw [if_pos c8] at H
    have c8b0 := decide_eq_true c8
    clear c8
    have H' := Aside0.mk H
    clear H
    go_wp2
    go_meet
    case rel => exact ⟨_, ((x6_1 == 9)), fj, H', ⟨by have := HK1.out; first | omega | exact Nat.le_refl _⟩, ⟨by repeat (first | (with_reducible first | exact HI0.out | apply IsS59.alloc | apply IsS59.drewN | apply IsS59.drew | apply IsS59.set_2) | exact HI0.out)⟩, ⟨by repeat (first | (with_reducible first | exact HK.out | apply KeepBut.set_ | apply keep_drewN | apply keep_drew | apply keep_alloc) | exact HK.out)⟩, ⟨by repeat (first | (with_reducible first | exact HB.out | apply below_alloc | apply pw_below_drewN | apply below_drew1 | refine below_set ?_ (IsS59.ge HI0.out)) | exact HB.out)⟩⟩
   case rest =>
    clear HC4
    try clear c2
    try clear c2b0
    try clear p2
    try clear c5
    try clear c6
    try clear c6b0
    try clear c6b1
    try clear c7
    try clear c7b0
    try clear c8
    try clear c8b0
    try clear c9
    try clear c9b0
    obtain ⟨kq, x24_3, rfl, HA, HJ3, HI0, HK, HB⟩ := hcut
    cases kq with
    | zero => exact absurd HA.out (by simp [cand_reader_number.j1])
    | succ kj3 =>
     have H := HA.out
     clear HA
     simp only [cand_reader_number.j1] at H
     by_cases c10 : x24_3 = true
     rotate_left
     ·replace c10 := Bool.eq_false_iff.mpr c10
      subst c10
      have H1 : (if 0 ≤ (wrap64 (7 * x6_1)) then (if t275 < 128 then (some (Go.bits .xor .i64 (wrap64 ((Go.bits .or .u64 x3_1 (shl .u64 (IntKind.u64.wrap (Go.bits .and .u8 t275 127)) (wrap64 (7 * x6_1)))) / 2)) (wrap64 (-(wrap64 (Go.bits .and .u64 (Go.bits .or .u64 x3_1 (shl .u64 (IntKind.u64.wrap (Go.bits .and .u8 t275 127)) (wrap64 (7 * x6_1)))) 1)))), t276, t277)) else (cand_reader_number.l0 kj3 (Go.bits .or .u64 x3_1 (shl .u64 (IntKind.u64.wrap (Go.bits .and .u8 t275 127)) (wrap64 (7 * x6_1)))) (wrap64 (x6_1 + 1)) s0_0 t276 t277)) else (none)) = some (r1, r2, r3) := by rw [if_neg (show ¬ (false = true) by decide)] at H; exact H
      clear H
      have H := H1
      clear H1
      obtain ⟨ji17, hji17⟩ : ∃ j_ : Int, (wrap64 (7 * x6_1)) = j_ := ⟨_, rfl⟩
      replace H : (if 0 ≤ (ji17) then (if t275 < 128 then (some (Go.bits .xor .i64 (wrap64 ((Go.bits .or .u64 x3_1 (shl .u64 (IntKind.u64.wrap (Go.bits .and .u8 t275 127)) (ji17))) / 2)) (wrap64 (-(wrap64 (Go.bits .and .u64 (Go.bits .or .u64 x3_1 (shl .u64 (IntKind.u64.wrap (Go.bits .and .u8 t275 127)) (ji17))) 1)))), t276, t277)) else (cand_reader_number.l0 kj3 (Go.bits .or .u64 x3_1 (shl .u64 (IntKind.u64.wrap (Go.bits .and .u8 t275 127)) (ji17))) (wrap64 (x6_1 + 1)) s0_0 t276 t277)) else (none)) = some (r1, r2, r3) := by first | (rw [hji17] at H; exact H) | (simp only [hji17] at H ⊢; exact H)
      have hji17w : (IntKind.i64.wrap (7 * x6_1)) = ji17 := (i64_w _).trans hji17
      by_cases c18 : 0 ≤ (ji17)
      rotate_left
      ·rw [if_neg c18] at H
       exact absurd H (by simp)
      rw [if_pos c18] at H
      have c18b0 := eq_true c18
      have c18b1 : decide (0 ≤ (ji17)) = true := decide_eq_true c18
      clear c18
      obtain ⟨ji19, hji19⟩ : ∃ j_ : Int, (shl .u64 (IntKind.u64.wrap (Go.bits .and .u8 t275 127)) (ji17)) = j_ := ⟨_, rfl⟩
      replace H : (if t275 < 128 then (some (Go.bits .xor .i64 (wrap64 ((Go.bits .or .u64 x3_1 (ji19)) / 2)) (wrap64 (-(wrap64 (Go.bits .and .u64 (Go.bits .or .u64 x3_1 (ji19)) 1)))), t276, t277)) else (cand_reader_number.l0 kj3 (Go.bits .or .u64 x3_1 (ji19)) (wrap64 (x6_1 + 1)) s0_0 t276 t277)) = some (r1, r2, r3) := by first | (rw [hji19] at H; exact H) | (simp only [hji19] at H ⊢; exact H)
      have hji19_ : (IntKind.u64.wrap ((IntKind.u64.wrap (Go.bits .and .u8 t275 127)) * 2 ^ min (ji17).toNat 64)) = ji19 := hji19
      have hji19z : (ji17) ≤ 64 → (IntKind.u64.wrap ((IntKind.u64.wrap (Go.bits .and .u8 t275 127)) * 2 ^ (ji17).toNat)) = ji19 := shl_small hji19
      by_cases c20 : t275 < 128
      ·rw [if_pos c20] at H
       have c20b0 := decide_eq_true c20
       clear c20
       simp only [Option.some.injEq, Prod.mk.injEq] at H
       obtain ⟨rfl, rfl, rfl⟩ := H
       go_wp2
       go_ret
       exact ⟨by first | rfl | (simp [errW_none, errW_some] <;> rfl) | (simp only [← hji17, ← hji19]; first | rfl | (simp [errW_none, errW_some] <;> rfl)) | (simp [*, errW_none, errW_some] <;> rfl), by repeat (first | (with_reducible first | exact HI0.out | apply IsS59.alloc | apply IsS59.drewN | apply IsS59.drew | apply IsS59.set_2) | exact HI0.out), by repeat (first | (with_reducible first | exact HB.out | apply below_alloc | apply pw_below_drewN | apply below_drew1 | refine below_set ?_ (IsS59.ge HI0.out)) | exact HB.out), by repeat (first | (with_reducible first | exact HK.out | apply KeepBut.set_ | apply keep_drewN | apply keep_drew | apply keep_alloc) | exact HK.out)⟩
      rw [if_neg c20] at H
      have c20b0 := decide_eq_false c20
      clear c20
      have H' := Aside0.mk H
      clear H
      go_wp2
      go_roundg kj3
      case measure => have := HK1.out; have := HJ3.out; omega
      case rel => exact ⟨(Go.bits .or .u64 x3_1 (ji19)), (wrap64 (x6_1 + 1)), (t276), (t277), (by first | rfl | (simp; done) | (simp only [← hji19] <;> (first | rfl | simp)) | (simp [*]; done)), fj, H', ⟨by have := HK1.out; have := HJ3.out; omega⟩, ⟨by repeat (first | (with_reducible first | exact HI0.out | apply IsS59.alloc | apply IsS59.drewN | apply IsS59.drew | apply IsS59.set_2) | exact HI0.out)⟩, ⟨by repeat (first | (with_reducible first | exact HK.out | apply KeepBut.set_ | apply keep_drewN | apply keep_drew | apply keep_alloc) | exact HK.out)⟩, ⟨by repeat (first | (with_reducible first | exact HB.out | apply below_alloc | apply pw_below_drewN | apply below_drew1 | refine below_set ?_ (IsS59.ge HI0.out)) | exact HB.out)⟩⟩
     subst c10
     have H1 : (if 0 ≤ (wrap64 (7 * x6_1)) then (if t275 < 128 then (some (Go.bits .xor .i64 (wrap64 ((Go.bits .or .u64 x3_1 (shl .u64 (IntKind.u64.wrap (Go.bits .and .u8 t275 127)) (wrap64 (7 * x6_1)))) / 2)) (wrap64 (-(wrap64 (Go.bits .and .u64 (Go.bits .or .u64 x3_1 (shl .u64 (IntKind.u64.wrap (Go.bits .and .u8 t275 127)) (wrap64 (7 * x6_1)))) 1)))), t276, true)) else (cand_reader_number.l0 kj3 (Go.bits .or .u64 x3_1 (shl .u64 (IntKind.u64.wrap (Go.bits .and .u8 t275 127)) (wrap64 (7 * x6_1)))) (wrap64 (x6_1 + 1)) s0_0 t276 true)) else (none)) = some (r1, r2, r3) := by rw [if_pos rfl] at H; exact H
     clear H
     have H := H1
     clear H1
     obtain ⟨ji11, hji11⟩ : ∃ j_ : Int, (wrap64 (7 * x6_1)) = j_ := ⟨_, rfl⟩
     replace H : (if 0 ≤ (ji11) then (if t275 < 128 then (some (Go.bits .xor .i64 (wrap64 ((Go.bits .or .u64 x3_1 (shl .u64 (IntKind.u64.wrap (Go.bits .and .u8 t275 127)) (ji11))) / 2)) (wrap64 (-(wrap64 (Go.bits .and .u64 (Go.bits .or .u64 x3_1 (shl .u64 (IntKind.u64.wrap (Go.bits .and .u8 t275 127)) (ji11))) 1)))), t276, true)) else (cand_reader_number.l0 kj3 (Go.bits .or .u64 x3_1 (shl .u64 (IntKind.u64.wrap (Go.bits .and .u8 t275 127)) (ji11))) (wrap64 (x6_1 + 1)) s0_0 t276 true)) else (none)) = some (r1, r2, r3) := by first | (rw [hji11] at H; exact H) | (simp only [hji11] at H ⊢; exact H)
     have hji11w : (IntKind.i64.wrap (7 * x6_1)) = ji11 := (i64_w _).trans hji11
     by_cases c12 : 0 ≤ (ji11)
     rotate_left
     ·rw [if_neg c12] at H
      exact absurd H (by simp)
     rw [if_pos c12] at H
     have c12b0 := eq_true c12
     have c12b1 : decide (0 ≤ (ji11)) = true := decide_eq_true c12
     clear c12
     obtain ⟨ji13, hji13⟩ : ∃ j_ : Int, (shl .u64 (IntKind.u64.wrap (Go.bits .and .u8 t275 127)) (ji11)) = j_ := ⟨_, rfl⟩
     replace H : (if t275 < 128 then (some (Go.bits .xor .i64 (wrap64 ((Go.bits .or .u64 x3_1 (ji13)) / 2)) (wrap64 (-(wrap64 (Go.bits .and .u64 (Go.bits .or .u64 x3_1 (ji13)) 1)))), t276, true)) else (cand_reader_number.l0 kj3 (Go.bits .or .u64 x3_1 (ji13)) (wrap64 (x6_1 + 1)) s0_0 t276 true)) = some (r1, r2, r3) := by first | (rw [hji13] at H; exact H) | (simp only [hji13] at H ⊢; exact H)
     have hji13_ : (IntKind.u64.wrap ((IntKind.u64.wrap (Go.bits .and .u8 t275 127)) * 2 ^ min (ji11).toNat 64)) = ji13 := hji13
     have hji13z : (ji11) ≤ 64 → (IntKind.u64.wrap ((IntKind.u64.wrap (Go.bits .and .u8 t275 127)) * 2 ^ (ji11).toNat)) = ji13 := shl_small hji13
     by_cases c14 : t275 < 128
     ·rw [if_pos c14] at H
      have c14b0 := decide_eq_true c14
      clear c14
      simp only [Option.some.injEq, Prod.mk.injEq] at H
      obtain ⟨rfl, rfl, rfl⟩ := H
      obtain ⟨ASz15_0, cSz15_0, HGz15, hgz15, HSz15_0⟩ := HI0.out
      have hcz15_0 := cellS59_0 HGz15
      have hcz15_2 := cellS59_2 HGz15
      have hfz15_1 := blk_frozen HGz15 1
      have hfz15_2 := blk_frozen HGz15 2
      clear HGz15 hgz15
      go_wp2
      go_ret
      exact ⟨by first | rfl | (simp [errW_none, errW_some] <;> rfl) | (simp only [← hji11, ← hji13]; first | rfl | (simp [errW_none, errW_some] <;> rfl)) | (simp [*, errW_none, errW_some] <;> rfl), by repeat (first | (with_reducible first | exact HI0.out | apply IsS59.alloc | apply IsS59.drewN | apply IsS59.drew | apply IsS59.set_2) | exact HI0.out), by repeat (first | (with_reducible first | exact HB.out | apply below_alloc | apply pw_below_drewN | apply below_drew1 | refine below_set ?_ (IsS59.ge HI0.out)) | exact HB.out), by repeat (first | (with_reducible first | exact HK.out | apply KeepBut.set_ | apply keep_drewN | apply keep_drew | apply keep_alloc) | exact HK.out)⟩
     rw [if_neg c14] at H
     have c14b0 := decide_eq_false c14
     clear c14
     have H' := Aside0.mk H
     clear H
     obtain ⟨ASz16_0, cSz16_0, HGz16, hgz16, HSz16_0⟩ := HI0.out
     have hcz16_0 := cellS59_0 HGz16
     have hcz16_2 := cellS59_2 HGz16
     have hfz16_1 := blk_frozen HGz16 1
     have hfz16_2 := blk_frozen HGz16 2
     clear HGz16 hgz16
     go_wp2
     go_roundg kj3
     case measure => have := HK1.out; have := HJ3.out; omega
     case rel => exact ⟨(Go.bits .or .u64 x3_1 (ji13)), (wrap64 (x6_1 + 1)), (t276), (true), (by first | rfl | (simp; done) | (simp only [← hji13] <;> (first | rfl | simp)) | (simp [*]; done)), fj, H', ⟨by have := HK1.out; have := HJ3.out; omega⟩, ⟨by repeat (first | (with_reducible first | exact HI0.out | apply IsS59.alloc | apply IsS59.drewN | apply IsS59.drew | apply IsS59.set_2) | exact HI0.out)⟩, ⟨by repeat (first | (with_reducible first | exact HK.out | apply KeepBut.set_ | apply keep_drewN | apply keep_drew | apply keep_alloc) | exact HK.out)⟩, ⟨by repeat (first | (with_reducible first | exact HB.out | apply below_alloc | apply pw_below_drewN | apply below_drew1 | refine below_set ?_ (IsS59.ge HI0.out)) | exact HB.out)⟩⟩

/-! ### cand_reader_count: function 52 -/
def cand_reader_count.j0 : Nat → Int → Bool → List Int → Int → Bool → Option (Int × Int × Bool)
  | 0, _, _, _, _, _ => none
  | k + 1, x5, x20, x1000, x1001, x1002 => if x20 = true then (some (0, x1001, true)) else (if x1002 = true then (some (0, x1001, x1002)) else (some (x5, x1001, x1002)))
def cand_reader_count.f (k : Nat) (s0_0 : List Int) (s0_1 : Int) (s0_2 : Bool) (a1 : Int) : Option (Int × Int × Bool) := (cand_reader_number.f k s0_0 s0_1 s0_2).bind fun bt278 => (if bt278.1 < 0 then (cand_reader_count.j0 k bt278.1 true s0_0 bt278.2.1 bt278.2.2) else (if a1 = 0 then (none) else (cand_reader_count.j0 k bt278.1 (decide (bt278.1 > (wrap64 (Int.tdiv (wrap64 ((s0_0.length : Int) - bt278.2.1)) a1)))) s0_0 bt278.2.1 bt278.2.2)))
theorem cand_reader_count.mono_l : ∀ k, (∀ y0 y1 y2 y3 y4, LeO (cand_reader_count.j0 k y0 y1 y2 y3 y4) (cand_reader_count.j0 (k + 1) y0 y1 y2 y3 y4))
 | 0 => fun _ _ _ _ _ r h => by simp [cand_reader_count.j0] at h
 | k + 1 => by
  have ih0 := cand_reader_count.mono_l k
  ·intro y0 y1 y2 y3 y4
   unfold cand_reader_count.j0
   repeat' first | (with_reducible first | exact ih0 _ _ _ _ _ | exact cand_reader_number.mono _ _ _ _ | exact LeO.refl _ | exact LeO.none _ | refine LeO.ite ?_ ?_ | refine LeO.bind ?_ (fun _ => ?_)) | exact ih0 _ _ _ _ _ | exact cand_reader_number.mono _ _ _ _ | exact LeO.none _ | refine LeO.ite ?_ ?_ | refine LeO.bind ?_ (fun _ => ?_)
theorem cand_reader_count.mono : ∀ a0 a1 a2 a3 k, LeO (cand_reader_count.f k a0 a1 a2 a3) (cand_reader_count.f (k + 1) a0 a1 a2 a3) := by
 intro a0 a1 a2 a3 k
 have ih0 := cand_reader_count.mono_l k
 unfold cand_reader_count.f
 repeat' first | (with_reducible first | exact ih0 _ _ _ _ _ | exact cand_reader_number.mono _ _ _ _ | exact LeO.refl _ | exact LeO.none _ | refine LeO.ite ?_ ?_ | refine LeO.bind ?_ (fun _ => ?_)) | exact ih0 _ _ _ _ _ | exact cand_reader_number.mono _ _ _ _ | exact LeO.none _ | refine LeO.ite ?_ ?_ | refine LeO.bind ?_ (fun _ => ?_)
set_option maxHeartbeats 8000000 in
set_option maxRecDepth 100000 in
theorem cand_reader_count.calls (k : Nat) (g : Nat) (s0_0 : List Int) (s0_1 : Int) (s0_2 : Bool) (a1 : Int) (r1 : Int) (r2 : Int) (r3 : Bool) (w0 w : World) (hI : IsS59 w0 w g s0_0 s0_1 s0_2) (hB : Below w0.heap.size w0 w) (h : cand_reader_count.f k s0_0 s0_1 s0_2 a1 = some (r1, r2, r3)) :
  Calls Try.prog 52 #[.pointer (some ⟨g, 0, none⟩), .int .i64 a1] w fun e w' => e = .returned (.int .i64 r1) ∧ IsS59 w0 w' g s0_0 r2 r3 ∧ Below w0.heap.size w0 w' ∧ KeepBut w w' g none := by
 have HI0 := Aside0.mk hI
 have HK := Aside0.mk (KeepBut.refl w g none)
 have HL := Aside0.mk hB.size
 clear hI
 have HW0 := Aside0.mk hB.size
 have HB := Aside0.mk hB
 clear hB
 have H : ((cand_reader_number.f k s0_0 s0_1 s0_2).bind fun bt278 => (if bt278.1 < 0 then (cand_reader_count.j0 k bt278.1 true s0_0 bt278.2.1 bt278.2.2) else (if a1 = 0 then (none) else (cand_reader_count.j0 k bt278.1 (decide (bt278.1 > (wrap64 (Int.tdiv (wrap64 ((s0_0.length : Int) - bt278.2.1)) a1)))) s0_0 bt278.2.1 bt278.2.2)))) = some (r1, r2, r3) := h
 clear h
 replace H := be H
 obtain ⟨⟨t278, t279, t280⟩, A3, H⟩ := H
 dsimp only at H
 have HC4 := Aside0.mk H
 clear H
 go_enter Try.func52, Try.ntmps52
 go_upto_region 2 with (first | ((with_reducible refine gate_callee (f := 54) rfl ?_); refine goesL_ (some 7) rfl rfl Try.func54 (by kernel_rfl) rfl #[.pointer (some ⟨g, 0, none⟩)] rfl ga ?_; (with_reducible refine (cand_reader_number.calls k g s0_0 s0_1 s0_2 t278 t279 t280 w0 _ ?side1 ?side2 A3.out).mono ?_); (case side1 => repeat (first | (with_reducible first | exact HI0.out | apply IsS59.alloc | apply IsS59.drewN | apply IsS59.drew | apply IsS59.set_2) | exact HI0.out)); (case side2 => repeat (first | (with_reducible first | exact HB.out | apply below_alloc | apply pw_below_drewN | apply below_drew1 | refine below_set ?_ (IsS59.ge HI0.out)) | exact HB.out)); rintro e w5 ⟨rfl, hi, hb, hk⟩; refine ⟨_, rfl, ?_⟩; have n0_ := Aside0.mk (KeepBut.trans (by repeat (first | (with_reducible first | exact HK.out | apply KeepBut.set_ | apply keep_drewN | apply keep_drew | apply keep_alloc) | exact HK.out)) hk (.inl rfl)); have n1_ := Aside0.mk (hb); have n2_ := Aside0.mk (hi); clear HK; clear HB; clear HI0; have HK := n0_; have HB := n1_; have HI0 := n2_; clear n0_ n1_ n2_; (try clear hb)))
 (try simp only [Act.put, List.setIfInBounds_toArray, List.set_cons_zero, List.set_cons_succ])
 go_cut [20] (fun v20 wc => ∃ (kq : Nat) (x20_3 : Bool), v20 = .bool x20_3 ∧ Aside0 (cand_reader_count.j0 kq t278 x20_3 s0_0 t279 t280 = some (r1, r2, r3)) ∧ Aside0 (kq ≤ k) ∧ Aside0 (IsS59 w0 wc g s0_0 t279 t280) ∧ Aside0 (KeepBut w wc g none) ∧ Aside0 (Below w0.heap.size w0 wc))
 case first =>
  have H := HC4.out
  clear HC4
  by_cases c6 : t278 < 0
  ·rw [if_pos c6] at H
   have c6b0 := decide_eq_true c6
   clear c6
   (first | rw [c6b0] | (simp only [i64_w, i32_w]; rw [c6b0]) | skip)
   have H' := Aside0.mk H
   clear H
   go_wp2
   go_meet
   case rel => exact ⟨_, (true), fj, H', ⟨by first | omega | exact Nat.le_refl _⟩, ⟨by repeat (first | (with_reducible first | exact HI0.out | apply IsS59.alloc | apply IsS59.drewN | apply IsS59.drew | apply IsS59.set_2) | exact HI0.out)⟩, ⟨by repeat (first | (with_reducible first | exact HK.out | apply KeepBut.set_ | apply keep_drewN | apply keep_drew | apply keep_alloc) | exact HK.out)⟩, ⟨by repeat (first | (with_reducible first | exact HB.out | apply below_alloc | apply pw_below_drewN | apply below_drew1 | refine below_set ?_ (IsS59.ge HI0.out)) | exact HB.out)⟩⟩
  rw [if_neg c6] at H
  have c6b0 := decide_eq_false c6
  clear c6
  (first | rw [c6b0] | (simp only [i64_w, i32_w]; rw [c6b0]) | skip)
  by_cases c7 : a1 = 0
  ·rw [if_pos c7] at H
   exact absurd H (by simp)
  rw [if_neg c7] at H
  have c7b0 : (a1 == 0) = false := beq_eq_false_iff_ne.mpr c7
  have c7b1 : (a1 != 0) = true := bne_iff_ne.mpr c7
  have H' := Aside0.mk H
  clear H
  obtain ⟨ASz8_0, cSz8_0, HGz8, hgz8, HSz8_0⟩ := HI0.out
  have hnn8 := HSz8_0.lenw
  have hcz8_0 := cellS59_0 HGz8
  have hcz8_2 := cellS59_2 HGz8
  have hfz8_1 := blk_frozen HGz8 1
  have hfz8_2 := blk_frozen HGz8 2
  clear HGz8 hgz8
  go_wp2
  go_meet
  case rel => exact ⟨_, (decide (t278 > (wrap64 (Int.tdiv (wrap64 ((s0_0.length : Int) - t279)) a1)))), fj, H', ⟨by first | omega | exact Nat.le_refl _⟩, ⟨by repeat (first | (with_reducible first | exact HI0.out | apply IsS59.alloc | apply IsS59.drewN | apply IsS59.drew | apply IsS59.set_2) | exact HI0.out)⟩, ⟨by repeat (first | (with_reducible first | exact HK.out | apply KeepBut.set_ | apply keep_drewN | apply keep_drew | apply keep_alloc) | exact HK.out)⟩, ⟨by repeat (first | (with_reducible first | exact HB.out | apply below_alloc | apply pw_below_drewN | apply below_drew1 | refine below_set ?_ (IsS59.ge HI0.out)) | exact HB.out)⟩⟩
 case rest =>
  clear HC4
  try clear p2
  try clear c5
  try clear c6
  try clear c6b0
  try clear p6
  try clear c7
  try clear c7b0
  try clear c7b1
  try clear hcz8_0 hcz8_1 hcz8_2
  try clear hfz8_1 hfz8_2
  obtain ⟨kq, x20_3, rfl, HA, HJ3, HI0, HK, HB⟩ := hcut
  cases kq with
  | zero => exact absurd HA.out (by simp [cand_reader_count.j0])
  | succ kj3 =>
   have H := HA.out
   clear HA
   simp only [cand_reader_count.j0] at H
   by_cases c9 : x20_3 = true
   ·subst c9
    have H1 : (some (0, t279, true)) = some (r1, r2, r3) := by rw [if_pos rfl] at H; exact H
    clear H
    have H := H1
    clear H1
    simp only [Option.some.injEq, Prod.mk.injEq] at H
    obtain ⟨rfl, rfl, rfl⟩ := H
    obtain ⟨ASz10_0, cSz10_0, HGz10, hgz10, HSz10_0⟩ := HI0.out
    have hnn10 := HSz10_0.lenw
    have hcz10_0 := cellS59_0 HGz10
    have hcz10_2 := cellS59_2 HGz10
    have hfz10_1 := blk_frozen HGz10 1
    have hfz10_2 := blk_frozen HGz10 2
    clear HGz10 hgz10
    go_wp2
    go_ret
    exact ⟨fi, by repeat (first | (with_reducible first | exact HI0.out | apply IsS59.alloc | apply IsS59.drewN | apply IsS59.drew | apply IsS59.set_2) | exact HI0.out), by repeat (first | (with_reducible first | exact HB.out | apply below_alloc | apply pw_below_drewN | apply below_drew1 | refine below_set ?_ (IsS59.ge HI0.out)) | exact HB.out), by repeat (first | (with_reducible first | exact HK.out | apply KeepBut.set_ | apply keep_drewN | apply keep_drew | apply keep_alloc) | exact HK.out)⟩
   replace c9 := Bool.eq_false_iff.mpr c9
   subst c9
   have H1 : (if t280 = true then (some (0, t279, t280)) else (some (t278, t279, t280))) = some (r1, r2, r3) := by rw [if_neg (show ¬ (false = true) by decide)] at H; exact H
   clear H
   have H := H1
   clear H1
   by_cases c11 : t280 = true
   ·subst c11
    have H1 : (some (0, t279, true)) = some (r1, r2, r3) := by rw [if_pos rfl] at H; exact H
    clear H
    have H := H1
    clear H1
    simp only [Option.some.injEq, Prod.mk.injEq] at H
    obtain ⟨rfl, rfl, rfl⟩ := H
    obtain ⟨ASz12_0, cSz12_0, HGz12, hgz12, HSz12_0⟩ := HI0.out
    have hnn12 := HSz12_0.lenw
    have hcz12_0 := cellS59_0 HGz12
    have hcz12_2 := cellS59_2 HGz12
    have hfz12_1 := blk_frozen HGz12 1
    have hfz12_2 := blk_frozen HGz12 2
    clear HGz12 hgz12
    go_wp2
    go_ret
    exact ⟨fi, by repeat (first | (with_reducible first | exact HI0.out | apply IsS59.alloc | apply IsS59.drewN | apply IsS59.drew | apply IsS59.set_2) | exact HI0.out), by repeat (first | (with_reducible first | exact HB.out | apply below_alloc | apply pw_below_drewN | apply below_drew1 | refine below_set ?_ (IsS59.ge HI0.out)) | exact HB.out), by repeat (first | (with_reducible first | exact HK.out | apply KeepBut.set_ | apply keep_drewN | apply keep_drew | apply keep_alloc) | exact HK.out)⟩
   replace c11 := Bool.eq_false_iff.mpr c11
   subst c11
   have H1 : (some (t278, t279, false)) = some (r1, r2, r3) := by rw [if_neg (show ¬ (false = true) by decide)] at H; exact H
   clear H
   have H := H1
   clear H1
   simp only [Option.some.injEq, Prod.mk.injEq] at H
   obtain ⟨rfl, rfl, rfl⟩ := H
   obtain ⟨ASz13_0, cSz13_0, HGz13, hgz13, HSz13_0⟩ := HI0.out
   have hnn13 := HSz13_0.lenw
   have hcz13_0 := cellS59_0 HGz13
   have hcz13_2 := cellS59_2 HGz13
   have hfz13_1 := blk_frozen HGz13 1
   have hfz13_2 := blk_frozen HGz13 2
   clear HGz13 hgz13
   go_wp2
   go_ret
   exact ⟨fi, by repeat (first | (with_reducible first | exact HI0.out | apply IsS59.alloc | apply IsS59.drewN | apply IsS59.drew | apply IsS59.set_2) | exact HI0.out), by repeat (first | (with_reducible first | exact HB.out | apply below_alloc | apply pw_below_drewN | apply below_drew1 | refine below_set ?_ (IsS59.ge HI0.out)) | exact HB.out), by repeat (first | (with_reducible first | exact HK.out | apply KeepBut.set_ | apply keep_drewN | apply keep_drew | apply keep_alloc) | exact HK.out)⟩

/-! ### cand_reader_ref: function 55 -/
def cand_reader_ref.f (k : Nat) (s0_0 : List Int) (s0_1 : Int) (s0_2 : Bool) : Option (Int × Int × Int × Bool) := (cand_reader_number.f k s0_0 s0_1 s0_2).bind fun bt282 => ((cand_reader_number.f k s0_0 bt282.2.1 bt282.2.2).bind fun bt285 => (some (bt282.1, bt285.1, bt285.2.1, bt285.2.2)))
theorem cand_reader_ref.mono : ∀ a0 a1 a2 k, LeO (cand_reader_ref.f k a0 a1 a2) (cand_reader_ref.f (k + 1) a0 a1 a2) := by
 intro a0 a1 a2 k
 unfold cand_reader_ref.f
 repeat' first | (with_reducible first | exact cand_reader_number.mono _ _ _ _ | exact LeO.refl _ | exact LeO.none _ | refine LeO.ite ?_ ?_ | refine LeO.bind ?_ (fun _ => ?_)) | exact cand_reader_number.mono _ _ _ _ | exact LeO.none _ | refine LeO.ite ?_ ?_ | refine LeO.bind ?_ (fun _ => ?_)
set_option maxHeartbeats 8000000 in
set_option maxRecDepth 100000 in
theorem cand_reader_ref.calls (k : Nat) (g : Nat) (s0_0 : List Int) (s0_1 : Int) (s0_2 : Bool) (r1 : Int) (r2 : Int) (r3 : Int) (r4 : Bool) (w0 w : World) (hI : IsS59 w0 w g s0_0 s0_1 s0_2) (hB : Below w0.heap.size w0 w) (h : cand_reader_ref.f k s0_0 s0_1 s0_2 = some (r1, r2, r3, r4)) :
  Calls Try.prog 55 #[.pointer (some ⟨g, 0, none⟩)] w fun e w' => e = .returned (.agg #[.int .i64 r1, .int .i64 r2]) ∧ IsS59 w0 w' g s0_0 r3 r4 ∧ Below w0.heap.size w0 w' ∧ KeepBut w w' g none := by
 have hu73 := Try.underlying73
 have HI0 := Aside0.mk hI
 have HK := Aside0.mk (KeepBut.refl w g none)
 have HL := Aside0.mk hB.size
 clear hI
 have HW0 := Aside0.mk hB.size
 have HB := Aside0.mk hB
 clear hB
 have H : ((cand_reader_number.f k s0_0 s0_1 s0_2).bind fun bt282 => ((cand_reader_number.f k s0_0 bt282.2.1 bt282.2.2).bind fun bt285 => (some (bt282.1, bt285.1, bt285.2.1, bt285.2.2)))) = some (r1, r2, r3, r4) := h
 clear h
 replace H := be H
 obtain ⟨⟨t282, t283, t284⟩, A2, H⟩ := H
 dsimp only at H
 replace H := be H
 obtain ⟨⟨t285, t286, t287⟩, A3, H⟩ := H
 dsimp only at H
 simp only [Option.some.injEq, Prod.mk.injEq] at H
 obtain ⟨rfl, rfl, rfl, rfl⟩ := H
 go_enter Try.func55, Try.ntmps55
 go_wp2_with (first | ((with_reducible refine gate_dst (N := 2) rfl ?_); refine bv 2 #[.int .i64 0, .int .i64 0] 73 ?_; intro gb281 hg w4 hbox hb; have n0_ := Aside0.mk (IsS59.below (by repeat (first | (with_reducible first | exact HI0.out | apply IsS59.alloc | apply IsS59.drewN | apply IsS59.drew | apply IsS59.set_2) | exact HI0.out)) hb); have n1_ := Aside0.mk (KeepBut.trans (by repeat (first | (with_reducible first | exact HK.out | apply KeepBut.set_ | apply keep_drewN | apply keep_drew | apply keep_alloc) | exact HK.out)) (KeepBut.of_below hb g none) (.inl rfl)); have n2_ := Aside0.mk (below_step (by repeat (first | (with_reducible first | exact HB.out | apply below_alloc | apply pw_below_drewN | apply below_drew1 | refine below_set ?_ (IsS59.ge HI0.out)) | exact HB.out)) hb); have n3_ := Aside0.mk (hbox); have n4_ := Aside0.mk ((by rw [hg]; exact (keep_size (w := w) (g := g) (row := none) (by repeat (first | (with_reducible first | exact HK.out | apply KeepBut.set_ | apply keep_drewN | apply keep_drew | apply keep_alloc) | exact HK.out))) : w.heap.size ≤ gb281)); have n5_ := Aside0.mk ((Nat.le_trans HW0.out (by rw [hg]; exact (keep_size (w := w) (g := g) (row := none) (by repeat (first | (with_reducible first | exact HK.out | apply KeepBut.set_ | apply keep_drewN | apply keep_drew | apply keep_alloc) | exact HK.out))) : w.heap.size ≤ gb281) : w0.heap.size ≤ gb281)); have n6_ := Aside0.mk ((by rw [hg]; exact Nat.ne_of_lt (IsS59.lt (show IsS59 w0 _ g s0_0 s0_1 s0_2 from by repeat (first | (with_reducible first | exact HI0.out | apply IsS59.alloc | apply IsS59.drewN | apply IsS59.drew | apply IsS59.set_2) | exact HI0.out))) : g ≠ gb281)); have n7_ := Aside0.mk ((by rw [hg]; exact Nat.ne_of_gt (IsS59.lt (show IsS59 w0 _ g s0_0 s0_1 s0_2 from by repeat (first | (with_reducible first | exact HI0.out | apply IsS59.alloc | apply IsS59.drewN | apply IsS59.drew | apply IsS59.set_2) | exact HI0.out))) : gb281 ≠ g)); clear HI0; clear HK; clear HB; have HI0 := n0_; have HK := n1_; have HB := n2_; have BK281 := n3_; have GW281 := n4_; have GE281 := n5_; have NB0_281 := n6_; have NB281_0 := n7_; clear n0_ n1_ n2_ n3_ n4_ n5_ n6_ n7_; clear hb hbox hg) | ((with_reducible refine gate_callee (f := 54) rfl ?_); refine goesL_ (some 5) rfl rfl Try.func54 (by kernel_rfl) rfl #[.pointer (some ⟨g, 0, none⟩)] rfl ga ?_; (with_reducible refine (cand_reader_number.calls k g s0_0 s0_1 s0_2 t282 t283 t284 w0 _ ?side1 ?side2 A2.out).mono ?_); (case side1 => repeat (first | (with_reducible first | exact HI0.out | apply IsS59.alloc | apply IsS59.drewN | apply IsS59.drew | apply IsS59.set_2 | refine IsS59.far ?_ NB0_281.out _) | exact HI0.out)); (case side2 => repeat (first | (with_reducible first | exact HB.out | apply below_alloc | apply pw_below_drewN | apply below_drew1 | refine below_set ?_ (IsS59.ge HI0.out) | refine below_set ?_ GE281.out) | exact HB.out)); rintro e w5 ⟨rfl, hi, hb, hk⟩; refine ⟨_, rfl, ?_⟩; have n0_ := Aside0.mk (KeepBut.blk hk (g' := gb281) (o := .cells #[.int .i64 0, .int .i64 0] 73 (0, 0)) (bk BK281.out) NB281_0.out (by simp)); have n1_ := Aside0.mk (KeepBut.trans (by repeat (first | (with_reducible first | exact HK.out | apply KeepBut.set_ | apply keep_drewN | apply keep_drew | apply keep_alloc | refine keep_far ?_ GW281.out _) | exact HK.out)) hk (.inl rfl)); have n2_ := Aside0.mk (hb); have n3_ := Aside0.mk (hi); clear BK281; clear HK; clear HB; clear HI0; have BK281 := n0_; have HK := n1_; have HB := n2_; have HI0 := n3_; clear n0_ n1_ n2_ n3_; (try clear hb)) | ((with_reducible refine gate_callee (f := 54) rfl ?_); refine goesL_ (some 8) rfl rfl Try.func54 (by kernel_rfl) rfl #[.pointer (some ⟨g, 0, none⟩)] rfl ga ?_; (with_reducible refine (cand_reader_number.calls k g s0_0 t283 t284 t285 t286 t287 w0 _ ?side1 ?side2 A3.out).mono ?_); (case side1 => repeat (first | (with_reducible first | exact HI0.out | apply IsS59.alloc | apply IsS59.drewN | apply IsS59.drew | apply IsS59.set_2 | refine IsS59.far ?_ NB0_281.out _) | exact HI0.out)); (case side2 => repeat (first | (with_reducible first | exact HB.out | apply below_alloc | apply pw_below_drewN | apply below_drew1 | refine below_set ?_ (IsS59.ge HI0.out) | refine below_set ?_ GE281.out) | exact HB.out)); rintro e w6 ⟨rfl, hi, hb, hk⟩; refine ⟨_, rfl, ?_⟩; have n0_ := Aside0.mk (KeepBut.blk hk (g' := gb281) (o := .cells #[.int .i64 0, .int .i64 0] 73 (0, 0)) (bk BK281.out) NB281_0.out (by simp)); have n1_ := Aside0.mk (KeepBut.trans (by repeat (first | (with_reducible first | exact HK.out | apply KeepBut.set_ | apply keep_drewN | apply keep_drew | apply keep_alloc | refine keep_far ?_ GW281.out _) | exact HK.out)) hk (.inl rfl)); have n2_ := Aside0.mk (hb); have n3_ := Aside0.mk (hi); clear BK281; clear HK; clear HB; clear HI0; have BK281 := n0_; have HK := n1_; have HB := n2_; have HI0 := n3_; clear n0_ n1_ n2_ n3_; (try clear hb); have hnb7 := NB281_0.out; have hnc7 := NB0_281.out; obtain ⟨hcz8_0, hcz8_1, hfz8_0, hfz8_1⟩ := cz2 (w := w6) BK281.out))
 refine bodyPost_ret (results_cell_row rfl _ _ gb281 73 #[.int .i64 t282, .int .i64 t285] (0, 0) _ rfl (by refine bx ?_; refine blk_put (cs := #[.int .i64 t282, .int .i64 0]) ?_ 1 _ rfl; refine bx ?_; refine blk_put (cs := #[.int .i64 0, .int .i64 0]) ?_ 0 _ rfl; refine bx ?_; exact BK281.out) Try.underlying73 rfl (by kernel_rfl)) rfl ?_
 exact ⟨fi, by repeat (first | (with_reducible first | exact HI0.out | apply IsS59.alloc | apply IsS59.drewN | apply IsS59.drew | apply IsS59.set_2 | refine IsS59.far ?_ NB0_281.out _) | exact HI0.out), by repeat (first | (with_reducible first | exact HB.out | apply below_alloc | apply pw_below_drewN | apply below_drew1 | refine below_set ?_ (IsS59.ge HI0.out) | refine below_set ?_ GE281.out) | exact HB.out), by repeat (first | (with_reducible first | exact HK.out | apply KeepBut.set_ | apply keep_drewN | apply keep_drew | apply keep_alloc | refine keep_far ?_ GW281.out _) | exact HK.out)⟩

/-! ### cand_reader_rec: function 53 -/
def cand_reader_rec.f (k : Nat) (s0_0 : List Int) (s0_1 : Int) (s0_2 : Bool) : Option (Int × Int × Int × Int × Bool × Bool × Int × Bool) := (cand_reader_number.f k s0_0 s0_1 s0_2).bind fun bt289 => ((cand_reader_number.f k s0_0 bt289.2.1 bt289.2.2).bind fun bt292 => ((cand_reader_ref.f k s0_0 bt292.2.1 bt292.2.2).bind fun bt295 => ((cand_reader_number.f k s0_0 bt295.2.2.1 bt295.2.2.2).bind fun bt300 => (if bt300.2.2 = true then (some (bt289.1, bt292.1, bt295.1, bt295.2.1, (bt300.1 == 1), (bt300.1 == 2), bt300.2.1, true)) else (if bt300.1 < 0 then (some (bt289.1, bt292.1, bt295.1, bt295.2.1, (bt300.1 == 1), (bt300.1 == 2), bt300.2.1, true)) else (some (bt289.1, bt292.1, bt295.1, bt295.2.1, (bt300.1 == 1), (bt300.1 == 2), bt300.2.1, decide (bt300.1 > 2))))))))
theorem cand_reader_rec.mono : ∀ a0 a1 a2 k, LeO (cand_reader_rec.f k a0 a1 a2) (cand_reader_rec.f (k + 1) a0 a1 a2) := by
 intro a0 a1 a2 k
 unfold cand_reader_rec.f
 repeat' first | (with_reducible first | exact cand_reader_number.mono _ _ _ _ | exact cand_reader_ref.mono _ _ _ _ | exact LeO.refl _ | exact LeO.none _ | refine LeO.ite ?_ ?_ | refine LeO.bind ?_ (fun _ => ?_)) | exact cand_reader_number.mono _ _ _ _ | exact cand_reader_ref.mono _ _ _ _ | exact LeO.none _ | refine LeO.ite ?_ ?_ | refine LeO.bind ?_ (fun _ => ?_)
set_option maxHeartbeats 8000000 in
set_option maxRecDepth 100000 in
theorem cand_reader_rec.calls (k : Nat) (g : Nat) (s0_0 : List Int) (s0_1 : Int) (s0_2 : Bool) (r1 : Int) (r2 : Int) (r3 : Int) (r4 : Int) (r5 : Bool) (r6 : Bool) (r7 : Int) (r8 : Bool) (w0 w : World) (hI : IsS59 w0 w g s0_0 s0_1 s0_2) (hB : Below w0.heap.size w0 w) (h : cand_reader_rec.f k s0_0 s0_1 s0_2 = some (r1, r2, r3, r4, r5, r6, r7, r8)) :
  Calls Try.prog 53 #[.pointer (some ⟨g, 0, none⟩)] w fun e w' => e = .returned (.agg #[.int .i64 r1, .int .i64 r2, .int .i64 r3, .int .i64 r4, .bool r5, .bool r6]) ∧ IsS59 w0 w' g s0_0 r7 r8 ∧ Below w0.heap.size w0 w' ∧ KeepBut w w' g none := by
 have hu75 := Try.underlying75
 have HI0 := Aside0.mk hI
 have HK := Aside0.mk (KeepBut.refl w g none)
 have HL := Aside0.mk hB.size
 clear hI
 have HW0 := Aside0.mk hB.size
 have HB := Aside0.mk hB
 clear hB
 have H : ((cand_reader_number.f k s0_0 s0_1 s0_2).bind fun bt289 => ((cand_reader_number.f k s0_0 bt289.2.1 bt289.2.2).bind fun bt292 => ((cand_reader_ref.f k s0_0 bt292.2.1 bt292.2.2).bind fun bt295 => ((cand_reader_number.f k s0_0 bt295.2.2.1 bt295.2.2.2).bind fun bt300 => (if bt300.2.2 = true then (some (bt289.1, bt292.1, bt295.1, bt295.2.1, (bt300.1 == 1), (bt300.1 == 2), bt300.2.1, true)) else (if bt300.1 < 0 then (some (bt289.1, bt292.1, bt295.1, bt295.2.1, (bt300.1 == 1), (bt300.1 == 2), bt300.2.1, true)) else (some (bt289.1, bt292.1, bt295.1, bt295.2.1, (bt300.1 == 1), (bt300.1 == 2), bt300.2.1, decide (bt300.1 > 2))))))))) = some (r1, r2, r3, r4, r5, r6, r7, r8) := h
 clear h
 replace H := be H
 obtain ⟨⟨t289, t290, t291⟩, A2, H⟩ := H
 dsimp only at H
 replace H := be H
 obtain ⟨⟨t292, t293, t294⟩, A3, H⟩ := H
 dsimp only at H
 replace H := be H
 obtain ⟨⟨t295, t296, t297, t298⟩, A4, H⟩ := H
 dsimp only at H
 replace H := be H
 obtain ⟨⟨t300, t301, t302⟩, A5, H⟩ := H
 dsimp only at H
 by_cases c6 : t302 = true
 ·subst c6
  have H1 : (some (t289, t292, t295, t296, (t300 == 1), (t300 == 2), t301, true)) = some (r1, r2, r3, r4, r5, r6, r7, r8) := by rw [if_pos rfl] at H; exact H
  clear H
  have H := H1
  clear H1
  simp only [Option.some.injEq, Prod.mk.injEq] at H
  obtain ⟨rfl, rfl, rfl, rfl, rfl, rfl, rfl, rfl⟩ := H
  go_enter Try.func53, Try.ntmps53
  go_wp2_with (first | ((with_reducible refine gate_dst (N := 2) rfl ?_); refine bv 2 #[.int .i64 0, .int .i64 0, .int .i64 0, .int .i64 0, .bool false, .bool false] 75 ?_; intro gb288 hg w7 hbox hb; have n0_ := Aside0.mk (IsS59.below (by repeat (first | (with_reducible first | exact HI0.out | apply IsS59.alloc | apply IsS59.drewN | apply IsS59.drew | refine IsS59.set_2 (f2 := true) ?_ _) | exact HI0.out)) hb); have n1_ := Aside0.mk (KeepBut.trans (by repeat (first | (with_reducible first | exact HK.out | apply KeepBut.set_ | apply keep_drewN | apply keep_drew | apply keep_alloc) | exact HK.out)) (KeepBut.of_below hb g none) (.inl rfl)); have n2_ := Aside0.mk (below_step (by repeat (first | (with_reducible first | exact HB.out | apply below_alloc | apply pw_below_drewN | apply below_drew1 | refine below_set ?_ (IsS59.ge HI0.out)) | exact HB.out)) hb); have n3_ := Aside0.mk (hbox); have n4_ := Aside0.mk ((by rw [hg]; exact (keep_size (w := w) (g := g) (row := none) (by repeat (first | (with_reducible first | exact HK.out | apply KeepBut.set_ | apply keep_drewN | apply keep_drew | apply keep_alloc) | exact HK.out))) : w.heap.size ≤ gb288)); have n5_ := Aside0.mk ((Nat.le_trans HW0.out (by rw [hg]; exact (keep_size (w := w) (g := g) (row := none) (by repeat (first | (with_reducible first | exact HK.out | apply KeepBut.set_ | apply keep_drewN | apply keep_drew | apply keep_alloc) | exact HK.out))) : w.heap.size ≤ gb288) : w0.heap.size ≤ gb288)); have n6_ := Aside0.mk ((by rw [hg]; exact Nat.ne_of_lt (IsS59.lt (show IsS59 w0 _ g s0_0 s0_1 s0_2 from by repeat (first | (with_reducible first | exact HI0.out | apply IsS59.alloc | apply IsS59.drewN | apply IsS59.drew | refine IsS59.set_2 (f2 := true) ?_ _) | exact HI0.out))) : g ≠ gb288)); have n7_ := Aside0.mk ((by rw [hg]; exact Nat.ne_of_gt (IsS59.lt (show IsS59 w0 _ g s0_0 s0_1 s0_2 from by repeat (first | (with_reducible first | exact HI0.out | apply IsS59.alloc | apply IsS59.drewN | apply IsS59.drew | refine IsS59.set_2 (f2 := true) ?_ _) | exact HI0.out))) : gb288 ≠ g)); clear HI0; clear HK; clear HB; have HI0 := n0_; have HK := n1_; have HB := n2_; have BK288 := n3_; have GW288 := n4_; have GE288 := n5_; have NB0_288 := n6_; have NB288_0 := n7_; clear n0_ n1_ n2_ n3_ n4_ n5_ n6_ n7_; clear hb hbox hg) | ((with_reducible refine gate_callee (f := 54) rfl ?_); refine goesL_ (some 6) rfl rfl Try.func54 (by kernel_rfl) rfl #[.pointer (some ⟨g, 0, none⟩)] rfl ga ?_; (with_reducible refine (cand_reader_number.calls k g s0_0 s0_1 s0_2 t289 t290 t291 w0 _ ?side1 ?side2 A2.out).mono ?_); (case side1 => repeat (first | (with_reducible first | exact HI0.out | apply IsS59.alloc | apply IsS59.drewN | apply IsS59.drew | refine IsS59.set_2 (f2 := true) ?_ _ | refine IsS59.far ?_ NB0_288.out _) | exact HI0.out)); (case side2 => repeat (first | (with_reducible first | exact HB.out | apply below_alloc | apply pw_below_drewN | apply below_drew1 | refine below_set ?_ (IsS59.ge HI0.out) | refine below_set ?_ GE288.out) | exact HB.out)); rintro e w8 ⟨rfl, hi, hb, hk⟩; refine ⟨_, rfl, ?_⟩; have n0_ := Aside0.mk (KeepBut.blk hk (g' := gb288) (o := .cells #[.int .i64 0, .int .i64 0, .int .i64 0, .int .i64 0, .bool false, .bool false] 75 (0, 0)) (bk BK288.out) NB288_0.out (by simp)); have n1_ := Aside0.mk (KeepBut.trans (by repeat (first | (with_reducible first | exact HK.out | apply KeepBut.set_ | apply keep_drewN | apply keep_drew | apply keep_alloc | refine keep_far ?_ GW288.out _) | exact HK.out)) hk (.inl rfl)); have n2_ := Aside0.mk (hb); have n3_ := Aside0.mk (hi); clear BK288; clear HK; clear HB; clear HI0; have BK288 := n0_; have HK := n1_; have HB := n2_; have HI0 := n3_; clear n0_ n1_ n2_ n3_; (try clear hb)) | ((with_reducible refine gate_callee (f := 54) rfl ?_); refine goesL_ (some 8) rfl rfl Try.func54 (by kernel_rfl) rfl #[.pointer (some ⟨g, 0, none⟩)] rfl ga ?_; (with_reducible refine (cand_reader_number.calls k g s0_0 t290 t291 t292 t293 t294 w0 _ ?side1 ?side2 A3.out).mono ?_); (case side1 => repeat (first | (with_reducible first | exact HI0.out | apply IsS59.alloc | apply IsS59.drewN | apply IsS59.drew | refine IsS59.set_2 (f2 := true) ?_ _ | refine IsS59.far ?_ NB0_288.out _) | exact HI0.out)); (case side2 => repeat (first | (with_reducible first | exact HB.out | apply below_alloc | apply pw_below_drewN | apply below_drew1 | refine below_set ?_ (IsS59.ge HI0.out) | refine below_set ?_ GE288.out) | exact HB.out)); rintro e w9 ⟨rfl, hi, hb, hk⟩; refine ⟨_, rfl, ?_⟩; have n0_ := Aside0.mk (KeepBut.blk hk (g' := gb288) (o := .cells #[.int .i64 0, .int .i64 0, .int .i64 0, .int .i64 0, .bool false, .bool false] 75 (0, 0)) (bk BK288.out) NB288_0.out (by simp)); have n1_ := Aside0.mk (KeepBut.trans (by repeat (first | (with_reducible first | exact HK.out | apply KeepBut.set_ | apply keep_drewN | apply keep_drew | apply keep_alloc | refine keep_far ?_ GW288.out _) | exact HK.out)) hk (.inl rfl)); have n2_ := Aside0.mk (hb); have n3_ := Aside0.mk (hi); clear BK288; clear HK; clear HB; clear HI0; have BK288 := n0_; have HK := n1_; have HB := n2_; have HI0 := n3_; clear n0_ n1_ n2_ n3_; (try clear hb)) | ((with_reducible refine gate_callee (f := 55) rfl ?_); refine goesL_ (some 10) rfl rfl Try.func55 (by kernel_rfl) rfl #[.pointer (some ⟨g, 0, none⟩)] rfl ga ?_; (with_reducible refine (cand_reader_ref.calls k g s0_0 t293 t294 t295 t296 t297 t298 w0 _ ?side1 ?side2 A4.out).mono ?_); (case side1 => repeat (first | (with_reducible first | exact HI0.out | apply IsS59.alloc | apply IsS59.drewN | apply IsS59.drew | refine IsS59.set_2 (f2 := true) ?_ _ | refine IsS59.far ?_ NB0_288.out _) | exact HI0.out)); (case side2 => repeat (first | (with_reducible first | exact HB.out | apply below_alloc | apply pw_below_drewN | apply below_drew1 | refine below_set ?_ (IsS59.ge HI0.out) | refine below_set ?_ GE288.out) | exact HB.out)); rintro e w10 ⟨rfl, hi, hb, hk⟩; refine ⟨_, rfl, ?_⟩; have n0_ := Aside0.mk (KeepBut.blk hk (g' := gb288) (o := .cells #[.int .i64 0, .int .i64 0, .int .i64 0, .int .i64 0, .bool false, .bool false] 75 (0, 0)) (bk BK288.out) NB288_0.out (by simp)); have n1_ := Aside0.mk (KeepBut.trans (by repeat (first | (with_reducible first | exact HK.out | apply KeepBut.set_ | apply keep_drewN | apply keep_drew | apply keep_alloc | refine keep_far ?_ GW288.out _) | exact HK.out)) hk (.inl rfl)); have n2_ := Aside0.mk (hb); have n3_ := Aside0.mk (hi); clear BK288; clear HK; clear HB; clear HI0; have BK288 := n0_; have HK := n1_; have HB := n2_; have HI0 := n3_; clear n0_ n1_ n2_ n3_; (try clear hb)) | ((with_reducible refine gate_dst (N := 3) rfl ?_); refine bv 3 #[.int .i64 0, .int .i64 0, .int .i64 0, .int .i64 0, .bool false, .bool false] 75 ?_; intro gb299 hg w11 hbox hb; have n0_ := Aside0.mk (IsS59.below (by repeat (first | (with_reducible first | exact HI0.out | apply IsS59.alloc | apply IsS59.drewN | apply IsS59.drew | refine IsS59.set_2 (f2 := true) ?_ _ | refine IsS59.far ?_ NB0_288.out _) | exact HI0.out)) hb); have n1_ := Aside0.mk (blk_below (g := gb288) (o := .cells #[.int .i64 0, .int .i64 0, .int .i64 0, .int .i64 0, .bool false, .bool false] 75 (0, 0)) (bk BK288.out) hb); have n2_ := Aside0.mk (KeepBut.trans (by repeat (first | (with_reducible first | exact HK.out | apply KeepBut.set_ | apply keep_drewN | apply keep_drew | apply keep_alloc | refine keep_far ?_ GW288.out _) | exact HK.out)) (KeepBut.of_below hb g none) (.inl rfl)); have n3_ := Aside0.mk (below_step (by repeat (first | (with_reducible first | exact HB.out | apply below_alloc | apply pw_below_drewN | apply below_drew1 | refine below_set ?_ (IsS59.ge HI0.out) | refine below_set ?_ GE288.out) | exact HB.out)) hb); have n4_ := Aside0.mk (hbox); have n5_ := Aside0.mk ((by rw [hg]; exact (keep_size (w := w) (g := g) (row := none) (by repeat (first | (with_reducible first | exact HK.out | apply KeepBut.set_ | apply keep_drewN | apply keep_drew | apply keep_alloc | refine keep_far ?_ GW288.out _) | exact HK.out))) : w.heap.size ≤ gb299)); have n6_ := Aside0.mk ((Nat.le_trans HW0.out (by rw [hg]; exact (keep_size (w := w) (g := g) (row := none) (by repeat (first | (with_reducible first | exact HK.out | apply KeepBut.set_ | apply keep_drewN | apply keep_drew | apply keep_alloc | refine keep_far ?_ GW288.out _) | exact HK.out))) : w.heap.size ≤ gb299) : w0.heap.size ≤ gb299)); have n7_ := Aside0.mk ((nl hg (bk BK288.out) : gb288 ≠ gb299)); have n8_ := Aside0.mk ((ng hg (bk BK288.out) : gb299 ≠ gb288)); have n9_ := Aside0.mk ((by rw [hg]; exact Nat.ne_of_lt (IsS59.lt (show IsS59 w0 _ g s0_0 t297 t298 from by repeat (first | (with_reducible first | exact HI0.out | apply IsS59.alloc | apply IsS59.drewN | apply IsS59.drew | refine IsS59.set_2 (f2 := true) ?_ _ | refine IsS59.far ?_ NB0_288.out _) | exact HI0.out))) : g ≠ gb299)); have n10_ := Aside0.mk ((by rw [hg]; exact Nat.ne_of_gt (IsS59.lt (show IsS59 w0 _ g s0_0 t297 t298 from by repeat (first | (with_reducible first | exact HI0.out | apply IsS59.alloc | apply IsS59.drewN | apply IsS59.drew | refine IsS59.set_2 (f2 := true) ?_ _ | refine IsS59.far ?_ NB0_288.out _) | exact HI0.out))) : gb299 ≠ g)); clear HI0; clear BK288; clear HK; clear HB; have HI0 := n0_; have BK288 := n1_; have HK := n2_; have HB := n3_; have BK299 := n4_; have GW299 := n5_; have GE299 := n6_; have NB288_299 := n7_; have NB299_288 := n8_; have NB0_299 := n9_; have NB299_0 := n10_; clear n0_ n1_ n2_ n3_ n4_ n5_ n6_ n7_ n8_ n9_ n10_; clear hb hbox hg; have hnb12 := NB299_288.out; have hnc12 := NB288_299.out; have hnb13 := NB299_0.out; have hnc13 := NB0_299.out; obtain ⟨hcz14_0, hcz14_1, hcz14_2, hcz14_3, hcz14_4, hcz14_5, hfz14_0, hfz14_1, hfz14_2, hfz14_3, hfz14_4, hfz14_5⟩ := cz6 (w := w11) BK299.out) | ((with_reducible refine gate_callee (f := 54) rfl ?_); refine goesL_ (some 13) rfl rfl Try.func54 (by kernel_rfl) rfl #[.pointer (some ⟨g, 0, none⟩)] rfl ga ?_; (with_reducible refine (cand_reader_number.calls k g s0_0 t297 t298 t300 t301 true w0 _ ?side1 ?side2 A5.out).mono ?_); (case side1 => repeat (first | (with_reducible first | exact HI0.out | apply IsS59.alloc | apply IsS59.drewN | apply IsS59.drew | refine IsS59.set_2 (f2 := true) ?_ _ | refine IsS59.far ?_ NB0_288.out _ | refine IsS59.far ?_ NB0_299.out _) | exact HI0.out)); (case side2 => repeat (first | (with_reducible first | exact HB.out | apply below_alloc | apply pw_below_drewN | apply below_drew1 | refine below_set ?_ (IsS59.ge HI0.out) | refine below_set ?_ GE288.out | refine below_set ?_ GE299.out) | exact HB.out)); rintro e w15 ⟨rfl, hi, hb, hk⟩; refine ⟨_, rfl, ?_⟩; have n0_ := Aside0.mk (KeepBut.blk hk (g' := gb288) (o := .cells #[.int .i64 0, .int .i64 0, .int .i64 0, .int .i64 0, .bool false, .bool false] 75 (0, 0)) (by refine bx ?_; refine blk_far ?_ NB288_299.out _; refine bx ?_; refine blk_far ?_ NB288_299.out _; refine bx ?_; refine blk_far ?_ NB288_299.out _; refine bx ?_; refine blk_far ?_ NB288_299.out _; refine bx ?_; refine blk_far ?_ NB288_299.out _; refine bx ?_; refine blk_far ?_ NB288_299.out _; refine bx ?_; exact BK288.out) NB288_0.out (by simp)); have n1_ := Aside0.mk (KeepBut.blk hk (g' := gb299) (o := .cells #[.int .i64 t289, .int .i64 t292, .int .i64 t295, .int .i64 t296, .bool false, .bool false] 75 (0, 0)) (by refine bx ?_; refine blk_put (cs := #[.int .i64 t289, .int .i64 t292, .int .i64 t295, .int .i64 t296, .bool false, .bool false]) ?_ 5 _ rfl; refine bx ?_; refine blk_put (cs := #[.int .i64 t289, .int .i64 t292, .int .i64 t295, .int .i64 t296, .bool false, .bool false]) ?_ 4 _ rfl; refine bx ?_; refine blk_put (cs := #[.int .i64 t289, .int .i64 t292, .int .i64 t295, .int .i64 0, .bool false, .bool false]) ?_ 3 _ rfl; refine bx ?_; refine blk_put (cs := #[.int .i64 t289, .int .i64 t292, .int .i64 0, .int .i64 0, .bool false, .bool false]) ?_ 2 _ rfl; refine bx ?_; refine blk_put (cs := #[.int .i64 t289, .int .i64 0, .int .i64 0, .int .i64 0, .bool false, .bool false]) ?_ 1 _ rfl; refine bx ?_; refine blk_put (cs := #[.int .i64 0, .int .i64 0, .int .i64 0, .int .i64 0, .bool false, .bool false]) ?_ 0 _ rfl; refine bx ?_; exact BK299.out) NB299_0.out (by simp)); have n2_ := Aside0.mk (KeepBut.trans (by repeat (first | (with_reducible first | exact HK.out | apply KeepBut.set_ | apply keep_drewN | apply keep_drew | apply keep_alloc | refine keep_far ?_ GW288.out _ | refine keep_far ?_ GW299.out _) | exact HK.out)) hk (.inl rfl)); have n3_ := Aside0.mk (hb); have n4_ := Aside0.mk (hi); clear BK288; clear BK299; clear HK; clear HB; clear HI0; have BK288 := n0_; have BK299 := n1_; have HK := n2_; have HB := n3_; have HI0 := n4_; clear n0_ n1_ n2_ n3_ n4_; (try clear hb); obtain ⟨hcz16_0, hcz16_1, hcz16_2, hcz16_3, hcz16_4, hcz16_5, hfz16_0, hfz16_1, hfz16_2, hfz16_3, hfz16_4, hfz16_5⟩ := cz6 (w := w15) BK299.out; obtain ⟨ASz17_0, cSz17_0, HGz17, hgz17, HSz17_0⟩ := HI0.out; have hcz17_0 := cellS59_0 HGz17; have hcz17_2 := cellS59_2 HGz17; have hfz17_1 := blk_frozen HGz17 1; have hfz17_2 := blk_frozen HGz17 2; clear HGz17 hgz17; have hnb18 := NB288_0.out; have hnc18 := NB0_288.out; obtain ⟨hcz19_0, hcz19_1, hcz19_2, hcz19_3, hcz19_4, hcz19_5, hfz19_0, hfz19_1, hfz19_2, hfz19_3, hfz19_4, hfz19_5⟩ := cz6 (w := w15) BK288.out))
  refine bodyPost_ret (results_cell_row rfl _ _ gb288 75 #[.int .i64 t289, .int .i64 t292, .int .i64 t295, .int .i64 t296, .bool (t300 == 1), .bool (t300 == 2)] (0, 0) _ rfl (by refine bx ?_; refine blk_put (cs := #[.int .i64 t289, .int .i64 t292, .int .i64 t295, .int .i64 t296, .bool (t300 == 1), .bool false]) ?_ 5 _ rfl; refine bx ?_; refine blk_put (cs := #[.int .i64 t289, .int .i64 t292, .int .i64 t295, .int .i64 t296, .bool false, .bool false]) ?_ 4 _ rfl; refine bx ?_; refine blk_put (cs := #[.int .i64 t289, .int .i64 t292, .int .i64 t295, .int .i64 0, .bool false, .bool false]) ?_ 3 _ rfl; refine bx ?_; refine blk_put (cs := #[.int .i64 t289, .int .i64 t292, .int .i64 0, .int .i64 0, .bool false, .bool false]) ?_ 2 _ rfl; refine bx ?_; refine blk_put (cs := #[.int .i64 t289, .int .i64 0, .int .i64 0, .int .i64 0, .bool false, .bool false]) ?_ 1 _ rfl; refine bx ?_; refine blk_put (cs := #[.int .i64 0, .int .i64 0, .int .i64 0, .int .i64 0, .bool false, .bool false]) ?_ 0 _ rfl; refine bx ?_; refine blk_far ?_ NB288_0.out _; refine bx ?_; refine blk_far ?_ NB288_299.out _; refine bx ?_; refine blk_far ?_ NB288_299.out _; refine bx ?_; exact BK288.out) Try.underlying75 rfl (by kernel_rfl)) rfl ?_
  exact ⟨fi, by repeat (first | (with_reducible first | exact HI0.out | apply IsS59.alloc | apply IsS59.drewN | apply IsS59.drew | refine IsS59.set_2 (f2 := true) ?_ _ | refine IsS59.far ?_ NB0_288.out _ | refine IsS59.far ?_ NB0_299.out _) | exact HI0.out), by repeat (first | (with_reducible first | exact HB.out | apply below_alloc | apply pw_below_drewN | apply below_drew1 | refine below_set ?_ (IsS59.ge HI0.out) | refine below_set ?_ GE288.out | refine below_set ?_ GE299.out) | exact HB.out), by repeat (first | (with_reducible first | exact HK.out | apply KeepBut.set_ | apply keep_drewN | apply keep_drew | apply keep_alloc | refine keep_far ?_ GW288.out _ | refine keep_far ?_ GW299.out _) | exact HK.out)⟩
 replace c6 := Bool.eq_false_iff.mpr c6
 subst c6
 have H1 : (if t300 < 0 then (some (t289, t292, t295, t296, (t300 == 1), (t300 == 2), t301, true)) else (some (t289, t292, t295, t296, (t300 == 1), (t300 == 2), t301, decide (t300 > 2)))) = some (r1, r2, r3, r4, r5, r6, r7, r8) := by rw [if_neg (show ¬ (false = true) by decide)] at H; exact H
 clear H
 have H := H1
 clear H1
 by_cases c20 : t300 < 0
 ·rw [if_pos c20] at H
  have c20b0 := decide_eq_true c20
  clear c20
  simp only [Option.some.injEq, Prod.mk.injEq] at H
  obtain ⟨rfl, rfl, rfl, rfl, rfl, rfl, rfl, rfl⟩ := H
  go_enter Try.func53, Try.ntmps53
  go_wp2_with (first | ((with_reducible refine gate_dst (N := 2) rfl ?_); refine bv 2 #[.int .i64 0, .int .i64 0, .int .i64 0, .int .i64 0, .bool false, .bool false] 75 ?_; intro gb288 hg w21 hbox hb; have n0_ := Aside0.mk (IsS59.below (by repeat (first | (with_reducible first | exact HI0.out | apply IsS59.alloc | apply IsS59.drewN | apply IsS59.drew | refine IsS59.set_2 (f2 := false) ?_ _) | exact HI0.out)) hb); have n1_ := Aside0.mk (KeepBut.trans (by repeat (first | (with_reducible first | exact HK.out | apply KeepBut.set_ | apply keep_drewN | apply keep_drew | apply keep_alloc) | exact HK.out)) (KeepBut.of_below hb g none) (.inl rfl)); have n2_ := Aside0.mk (below_step (by repeat (first | (with_reducible first | exact HB.out | apply below_alloc | apply pw_below_drewN | apply below_drew1 | refine below_set ?_ (IsS59.ge HI0.out)) | exact HB.out)) hb); have n3_ := Aside0.mk (hbox); have n4_ := Aside0.mk ((by rw [hg]; exact (keep_size (w := w) (g := g) (row := none) (by repeat (first | (with_reducible first | exact HK.out | apply KeepBut.set_ | apply keep_drewN | apply keep_drew | apply keep_alloc) | exact HK.out))) : w.heap.size ≤ gb288)); have n5_ := Aside0.mk ((Nat.le_trans HW0.out (by rw [hg]; exact (keep_size (w := w) (g := g) (row := none) (by repeat (first | (with_reducible first | exact HK.out | apply KeepBut.set_ | apply keep_drewN | apply keep_drew | apply keep_alloc) | exact HK.out))) : w.heap.size ≤ gb288) : w0.heap.size ≤ gb288)); have n6_ := Aside0.mk ((by rw [hg]; exact Nat.ne_of_lt (IsS59.lt (show IsS59 w0 _ g s0_0 s0_1 s0_2 from by repeat (first | (with_reducible first | exact HI0.out | apply IsS59.alloc | apply IsS59.drewN | apply IsS59.drew | refine IsS59.set_2 (f2 := false) ?_ _) | exact HI0.out))) : g ≠ gb288)); have n7_ := Aside0.mk ((by rw [hg]; exact Nat.ne_of_gt (IsS59.lt (show IsS59 w0 _ g s0_0 s0_1 s0_2 from by repeat (first | (with_reducible first | exact HI0.out | apply IsS59.alloc | apply IsS59.drewN | apply IsS59.drew | refine IsS59.set_2 (f2 := false) ?_ _) | exact HI0.out))) : gb288 ≠ g)); clear HI0; clear HK; clear HB; have HI0 := n0_; have HK := n1_; have HB := n2_; have BK288 := n3_; have GW288 := n4_; have GE288 := n5_; have NB0_288 := n6_; have NB288_0 := n7_; clear n0_ n1_ n2_ n3_ n4_ n5_ n6_ n7_; clear hb hbox hg) | ((with_reducible refine gate_callee (f := 54) rfl ?_); refine goesL_ (some 6) rfl rfl Try.func54 (by kernel_rfl) rfl #[.pointer (some ⟨g, 0, none⟩)] rfl ga ?_; (with_reducible refine (cand_reader_number.calls k g s0_0 s0_1 s0_2 t289 t290 t291 w0 _ ?side1 ?side2 A2.out).mono ?_); (case side1 => repeat (first | (with_reducible first | exact HI0.out | apply IsS59.alloc | apply IsS59.drewN | apply IsS59.drew | refine IsS59.set_2 (f2 := false) ?_ _ | refine IsS59.far ?_ NB0_288.out _) | exact HI0.out)); (case side2 => repeat (first | (with_reducible first | exact HB.out | apply below_alloc | apply pw_below_drewN | apply below_drew1 | refine below_set ?_ (IsS59.ge HI0.out) | refine below_set ?_ GE288.out) | exact HB.out)); rintro e w22 ⟨rfl, hi, hb, hk⟩; refine ⟨_, rfl, ?_⟩; have n0_ := Aside0.mk (KeepBut.blk hk (g' := gb288) (o := .cells #[.int .i64 0, .int .i64 0, .int .i64 0, .int .i64 0, .bool false, .bool false] 75 (0, 0)) (bk BK288.out) NB288_0.out (by simp)); have n1_ := Aside0.mk (KeepBut.trans (by repeat (first | (with_reducible first | exact HK.out | apply KeepBut.set_ | apply keep_drewN | apply keep_drew | apply keep_alloc | refine keep_far ?_ GW288.out _) | exact HK.out)) hk (.inl rfl)); have n2_ := Aside0.mk (hb); have n3_ := Aside0.mk (hi); clear BK288; clear HK; clear HB; clear HI0; have BK288 := n0_; have HK := n1_; have HB := n2_; have HI0 := n3_; clear n0_ n1_ n2_ n3_; (try clear hb)) | ((with_reducible refine gate_callee (f := 54) rfl ?_); refine goesL_ (some 8) rfl rfl Try.func54 (by kernel_rfl) rfl #[.pointer (some ⟨g, 0, none⟩)] rfl ga ?_; (with_reducible refine (cand_reader_number.calls k g s0_0 t290 t291 t292 t293 t294 w0 _ ?side1 ?side2 A3.out).mono ?_); (case side1 => repeat (first | (with_reducible first | exact HI0.out | apply IsS59.alloc | apply IsS59.drewN | apply IsS59.drew | refine IsS59.set_2 (f2 := false) ?_ _ | refine IsS59.far ?_ NB0_288.out _) | exact HI0.out)); (case side2 => repeat (first | (with_reducible first | exact HB.out | apply below_alloc | apply pw_below_drewN | apply below_drew1 | refine below_set ?_ (IsS59.ge HI0.out) | refine below_set ?_ GE288.out) | exact HB.out)); rintro e w23 ⟨rfl, hi, hb, hk⟩; refine ⟨_, rfl, ?_⟩; have n0_ := Aside0.mk (KeepBut.blk hk (g' := gb288) (o := .cells #[.int .i64 0, .int .i64 0, .int .i64 0, .int .i64 0, .bool false, .bool false] 75 (0, 0)) (bk BK288.out) NB288_0.out (by simp)); have n1_ := Aside0.mk (KeepBut.trans (by repeat (first | (with_reducible first | exact HK.out | apply KeepBut.set_ | apply keep_drewN | apply keep_drew | apply keep_alloc | refine keep_far ?_ GW288.out _) | exact HK.out)) hk (.inl rfl)); have n2_ := Aside0.mk (hb); have n3_ := Aside0.mk (hi); clear BK288; clear HK; clear HB; clear HI0; have BK288 := n0_; have HK := n1_; have HB := n2_; have HI0 := n3_; clear n0_ n1_ n2_ n3_; (try clear hb)) | ((with_reducible refine gate_callee (f := 55) rfl ?_); refine goesL_ (some 10) rfl rfl Try.func55 (by kernel_rfl) rfl #[.pointer (some ⟨g, 0, none⟩)] rfl ga ?_; (with_reducible refine (cand_reader_ref.calls k g s0_0 t293 t294 t295 t296 t297 t298 w0 _ ?side1 ?side2 A4.out).mono ?_); (case side1 => repeat (first | (with_reducible first | exact HI0.out | apply IsS59.alloc | apply IsS59.drewN | apply IsS59.drew | refine IsS59.set_2 (f2 := false) ?_ _ | refine IsS59.far ?_ NB0_288.out _) | exact HI0.out)); (case side2 => repeat (first | (with_reducible first | exact HB.out | apply below_alloc | apply pw_below_drewN | apply below_drew1 | refine below_set ?_ (IsS59.ge HI0.out) | refine below_set ?_ GE288.out) | exact HB.out)); rintro e w24 ⟨rfl, hi, hb, hk⟩; refine ⟨_, rfl, ?_⟩; have n0_ := Aside0.mk (KeepBut.blk hk (g' := gb288) (o := .cells #[.int .i64 0, .int .i64 0, .int .i64 0, .int .i64 0, .bool false, .bool false] 75 (0, 0)) (bk BK288.out) NB288_0.out (by simp)); have n1_ := Aside0.mk (KeepBut.trans (by repeat (first | (with_reducible first | exact HK.out | apply KeepBut.set_ | apply keep_drewN | apply keep_drew | apply keep_alloc | refine keep_far ?_ GW288.out _) | exact HK.out)) hk (.inl rfl)); have n2_ := Aside0.mk (hb); have n3_ := Aside0.mk (hi); clear BK288; clear HK; clear HB; clear HI0; have BK288 := n0_; have HK := n1_; have HB := n2_; have HI0 := n3_; clear n0_ n1_ n2_ n3_; (try clear hb)) | ((with_reducible refine gate_dst (N := 3) rfl ?_); refine bv 3 #[.int .i64 0, .int .i64 0, .int .i64 0, .int .i64 0, .bool false, .bool false] 75 ?_; intro gb299 hg w25 hbox hb; have n0_ := Aside0.mk (IsS59.below (by repeat (first | (with_reducible first | exact HI0.out | apply IsS59.alloc | apply IsS59.drewN | apply IsS59.drew | refine IsS59.set_2 (f2 := false) ?_ _ | refine IsS59.far ?_ NB0_288.out _) | exact HI0.out)) hb); have n1_ := Aside0.mk (blk_below (g := gb288) (o := .cells #[.int .i64 0, .int .i64 0, .int .i64 0, .int .i64 0, .bool false, .bool false] 75 (0, 0)) (bk BK288.out) hb); have n2_ := Aside0.mk (KeepBut.trans (by repeat (first | (with_reducible first | exact HK.out | apply KeepBut.set_ | apply keep_drewN | apply keep_drew | apply keep_alloc | refine keep_far ?_ GW288.out _) | exact HK.out)) (KeepBut.of_below hb g none) (.inl rfl)); have n3_ := Aside0.mk (below_step (by repeat (first | (with_reducible first | exact HB.out | apply below_alloc | apply pw_below_drewN | apply below_drew1 | refine below_set ?_ (IsS59.ge HI0.out) | refine below_set ?_ GE288.out) | exact HB.out)) hb); have n4_ := Aside0.mk (hbox); have n5_ := Aside0.mk ((by rw [hg]; exact (keep_size (w := w) (g := g) (row := none) (by repeat (first | (with_reducible first | exact HK.out | apply KeepBut.set_ | apply keep_drewN | apply keep_drew | apply keep_alloc | refine keep_far ?_ GW288.out _) | exact HK.out))) : w.heap.size ≤ gb299)); have n6_ := Aside0.mk ((Nat.le_trans HW0.out (by rw [hg]; exact (keep_size (w := w) (g := g) (row := none) (by repeat (first | (with_reducible first | exact HK.out | apply KeepBut.set_ | apply keep_drewN | apply keep_drew | apply keep_alloc | refine keep_far ?_ GW288.out _) | exact HK.out))) : w.heap.size ≤ gb299) : w0.heap.size ≤ gb299)); have n7_ := Aside0.mk ((nl hg (bk BK288.out) : gb288 ≠ gb299)); have n8_ := Aside0.mk ((ng hg (bk BK288.out) : gb299 ≠ gb288)); have n9_ := Aside0.mk ((by rw [hg]; exact Nat.ne_of_lt (IsS59.lt (show IsS59 w0 _ g s0_0 t297 t298 from by repeat (first | (with_reducible first | exact HI0.out | apply IsS59.alloc | apply IsS59.drewN | apply IsS59.drew | refine IsS59.set_2 (f2 := false) ?_ _ | refine IsS59.far ?_ NB0_288.out _) | exact HI0.out))) : g ≠ gb299)); have n10_ := Aside0.mk ((by rw [hg]; exact Nat.ne_of_gt (IsS59.lt (show IsS59 w0 _ g s0_0 t297 t298 from by repeat (first | (with_reducible first | exact HI0.out | apply IsS59.alloc | apply IsS59.drewN | apply IsS59.drew | refine IsS59.set_2 (f2 := false) ?_ _ | refine IsS59.far ?_ NB0_288.out _) | exact HI0.out))) : gb299 ≠ g)); clear HI0; clear BK288; clear HK; clear HB; have HI0 := n0_; have BK288 := n1_; have HK := n2_; have HB := n3_; have BK299 := n4_; have GW299 := n5_; have GE299 := n6_; have NB288_299 := n7_; have NB299_288 := n8_; have NB0_299 := n9_; have NB299_0 := n10_; clear n0_ n1_ n2_ n3_ n4_ n5_ n6_ n7_ n8_ n9_ n10_; clear hb hbox hg; have hnb26 := NB299_288.out; have hnc26 := NB288_299.out; have hnb27 := NB299_0.out; have hnc27 := NB0_299.out; obtain ⟨hcz28_0, hcz28_1, hcz28_2, hcz28_3, hcz28_4, hcz28_5, hfz28_0, hfz28_1, hfz28_2, hfz28_3, hfz28_4, hfz28_5⟩ := cz6 (w := w25) BK299.out) | ((with_reducible refine gate_callee (f := 54) rfl ?_); refine goesL_ (some 13) rfl rfl Try.func54 (by kernel_rfl) rfl #[.pointer (some ⟨g, 0, none⟩)] rfl ga ?_; (with_reducible refine (cand_reader_number.calls k g s0_0 t297 t298 t300 t301 false w0 _ ?side1 ?side2 A5.out).mono ?_); (case side1 => repeat (first | (with_reducible first | exact HI0.out | apply IsS59.alloc | apply IsS59.drewN | apply IsS59.drew | refine IsS59.set_2 (f2 := false) ?_ _ | refine IsS59.far ?_ NB0_288.out _ | refine IsS59.far ?_ NB0_299.out _) | exact HI0.out)); (case side2 => repeat (first | (with_reducible first | exact HB.out | apply below_alloc | apply pw_below_drewN | apply below_drew1 | refine below_set ?_ (IsS59.ge HI0.out) | refine below_set ?_ GE288.out | refine below_set ?_ GE299.out) | exact HB.out)); rintro e w29 ⟨rfl, hi, hb, hk⟩; refine ⟨_, rfl, ?_⟩; have n0_ := Aside0.mk (KeepBut.blk hk (g' := gb288) (o := .cells #[.int .i64 0, .int .i64 0, .int .i64 0, .int .i64 0, .bool false, .bool false] 75 (0, 0)) (by refine bx ?_; refine blk_far ?_ NB288_299.out _; refine bx ?_; refine blk_far ?_ NB288_299.out _; refine bx ?_; refine blk_far ?_ NB288_299.out _; refine bx ?_; refine blk_far ?_ NB288_299.out _; refine bx ?_; refine blk_far ?_ NB288_299.out _; refine bx ?_; refine blk_far ?_ NB288_299.out _; refine bx ?_; exact BK288.out) NB288_0.out (by simp)); have n1_ := Aside0.mk (KeepBut.blk hk (g' := gb299) (o := .cells #[.int .i64 t289, .int .i64 t292, .int .i64 t295, .int .i64 t296, .bool false, .bool false] 75 (0, 0)) (by refine bx ?_; refine blk_put (cs := #[.int .i64 t289, .int .i64 t292, .int .i64 t295, .int .i64 t296, .bool false, .bool false]) ?_ 5 _ rfl; refine bx ?_; refine blk_put (cs := #[.int .i64 t289, .int .i64 t292, .int .i64 t295, .int .i64 t296, .bool false, .bool false]) ?_ 4 _ rfl; refine bx ?_; refine blk_put (cs := #[.int .i64 t289, .int .i64 t292, .int .i64 t295, .int .i64 0, .bool false, .bool false]) ?_ 3 _ rfl; refine bx ?_; refine blk_put (cs := #[.int .i64 t289, .int .i64 t292, .int .i64 0, .int .i64 0, .bool false, .bool false]) ?_ 2 _ rfl; refine bx ?_; refine blk_put (cs := #[.int .i64 t289, .int .i64 0, .int .i64 0, .int .i64 0, .bool false, .bool false]) ?_ 1 _ rfl; refine bx ?_; refine blk_put (cs := #[.int .i64 0, .int .i64 0, .int .i64 0, .int .i64 0, .bool false, .bool false]) ?_ 0 _ rfl; refine bx ?_; exact BK299.out) NB299_0.out (by simp)); have n2_ := Aside0.mk (KeepBut.trans (by repeat (first | (with_reducible first | exact HK.out | apply KeepBut.set_ | apply keep_drewN | apply keep_drew | apply keep_alloc | refine keep_far ?_ GW288.out _ | refine keep_far ?_ GW299.out _) | exact HK.out)) hk (.inl rfl)); have n3_ := Aside0.mk (hb); have n4_ := Aside0.mk (hi); clear BK288; clear BK299; clear HK; clear HB; clear HI0; have BK288 := n0_; have BK299 := n1_; have HK := n2_; have HB := n3_; have HI0 := n4_; clear n0_ n1_ n2_ n3_ n4_; (try clear hb); obtain ⟨hcz30_0, hcz30_1, hcz30_2, hcz30_3, hcz30_4, hcz30_5, hfz30_0, hfz30_1, hfz30_2, hfz30_3, hfz30_4, hfz30_5⟩ := cz6 (w := w29) BK299.out; obtain ⟨ASz31_0, cSz31_0, HGz31, hgz31, HSz31_0⟩ := HI0.out; have hcz31_0 := cellS59_0 HGz31; have hcz31_2 := cellS59_2 HGz31; have hfz31_1 := blk_frozen HGz31 1; have hfz31_2 := blk_frozen HGz31 2; clear HGz31 hgz31; have hnb32 := NB288_0.out; have hnc32 := NB0_288.out; obtain ⟨hcz33_0, hcz33_1, hcz33_2, hcz33_3, hcz33_4, hcz33_5, hfz33_0, hfz33_1, hfz33_2, hfz33_3, hfz33_4, hfz33_5⟩ := cz6 (w := w29) BK288.out))
  refine bodyPost_ret (results_cell_row rfl _ _ gb288 75 #[.int .i64 t289, .int .i64 t292, .int .i64 t295, .int .i64 t296, .bool (t300 == 1), .bool (t300 == 2)] (0, 0) _ rfl (by refine bx ?_; refine blk_put (cs := #[.int .i64 t289, .int .i64 t292, .int .i64 t295, .int .i64 t296, .bool (t300 == 1), .bool false]) ?_ 5 _ rfl; refine bx ?_; refine blk_put (cs := #[.int .i64 t289, .int .i64 t292, .int .i64 t295, .int .i64 t296, .bool false, .bool false]) ?_ 4 _ rfl; refine bx ?_; refine blk_put (cs := #[.int .i64 t289, .int .i64 t292, .int .i64 t295, .int .i64 0, .bool false, .bool false]) ?_ 3 _ rfl; refine bx ?_; refine blk_put (cs := #[.int .i64 t289, .int .i64 t292, .int .i64 0, .int .i64 0, .bool false, .bool false]) ?_ 2 _ rfl; refine bx ?_; refine blk_put (cs := #[.int .i64 t289, .int .i64 0, .int .i64 0, .int .i64 0, .bool false, .bool false]) ?_ 1 _ rfl; refine bx ?_; refine blk_put (cs := #[.int .i64 0, .int .i64 0, .int .i64 0, .int .i64 0, .bool false, .bool false]) ?_ 0 _ rfl; refine bx ?_; refine blk_far ?_ NB288_0.out _; refine bx ?_; refine blk_far ?_ NB288_299.out _; refine bx ?_; refine blk_far ?_ NB288_299.out _; refine bx ?_; exact BK288.out) Try.underlying75 rfl (by kernel_rfl)) rfl ?_
  exact ⟨fi, by repeat (first | (with_reducible first | exact HI0.out | apply IsS59.alloc | apply IsS59.drewN | apply IsS59.drew | refine IsS59.set_2 (f2 := false) ?_ _ | refine IsS59.far ?_ NB0_288.out _ | refine IsS59.far ?_ NB0_299.out _) | exact HI0.out), by repeat (first | (with_reducible first | exact HB.out | apply below_alloc | apply pw_below_drewN | apply below_drew1 | refine below_set ?_ (IsS59.ge HI0.out) | refine below_set ?_ GE288.out | refine below_set ?_ GE299.out) | exact HB.out), by repeat (first | (with_reducible first | exact HK.out | apply KeepBut.set_ | apply keep_drewN | apply keep_drew | apply keep_alloc | refine keep_far ?_ GW288.out _ | refine keep_far ?_ GW299.out _) | exact HK.out)⟩
 rw [if_neg c20] at H
 have c20b0 := decide_eq_false c20
 clear c20
 simp only [Option.some.injEq, Prod.mk.injEq] at H
 obtain ⟨rfl, rfl, rfl, rfl, rfl, rfl, rfl, rfl⟩ := H
 go_enter Try.func53, Try.ntmps53
 go_wp2_with (first | ((with_reducible refine gate_dst (N := 2) rfl ?_); refine bv 2 #[.int .i64 0, .int .i64 0, .int .i64 0, .int .i64 0, .bool false, .bool false] 75 ?_; intro gb288 hg w34 hbox hb; have n0_ := Aside0.mk (IsS59.below (by repeat (first | (with_reducible first | exact HI0.out | apply IsS59.alloc | apply IsS59.drewN | apply IsS59.drew | refine IsS59.set_2 (f2 := false) ?_ _) | exact HI0.out)) hb); have n1_ := Aside0.mk (KeepBut.trans (by repeat (first | (with_reducible first | exact HK.out | apply KeepBut.set_ | apply keep_drewN | apply keep_drew | apply keep_alloc) | exact HK.out)) (KeepBut.of_below hb g none) (.inl rfl)); have n2_ := Aside0.mk (below_step (by repeat (first | (with_reducible first | exact HB.out | apply below_alloc | apply pw_below_drewN | apply below_drew1 | refine below_set ?_ (IsS59.ge HI0.out)) | exact HB.out)) hb); have n3_ := Aside0.mk (hbox); have n4_ := Aside0.mk ((by rw [hg]; exact (keep_size (w := w) (g := g) (row := none) (by repeat (first | (with_reducible first | exact HK.out | apply KeepBut.set_ | apply keep_drewN | apply keep_drew | apply keep_alloc) | exact HK.out))) : w.heap.size ≤ gb288)); have n5_ := Aside0.mk ((Nat.le_trans HW0.out (by rw [hg]; exact (keep_size (w := w) (g := g) (row := none) (by repeat (first | (with_reducible first | exact HK.out | apply KeepBut.set_ | apply keep_drewN | apply keep_drew | apply keep_alloc) | exact HK.out))) : w.heap.size ≤ gb288) : w0.heap.size ≤ gb288)); have n6_ := Aside0.mk ((by rw [hg]; exact Nat.ne_of_lt (IsS59.lt (show IsS59 w0 _ g s0_0 s0_1 s0_2 from by repeat (first | (with_reducible first | exact HI0.out | apply IsS59.alloc | apply IsS59.drewN | apply IsS59.drew | refine IsS59.set_2 (f2 := false) ?_ _) | exact HI0.out))) : g ≠ gb288)); have n7_ := Aside0.mk ((by rw [hg]; exact Nat.ne_of_gt (IsS59.lt (show IsS59 w0 _ g s0_0 s0_1 s0_2 from by repeat (first | (with_reducible first | exact HI0.out | apply IsS59.alloc | apply IsS59.drewN | apply IsS59.drew | refine IsS59.set_2 (f2 := false) ?_ _) | exact HI0.out))) : gb288 ≠ g)); clear HI0; clear HK; clear HB; have HI0 := n0_; have HK := n1_; have HB := n2_; have BK288 := n3_; have GW288 := n4_; have GE288 := n5_; have NB0_288 := n6_; have NB288_0 := n7_; clear n0_ n1_ n2_ n3_ n4_ n5_ n6_ n7_; clear hb hbox hg) | ((with_reducible refine gate_callee (f := 54) rfl ?_); refine goesL_ (some 6) rfl rfl Try.func54 (by kernel_rfl) rfl #[.pointer (some ⟨g, 0, none⟩)] rfl ga ?_; (with_reducible refine (cand_reader_number.calls k g s0_0 s0_1 s0_2 t289 t290 t291 w0 _ ?side1 ?side2 A2.out).mono ?_); (case side1 => repeat (first | (with_reducible first | exact HI0.out | apply IsS59.alloc | apply IsS59.drewN | apply IsS59.drew | refine IsS59.set_2 (f2 := false) ?_ _ | refine IsS59.far ?_ NB0_288.out _) | exact HI0.out)); (case side2 => repeat (first | (with_reducible first | exact HB.out | apply below_alloc | apply pw_below_drewN | apply below_drew1 | refine below_set ?_ (IsS59.ge HI0.out) | refine below_set ?_ GE288.out) | exact HB.out)); rintro e w35 ⟨rfl, hi, hb, hk⟩; refine ⟨_, rfl, ?_⟩; have n0_ := Aside0.mk (KeepBut.blk hk (g' := gb288) (o := .cells #[.int .i64 0, .int .i64 0, .int .i64 0, .int .i64 0, .bool false, .bool false] 75 (0, 0)) (bk BK288.out) NB288_0.out (by simp)); have n1_ := Aside0.mk (KeepBut.trans (by repeat (first | (with_reducible first | exact HK.out | apply KeepBut.set_ | apply keep_drewN | apply keep_drew | apply keep_alloc | refine keep_far ?_ GW288.out _) | exact HK.out)) hk (.inl rfl)); have n2_ := Aside0.mk (hb); have n3_ := Aside0.mk (hi); clear BK288; clear HK; clear HB; clear HI0; have BK288 := n0_; have HK := n1_; have HB := n2_; have HI0 := n3_; clear n0_ n1_ n2_ n3_; (try clear hb)) | ((with_reducible refine gate_callee (f := 54) rfl ?_); refine goesL_ (some 8) rfl rfl Try.func54 (by kernel_rfl) rfl #[.pointer (some ⟨g, 0, none⟩)] rfl ga ?_; (with_reducible refine (cand_reader_number.calls k g s0_0 t290 t291 t292 t293 t294 w0 _ ?side1 ?side2 A3.out).mono ?_); (case side1 => repeat (first | (with_reducible first | exact HI0.out | apply IsS59.alloc | apply IsS59.drewN | apply IsS59.drew | refine IsS59.set_2 (f2 := false) ?_ _ | refine IsS59.far ?_ NB0_288.out _) | exact HI0.out)); (case side2 => repeat (first | (with_reducible first | exact HB.out | apply below_alloc | apply pw_below_drewN | apply below_drew1 | refine below_set ?_ (IsS59.ge HI0.out) | refine below_set ?_ GE288.out) | exact HB.out)); rintro e w36 ⟨rfl, hi, hb, hk⟩; refine ⟨_, rfl, ?_⟩; have n0_ := Aside0.mk (KeepBut.blk hk (g' := gb288) (o := .cells #[.int .i64 0, .int .i64 0, .int .i64 0, .int .i64 0, .bool false, .bool false] 75 (0, 0)) (bk BK288.out) NB288_0.out (by simp)); have n1_ := Aside0.mk (KeepBut.trans (by repeat (first | (with_reducible first | exact HK.out | apply KeepBut.set_ | apply keep_drewN | apply keep_drew | apply keep_alloc | refine keep_far ?_ GW288.out _) | exact HK.out)) hk (.inl rfl)); have n2_ := Aside0.mk (hb); have n3_ := Aside0.mk (hi); clear BK288; clear HK; clear HB; clear HI0; have BK288 := n0_; have HK := n1_; have HB := n2_; have HI0 := n3_; clear n0_ n1_ n2_ n3_; (try clear hb)) | ((with_reducible refine gate_callee (f := 55) rfl ?_); refine goesL_ (some 10) rfl rfl Try.func55 (by kernel_rfl) rfl #[.pointer (some ⟨g, 0, none⟩)] rfl ga ?_; (with_reducible refine (cand_reader_ref.calls k g s0_0 t293 t294 t295 t296 t297 t298 w0 _ ?side1 ?side2 A4.out).mono ?_); (case side1 => repeat (first | (with_reducible first | exact HI0.out | apply IsS59.alloc | apply IsS59.drewN | apply IsS59.drew | refine IsS59.set_2 (f2 := false) ?_ _ | refine IsS59.far ?_ NB0_288.out _) | exact HI0.out)); (case side2 => repeat (first | (with_reducible first | exact HB.out | apply below_alloc | apply pw_below_drewN | apply below_drew1 | refine below_set ?_ (IsS59.ge HI0.out) | refine below_set ?_ GE288.out) | exact HB.out)); rintro e w37 ⟨rfl, hi, hb, hk⟩; refine ⟨_, rfl, ?_⟩; have n0_ := Aside0.mk (KeepBut.blk hk (g' := gb288) (o := .cells #[.int .i64 0, .int .i64 0, .int .i64 0, .int .i64 0, .bool false, .bool false] 75 (0, 0)) (bk BK288.out) NB288_0.out (by simp)); have n1_ := Aside0.mk (KeepBut.trans (by repeat (first | (with_reducible first | exact HK.out | apply KeepBut.set_ | apply keep_drewN | apply keep_drew | apply keep_alloc | refine keep_far ?_ GW288.out _) | exact HK.out)) hk (.inl rfl)); have n2_ := Aside0.mk (hb); have n3_ := Aside0.mk (hi); clear BK288; clear HK; clear HB; clear HI0; have BK288 := n0_; have HK := n1_; have HB := n2_; have HI0 := n3_; clear n0_ n1_ n2_ n3_; (try clear hb)) | ((with_reducible refine gate_dst (N := 3) rfl ?_); refine bv 3 #[.int .i64 0, .int .i64 0, .int .i64 0, .int .i64 0, .bool false, .bool false] 75 ?_; intro gb299 hg w38 hbox hb; have n0_ := Aside0.mk (IsS59.below (by repeat (first | (with_reducible first | exact HI0.out | apply IsS59.alloc | apply IsS59.drewN | apply IsS59.drew | refine IsS59.set_2 (f2 := false) ?_ _ | refine IsS59.far ?_ NB0_288.out _) | exact HI0.out)) hb); have n1_ := Aside0.mk (blk_below (g := gb288) (o := .cells #[.int .i64 0, .int .i64 0, .int .i64 0, .int .i64 0, .bool false, .bool false] 75 (0, 0)) (bk BK288.out) hb); have n2_ := Aside0.mk (KeepBut.trans (by repeat (first | (with_reducible first | exact HK.out | apply KeepBut.set_ | apply keep_drewN | apply keep_drew | apply keep_alloc | refine keep_far ?_ GW288.out _) | exact HK.out)) (KeepBut.of_below hb g none) (.inl rfl)); have n3_ := Aside0.mk (below_step (by repeat (first | (with_reducible first | exact HB.out | apply below_alloc | apply pw_below_drewN | apply below_drew1 | refine below_set ?_ (IsS59.ge HI0.out) | refine below_set ?_ GE288.out) | exact HB.out)) hb); have n4_ := Aside0.mk (hbox); have n5_ := Aside0.mk ((by rw [hg]; exact (keep_size (w := w) (g := g) (row := none) (by repeat (first | (with_reducible first | exact HK.out | apply KeepBut.set_ | apply keep_drewN | apply keep_drew | apply keep_alloc | refine keep_far ?_ GW288.out _) | exact HK.out))) : w.heap.size ≤ gb299)); have n6_ := Aside0.mk ((Nat.le_trans HW0.out (by rw [hg]; exact (keep_size (w := w) (g := g) (row := none) (by repeat (first | (with_reducible first | exact HK.out | apply KeepBut.set_ | apply keep_drewN | apply keep_drew | apply keep_alloc | refine keep_far ?_ GW288.out _) | exact HK.out))) : w.heap.size ≤ gb299) : w0.heap.size ≤ gb299)); have n7_ := Aside0.mk ((nl hg (bk BK288.out) : gb288 ≠ gb299)); have n8_ := Aside0.mk ((ng hg (bk BK288.out) : gb299 ≠ gb288)); have n9_ := Aside0.mk ((by rw [hg]; exact Nat.ne_of_lt (IsS59.lt (show IsS59 w0 _ g s0_0 t297 t298 from by repeat (first | (with_reducible first | exact HI0.out | apply IsS59.alloc | apply IsS59.drewN | apply IsS59.drew | refine IsS59.set_2 (f2 := false) ?_ _ | refine IsS59.far ?_ NB0_288.out _) | exact HI0.out))) : g ≠ gb299)); have n10_ := Aside0.mk ((by rw [hg]; exact Nat.ne_of_gt (IsS59.lt (show IsS59 w0 _ g s0_0 t297 t298 from by repeat (first | (with_reducible first | exact HI0.out | apply IsS59.alloc | apply IsS59.drewN | apply IsS59.drew | refine IsS59.set_2 (f2 := false) ?_ _ | refine IsS59.far ?_ NB0_288.out _) | exact HI0.out))) : gb299 ≠ g)); clear HI0; clear BK288; clear HK; clear HB; have HI0 := n0_; have BK288 := n1_; have HK := n2_; have HB := n3_; have BK299 := n4_; have GW299 := n5_; have GE299 := n6_; have NB288_299 := n7_; have NB299_288 := n8_; have NB0_299 := n9_; have NB299_0 := n10_; clear n0_ n1_ n2_ n3_ n4_ n5_ n6_ n7_ n8_ n9_ n10_; clear hb hbox hg; have hnb39 := NB299_288.out; have hnc39 := NB288_299.out; have hnb40 := NB299_0.out; have hnc40 := NB0_299.out; obtain ⟨hcz41_0, hcz41_1, hcz41_2, hcz41_3, hcz41_4, hcz41_5, hfz41_0, hfz41_1, hfz41_2, hfz41_3, hfz41_4, hfz41_5⟩ := cz6 (w := w38) BK299.out) | ((with_reducible refine gate_callee (f := 54) rfl ?_); refine goesL_ (some 13) rfl rfl Try.func54 (by kernel_rfl) rfl #[.pointer (some ⟨g, 0, none⟩)] rfl ga ?_; (with_reducible refine (cand_reader_number.calls k g s0_0 t297 t298 t300 t301 false w0 _ ?side1 ?side2 A5.out).mono ?_); (case side1 => repeat (first | (with_reducible first | exact HI0.out | apply IsS59.alloc | apply IsS59.drewN | apply IsS59.drew | refine IsS59.set_2 (f2 := false) ?_ _ | refine IsS59.far ?_ NB0_288.out _ | refine IsS59.far ?_ NB0_299.out _) | exact HI0.out)); (case side2 => repeat (first | (with_reducible first | exact HB.out | apply below_alloc | apply pw_below_drewN | apply below_drew1 | refine below_set ?_ (IsS59.ge HI0.out) | refine below_set ?_ GE288.out | refine below_set ?_ GE299.out) | exact HB.out)); rintro e w42 ⟨rfl, hi, hb, hk⟩; refine ⟨_, rfl, ?_⟩; have n0_ := Aside0.mk (KeepBut.blk hk (g' := gb288) (o := .cells #[.int .i64 0, .int .i64 0, .int .i64 0, .int .i64 0, .bool false, .bool false] 75 (0, 0)) (by refine bx ?_; refine blk_far ?_ NB288_299.out _; refine bx ?_; refine blk_far ?_ NB288_299.out _; refine bx ?_; refine blk_far ?_ NB288_299.out _; refine bx ?_; refine blk_far ?_ NB288_299.out _; refine bx ?_; refine blk_far ?_ NB288_299.out _; refine bx ?_; refine blk_far ?_ NB288_299.out _; refine bx ?_; exact BK288.out) NB288_0.out (by simp)); have n1_ := Aside0.mk (KeepBut.blk hk (g' := gb299) (o := .cells #[.int .i64 t289, .int .i64 t292, .int .i64 t295, .int .i64 t296, .bool false, .bool false] 75 (0, 0)) (by refine bx ?_; refine blk_put (cs := #[.int .i64 t289, .int .i64 t292, .int .i64 t295, .int .i64 t296, .bool false, .bool false]) ?_ 5 _ rfl; refine bx ?_; refine blk_put (cs := #[.int .i64 t289, .int .i64 t292, .int .i64 t295, .int .i64 t296, .bool false, .bool false]) ?_ 4 _ rfl; refine bx ?_; refine blk_put (cs := #[.int .i64 t289, .int .i64 t292, .int .i64 t295, .int .i64 0, .bool false, .bool false]) ?_ 3 _ rfl; refine bx ?_; refine blk_put (cs := #[.int .i64 t289, .int .i64 t292, .int .i64 0, .int .i64 0, .bool false, .bool false]) ?_ 2 _ rfl; refine bx ?_; refine blk_put (cs := #[.int .i64 t289, .int .i64 0, .int .i64 0, .int .i64 0, .bool false, .bool false]) ?_ 1 _ rfl; refine bx ?_; refine blk_put (cs := #[.int .i64 0, .int .i64 0, .int .i64 0, .int .i64 0, .bool false, .bool false]) ?_ 0 _ rfl; refine bx ?_; exact BK299.out) NB299_0.out (by simp)); have n2_ := Aside0.mk (KeepBut.trans (by repeat (first | (with_reducible first | exact HK.out | apply KeepBut.set_ | apply keep_drewN | apply keep_drew | apply keep_alloc | refine keep_far ?_ GW288.out _ | refine keep_far ?_ GW299.out _) | exact HK.out)) hk (.inl rfl)); have n3_ := Aside0.mk (hb); have n4_ := Aside0.mk (hi); clear BK288; clear BK299; clear HK; clear HB; clear HI0; have BK288 := n0_; have BK299 := n1_; have HK := n2_; have HB := n3_; have HI0 := n4_; clear n0_ n1_ n2_ n3_ n4_; (try clear hb); obtain ⟨hcz43_0, hcz43_1, hcz43_2, hcz43_3, hcz43_4, hcz43_5, hfz43_0, hfz43_1, hfz43_2, hfz43_3, hfz43_4, hfz43_5⟩ := cz6 (w := w42) BK299.out; obtain ⟨ASz44_0, cSz44_0, HGz44, hgz44, HSz44_0⟩ := HI0.out; have hcz44_0 := cellS59_0 HGz44; have hcz44_2 := cellS59_2 HGz44; have hfz44_1 := blk_frozen HGz44 1; have hfz44_2 := blk_frozen HGz44 2; clear HGz44 hgz44; have hnb45 := NB288_0.out; have hnc45 := NB0_288.out; obtain ⟨hcz46_0, hcz46_1, hcz46_2, hcz46_3, hcz46_4, hcz46_5, hfz46_0, hfz46_1, hfz46_2, hfz46_3, hfz46_4, hfz46_5⟩ := cz6 (w := w42) BK288.out))
 refine bodyPost_ret (results_cell_row rfl _ _ gb288 75 #[.int .i64 t289, .int .i64 t292, .int .i64 t295, .int .i64 t296, .bool (t300 == 1), .bool (t300 == 2)] (0, 0) _ rfl (by refine bx ?_; refine blk_put (cs := #[.int .i64 t289, .int .i64 t292, .int .i64 t295, .int .i64 t296, .bool (t300 == 1), .bool false]) ?_ 5 _ rfl; refine bx ?_; refine blk_put (cs := #[.int .i64 t289, .int .i64 t292, .int .i64 t295, .int .i64 t296, .bool false, .bool false]) ?_ 4 _ rfl; refine bx ?_; refine blk_put (cs := #[.int .i64 t289, .int .i64 t292, .int .i64 t295, .int .i64 0, .bool false, .bool false]) ?_ 3 _ rfl; refine bx ?_; refine blk_put (cs := #[.int .i64 t289, .int .i64 t292, .int .i64 0, .int .i64 0, .bool false, .bool false]) ?_ 2 _ rfl; refine bx ?_; refine blk_put (cs := #[.int .i64 t289, .int .i64 0, .int .i64 0, .int .i64 0, .bool false, .bool false]) ?_ 1 _ rfl; refine bx ?_; refine blk_put (cs := #[.int .i64 0, .int .i64 0, .int .i64 0, .int .i64 0, .bool false, .bool false]) ?_ 0 _ rfl; refine bx ?_; refine blk_far ?_ NB288_0.out _; refine bx ?_; refine blk_far ?_ NB288_299.out _; refine bx ?_; refine blk_far ?_ NB288_299.out _; refine bx ?_; exact BK288.out) Try.underlying75 rfl (by kernel_rfl)) rfl ?_
 exact ⟨fi, by repeat (first | (with_reducible first | exact HI0.out | apply IsS59.alloc | apply IsS59.drewN | apply IsS59.drew | refine IsS59.set_2 (f2 := false) ?_ _ | refine IsS59.far ?_ NB0_288.out _ | refine IsS59.far ?_ NB0_299.out _) | exact HI0.out), by repeat (first | (with_reducible first | exact HB.out | apply below_alloc | apply pw_below_drewN | apply below_drew1 | refine below_set ?_ (IsS59.ge HI0.out) | refine below_set ?_ GE288.out | refine below_set ?_ GE299.out) | exact HB.out), by repeat (first | (with_reducible first | exact HK.out | apply KeepBut.set_ | apply keep_drewN | apply keep_drew | apply keep_alloc | refine keep_far ?_ GW288.out _ | refine keep_far ?_ GW299.out _) | exact HK.out)⟩

/-! ### cand_newReader: function 88 (by hand) -/
/-- A reader at the beginning of its bytes. -/
def cand_newReader.f (l0 : List Int) : Option (List Int × Int × Bool) := some (l0, 0, false)

end Go.Proofs.Ytfpphaflbmlpeaa.GCandChecks
