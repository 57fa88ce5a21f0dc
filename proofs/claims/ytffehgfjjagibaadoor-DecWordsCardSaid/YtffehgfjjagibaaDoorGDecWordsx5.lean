-- Written by wip/stub.py of this repo.
import Derived.Test.YtffehgfjjagibaaDoorGDecWordsx0
import Derived.Test.YtffehgfjjagibaaDoorGDecWordsx4
namespace Go.Proofs.YtffehgfjjagibaaDoor.GDecWords
open Go.RowKit Go.Proofs.YtffehgfjjagibaaDoorW.PrintWords Go.Proofs.YtffehgfjjagibaaDoorW.PrintLast Go.Proofs.YtffehgfjjagibaaDoorW.PrintMore
attribute [local go_sem] max2_int min2_int max_two min_two max_three min_three max_four min_four   -- for this text's walks alone
set_option linter.unusedVariables false
set_option linter.unusedSimpArgs false

/-! ### enc_registers: function 41 -/
def enc_registers.j0 : Nat → List (S65) → Bool → Int → Int → Int → Int → Int → Bool → Bool → Option ((List (S65)))
  | 0, _, _, _, _, _, _, _, _, _ => none
  | k + 1, x3, x5, x145000, x145001, x145002, x145003, x145004, x145005, x145006 => if x5 = true then (if x3.length < 5864062014805 then ((some (x3 ++ [(⟨(x145003) % 4294967296, 20, 5⟩ : S65)] : List (S65))).bind fun y150 => ((isa_Writes.f k x145000 x145001 x145002 x145003 x145004 x145005 x145006).bind fun bt153 => (if bt153.2 = true then (if y150.length < 5864062014805 then (some (y150 ++ [(⟨(bt153.1) % 4294967296, 7, 5⟩ : S65)])) else (none)) else (some y150)))) else (none)) else ((isa_Writes.f k x145000 x145001 x145002 x145003 x145004 x145005 x145006).bind fun bt158 => (if bt158.2 = true then (if x3.length < 5864062014805 then (some (x3 ++ [(⟨(bt158.1) % 4294967296, 7, 5⟩ : S65)])) else (none)) else (some x3)))
def enc_registers.f (k : Nat) (a0_0 : Int) (a0_1 : Int) (a0_2 : Int) (a0_3 : Int) (a0_4 : Int) (a0_5 : Bool) (a0_6 : Bool) : Option ((List (S65))) := (isa_Reads.f k a0_0 a0_1 a0_2 a0_3 a0_4 a0_5 a0_6).bind fun bt145 => (if bt145.1 = true then (if ([] : List (S65)).length < 5864062014805 then (enc_registers.j0 k (([] : List (S65)) ++ [(⟨(a0_2) % 4294967296, 15, 5⟩ : S65)]) bt145.2 a0_0 a0_1 a0_2 a0_3 a0_4 a0_5 a0_6) else (none)) else (enc_registers.j0 k ([] : List (S65)) bt145.2 a0_0 a0_1 a0_2 a0_3 a0_4 a0_5 a0_6))
theorem enc_registers.mono_l : ∀ k, (∀ y0 y1 y2 y3 y4 y5 y6 y7 y8, LeO (enc_registers.j0 k y0 y1 y2 y3 y4 y5 y6 y7 y8) (enc_registers.j0 (k + 1) y0 y1 y2 y3 y4 y5 y6 y7 y8))
 | 0 => fun _ _ _ _ _ _ _ _ _ r h => by simp [enc_registers.j0] at h
 | k + 1 => by
  have ih0 := enc_registers.mono_l k
  ·intro y0 y1 y2 y3 y4 y5 y6 y7 y8
   unfold enc_registers.j0
   repeat' first
   | (with_reducible exact ih0 _ _ _ _ _ _ _ _ _)
   | (with_reducible exact isa_Reads.mono _ _ _ _ _ _ _ _)
   | (with_reducible exact isa_Writes.mono _ _ _ _ _ _ _ _)
   | (with_reducible exact LeO.refl _)
   | (with_reducible exact LeO.none _)
   | (with_reducible refine LeO.ite ?_ ?_)
   | (with_reducible refine LeO.bind ?_ (fun _ => ?_))
   | exact ih0 _ _ _ _ _ _ _ _ _
   | exact isa_Reads.mono _ _ _ _ _ _ _ _
   | exact isa_Writes.mono _ _ _ _ _ _ _ _
   | exact LeO.none _
   | refine LeO.ite ?_ ?_
   | refine LeO.bind ?_ (fun _ => ?_)
theorem enc_registers.mono : ∀ a0 a1 a2 a3 a4 a5 a6 k, LeO (enc_registers.f k a0 a1 a2 a3 a4 a5 a6) (enc_registers.f (k + 1) a0 a1 a2 a3 a4 a5 a6) := by
 intro a0 a1 a2 a3 a4 a5 a6 k
 have ih0 := enc_registers.mono_l k
 unfold enc_registers.f
 repeat' first
   | (with_reducible exact ih0 _ _ _ _ _ _ _ _ _)
   | (with_reducible exact isa_Reads.mono _ _ _ _ _ _ _ _)
   | (with_reducible exact isa_Writes.mono _ _ _ _ _ _ _ _)
   | (with_reducible exact LeO.refl _)
   | (with_reducible exact LeO.none _)
   | (with_reducible refine LeO.ite ?_ ?_)
   | (with_reducible refine LeO.bind ?_ (fun _ => ?_))
   | exact ih0 _ _ _ _ _ _ _ _ _
   | exact isa_Reads.mono _ _ _ _ _ _ _ _
   | exact isa_Writes.mono _ _ _ _ _ _ _ _
   | exact LeO.none _
   | refine LeO.ite ?_ ?_
   | refine LeO.bind ?_ (fun _ => ?_)
set_option maxHeartbeats 8000000 in
set_option maxRecDepth 100000 in
theorem enc_registers.calls (k : Nat) (a0_0 : Int) (a0_1 : Int) (a0_2 : Int) (a0_3 : Int) (a0_4 : Int) (a0_5 : Bool) (a0_6 : Bool) (r : List (S65)) (w : World) (hL : Laid w) (h : enc_registers.f k a0_0 a0_1 a0_2 a0_3 a0_4 a0_5 a0_6 = some r) :
  Calls Tryd.prog 41 #[.agg #[.int .i64 a0_0, .int .i64 a0_1, .int .i64 a0_2, .int .i64 a0_3, .int .i64 a0_4, .bool a0_5, .bool a0_6]] w fun e w' => ∃ v0_ : Value, e = .returned (v0_) ∧ Kd.R k65 65 w' w.heap.size (fun _ => True) v0_ r ∧ Below w.heap.size w w' := by
 have HL := Aside0.mk hL
 clear hL
 have hu24 := Tryd.underlying24
 have hu65 := Tryd.underlying65
 have HB := Aside0.mk (Below.refl w.heap.size w)
 have H : ((isa_Reads.f k a0_0 a0_1 a0_2 a0_3 a0_4 a0_5 a0_6).bind fun bt145 => (if bt145.1 = true then (if ([] : List (S65)).length < 5864062014805 then (enc_registers.j0 k (([] : List (S65)) ++ [(⟨(a0_2) % 4294967296, 15, 5⟩ : S65)]) bt145.2 a0_0 a0_1 a0_2 a0_3 a0_4 a0_5 a0_6) else (none)) else (enc_registers.j0 k ([] : List (S65)) bt145.2 a0_0 a0_1 a0_2 a0_3 a0_4 a0_5 a0_6))) = some r := h
 clear h
 replace H := be H
 obtain ⟨⟨t145, t146⟩, A2, H⟩ := H
 dsimp only at H
 have HC3 := Aside0.mk H
 clear H
 go_enter Tryd.func41, Tryd.ntmps41
 go_upto_if 13 with (first | ((with_reducible refine gate_dst (N := 1) rfl ?_); refine box_event ?hg (N := 1) ?hd (cs := #[.int .i64 a0_0, .int .i64 a0_1, .int .i64 a0_2, .int .i64 a0_3, .int .i64 a0_4, .bool a0_5, .bool a0_6]) (t := 24) ?hr ?_; (case hd => rfl); (case hg => rfl); (case hr => first | (go_simp; done) | (go_simp; rfl)); intro gb144 hg w4 hbox hb; obtain ⟨n0_, GW144⟩ := nb (w := w) hg hb; clear HB; have HB := n0_; have BK144 := Aside0.mk hbox; have GE144 := GW144; clear n0_ hb hbox hg; obtain ⟨hcz5_0, hcz5_1, hcz5_2, hcz5_3, hcz5_4, hcz5_5, hcz5_6, hfz5_0, hfz5_1, hfz5_2, hfz5_3, hfz5_4, hfz5_5, hfz5_6⟩ := cz7 (w := w4) BK144.out) | ((with_reducible refine gate_callee (f := 76) rfl ?_); refine goesL_ (some 10) rfl rfl Tryd.func76 (by kernel_rfl) rfl #[.agg #[.int .i64 a0_0, .int .i64 a0_1, .int .i64 a0_2, .int .i64 a0_3, .int .i64 a0_4, .bool a0_5, .bool a0_6]] rfl ga ?_; (with_reducible refine (isa_Reads.calls k a0_0 a0_1 a0_2 a0_3 a0_4 a0_5 a0_6 t145 t146 _ (by first | exact HL.out | exact laid_drewN HL.out | exact laid_below HL.out bl | exact laid_below HL.out HB.out | exact laid_belowd HL.out HB.out) A2.out).mono ?_); rintro e w6 ⟨rfl, hb⟩; refine ⟨_, rfl, ?_⟩; have n0_ := Aside0.mk (blk_below (g := gb144) (o := .cells #[.int .i64 a0_0, .int .i64 a0_1, .int .i64 a0_2, .int .i64 a0_3, .int .i64 a0_4, .bool a0_5, .bool a0_6] 24 (0, 0)) (bk BK144.out) hb); have n1_ := Aside0.mk (below_step bl hb); clear BK144; clear HB; have BK144 := n0_; have HB := n1_; clear n0_ n1_; (try clear hb)))
 (try simp only [Act.put, List.setIfInBounds_toArray, List.set_cons_zero, List.set_cons_succ])
 go_cut [3] (fun v3 wc => ∃ (kq : Nat) (x3_2 : List (S65)), Aside0 (enc_registers.j0 kq x3_2 t146 a0_0 a0_1 a0_2 a0_3 a0_4 a0_5 a0_6 = some r) ∧ Aside0 (kq ≤ k) ∧ Aside0 (Kd.R k65 65 wc w.heap.size (fun _ => True) v3 x3_2) ∧ Aside0 (wc.heap[gb144]? = some (.cells #[.int .i64 a0_0, .int .i64 a0_1, .int .i64 a0_2, .int .i64 a0_3, .int .i64 a0_4, .bool a0_5, .bool a0_6] 24 (0, 0))) ∧ Aside0 (Below w.heap.size w wc))
 case first =>
  have H := HC3.out
  clear HC3
  by_cases c7 : t145 = true
  ·subst c7
   have H1 : (if ([] : List (S65)).length < 5864062014805 then (enc_registers.j0 k (([] : List (S65)) ++ [(⟨(a0_2) % 4294967296, 15, 5⟩ : S65)]) t146 a0_0 a0_1 a0_2 a0_3 a0_4 a0_5 a0_6) else (none)) = some r := by rw [if_pos rfl] at H; exact H
   clear H
   have H := H1
   clear H1
   by_cases c8 : ([] : List (S65)).length < 5864062014805
   ·rw [if_pos c8] at H
    have LMc8 := Aside0.mk c8
    clear c8
    obtain ⟨y147, hy147⟩ : ∃ y_ : List (S65), y_ = (([] : List (S65)) ++ [(⟨(a0_2) % 4294967296, 15, 5⟩ : S65)]) := ⟨_, rfl⟩
    replace H : (enc_registers.j0 k y147 t146 a0_0 a0_1 a0_2 a0_3 a0_4 a0_5 a0_6) = some r := by first | (rw [hy147]; with_reducible exact H) | (have H2_ := (Option.bind_some _ _).symm.trans H; rw [hy147]; with_reducible exact H2_) | (have H2_ := (Option.bind_some _ _).symm.trans H; with_reducible exact H2_) | with_reducible exact H | (rw [hy147]; exact H) | exact H
    have Ny147 := Aside0.mk hy147
    clear hy147
    have H' := Aside0.mk H
    clear H
    obtain ⟨hcz9_0, hcz9_1, hcz9_2, hcz9_3, hcz9_4, hcz9_5, hcz9_6, hfz9_0, hfz9_1, hfz9_2, hfz9_3, hfz9_4, hfz9_5, hfz9_6⟩ := cz7 (w := w6) BK144.out
    go_wp2_with (first | ((with_reducible refine gate_builtin (b := .append) (xs := #[.tmp 14, .tmp 19]) rfl ?_); at_builtin; refine Kd.R_append k65 (w0 := w) w.heap.size rfl (.tmp 14) (.tmp 19) 66 65 (.agg #[(.int .u32 0), (.int .i64 0), (.int .i64 0)]) 24 rfl Tryd.underlying66 info65 rfl (by decide) (by omega) (.slice none 0 0) ([] : List (S65)) (⟨(a0_2) % 4294967296, 15, 5⟩ : S65) [.int .u32 ((a0_2) % 4294967296), .int .i64 15, .int .i64 5] (fun _ => True) (fun _ => False) rfl rfl ?aP (fun _ hk => hk.elim) ?aF ?aO ?aB ?aS ?aL ?_; (case aP => exact k65_mkM _ _ _ (⟨(a0_2) % 4294967296, 15, 5⟩ : S65)); (case aB => exact bl); (case aF => exact (fun _ _ => trivial)); (case aO => exact ((Kd.R_nil _ _ _ _ (fun _ => True)))); (case aS => exact (below_size bl)); (case aL => have := LMc8.out; omega); intro v148 w10 ho hb hg hat; rw [← Ny147.out] at ho; have n0_ := Aside0.mk (blk_grown (g := gb144) (o := .cells #[.int .i64 a0_0, .int .i64 a0_1, .int .i64 a0_2, .int .i64 a0_3, .int .i64 a0_4, .bool a0_5, .bool a0_6] 24 (0, 0)) (bk BK144.out) hg (by simp [Value.ownBlock])); have n1_ := Aside0.mk (hb); have n2_ := Aside0.mk (ho); clear BK144; clear HB; have BK144 := n0_; have HB := n1_; have HO149 := n2_; clear n0_ n1_ n2_; clear ho hb hg hat))
    go_meet
    case rel => exact ⟨_, (y147), H', ⟨by first | omega | exact Nat.le_refl _⟩, ⟨by (with_reducible repeat (first | apply Kd.R_alloc | apply Kd.R_drewN | apply Kd.R_drew)); exact HO149.out⟩, ⟨by refine bx ?_; exact BK144.out⟩, ⟨bl⟩⟩
   ·rw [if_neg c8] at H
    exact absurd H (by simp)
  ·replace c7 := Bool.eq_false_iff.mpr c7
   subst c7
   have H1 : (enc_registers.j0 k ([] : List (S65)) t146 a0_0 a0_1 a0_2 a0_3 a0_4 a0_5 a0_6) = some r := by rw [if_neg (show ¬ (false = true) by decide)] at H; exact H
   clear H
   have H := H1
   clear H1
   have H' := Aside0.mk H
   clear H
   go_wp2
   go_meet
   case rel => exact ⟨_, (([] : List (S65))), H', ⟨by first | omega | exact Nat.le_refl _⟩, ⟨by first | exact Kd.R_nil _ _ _ _ _ | exact Kd.N_nil _ _ _ _ _ | exact Kd.V_nil _ _ _ _ _ | exact Kd.Q_nil _ _ _ _ _ | exact Kd.S_nil _ _ _ _ _⟩, ⟨by refine bx ?_; exact BK144.out⟩, ⟨bl⟩⟩
 case rest =>
  clear HC3
  try clear p2
  try clear c4
  try clear c7
  try clear c8
  try clear hcz5_0 hcz5_1 hcz5_2 hcz5_3 hcz5_4 hcz5_5 hcz5_6
  try clear hcz9_0 hcz9_1 hcz9_2 hcz9_3 hcz9_4 hcz9_5 hcz9_6
  try clear hfz5_0 hfz5_1 hfz5_2 hfz5_3 hfz5_4 hfz5_5 hfz5_6
  try clear hfz9_0 hfz9_1 hfz9_2 hfz9_3 hfz9_4 hfz9_5 hfz9_6
  obtain ⟨kq, x3_2, HA, HJ2, HO_3, BK144, HB⟩ := hcut
  cases kq with
  | zero => exact absurd HA.out (by simp [enc_registers.j0])
  | succ kj2 =>
   have H := HA.out
   clear HA
   simp only [enc_registers.j0] at H
   by_cases c11 : t146 = true
   ·subst c11
    have H1 : (if x3_2.length < 5864062014805 then ((some (x3_2 ++ [(⟨(a0_3) % 4294967296, 20, 5⟩ : S65)] : List (S65))).bind fun y150 => ((isa_Writes.f kj2 a0_0 a0_1 a0_2 a0_3 a0_4 a0_5 a0_6).bind fun bt153 => (if bt153.2 = true then (if y150.length < 5864062014805 then (some (y150 ++ [(⟨(bt153.1) % 4294967296, 7, 5⟩ : S65)])) else (none)) else (some y150)))) else (none)) = some r := by rw [if_pos rfl] at H; exact H
    clear H
    have H := H1
    clear H1
    by_cases c12 : x3_2.length < 5864062014805
    ·rw [if_pos c12] at H
     have LMc12 := Aside0.mk c12
     clear c12
     obtain ⟨y150, hy150⟩ : ∃ y_ : List (S65), y_ = (x3_2 ++ [(⟨(a0_3) % 4294967296, 20, 5⟩ : S65)]) := ⟨_, rfl⟩
     replace H : ((isa_Writes.f kj2 a0_0 a0_1 a0_2 a0_3 a0_4 a0_5 a0_6).bind fun bt153 => (if bt153.2 = true then (if y150.length < 5864062014805 then (some (y150 ++ [(⟨(bt153.1) % 4294967296, 7, 5⟩ : S65)])) else (none)) else (some y150))) = some r := by first | (rw [hy150]; with_reducible exact H) | (have H2_ := (Option.bind_some _ _).symm.trans H; rw [hy150]; with_reducible exact H2_) | (have H2_ := (Option.bind_some _ _).symm.trans H; with_reducible exact H2_) | with_reducible exact H | (rw [hy150]; exact H) | exact H
     have Ny150 := Aside0.mk hy150
     clear hy150
     replace H := be H
     obtain ⟨⟨t153, t154⟩, A13, H⟩ := H
     dsimp only at H
     by_cases c14 : t154 = true
     ·subst c14
      have H1 : (if y150.length < 5864062014805 then (some (y150 ++ [(⟨(t153) % 4294967296, 7, 5⟩ : S65)])) else (none)) = some r := by rw [if_pos rfl] at H; exact H
      clear H
      have H := H1
      clear H1
      by_cases c15 : y150.length < 5864062014805
      ·rw [if_pos c15] at H
       have LMc15 := Aside0.mk c15
       clear c15
       obtain ⟨y155, hy155⟩ : ∃ y_ : List (S65), y_ = (y150 ++ [(⟨(t153) % 4294967296, 7, 5⟩ : S65)]) := ⟨_, rfl⟩
       replace H : (some y155) = some r := by first | (rw [hy155]; with_reducible exact H) | (have H2_ := (Option.bind_some _ _).symm.trans H; rw [hy155]; with_reducible exact H2_) | (have H2_ := (Option.bind_some _ _).symm.trans H; with_reducible exact H2_) | with_reducible exact H | (rw [hy155]; exact H) | exact H
       have Ny155 := Aside0.mk hy155
       clear hy155
       obtain rfl := Option.some.inj H
       obtain ⟨hcz16_0, hcz16_1, hcz16_2, hcz16_3, hcz16_4, hcz16_5, hcz16_6, hfz16_0, hfz16_1, hfz16_2, hfz16_3, hfz16_4, hfz16_5, hfz16_6⟩ := cz7 (w := wc) BK144.out
       go_wp2_with (first | ((with_reducible refine gate_builtin (b := .append) (xs := #[.tmp 22, .tmp 27]) rfl ?_); at_builtin; refine Kd.R_append k65 (w0 := w) w.heap.size rfl (.tmp 22) (.tmp 27) 66 65 (.agg #[(.int .u32 0), (.int .i64 0), (.int .i64 0)]) 24 rfl Tryd.underlying66 info65 rfl (by decide) (by omega) u3 x3_2 (⟨(a0_3) % 4294967296, 20, 5⟩ : S65) [.int .u32 ((a0_3) % 4294967296), .int .i64 20, .int .i64 5] (fun _ => True) (fun _ => False) rfl rfl ?aP (fun _ hk => hk.elim) ?aF ?aO ?aB ?aS ?aL ?_; (case aP => exact k65_mkM _ _ _ (⟨(a0_3) % 4294967296, 20, 5⟩ : S65)); (case aB => exact bl); (case aF => exact (fun _ _ => trivial)); (case aO => exact (by (with_reducible repeat (first | apply Kd.R_alloc | apply Kd.R_drewN | apply Kd.R_drew)); exact HO_3.out)); (case aS => exact (below_size bl)); (case aL => have := LMc12.out; omega); intro v151 w17 ho hb hg hat; rw [← Ny150.out] at ho; have n0_ := Aside0.mk (blk_grown (g := gb144) (o := .cells #[.int .i64 a0_0, .int .i64 a0_1, .int .i64 a0_2, .int .i64 a0_3, .int .i64 a0_4, .bool a0_5, .bool a0_6] 24 (0, 0)) (bk BK144.out) hg (Kd.R_ne HO_3.out BK144.out (by decide))); have n1_ := Aside0.mk (hb); have n2_ := Aside0.mk (ho); clear BK144; clear HB; clear HO_3; have BK144 := n0_; have HB := n1_; have HO152 := n2_; clear n0_ n1_ n2_; clear ho hb hg hat; obtain ⟨hcz18_0, hcz18_1, hcz18_2, hcz18_3, hcz18_4, hcz18_5, hcz18_6, hfz18_0, hfz18_1, hfz18_2, hfz18_3, hfz18_4, hfz18_5, hfz18_6⟩ := cz7 (w := w17) BK144.out) | ((with_reducible refine gate_callee (f := 77) rfl ?_); refine goesL_ (some 31) rfl rfl Tryd.func77 (by kernel_rfl) rfl #[.agg #[.int .i64 a0_0, .int .i64 a0_1, .int .i64 a0_2, .int .i64 a0_3, .int .i64 a0_4, .bool a0_5, .bool a0_6]] rfl ga ?_; (with_reducible refine (isa_Writes.calls kj2 a0_0 a0_1 a0_2 a0_3 a0_4 a0_5 a0_6 t153 true _ (by first | exact HL.out | exact laid_drewN HL.out | exact laid_below HL.out bl | exact laid_below HL.out HB.out | exact laid_belowd HL.out HB.out) A13.out).mono ?_); rintro e w19 ⟨rfl, hb⟩; refine ⟨_, rfl, ?_⟩; have n0_ := Aside0.mk (Kd.R_below (by (with_reducible repeat (first | apply Kd.R_alloc | apply Kd.R_drewN | apply Kd.R_drew)); exact HO152.out) hb); have n1_ := Aside0.mk (blk_below (g := gb144) (o := .cells #[.int .i64 a0_0, .int .i64 a0_1, .int .i64 a0_2, .int .i64 a0_3, .int .i64 a0_4, .bool a0_5, .bool a0_6] 24 (0, 0)) (bk BK144.out) hb); have n2_ := Aside0.mk (below_step bl hb); clear HO152; clear BK144; clear HB; have HO152 := n0_; have BK144 := n1_; have HB := n2_; clear n0_ n1_ n2_; (try clear hb)) | ((with_reducible refine gate_builtin (b := .append) (xs := #[.tmp 35, .tmp 39]) rfl ?_); at_builtin; refine Kd.R_append k65 (w0 := w) w.heap.size rfl (.tmp 35) (.tmp 39) 66 65 (.agg #[(.int .u32 0), (.int .i64 0), (.int .i64 0)]) 24 rfl Tryd.underlying66 info65 rfl (by decide) (by omega) v151 y150 (⟨(t153) % 4294967296, 7, 5⟩ : S65) [.int .u32 ((t153) % 4294967296), .int .i64 7, .int .i64 5] (fun _ => True) (fun _ => False) rfl rfl ?aP (fun _ hk => hk.elim) ?aF ?aO ?aB ?aS ?aL ?_; (case aP => exact k65_mkM _ _ _ (⟨(t153) % 4294967296, 7, 5⟩ : S65)); (case aB => exact bl); (case aF => exact (fun _ _ => trivial)); (case aO => exact (by (with_reducible repeat (first | apply Kd.R_alloc | apply Kd.R_drewN | apply Kd.R_drew)); exact HO152.out)); (case aS => exact (below_size bl)); (case aL => have := LMc15.out; omega); intro v156 w20 ho hb hg hat; rw [← Ny155.out] at ho; have n0_ := Aside0.mk (blk_grown (g := gb144) (o := .cells #[.int .i64 a0_0, .int .i64 a0_1, .int .i64 a0_2, .int .i64 a0_3, .int .i64 a0_4, .bool a0_5, .bool a0_6] 24 (0, 0)) (bk BK144.out) hg (Kd.R_ne HO152.out BK144.out (by decide))); have n1_ := Aside0.mk (hb); have n2_ := Aside0.mk (ho); clear BK144; clear HB; clear HO152; have BK144 := n0_; have HB := n1_; have HO157 := n2_; clear n0_ n1_ n2_; clear ho hb hg hat))
       go_ret
       exact ⟨_, fi, by (with_reducible repeat (first | apply Kd.R_alloc | apply Kd.R_drewN | apply Kd.R_drew)); exact HO157.out, bl⟩
      ·rw [if_neg c15] at H
       exact absurd H (by simp)
     ·replace c14 := Bool.eq_false_iff.mpr c14
      subst c14
      have H1 : (some y150) = some r := by rw [if_neg (show ¬ (false = true) by decide)] at H; exact H
      clear H
      have H := H1
      clear H1
      obtain rfl := Option.some.inj H
      obtain ⟨hcz21_0, hcz21_1, hcz21_2, hcz21_3, hcz21_4, hcz21_5, hcz21_6, hfz21_0, hfz21_1, hfz21_2, hfz21_3, hfz21_4, hfz21_5, hfz21_6⟩ := cz7 (w := wc) BK144.out
      go_wp2_with (first | ((with_reducible refine gate_builtin (b := .append) (xs := #[.tmp 22, .tmp 27]) rfl ?_); at_builtin; refine Kd.R_append k65 (w0 := w) w.heap.size rfl (.tmp 22) (.tmp 27) 66 65 (.agg #[(.int .u32 0), (.int .i64 0), (.int .i64 0)]) 24 rfl Tryd.underlying66 info65 rfl (by decide) (by omega) u3 x3_2 (⟨(a0_3) % 4294967296, 20, 5⟩ : S65) [.int .u32 ((a0_3) % 4294967296), .int .i64 20, .int .i64 5] (fun _ => True) (fun _ => False) rfl rfl ?aP (fun _ hk => hk.elim) ?aF ?aO ?aB ?aS ?aL ?_; (case aP => exact k65_mkM _ _ _ (⟨(a0_3) % 4294967296, 20, 5⟩ : S65)); (case aB => exact bl); (case aF => exact (fun _ _ => trivial)); (case aO => exact (by (with_reducible repeat (first | apply Kd.R_alloc | apply Kd.R_drewN | apply Kd.R_drew)); exact HO_3.out)); (case aS => exact (below_size bl)); (case aL => have := LMc12.out; omega); intro v151 w22 ho hb hg hat; rw [← Ny150.out] at ho; have n0_ := Aside0.mk (blk_grown (g := gb144) (o := .cells #[.int .i64 a0_0, .int .i64 a0_1, .int .i64 a0_2, .int .i64 a0_3, .int .i64 a0_4, .bool a0_5, .bool a0_6] 24 (0, 0)) (bk BK144.out) hg (Kd.R_ne HO_3.out BK144.out (by decide))); have n1_ := Aside0.mk (hb); have n2_ := Aside0.mk (ho); clear BK144; clear HB; clear HO_3; have BK144 := n0_; have HB := n1_; have HO152 := n2_; clear n0_ n1_ n2_; clear ho hb hg hat; obtain ⟨hcz23_0, hcz23_1, hcz23_2, hcz23_3, hcz23_4, hcz23_5, hcz23_6, hfz23_0, hfz23_1, hfz23_2, hfz23_3, hfz23_4, hfz23_5, hfz23_6⟩ := cz7 (w := w22) BK144.out) | ((with_reducible refine gate_callee (f := 77) rfl ?_); refine goesL_ (some 31) rfl rfl Tryd.func77 (by kernel_rfl) rfl #[.agg #[.int .i64 a0_0, .int .i64 a0_1, .int .i64 a0_2, .int .i64 a0_3, .int .i64 a0_4, .bool a0_5, .bool a0_6]] rfl ga ?_; (with_reducible refine (isa_Writes.calls kj2 a0_0 a0_1 a0_2 a0_3 a0_4 a0_5 a0_6 t153 false _ (by first | exact HL.out | exact laid_drewN HL.out | exact laid_below HL.out bl | exact laid_below HL.out HB.out | exact laid_belowd HL.out HB.out) A13.out).mono ?_); rintro e w24 ⟨rfl, hb⟩; refine ⟨_, rfl, ?_⟩; have n0_ := Aside0.mk (Kd.R_below (by (with_reducible repeat (first | apply Kd.R_alloc | apply Kd.R_drewN | apply Kd.R_drew)); exact HO152.out) hb); have n1_ := Aside0.mk (blk_below (g := gb144) (o := .cells #[.int .i64 a0_0, .int .i64 a0_1, .int .i64 a0_2, .int .i64 a0_3, .int .i64 a0_4, .bool a0_5, .bool a0_6] 24 (0, 0)) (bk BK144.out) hb); have n2_ := Aside0.mk (below_step bl hb); clear HO152; clear BK144; clear HB; have HO152 := n0_; have BK144 := n1_; have HB := n2_; clear n0_ n1_ n2_; (try clear hb)))
      go_ret
      exact ⟨_, fi, by (with_reducible repeat (first | apply Kd.R_alloc | apply Kd.R_drewN | apply Kd.R_drew)); exact HO152.out, bl⟩
    ·rw [if_neg c12] at H
     exact absurd H (by simp)
   ·replace c11 := Bool.eq_false_iff.mpr c11
    subst c11
    have H1 : ((isa_Writes.f kj2 a0_0 a0_1 a0_2 a0_3 a0_4 a0_5 a0_6).bind fun bt158 => (if bt158.2 = true then (if x3_2.length < 5864062014805 then (some (x3_2 ++ [(⟨(bt158.1) % 4294967296, 7, 5⟩ : S65)])) else (none)) else (some x3_2))) = some r := by rw [if_neg (show ¬ (false = true) by decide)] at H; exact H
    clear H
    have H := H1
    clear H1
    replace H := be H
    obtain ⟨⟨t158, t159⟩, A25, H⟩ := H
    dsimp only at H
    by_cases c26 : t159 = true
    ·subst c26
     have H1 : (if x3_2.length < 5864062014805 then (some (x3_2 ++ [(⟨(t158) % 4294967296, 7, 5⟩ : S65)])) else (none)) = some r := by rw [if_pos rfl] at H; exact H
     clear H
     have H := H1
     clear H1
     by_cases c27 : x3_2.length < 5864062014805
     ·rw [if_pos c27] at H
      have LMc27 := Aside0.mk c27
      clear c27
      obtain ⟨y160, hy160⟩ : ∃ y_ : List (S65), y_ = (x3_2 ++ [(⟨(t158) % 4294967296, 7, 5⟩ : S65)]) := ⟨_, rfl⟩
      replace H : (some y160) = some r := by first | (rw [hy160]; with_reducible exact H) | (have H2_ := (Option.bind_some _ _).symm.trans H; rw [hy160]; with_reducible exact H2_) | (have H2_ := (Option.bind_some _ _).symm.trans H; with_reducible exact H2_) | with_reducible exact H | (rw [hy160]; exact H) | exact H
      have Ny160 := Aside0.mk hy160
      clear hy160
      obtain rfl := Option.some.inj H
      obtain ⟨hcz28_0, hcz28_1, hcz28_2, hcz28_3, hcz28_4, hcz28_5, hcz28_6, hfz28_0, hfz28_1, hfz28_2, hfz28_3, hfz28_4, hfz28_5, hfz28_6⟩ := cz7 (w := wc) BK144.out
      go_wp2_with (first | ((with_reducible refine gate_callee (f := 77) rfl ?_); refine goesL_ (some 31) rfl rfl Tryd.func77 (by kernel_rfl) rfl #[.agg #[.int .i64 a0_0, .int .i64 a0_1, .int .i64 a0_2, .int .i64 a0_3, .int .i64 a0_4, .bool a0_5, .bool a0_6]] rfl ga ?_; (with_reducible refine (isa_Writes.calls kj2 a0_0 a0_1 a0_2 a0_3 a0_4 a0_5 a0_6 t158 true _ (by first | exact HL.out | exact laid_drewN HL.out | exact laid_below HL.out bl | exact laid_below HL.out HB.out | exact laid_belowd HL.out HB.out) A25.out).mono ?_); rintro e w29 ⟨rfl, hb⟩; refine ⟨_, rfl, ?_⟩; have n0_ := Aside0.mk (Kd.R_below (by (with_reducible repeat (first | apply Kd.R_alloc | apply Kd.R_drewN | apply Kd.R_drew)); exact HO_3.out) hb); have n1_ := Aside0.mk (blk_below (g := gb144) (o := .cells #[.int .i64 a0_0, .int .i64 a0_1, .int .i64 a0_2, .int .i64 a0_3, .int .i64 a0_4, .bool a0_5, .bool a0_6] 24 (0, 0)) (bk BK144.out) hb); have n2_ := Aside0.mk (below_step bl hb); clear HO_3; clear BK144; clear HB; have HO_3 := n0_; have BK144 := n1_; have HB := n2_; clear n0_ n1_ n2_; (try clear hb)) | ((with_reducible refine gate_builtin (b := .append) (xs := #[.tmp 35, .tmp 39]) rfl ?_); at_builtin; refine Kd.R_append k65 (w0 := w) w.heap.size rfl (.tmp 35) (.tmp 39) 66 65 (.agg #[(.int .u32 0), (.int .i64 0), (.int .i64 0)]) 24 rfl Tryd.underlying66 info65 rfl (by decide) (by omega) u3 x3_2 (⟨(t158) % 4294967296, 7, 5⟩ : S65) [.int .u32 ((t158) % 4294967296), .int .i64 7, .int .i64 5] (fun _ => True) (fun _ => False) rfl rfl ?aP (fun _ hk => hk.elim) ?aF ?aO ?aB ?aS ?aL ?_; (case aP => exact k65_mkM _ _ _ (⟨(t158) % 4294967296, 7, 5⟩ : S65)); (case aB => exact bl); (case aF => exact (fun _ _ => trivial)); (case aO => exact (by (with_reducible repeat (first | apply Kd.R_alloc | apply Kd.R_drewN | apply Kd.R_drew)); exact HO_3.out)); (case aS => exact (below_size bl)); (case aL => have := LMc27.out; omega); intro v161 w30 ho hb hg hat; rw [← Ny160.out] at ho; have n0_ := Aside0.mk (blk_grown (g := gb144) (o := .cells #[.int .i64 a0_0, .int .i64 a0_1, .int .i64 a0_2, .int .i64 a0_3, .int .i64 a0_4, .bool a0_5, .bool a0_6] 24 (0, 0)) (bk BK144.out) hg (Kd.R_ne HO_3.out BK144.out (by decide))); have n1_ := Aside0.mk (hb); have n2_ := Aside0.mk (ho); clear BK144; clear HB; clear HO_3; have BK144 := n0_; have HB := n1_; have HO162 := n2_; clear n0_ n1_ n2_; clear ho hb hg hat))
      go_ret
      exact ⟨_, fi, by (with_reducible repeat (first | apply Kd.R_alloc | apply Kd.R_drewN | apply Kd.R_drew)); exact HO162.out, bl⟩
     ·rw [if_neg c27] at H
      exact absurd H (by simp)
    ·replace c26 := Bool.eq_false_iff.mpr c26
     subst c26
     have H1 : (some x3_2) = some r := by rw [if_neg (show ¬ (false = true) by decide)] at H; exact H
     clear H
     have H := H1
     clear H1
     obtain rfl := Option.some.inj H
     obtain ⟨hcz31_0, hcz31_1, hcz31_2, hcz31_3, hcz31_4, hcz31_5, hcz31_6, hfz31_0, hfz31_1, hfz31_2, hfz31_3, hfz31_4, hfz31_5, hfz31_6⟩ := cz7 (w := wc) BK144.out
     go_wp2_with (first | ((with_reducible refine gate_callee (f := 77) rfl ?_); refine goesL_ (some 31) rfl rfl Tryd.func77 (by kernel_rfl) rfl #[.agg #[.int .i64 a0_0, .int .i64 a0_1, .int .i64 a0_2, .int .i64 a0_3, .int .i64 a0_4, .bool a0_5, .bool a0_6]] rfl ga ?_; (with_reducible refine (isa_Writes.calls kj2 a0_0 a0_1 a0_2 a0_3 a0_4 a0_5 a0_6 t158 false _ (by first | exact HL.out | exact laid_drewN HL.out | exact laid_below HL.out bl | exact laid_below HL.out HB.out | exact laid_belowd HL.out HB.out) A25.out).mono ?_); rintro e w32 ⟨rfl, hb⟩; refine ⟨_, rfl, ?_⟩; have n0_ := Aside0.mk (Kd.R_below (by (with_reducible repeat (first | apply Kd.R_alloc | apply Kd.R_drewN | apply Kd.R_drew)); exact HO_3.out) hb); have n1_ := Aside0.mk (blk_below (g := gb144) (o := .cells #[.int .i64 a0_0, .int .i64 a0_1, .int .i64 a0_2, .int .i64 a0_3, .int .i64 a0_4, .bool a0_5, .bool a0_6] 24 (0, 0)) (bk BK144.out) hb); have n2_ := Aside0.mk (below_step bl hb); clear HO_3; clear BK144; clear HB; have HO_3 := n0_; have BK144 := n1_; have HB := n2_; clear n0_ n1_ n2_; (try clear hb)))
     go_ret
     exact ⟨_, fi, by (with_reducible repeat (first | apply Kd.R_alloc | apply Kd.R_drewN | apply Kd.R_drew)); exact HO_3.out, bl⟩

/-! ### enc_bit: function 78 -/
def enc_bit.f (a0 : Bool) : Option (Int) := if a0 = true then (some 1) else (some 0)
set_option maxHeartbeats 8000000 in
set_option maxRecDepth 100000 in
theorem enc_bit.calls (a0 : Bool) (r : Int) (w : World) (h : enc_bit.f a0 = some r) :
  Calls Tryd.prog 78 #[.bool a0] w fun e w' => e = .returned (.int .u32 r) ∧ Drawn0 w w' := by
 have H : (if a0 = true then (some 1) else (some 0)) = some r := h
 clear h
 by_cases c2 : a0 = true
 ·subst c2
  have H1 : (some 1) = some r := by rw [if_pos rfl] at H; exact H
  clear H
  have H := H1
  clear H1
  obtain rfl := Option.some.inj H
  go_enter Tryd.func78, Tryd.ntmps78
  go_wp2
  go_ret
  exact ⟨fj, fd⟩
 ·replace c2 := Bool.eq_false_iff.mpr c2
  subst c2
  have H1 : (some 0) = some r := by rw [if_neg (show ¬ (false = true) by decide)] at H; exact H
  clear H
  have H := H1
  clear H1
  obtain rfl := Option.some.inj H
  go_enter Tryd.func78, Tryd.ntmps78
  go_wp2
  go_ret
  exact ⟨fj, fd⟩

end Go.Proofs.YtffehgfjjagibaaDoor.GDecWords
