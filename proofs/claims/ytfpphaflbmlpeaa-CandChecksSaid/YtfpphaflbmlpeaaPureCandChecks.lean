/- Check, Encode and Decode judge a candidate, write its bytes and read them back as the chapter says, for every candidate of at most 20 harts, 200 rows and 1500 records and stores in all, and the chapter's example holds; for every candidate. -/
import Derived.Test.YtfpphaflbmlpeaaGCandChecksx16
import Derived.Test.YtfpphaflbmlpeaaOpenCandChecks
namespace Go.Proofs.Ytfpphaflbmlpeaa.Pure
open Go.RowKit Go.Proofs.Ytfpphaflbmlpeaa.GCandChecks Go.Proofs.YtfpphaflbmlpeaaW.PrintWords Go.Proofs.YtfpphaflbmlpeaaW.PrintLast Go.Proofs.YtfpphaflbmlpeaaW.PrintMore
set_option linter.unusedVariables false
set_option linter.unusedSimpArgs false
attribute [local irreducible] shl shr

/-- Numbers that need no wrapping, and two's complement by its lowest bits. -/
theorem w64 {x : Int} (h0 : -9223372036854775808 ≤ x) (h1 : x < 9223372036854775808) : wrap64 x = x := by
  unfold wrap64; omega
theorem w64n {x : Int} (n : Nat) (h : x = n) (hn : n < 9223372036854775808) : wrap64 x = (n : Int) := by
  rw [w64 (by omega) (by omega), h]
theorem wu64 (x : Int) : IntKind.u64.wrap x = x % 18446744073709551616 := by
  simp [IntKind.wrap, IntKind.bits, IntKind.signed]
theorem wf_i64 {x : Int} (h : (Lit.int .i64 x).wf = true) : -9223372036854775808 ≤ x ∧ x < 9223372036854775808 := by
  simp [Lit.wf, IntKind.min, IntKind.max, IntKind.bits, IntKind.signed] at h; omega
theorem bind_at {α β : Type} {o : Option α} {v : α} (h : o = some v) {g : α → Option β} {r : Option β} (hg : g v = r) : o.bind g = r := by
  rw [h]; exact hg

theorem ref_same_l (a b : List Int) (hab : a.length = b.length) (hn : a.length < 4611686018427387904) (d : Nat) : ∀ (k i : Nat), i ≤ a.length → a.length - i = d → d < k →
    spinnakerref01_Same.l0 k a b i = some (decide (a.drop i = b.drop i)) := by
  induction d with
  | zero =>
    intro k i hi hd hk
    obtain ⟨k, rfl⟩ : ∃ m, k = m + 1 := ⟨k - 1, by omega⟩
    simp only [spinnakerref01_Same.l0]
    rw [if_neg (by omega), List.drop_of_length_le (by omega), List.drop_of_length_le (by omega)]
    simp
  | succ d ih =>
    intro k i hi hd hk
    obtain ⟨k, rfl⟩ : ∃ m, k = m + 1 := ⟨k - 1, by omega⟩
    simp only [spinnakerref01_Same.l0]
    rw [if_pos (by omega), if_pos (by omega), if_pos (by omega)]
    have e : ∀ l : List Int, ∀ h : i < l.length, rd l (i : Int) = l[i] := by
      intro l h; unfold rd; simp [h]
    rw [e a (by omega), e b (by omega), List.drop_eq_getElem_cons (show i < a.length by omega), List.drop_eq_getElem_cons (show i < b.length by omega)]
    by_cases h : a[i] = b[i]
    · rw [if_pos h, w64n (x := (i : Int) + 1) (i + 1) (by omega) (by omega), ih k (i + 1) (by omega) (by omega) (by omega)]
      congr 1; rw [decide_eq_decide]
      exact ⟨fun hh => by rw [h, hh], fun hh => (List.cons.inj hh).2⟩
    · rw [if_neg h]; congr 1; symm; rw [decide_eq_false_iff_not]; intro hc; exact h (List.cons.inj hc).1
theorem ref_same (k : Nat) (a b : List Int) (hn : a.length < 4611686018427387904) (hk : a.length < k) :
    spinnakerref01_Same.f k a b = some (decide (a = b)) := by
  unfold spinnakerref01_Same.f
  by_cases h : a.length = b.length
  · rw [if_pos (by omega)]
    have := ref_same_l a b h hn a.length k 0 (by omega) (by omega) hk
    simpa using this
  · rw [if_neg (by omega)]
    have : a ≠ b := fun e => h (by rw [e])
    simp [this]

/-- Lists that are alike, place by place. -/
def all2 {α : Type} (p : α → α → Bool) : List α → List α → Bool
  | [], [] => true
  | x :: a, y :: b => p x y && all2 p a b
  | _, _ => false
theorem all2_len {α : Type} {p : α → α → Bool} : ∀ {a b : List α}, a.length ≠ b.length → all2 p a b = false
  | [], [], h => absurd rfl h
  | _ :: _, [], _ => rfl
  | [], _ :: _, _ => rfl
  | x :: a, y :: b, h => by
    show (p x y && all2 p a b) = false
    rw [all2_len (a := a) (b := b) (fun e => h (by simp [e])), Bool.and_false]
theorem all2_self {α : Type} {p : α → α → Bool} (hp : ∀ x, p x x = true) : ∀ a : List α, all2 p a a = true
  | [] => rfl
  | x :: a => by show (p x x && all2 p a a) = true; rw [hp, all2_self hp a]; rfl
theorem rd75 {l : List S75} {i : Nat} (h : i < l.length) : rd_T75 l (i : Int) = l[i] := by unfold rd_T75; simp [h]
theorem rd73 {l : List S73} {i : Nat} (h : i < l.length) : rd_T73 l (i : Int) = l[i] := by unfold rd_T73; simp [h]
theorem rd70 {l : List S70} {i : Nat} (h : i < l.length) : rd_T70 l (i : Int) = l[i] := by unfold rd_T70; simp [h]
theorem rdL {l : List (List S75)} {i : Nat} (h : i < l.length) : rd_L5 l (i : Int) = l[i] := by unfold rd_L5; simp [h]
theorem up {α : Type} {f : Nat → Option α} (hm : ∀ k, LeO (f k) (f (k + 1))) {a : Nat} {r : α} (h : f a = some r) {k : Nat} (hk : a ≤ k) : f k = some r := by
  obtain ⟨d, rfl⟩ := Nat.exists_eq_add_of_le hk
  clear hk
  induction d with
  | zero => exact h
  | succ d ih => exact hm _ _ ih
/-- Is a candidate small? -/
def Small (h : List (List S75)) (r : List S70) : Prop := h.length ≤ 20 ∧ r.length ≤ 200 ∧ (∀ x ∈ h, x.length ≤ 1500) ∧ ∀ x ∈ r, x.f1.length ≤ 1500
theorem large1 (h : List (List S75)) (r : List S70) (hr : ∀ x ∈ r, x.f1.length ≤ 8796093022208) (d : Nat) : ∀ (k i n : Nat), i ≤ 200 → 200 - i = d → d < k → n ≤ (i + 30) * 8796093022208 →
    ∃ b, spinnakerlaw13_large.l1 k (n : Int) (i : Int) h r = some b ∧ (b = false → h.length ≤ 20 ∧ r.length ≤ 200 ∧ n ≤ 1500 ∧ ∀ x ∈ r.drop i, x.f1.length ≤ 1500) := by
  have fin : ∀ (n i : Nat), r.length ≤ i ∨ 200 ≤ i → ∃ b, (if (h.length : Int) > 20 then (some true) else (if (r.length : Int) > 200 then (some true) else (some (decide ((n : Int) > 1500))))) = some b ∧ (b = false → h.length ≤ 20 ∧ r.length ≤ 200 ∧ n ≤ 1500 ∧ ∀ x ∈ r.drop i, x.f1.length ≤ 1500) := by
    intro n i hi
    by_cases h1 : (h.length : Int) > 20
    · rw [if_pos h1]; exact ⟨_, rfl, fun e => by cases e⟩
    rw [if_neg h1]
    by_cases h2 : (r.length : Int) > 200
    · rw [if_pos h2]; exact ⟨_, rfl, fun e => by cases e⟩
    rw [if_neg h2]
    refine ⟨_, rfl, fun e => ⟨by omega, by omega, ?_, ?_⟩⟩
    · have := of_decide_eq_false e; omega
    · rw [List.drop_of_length_le (by omega)]; simp
  induction d with
  | zero =>
    intro k i n hi hd hk hn
    obtain ⟨k, rfl⟩ : ∃ m, k = m + 1 := ⟨k - 1, by omega⟩
    simp only [spinnakerlaw13_large.l1]
    by_cases hl : (i : Int) < (r.length : Int)
    · rw [if_pos hl, if_neg (by omega)]; exact fin n i (Or.inr (by omega))
    · rw [if_neg hl]; exact fin n i (Or.inl (by omega))
  | succ d ih =>
    intro k i n hi hd hk hn
    obtain ⟨k, rfl⟩ : ∃ m, k = m + 1 := ⟨k - 1, by omega⟩
    simp only [spinnakerlaw13_large.l1]
    by_cases hl : (i : Int) < (r.length : Int)
    · have hl2 : i < r.length := by omega
      have hx := hr r[i] (List.getElem_mem hl2)
      rw [if_pos hl, if_pos (by omega), if_pos (by omega), rd70 hl2, w64n (n + r[i].f1.length) (by omega) (by omega), w64n (i + 1) (by omega) (by omega)]
      obtain ⟨b, hb, hs⟩ := ih k (i + 1) (n + r[i].f1.length) (by omega) (by omega) (by omega) (by omega)
      refine ⟨b, hb, fun e => ?_⟩
      obtain ⟨s1, s2, s3, s4⟩ := hs e
      refine ⟨s1, s2, by omega, fun x hx => ?_⟩
      rw [List.drop_eq_getElem_cons hl2] at hx
      rcases List.mem_cons.1 hx with rfl | hx
      · omega
      · exact s4 x hx
    · rw [if_neg hl]; exact fin n i (Or.inl (by omega))
theorem large0 (h : List (List S75)) (r : List S70) (hh : ∀ x ∈ h, x.length ≤ 8796093022208) (hr : ∀ x ∈ r, x.f1.length ≤ 8796093022208) (d : Nat) : ∀ (k i n : Nat), i ≤ 20 → 20 - i = d → d + 202 < k → n ≤ (i + 10) * 8796093022208 →
    ∃ b, spinnakerlaw13_large.l0 k (n : Int) (i : Int) h r = some b ∧ (b = false → h.length ≤ 20 ∧ r.length ≤ 200 ∧ n ≤ 1500 ∧ (∀ x ∈ h.drop i, x.length ≤ 1500) ∧ ∀ x ∈ r, x.f1.length ≤ 1500) := by
  have fin : ∀ (k n i : Nat), 201 < k → n ≤ 263882790666240 → h.length ≤ i ∨ 20 ≤ i → ∃ b, spinnakerlaw13_large.j1 k (n : Int) h r = some b ∧ (b = false → h.length ≤ 20 ∧ r.length ≤ 200 ∧ n ≤ 1500 ∧ (∀ x ∈ h.drop i, x.length ≤ 1500) ∧ ∀ x ∈ r, x.f1.length ≤ 1500) := by
    intro k n i hk hn hi
    obtain ⟨k, rfl⟩ : ∃ m, k = m + 1 := ⟨k - 1, by omega⟩
    simp only [spinnakerlaw13_large.j1]
    obtain ⟨b, hb, hs⟩ := large1 h r hr 200 k 0 n (by omega) (by omega) (by omega) (by omega)
    rw [Int.natCast_zero] at hb
    refine ⟨b, hb, fun e => ?_⟩
    obtain ⟨s1, s2, s3, s4⟩ := hs e
    refine ⟨s1, s2, s3, ?_, fun x hx => s4 x (by simpa using hx)⟩
    rw [List.drop_of_length_le (by omega)]; simp
  induction d with
  | zero =>
    intro k i n hi hd hk hn
    obtain ⟨k, rfl⟩ : ∃ m, k = m + 1 := ⟨k - 1, by omega⟩
    simp only [spinnakerlaw13_large.l0]
    by_cases hl : (i : Int) < (h.length : Int)
    · rw [if_pos hl, if_neg (by omega)]; exact fin k n i (by omega) (by omega) (Or.inr (by omega))
    · rw [if_neg hl]; exact fin k n i (by omega) (by omega) (Or.inl (by omega))
  | succ d ih =>
    intro k i n hi hd hk hn
    obtain ⟨k, rfl⟩ : ∃ m, k = m + 1 := ⟨k - 1, by omega⟩
    simp only [spinnakerlaw13_large.l0]
    by_cases hl : (i : Int) < (h.length : Int)
    · have hl2 : i < h.length := by omega
      have hx := hh h[i] (List.getElem_mem hl2)
      rw [if_pos hl, if_pos (by omega), if_pos (by omega), rdL hl2, w64n (n + h[i].length) (by omega) (by omega), w64n (i + 1) (by omega) (by omega)]
      obtain ⟨b, hb, hs⟩ := ih k (i + 1) (n + h[i].length) (by omega) (by omega) (by omega) (by omega)
      refine ⟨b, hb, fun e => ?_⟩
      obtain ⟨s1, s2, s3, s4, s5⟩ := hs e
      refine ⟨s1, s2, by omega, fun x hx => ?_, s5⟩
      rw [List.drop_eq_getElem_cons hl2] at hx
      rcases List.mem_cons.1 hx with rfl | hx
      · omega
      · exact s4 x hx
    · rw [if_neg hl]; exact fin k n i (by omega) (by omega) (Or.inl (by omega))
theorem large_f (k : Nat) (h : List (List S75)) (r : List S70) (h1 : h.length ≤ 8796093022208) (h2 : r.length ≤ 8796093022208) (hh : ∀ x ∈ h, x.length ≤ 8796093022208) (hr : ∀ x ∈ r, x.f1.length ≤ 8796093022208) (hk : 222 < k) :
    ∃ b, spinnakerlaw13_large.f k h r = some b ∧ (b = false → Small h r) := by
  unfold spinnakerlaw13_large.f
  rw [w64n (h.length + r.length) (by omega) (by omega)]
  obtain ⟨b, hb, hs⟩ := large0 h r hh hr 20 k 0 (h.length + r.length) (by omega) (by omega) (by omega) (by omega)
  rw [Int.natCast_zero] at hb
  refine ⟨b, hb, fun e => ?_⟩
  obtain ⟨s1, s2, s3, s4, s5⟩ := hs e
  exact ⟨s1, s2, fun x hx => s4 x (by simpa using hx), s5⟩
set_option maxRecDepth 10000 in
theorem awake60 : spinnakerlaw13_awake.f 60 = some true := by decide +kernel
theorem awake13 (k : Nat) (hk : 60 ≤ k) : spinnakerlaw13_awake.f k = some true :=
  up (f := spinnakerlaw13_awake.f) spinnakerlaw13_awake.mono awake60 hk

def recNe (x y : S75) : Bool := (!(x.f0 == y.f0) || (!(x.f1 == y.f1) || ((!(x.f2.f0 == y.f2.f0) || (!(x.f2.f1 == y.f2.f1))) || (!(x.f3 == y.f3) || (!(x.f4 == y.f4))))))
def refNe (x y : S73) : Bool := (!(x.f0 == y.f0) || (!(x.f1 == y.f1)))
def recEq (x y : S75) : Bool := !recNe x y
def refEq (x y : S73) : Bool := !refNe x y
def rowEq (x y : S70) : Bool := (x.f0 == y.f0) && all2 refEq x.f1 y.f1
theorem recEq_self (x : S75) : recEq x x = true := by simp [recEq, recNe]
theorem refEq_self (x : S73) : refEq x x = true := by simp [refEq, refNe]
theorem rowEq_self (x : S70) : rowEq x x = true := by simp [rowEq, all2_self refEq_self]
theorem rrefs_l (a b : List S73) (hab : a.length = b.length) (hn : a.length ≤ 1500) (d : Nat) : ∀ (k i : Nat), i ≤ a.length → a.length - i = d → d < k → spinnakerref13_Refs.l0 k a b (i : Int) = some (all2 refEq (a.drop i) (b.drop i)) := by
  induction d with
  | zero =>
    intro k i hi hd hk
    obtain ⟨k, rfl⟩ : ∃ m, k = m + 1 := ⟨k - 1, by omega⟩
    simp only [spinnakerref13_Refs.l0]
    rw [if_neg (by omega), List.drop_of_length_le (by omega), List.drop_of_length_le (by omega)]; rfl
  | succ d ih =>
    intro k i hi hd hk
    obtain ⟨k, rfl⟩ : ∃ m, k = m + 1 := ⟨k - 1, by omega⟩
    simp only [spinnakerref13_Refs.l0]
    have h1 : i < a.length := by omega
    have h2 : i < b.length := by omega
    rw [if_pos (by omega), if_pos (by omega), if_pos (by omega), rd73 h1, rd73 h2, List.drop_eq_getElem_cons h1, List.drop_eq_getElem_cons h2, w64n (i + 1) (by omega) (by omega)]
    show (if refNe a[i] b[i] = true then _ else _) = some (refEq a[i] b[i] && all2 refEq (a.drop (i + 1)) (b.drop (i + 1)))
    by_cases h : refNe a[i] b[i] = true
    · rw [if_pos h, refEq, h]; rfl
    · rw [if_neg h, ih k (i + 1) (by omega) (by omega) (by omega), refEq, Bool.eq_false_iff.2 h]; rfl
theorem rrefs_f (k : Nat) (a b : List S73) (hn : a.length ≤ 1500) (hk : 1501 ≤ k) : spinnakerref13_Refs.f k a b = some (all2 refEq a b) := by
  unfold spinnakerref13_Refs.f
  by_cases h : a.length = b.length
  · rw [if_pos (by omega)]
    have := rrefs_l a b h hn a.length k 0 (by omega) (by omega) (by omega)
    rw [Int.natCast_zero] at this
    exact this
  · rw [if_neg (by omega), all2_len h]
def sameS (h : List (List S75)) (r : List S70) (h' : List (List S75)) (r' : List S70) : Bool := all2 (all2 recEq) h h' && all2 rowEq r r'
theorem sameS_self (h : List (List S75)) (r : List S70) : sameS h r h r = true := by unfold sameS; rw [all2_self (all2_self recEq_self), all2_self rowEq_self]; rfl
theorem rsame_l2 (h : List (List S75)) (r : List S70) (h' : List (List S75)) (r' : List S70) (hs : Small h r) (hr : r.length = r'.length) (d : Nat) : ∀ (k i : Nat), i ≤ r.length → r.length - i = d → d + 1502 < k →
    spinnakerref13_Same.l2 k (i : Int) h r h' r' = some (all2 rowEq (r.drop i) (r'.drop i)) := by
  have hn := hs.2.1
  induction d with
  | zero =>
    intro k i hi hd hk
    obtain ⟨k, rfl⟩ : ∃ m, k = m + 1 := ⟨k - 1, by omega⟩
    simp only [spinnakerref13_Same.l2]
    rw [if_neg (by omega), List.drop_of_length_le (by omega), List.drop_of_length_le (by omega)]; rfl
  | succ d ih =>
    intro k i hi hd hk
    obtain ⟨k, rfl⟩ : ∃ m, k = m + 1 := ⟨k - 1, by omega⟩
    simp only [spinnakerref13_Same.l2]
    have h1 : i < r.length := by omega
    have h2 : i < r'.length := by omega
    rw [if_pos (by omega), if_pos (by omega), if_pos (by omega), rd70 h1, rd70 h2, List.drop_eq_getElem_cons h1, List.drop_eq_getElem_cons h2, w64n (i + 1) (by omega) (by omega)]
    show _ = some (((r[i].f0 == r'[i].f0) && all2 refEq r[i].f1 r'[i].f1) && all2 rowEq (r.drop (i + 1)) (r'.drop (i + 1)))
    by_cases h0 : r[i].f0 = r'[i].f0
    · rw [if_pos h0, beq_iff_eq.2 h0, Bool.true_and]
      refine bind_at (rrefs_f k _ _ (hs.2.2.2 _ (List.getElem_mem h1)) (by omega)) ?_
      rw [ih k (i + 1) (by omega) (by omega) (by omega)]
      cases all2 refEq r[i].f1 r'[i].f1 <;> rfl
    · rw [if_neg h0, beq_eq_false_iff_ne.2 h0]; rfl
theorem rsame_l1 (h : List (List S75)) (r : List S70) (h' : List (List S75)) (r' : List S70) (i : Nat) (hi : i < h.length) (hi' : i < h'.length) (hl : h[i].length = h'[i].length) (hn : h[i].length ≤ 1500) (hm : h.length ≤ 20) (z : Bool) (K : Nat)
    (hz : ∀ k, K ≤ k → spinnakerref13_Same.l0 k ((i + 1 : Nat) : Int) h r h' r' = some z) (d : Nat) : ∀ (k j : Nat), j ≤ h[i].length → h[i].length - j = d → d + K < k →
    spinnakerref13_Same.l1 k (i : Int) (j : Int) h r h' r' = some (all2 recEq (h[i].drop j) (h'[i].drop j) && z) := by
  induction d with
  | zero =>
    intro k j hj hd hk
    obtain ⟨k, rfl⟩ : ∃ m, k = m + 1 := ⟨k - 1, by omega⟩
    simp only [spinnakerref13_Same.l1]
    rw [if_pos (by omega), if_pos (by omega), rdL hi, if_neg (by omega), List.drop_of_length_le (by omega), List.drop_of_length_le (by omega), w64n (i + 1) (by omega) (by omega), hz k (by omega)]; rfl
  | succ d ih =>
    intro k j hj hd hk
    obtain ⟨k, rfl⟩ : ∃ m, k = m + 1 := ⟨k - 1, by omega⟩
    simp only [spinnakerref13_Same.l1]
    have h1 : j < h[i].length := by omega
    have h2 : j < h'[i].length := by omega
    rw [if_pos (by omega), if_pos (by omega), rdL hi, if_pos (by omega), if_pos (by omega), if_pos (by omega), rdL hi', if_pos (by omega), rd75 h1, rd75 h2, List.drop_eq_getElem_cons h1, List.drop_eq_getElem_cons h2, w64n (j + 1) (by omega) (by omega)]
    show (if recNe h[i][j] h'[i][j] = true then _ else _) = some ((recEq h[i][j] h'[i][j] && all2 recEq (h[i].drop (j + 1)) (h'[i].drop (j + 1))) && z)
    by_cases hq : recNe h[i][j] h'[i][j] = true
    · rw [if_pos hq, recEq, hq]; rfl
    · rw [if_neg hq, ih k (j + 1) (by omega) (by omega) (by omega), recEq, Bool.eq_false_iff.2 hq]; rfl
theorem rsame_l0 (h : List (List S75)) (r : List S70) (h' : List (List S75)) (r' : List S70) (hs : Small h r) (hh : h.length = h'.length) (hr : r.length = r'.length) (d : Nat) : ∀ (k i : Nat), i ≤ h.length → h.length - i = d → d * 1502 + 1800 ≤ k →
    spinnakerref13_Same.l0 k (i : Int) h r h' r' = some (all2 (all2 recEq) (h.drop i) (h'.drop i) && all2 rowEq r r') := by
  have hn := hs.1
  have hn2 := hs.2.1
  induction d with
  | zero =>
    intro k i hi hd hk
    obtain ⟨k, rfl⟩ : ∃ m, k = m + 1 := ⟨k - 1, by omega⟩
    simp only [spinnakerref13_Same.l0]
    have e := rsame_l2 h r h' r' hs hr r.length k 0 (by omega) (by omega) (by omega)
    rw [Int.natCast_zero] at e
    rw [if_neg (by omega), List.drop_of_length_le (by omega), List.drop_of_length_le (by omega), e]; rfl
  | succ d ih =>
    intro k i hi hd hk
    obtain ⟨k, rfl⟩ : ∃ m, k = m + 1 := ⟨k - 1, by omega⟩
    simp only [spinnakerref13_Same.l0]
    have h1 : i < h.length := by omega
    have h2 : i < h'.length := by omega
    have hx := hs.2.2.1 h[i] (List.getElem_mem h1)
    rw [if_pos (by omega), if_pos (by omega), if_pos (by omega), rdL h1, rdL h2, List.drop_eq_getElem_cons h1, List.drop_eq_getElem_cons h2]
    show _ = some ((all2 recEq h[i] h'[i] && all2 (all2 recEq) (h.drop (i + 1)) (h'.drop (i + 1))) && all2 rowEq r r')
    by_cases hl : h[i].length = h'[i].length
    · rw [if_pos (by omega)]
      have e := rsame_l1 h r h' r' i h1 h2 hl hx hn _ (d * 1502 + 1800) (fun k hk => ih k (i + 1) (by omega) (by omega) hk) h[i].length k 0 (by omega) (by omega) (by omega)
      rw [Int.natCast_zero] at e
      rw [e, Bool.and_assoc]; rfl
    · rw [if_neg (by omega), all2_len hl]; rfl
theorem rsame_f (k : Nat) (h : List (List S75)) (r : List S70) (h' : List (List S75)) (r' : List S70) (hs : Small h r) (hk : 32000 ≤ k) : spinnakerref13_Same.f k h r h' r' = some (sameS h r h' r') := by
  have hn := hs.1
  have hn2 := hs.2.1
  unfold spinnakerref13_Same.f sameS
  obtain ⟨k, rfl⟩ : ∃ m, k = m + 1 := ⟨k - 1, by omega⟩
  by_cases hh : h.length = h'.length
  · rw [if_pos (by omega)]
    by_cases hr : r.length = r'.length
    · have e : ((r.length : Int) != (r'.length : Int)) = false := by rw [hr]; simp
      simp only [spinnakerref13_Same.j0]
      rw [e, if_neg (by decide)]
      have := rsame_l0 h r h' r' hs hh hr h.length k 0 (by omega) (by omega) (by omega)
      rw [Int.natCast_zero] at this
      exact this
    · have e : ((r.length : Int) != (r'.length : Int)) = true := by simp; omega
      simp only [spinnakerref13_Same.j0]
      rw [e, if_pos rfl, all2_len hr, Bool.and_false]
  · rw [if_neg (by omega)]
    simp only [spinnakerref13_Same.j0]
    rw [if_pos trivial, all2_len hh]; rfl
def thereB (h : List (List S75)) (a b : Int) : Bool := decide (0 ≤ a) && (decide (a < (h.length : Int)) && (decide (0 ≤ b) && decide (b < ((rd_L5 h a).length : Int))))
theorem there_f (h : List (List S75)) (r : List S70) (a b : Int) : cand_there.f h r a b = some (thereB h a b) := by
  unfold cand_there.f thereB
  by_cases h1 : a ≥ 0
  · rw [if_pos h1, show decide (0 ≤ a) = true from decide_eq_true h1, Bool.true_and]
    by_cases h2 : a < (h.length : Int)
    · rw [if_pos h2, show decide (a < (h.length : Int)) = true from decide_eq_true h2, Bool.true_and]
      by_cases h3 : b ≥ 0
      · rw [if_pos h3, if_pos (by omega), show decide (0 ≤ b) = true from decide_eq_true h3, Bool.true_and]
      · rw [if_neg h3, show decide (0 ≤ b) = false from decide_eq_false h3]; rfl
    · rw [if_neg h2, show decide (a < (h.length : Int)) = false from decide_eq_false h2]; rfl
  · rw [if_neg h1, show decide (0 ≤ a) = false from decide_eq_false h1]; rfl
theorem rthere_f (h : List (List S75)) (r : List S70) (a b : Int) : spinnakerref13_There.f h r a b = some (thereB h a b) := by
  unfold spinnakerref13_There.f thereB
  by_cases h1 : a < 0
  · rw [if_pos h1, show decide (0 ≤ a) = false from decide_eq_false (by omega)]; rfl
  · rw [if_neg h1, show decide (0 ≤ a) = true from decide_eq_true (by omega), Bool.true_and]
    by_cases h2 : a ≥ (h.length : Int)
    · rw [if_pos h2, show decide (a < (h.length : Int)) = false from decide_eq_false (by omega)]; rfl
    · rw [if_neg h2, show decide (a < (h.length : Int)) = true from decide_eq_true (by omega), Bool.true_and]
      by_cases h3 : b ≥ 0
      · rw [if_pos h3, if_pos (by omega), if_pos (by omega), show decide (0 ≤ b) = true from decide_eq_true h3, Bool.true_and]
      · rw [if_neg h3, show decide (0 ≤ b) = false from decide_eq_false h3]; rfl
def recOk (h : List (List S75)) (x : S75) : Bool := !(x.f3 && x.f4) && ((x.f2.f0 == -1 && x.f2.f1 == 0) || thereB h x.f2.f0 x.f2.f1)
theorem records_l (h : List (List S75)) (r : List S70) (l : List S75) (hn : l.length ≤ 4000) (d : Nat) : ∀ (k i : Nat), i ≤ l.length → l.length - i = d → d < k → cand_records.l0 k l (l.length : Int) (i : Int) h r = some ((l.drop i).all (recOk h)) := by
  induction d with
  | zero =>
    intro k i hi hd hk
    obtain ⟨k, rfl⟩ : ∃ m, k = m + 1 := ⟨k - 1, by omega⟩
    simp only [cand_records.l0]
    rw [if_neg (by omega), List.drop_of_length_le (by omega)]; rfl
  | succ d ih =>
    intro k i hi hd hk
    obtain ⟨k, rfl⟩ : ∃ m, k = m + 1 := ⟨k - 1, by omega⟩
    simp only [cand_records.l0]
    have h1 : i < l.length := by omega
    rw [if_pos (by omega), if_pos (by omega), if_pos (by omega), rd75 h1, List.drop_eq_getElem_cons h1, w64n (i + 1) (by omega) (by omega), ih k (i + 1) (by omega) (by omega) (by omega), List.all_cons]
    have e : ∀ x : S75, (cand_start.f.bind fun bt => (if (!(x.f2.f0 == bt.1) || (!(x.f2.f1 == bt.2))) = true then ((cand_there.f h r x.f2.f0 x.f2.f1).bind fun t => (if t = true then some ((l.drop (i + 1)).all (recOk h)) else some false)) else some ((l.drop (i + 1)).all (recOk h)))) = some (((x.f2.f0 == -1 && x.f2.f1 == 0) || thereB h x.f2.f0 x.f2.f1) && (l.drop (i + 1)).all (recOk h)) := by
      intro x
      refine bind_at (show cand_start.f = some (-1, 0) from rfl) ?_
      show (if (!(x.f2.f0 == -1) || (!(x.f2.f1 == 0))) = true then _ else _) = _
      rw [← Bool.not_and]
      cases hq : (x.f2.f0 == -1 && x.f2.f1 == 0)
      · rw [Bool.not_false, if_pos rfl, Bool.false_or]
        refine bind_at (there_f h r _ _) ?_
        cases thereB h x.f2.f0 x.f2.f1 <;> rfl
      · rw [Bool.not_true, if_neg (by decide), Bool.true_or, Bool.true_and]
    unfold recOk at e ⊢
    cases hw : l[i].f3
    · rw [if_neg (by decide), Bool.false_and, Bool.not_false, Bool.true_and]; exact e l[i]
    · rw [if_pos rfl, Bool.true_and]
      cases hf : l[i].f4
      · rw [if_neg (by decide), Bool.not_false, Bool.true_and]; exact e l[i]
      · rw [if_pos rfl]; rfl
theorem records_f (k : Nat) (h : List (List S75)) (r : List S70) (l : List S75) (hn : l.length ≤ 4000) (hk : 4001 ≤ k) : cand_records.f k h r l = some (l.all (recOk h)) := by
  unfold cand_records.f
  have := records_l h r l hn l.length k 0 (by omega) (by omega) (by omega)
  rw [Int.natCast_zero] at this
  exact this
/-- The rows. -/
def okRef (h : List (List S75)) (r : List S70) (i k : Nat) : Bool := thereB h (rd_T73 (rd_T70 r i).f1 k).f0 (rd_T73 (rd_T70 r i).f1 k).f1 && !cmet r i k (rd_T73 (rd_T70 r i).f1 k).f0 (rd_T73 (rd_T70 r i).f1 k).f1
def refsS (h : List (List S75)) (r : List S70) (i : Nat) : Nat → Nat → Bool
  | 0, _ => true
  | d + 1, k => okRef h r i k && refsS h r i d (k + 1)
def headS (r : List S70) (i : Nat) : Bool := decide ((rd_T70 r i).f1.length = 0) || (decide (0 < i) && decide ((rd_T70 r i).f0 ≤ (rd_T70 r ((i : Int) - 1)).f0))
def rowsS (h : List (List S75)) (r : List S70) : Nat → Nat → Bool
  | 0, _ => true
  | d + 1, i => !headS r i && (refsS h r i (rd_T70 r i).f1.length 0 && rowsS h r d (i + 1))
/-- What a candidate's rows hold. -/
structure RowsIn (r : List S70) : Prop where
  len : r.length ≤ 4000
  lens : ∀ x ∈ r, x.f1.length ≤ 4000
  sum : (r.map fun x => x.f1.length).sum < 1000000
  wf : ∀ x ∈ r, ∀ y ∈ x.f1, (Lit.int .i64 y.f0).wf = true ∧ (Lit.int .i64 y.f1).wf = true
theorem camt_le {r : List S70} {i : Nat} (hi : i < r.length) (k : Nat) : camt r i k ≤ (r.map fun x => x.f1.length).sum := by
  unfold camt
  have e : r = r.take i ++ (r[i] :: r.drop (i + 1)) := by rw [← List.drop_eq_getElem_cons hi, List.take_append_drop]
  have e2 : (r.map fun x => x.f1.length).sum = ((r.take i).map fun x => x.f1.length).sum + (r[i].f1.length + ((r.drop (i + 1)).map fun x => x.f1.length).sum) := by
    conv => lhs; rw [e]
    rw [List.map_append, List.sum_append, List.map_cons, List.sum_cons]
  rw [e2, rd70 hi, Int.toNat_natCast, Int.toNat_natCast, List.length_take]
  omega
theorem met_f {r : List S70} (hr : RowsIn r) {i k : Nat} (hi : i < r.length) (hk : k < r[i].f1.length) : cand_met.f r i k r[i].f1[k].f0 r[i].f1[k].f1 = some (if cmet r i k r[i].f1[k].f0 r[i].f1[k].f1 = true then 1 else 0) := by
  unfold cand_met.f
  have hw := hr.wf _ (List.getElem_mem hi) _ (List.getElem_mem hk)
  rw [if_pos ⟨hw.1, hw.2, Nat.lt_of_le_of_lt (camt_le hi k) hr.sum⟩]
theorem rows_l1 (h : List (List S75)) (r : List S70) (hr : RowsIn r) (i : Nat) (hi : i < r.length) (z : Bool) (K : Nat) (hz : ∀ k, K ≤ k → cand_rows.l0 k r (r.length : Int) ((i + 1 : Nat) : Int) h r = some z) (d : Nat) :
    ∀ (k j : Nat), j ≤ r[i].f1.length → r[i].f1.length - j = d → d + K < k → cand_rows.l1 k r (r.length : Int) (i : Int) r[i].f1 (r[i].f1.length : Int) (j : Int) h r = some (refsS h r i d j && z) := by
  have hl := hr.lens _ (List.getElem_mem hi)
  have hlr := hr.len
  induction d with
  | zero =>
    intro k j hj hd hk
    obtain ⟨k, rfl⟩ : ∃ m, k = m + 1 := ⟨k - 1, by omega⟩
    simp only [cand_rows.l1]
    rw [if_neg (by omega), w64n (i + 1) (by omega) (by omega), hz k (by omega)]; rfl
  | succ d ih =>
    intro k j hj hd hk
    obtain ⟨k, rfl⟩ : ∃ m, k = m + 1 := ⟨k - 1, by omega⟩
    simp only [cand_rows.l1]
    have h1 : j < r[i].f1.length := by omega
    rw [if_pos (by omega), if_pos (by omega), if_pos (by omega), rd73 h1, w64n (j + 1) (by omega) (by omega), ih k (j + 1) (by omega) (by omega) (by omega)]
    refine bind_at (met_f hr hi h1) ?_
    show _ = some ((okRef h r i j && refsS h r i d (j + 1)) && z)
    unfold okRef
    rw [rd70 hi, rd73 h1]
    cases hc : cmet r i j r[i].f1[j].f0 r[i].f1[j].f1
    · rw [if_neg (by decide)]
      refine bind_at (there_f h r _ _) ?_
      cases thereB h r[i].f1[j].f0 r[i].f1[j].f1
      · rfl
      · rw [if_pos rfl]; rfl
    · rw [if_pos rfl, if_pos (by decide), Bool.not_true, Bool.and_false]; rfl
theorem rows_l0 (h : List (List S75)) (r : List S70) (hr : RowsIn r) (d : Nat) : ∀ (k i : Nat), i ≤ r.length → r.length - i = d → d * 4003 + 1 ≤ k → cand_rows.l0 k r (r.length : Int) (i : Int) h r = some (rowsS h r d i) := by
  have hlr := hr.len
  induction d with
  | zero =>
    intro k i hi hd hk
    obtain ⟨k, rfl⟩ : ∃ m, k = m + 1 := ⟨k - 1, by omega⟩
    simp only [cand_rows.l0]
    rw [if_neg (by omega)]; rfl
  | succ d ih =>
    intro k i hi hd hk
    obtain ⟨k, rfl⟩ : ∃ m, k = m + 1 := ⟨k - 1, by omega⟩
    have h1 : i < r.length := by omega
    have hl := hr.lens _ (List.getElem_mem h1)
    have e := rows_l1 h r hr i h1 (rowsS h r d (i + 1)) (d * 4003 + 1) (fun k hk => ih k (i + 1) (by omega) (by omega) hk) r[i].f1.length
    have hj : ∀ b : Bool, cand_rows.j1 k r (r.length : Int) (i : Int) b h r r[i].f0 r[i].f1 = some (!b && (refsS h r i r[i].f1.length 0 && rowsS h r d (i + 1))) := by
      intro b
      obtain ⟨k, rfl⟩ : ∃ m, k = m + 1 := ⟨k - 1, by omega⟩
      simp only [cand_rows.j1]
      cases b
      · rw [if_neg (by decide)]
        have e2 := e k 0 (by omega) (by omega) (by omega)
        rw [Int.natCast_zero] at e2
        exact e2
      · rfl
    simp only [cand_rows.l0]
    show _ = some (!headS r i && (refsS h r i (rd_T70 r i).f1.length 0 && rowsS h r d (i + 1)))
    unfold headS
    rw [if_pos (by omega), if_pos (by omega), if_pos (by omega), rd70 h1]
    by_cases h2 : r[i].f1.length = 0
    · rw [if_pos (by omega), hj, show decide (r[i].f1.length = 0) = true from decide_eq_true h2, Bool.true_or]
    · rw [if_neg (by omega), show decide (r[i].f1.length = 0) = false from decide_eq_false h2, Bool.false_or]
      by_cases h3 : 0 < i
      · rw [if_pos (by omega), w64 (x := (i : Int) - 1) (by omega) (by omega), if_pos (by omega), if_pos (by omega), hj, show decide (0 < i) = true from decide_eq_true h3, Bool.true_and]
      · rw [if_neg (by omega), hj, show decide (0 < i) = false from decide_eq_false h3, Bool.false_and]
theorem rows_f (k : Nat) (h : List (List S75)) (r : List S70) (hr : RowsIn r) (hk : 16012001 ≤ k) : cand_rows.f k h r = some (rowsS h r r.length 0) := by
  have hlr := hr.len
  unfold cand_rows.f
  have := rows_l0 h r hr r.length k 0 (by omega) (by omega) (by omega)
  rw [Int.natCast_zero] at this
  exact this

/-- What is wrong with a candidate. -/
def chk (h : List (List S75)) (r : List S70) : Int := if h.length > 8 then 2 else if h.any (fun l => decide (l.length > 1024)) then 3 else if h.all (fun l => l.all (recOk h)) && rowsS h r r.length 0 then 0 else 1
theorem check_l1 (h : List (List S75)) (r : List S70) (hn : h.length ≤ 4000) (hs : ∀ x ∈ h, x.length ≤ 4000) (hr : RowsIn r) (d : Nat) : ∀ (k i : Nat), i ≤ h.length → h.length - i = d → d + 16012001 < k → cand_Check.l1 k h (h.length : Int) (i : Int) h r = some (if (h.drop i).all (fun l => l.all (recOk h)) && rowsS h r r.length 0 then 0 else 1) := by
  induction d with
  | zero =>
    intro k i hi hd hk
    obtain ⟨k, rfl⟩ : ∃ m, k = m + 1 := ⟨k - 1, by omega⟩
    simp only [cand_Check.l1]
    rw [if_neg (by omega), List.drop_of_length_le (by omega)]
    refine bind_at (rows_f k h r hr (by omega)) ?_
    cases rowsS h r r.length 0 <;> rfl
  | succ d ih =>
    intro k i hi hd hk
    obtain ⟨k, rfl⟩ : ∃ m, k = m + 1 := ⟨k - 1, by omega⟩
    simp only [cand_Check.l1]
    have h1 : i < h.length := by omega
    rw [if_pos (by omega), if_pos (by omega), if_pos (by omega), rdL h1, List.drop_eq_getElem_cons h1, w64n (i + 1) (by omega) (by omega), ih k (i + 1) (by omega) (by omega) (by omega), List.all_cons]
    refine bind_at (records_f k h r h[i] (hs _ (List.getElem_mem h1)) (by omega)) ?_
    cases h[i].all (recOk h)
    · rfl
    · rw [if_pos rfl, Bool.true_and]
theorem check_l0 (h : List (List S75)) (r : List S70) (hn : h.length ≤ 4000) (hs : ∀ x ∈ h, x.length ≤ 4000) (hr : RowsIn r) (d : Nat) : ∀ (k i : Nat), i ≤ h.length → h.length - i = d → d + 16020000 < k → cand_Check.l0 k h (h.length : Int) (i : Int) h r = some (if (h.drop i).any (fun l => decide (l.length > 1024)) then 3 else if h.all (fun l => l.all (recOk h)) && rowsS h r r.length 0 then 0 else 1) := by
  induction d with
  | zero =>
    intro k i hi hd hk
    obtain ⟨k, rfl⟩ : ∃ m, k = m + 1 := ⟨k - 1, by omega⟩
    simp only [cand_Check.l0]
    have e := check_l1 h r hn hs hr h.length k 0 (by omega) (by omega) (by omega)
    rw [Int.natCast_zero, List.drop_zero] at e
    rw [if_neg (by omega), List.drop_of_length_le (by omega), e]; rfl
  | succ d ih =>
    intro k i hi hd hk
    obtain ⟨k, rfl⟩ : ∃ m, k = m + 1 := ⟨k - 1, by omega⟩
    simp only [cand_Check.l0]
    have h1 : i < h.length := by omega
    rw [if_pos (by omega), if_pos (by omega), if_pos (by omega), rdL h1, List.drop_eq_getElem_cons h1, w64n (i + 1) (by omega) (by omega), ih k (i + 1) (by omega) (by omega) (by omega), List.any_cons]
    by_cases h2 : h[i].length > 1024
    · rw [if_pos (by omega), show decide (h[i].length > 1024) = true from decide_eq_true h2]; rfl
    · rw [if_neg (by omega), show decide (h[i].length > 1024) = false from decide_eq_false h2, Bool.false_or]
theorem check_f (k : Nat) (h : List (List S75)) (r : List S70) (hn : h.length ≤ 4000) (hs : ∀ x ∈ h, x.length ≤ 4000) (hr : RowsIn r) (hk : 16030000 ≤ k) : cand_Check.f k h r = some (chk h r) := by
  unfold cand_Check.f chk
  by_cases h1 : h.length > 8
  · rw [if_pos (by omega), if_pos h1]
  · rw [if_neg (by omega), if_neg h1]
    have e := check_l0 h r hn hs hr h.length k 0 (by omega) (by omega) (by omega)
    rw [Int.natCast_zero, List.drop_zero] at e
    exact e
theorem twice_l1 (h : List (List S75)) (r : List S70) (hr : RowsIn r) (row at_ : Nat) (a b : Int) (i : Nat) (hi : i < r.length) (hir : i ≤ row) (z : Bool) (K : Nat) (hz : ∀ k, K ≤ k → spinnakerref13_twice.l0 k (row : Int) (at_ : Int) ((i + 1 : Nat) : Int) h r a b = some z) (d : Nat) :
    ∀ (k j : Nat), j ≤ r[i].f1.length → r[i].f1.length - j = d → d + K < k → spinnakerref13_twice.l1 k (row : Int) (at_ : Int) (i : Int) (j : Int) h r a b = some ((((if i < row then r[i].f1 else r[i].f1.take at_).drop j).any fun y => y.f0 == a && y.f1 == b) || z) := by
  have hl := hr.lens _ (List.getElem_mem hi)
  have hlr := hr.len
  induction d with
  | zero =>
    intro k j hj hd hk
    obtain ⟨k, rfl⟩ : ∃ m, k = m + 1 := ⟨k - 1, by omega⟩
    simp only [spinnakerref13_twice.l1]
    have e : (if i < row then r[i].f1 else r[i].f1.take at_).drop j = [] := by
      split
      · rw [List.drop_of_length_le (by omega)]
      · rw [List.drop_of_length_le (by rw [List.length_take]; omega)]
    rw [if_pos (by omega), if_pos (by omega), rd70 hi, if_neg (by omega), w64n (i + 1) (by omega) (by omega), hz k (by omega), e]; rfl
  | succ d ih =>
    intro k j hj hd hk
    obtain ⟨k, rfl⟩ : ∃ m, k = m + 1 := ⟨k - 1, by omega⟩
    simp only [spinnakerref13_twice.l1]
    have h1 : j < r[i].f1.length := by omega
    rw [if_pos (by omega), if_pos (by omega), rd70 hi, if_pos (by omega), rd73 h1, w64n (j + 1) (by omega) (by omega), ih k (j + 1) (by omega) (by omega) (by omega)]
    by_cases h2 : i < row
    · rw [if_pos (by omega), if_pos (by omega), if_pos h2, List.drop_eq_getElem_cons h1, List.any_cons]
      cases hq : (r[i].f1[j].f0 == a && r[i].f1[j].f1 == b)
      · rw [if_neg (by decide), Bool.false_or]
      · rw [if_pos rfl, Bool.true_or]; rfl
    · rw [if_neg (by omega), if_neg h2]
      by_cases h3 : j < at_
      · have h4 : j < (r[i].f1.take at_).length := by rw [List.length_take]; omega
        rw [if_pos (by omega), if_pos (by omega), List.drop_eq_getElem_cons h4, List.any_cons, List.getElem_take]
        cases hq : (r[i].f1[j].f0 == a && r[i].f1[j].f1 == b)
        · rw [if_neg (by decide), Bool.false_or]
        · rw [if_pos rfl, Bool.true_or]; rfl
      · rw [if_neg (by omega), List.drop_of_length_le (by rw [List.length_take]; omega), List.drop_of_length_le (by rw [List.length_take]; omega)]
theorem twice_l0 (h : List (List S75)) (r : List S70) (hr : RowsIn r) (row at_ : Nat) (hrow : row < r.length) (a b : Int) (d : Nat) : ∀ (k i : Nat), i ≤ row + 1 → row + 1 - i = d → d * 4003 + 1 ≤ k →
    spinnakerref13_twice.l0 k (row : Int) (at_ : Int) (i : Int) h r a b = some ((((r.take row).drop i).any fun x => x.f1.any fun y => y.f0 == a && y.f1 == b) || (decide (i ≤ row) && ((r[row].f1.take at_).any fun y => y.f0 == a && y.f1 == b))) := by
  have hlr := hr.len
  induction d with
  | zero =>
    intro k i hi hd hk
    obtain ⟨k, rfl⟩ : ∃ m, k = m + 1 := ⟨k - 1, by omega⟩
    simp only [spinnakerref13_twice.l0]
    rw [if_neg (by omega), List.drop_of_length_le (by rw [List.length_take]; omega), show decide (i ≤ row) = false from decide_eq_false (by omega)]; rfl
  | succ d ih =>
    intro k i hi hd hk
    obtain ⟨k, rfl⟩ : ∃ m, k = m + 1 := ⟨k - 1, by omega⟩
    simp only [spinnakerref13_twice.l0]
    have h1 : i < r.length := by omega
    have hl := hr.lens _ (List.getElem_mem h1)
    have e := twice_l1 h r hr row at_ a b i h1 (by omega) _ (d * 4003 + 1) (fun k hk => ih k (i + 1) (by omega) (by omega) hk) r[i].f1.length k 0 (by omega) (by omega) (by omega)
    rw [Int.natCast_zero, List.drop_zero] at e
    rw [if_pos (by omega), e, show decide (i ≤ row) = true from decide_eq_true (by omega), Bool.true_and]
    by_cases h2 : i < row
    · have h3 : i < (r.take row).length := by rw [List.length_take]; omega
      rw [if_pos h2, List.drop_eq_getElem_cons h3, List.any_cons, List.getElem_take, show decide (i + 1 ≤ row) = true from decide_eq_true (by omega), Bool.true_and, Bool.or_assoc]
    · obtain rfl : i = row := by omega
      rw [if_neg h2, show decide (i + 1 ≤ i) = false from decide_eq_false (by omega), List.drop_of_length_le (by rw [List.length_take]; omega), List.drop_of_length_le (by rw [List.length_take]; omega)]
      simp
theorem twice_f (k : Nat) (h : List (List S75)) (r : List S70) (hr : RowsIn r) (i j : Nat) (hi : i < r.length) (hj : j < r[i].f1.length) (hk : 16020001 ≤ k) : spinnakerref13_twice.f k h r (i : Int) (j : Int) = some (cmet r i j r[i].f1[j].f0 r[i].f1[j].f1) := by
  have hlr := hr.len
  unfold spinnakerref13_twice.f cmet
  rw [if_pos (by omega), if_pos (by omega), if_pos (by omega), rd70 hi, if_pos (by omega), rd73 hj]
  have e := twice_l0 h r hr i j hi r[i].f1[j].f0 r[i].f1[j].f1 (i + 1) k 0 (by omega) (by omega) (by omega)
  rw [Int.natCast_zero, List.drop_zero] at e
  rw [e, show decide (0 ≤ i) = true from decide_eq_true (by omega), Bool.true_and]
  rfl
theorem rrows_l4 (h : List (List S75)) (r : List S70) (hr : RowsIn r) (i : Nat) (hi : i < r.length) (z : Int) (K : Nat) (hK : 16020001 ≤ K) (hz : ∀ k, K ≤ k → spinnakerref13_Check.l3 k ((i + 1 : Nat) : Int) h r = some z) (d : Nat) :
    ∀ (k j : Nat), j ≤ r[i].f1.length → r[i].f1.length - j = d → d + K < k → spinnakerref13_Check.l4 k (i : Int) (j : Int) h r = some (if refsS h r i d j then z else 1) := by
  have hl := hr.lens _ (List.getElem_mem hi)
  have hlr := hr.len
  induction d with
  | zero =>
    intro k j hj hd hk
    obtain ⟨k, rfl⟩ : ∃ m, k = m + 1 := ⟨k - 1, by omega⟩
    simp only [spinnakerref13_Check.l4]
    rw [if_pos (by omega), if_pos (by omega), rd70 hi, if_neg (by omega), w64n (i + 1) (by omega) (by omega), hz k (by omega)]; rfl
  | succ d ih =>
    intro k j hj hd hk
    obtain ⟨k, rfl⟩ : ∃ m, k = m + 1 := ⟨k - 1, by omega⟩
    simp only [spinnakerref13_Check.l4]
    have h1 : j < r[i].f1.length := by omega
    rw [if_pos (by omega), if_pos (by omega), rd70 hi, if_pos (by omega), if_pos (by omega), rd73 h1, w64n (j + 1) (by omega) (by omega), ih k (j + 1) (by omega) (by omega) (by omega)]
    refine bind_at (rthere_f h r _ _) ?_
    show _ = some (if (okRef h r i j && refsS h r i d (j + 1)) = true then z else 1)
    unfold okRef
    rw [rd70 hi, rd73 h1]
    cases thereB h r[i].f1[j].f0 r[i].f1[j].f1
    · rfl
    · rw [if_pos rfl]
      refine bind_at (twice_f k h r hr i j hi h1 (by omega)) ?_
      cases cmet r i j r[i].f1[j].f0 r[i].f1[j].f1
      · rw [if_neg (by decide)]; rfl
      · rfl
theorem rrows_l3 (h : List (List S75)) (r : List S70) (hr : RowsIn r) (d : Nat) : ∀ (k i : Nat), i ≤ r.length → r.length - i = d → d * 4004 + 16020001 ≤ k → spinnakerref13_Check.l3 k (i : Int) h r = some (if rowsS h r d i then 0 else 1) := by
  have hlr := hr.len
  induction d with
  | zero =>
    intro k i hi hd hk
    obtain ⟨k, rfl⟩ : ∃ m, k = m + 1 := ⟨k - 1, by omega⟩
    simp only [spinnakerref13_Check.l3]
    rw [if_neg (by omega)]; rfl
  | succ d ih =>
    intro k i hi hd hk
    obtain ⟨k, rfl⟩ : ∃ m, k = m + 1 := ⟨k - 1, by omega⟩
    have h1 : i < r.length := by omega
    have hl := hr.lens _ (List.getElem_mem h1)
    have e := rrows_l4 h r hr i h1 (if rowsS h r d (i + 1) then 0 else 1) (d * 4004 + 16020001) (by omega) (fun k hk => ih k (i + 1) (by omega) (by omega) hk) r[i].f1.length
    have hj : ∀ b : Bool, spinnakerref13_Check.j4 k (i : Int) b h r = some (if (!b && (refsS h r i r[i].f1.length 0 && rowsS h r d (i + 1))) = true then 0 else 1) := by
      intro b
      obtain ⟨k, rfl⟩ : ∃ m, k = m + 1 := ⟨k - 1, by omega⟩
      simp only [spinnakerref13_Check.j4]
      cases b
      · rw [if_neg (by decide)]
        have e2 := e k 0 (by omega) (by omega) (by omega)
        rw [Int.natCast_zero] at e2
        rw [e2]
        cases refsS h r i r[i].f1.length 0 <;> rfl
      · rfl
    simp only [spinnakerref13_Check.l3]
    show _ = some (if (!headS r i && (refsS h r i (rd_T70 r i).f1.length 0 && rowsS h r d (i + 1))) = true then 0 else 1)
    unfold headS
    rw [if_pos (by omega), if_pos (by omega), rd70 h1]
    by_cases h2 : r[i].f1.length = 0
    · rw [if_pos (by omega), hj, show decide (r[i].f1.length = 0) = true from decide_eq_true h2, Bool.true_or]
    · rw [if_neg (by omega), show decide (r[i].f1.length = 0) = false from decide_eq_false h2, Bool.false_or]
      by_cases h3 : 0 < i
      · rw [if_pos (by omega), w64 (x := (i : Int) - 1) (by omega) (by omega), if_pos (by omega), if_pos (by omega), hj, show decide (0 < i) = true from decide_eq_true h3, Bool.true_and]
      · rw [if_neg (by omega), hj, show decide (0 < i) = false from decide_eq_false h3, Bool.false_and]
theorem rrecs_l2 (h : List (List S75)) (r : List S70) (hn : h.length ≤ 4000) (i : Nat) (hi : i < h.length) (hl : h[i].length ≤ 4000) (z : Int) (K : Nat) (hz : ∀ k, K ≤ k → spinnakerref13_Check.l1 k ((i + 1 : Nat) : Int) h r = some z) (d : Nat) :
    ∀ (k j : Nat), j ≤ h[i].length → h[i].length - j = d → d + K < k → spinnakerref13_Check.l2 k (i : Int) (j : Int) h r = some (if (h[i].drop j).all (recOk h) then z else 1) := by
  induction d with
  | zero =>
    intro k j hj hd hk
    obtain ⟨k, rfl⟩ : ∃ m, k = m + 1 := ⟨k - 1, by omega⟩
    simp only [spinnakerref13_Check.l2]
    rw [if_pos (by omega), if_pos (by omega), rdL hi, if_neg (by omega), w64n (i + 1) (by omega) (by omega), hz k (by omega), List.drop_of_length_le (by omega)]; rfl
  | succ d ih =>
    intro k j hj hd hk
    obtain ⟨k, rfl⟩ : ∃ m, k = m + 1 := ⟨k - 1, by omega⟩
    simp only [spinnakerref13_Check.l2]
    have h1 : j < h[i].length := by omega
    rw [if_pos (by omega), if_pos (by omega), rdL hi, if_pos (by omega), if_pos (by omega), rd75 h1, w64n (j + 1) (by omega) (by omega), ih k (j + 1) (by omega) (by omega) (by omega), List.drop_eq_getElem_cons h1, List.all_cons]
    have tz : ∀ (x : S75) (v : Option Int), v = some (if (thereB h x.f2.f0 x.f2.f1 && (h[i].drop (j + 1)).all (recOk h)) = true then z else 1) → ((spinnakerref13_There.f h r x.f2.f0 x.f2.f1).bind fun t => (if t = true then some (if (h[i].drop (j + 1)).all (recOk h) = true then z else 1) else some 1)) = v := by
      intro x v hv
      rw [hv]
      refine bind_at (rthere_f h r _ _) ?_
      cases thereB h x.f2.f0 x.f2.f1 <;> rfl
    unfold recOk at tz ⊢
    by_cases h2 : h[i][j].f2.f0 = -1
    · rw [if_pos h2, show (h[i][j].f2.f0 == -1) = true from beq_iff_eq.2 h2, Bool.true_and]
      by_cases h3 : h[i][j].f2.f1 = 0
      · rw [if_pos h3, show (h[i][j].f2.f1 == 0) = true from beq_iff_eq.2 h3, Bool.true_or, Bool.and_true]
        cases h[i][j].f3
        · rw [if_neg (by decide)]; rfl
        · rw [if_pos rfl]
          cases h[i][j].f4
          · rw [if_neg (by decide)]; rfl
          · rfl
      · rw [if_neg h3, show (h[i][j].f2.f1 == 0) = false from beq_eq_false_iff_ne.2 h3, Bool.false_or]
        cases h[i][j].f3
        · rw [if_neg (by decide)]; exact tz h[i][j] _ rfl
        · rw [if_pos rfl]
          cases h[i][j].f4
          · rw [if_neg (by decide)]; exact tz h[i][j] _ rfl
          · rfl
    · rw [if_neg h2, show (h[i][j].f2.f0 == -1) = false from beq_eq_false_iff_ne.2 h2, Bool.false_and, Bool.false_or]
      cases h[i][j].f3
      · rw [if_neg (by decide)]; exact tz h[i][j] _ rfl
      · rw [if_pos rfl]
        cases h[i][j].f4
        · rw [if_neg (by decide)]; exact tz h[i][j] _ rfl
        · rfl
theorem rrecs_l1 (h : List (List S75)) (r : List S70) (hn : h.length ≤ 4000) (hs : ∀ x ∈ h, x.length ≤ 4000) (hr : RowsIn r) (d : Nat) : ∀ (k i : Nat), i ≤ h.length → h.length - i = d → d * 4003 + 33000000 ≤ k →
    spinnakerref13_Check.l1 k (i : Int) h r = some (if (h.drop i).all (fun l => l.all (recOk h)) && rowsS h r r.length 0 then 0 else 1) := by
  have hlr := hr.len
  induction d with
  | zero =>
    intro k i hi hd hk
    obtain ⟨k, rfl⟩ : ∃ m, k = m + 1 := ⟨k - 1, by omega⟩
    simp only [spinnakerref13_Check.l1]
    have e := rrows_l3 h r hr r.length k 0 (by omega) (by omega) (by omega)
    rw [Int.natCast_zero] at e
    rw [if_neg (by omega), List.drop_of_length_le (by omega), e]; rfl
  | succ d ih =>
    intro k i hi hd hk
    obtain ⟨k, rfl⟩ : ∃ m, k = m + 1 := ⟨k - 1, by omega⟩
    have h1 : i < h.length := by omega
    have hl := hs _ (List.getElem_mem h1)
    simp only [spinnakerref13_Check.l1]
    have e := rrecs_l2 h r hn i h1 hl _ (d * 4003 + 33000000) (fun k hk => ih k (i + 1) (by omega) (by omega) hk) h[i].length k 0 (by omega) (by omega) (by omega)
    rw [Int.natCast_zero, List.drop_zero] at e
    rw [if_pos (by omega), e, List.drop_eq_getElem_cons h1, List.all_cons]
    cases h[i].all (recOk h) <;> rfl
theorem rcheck_l0 (h : List (List S75)) (r : List S70) (hn : h.length ≤ 4000) (hs : ∀ x ∈ h, x.length ≤ 4000) (hr : RowsIn r) (d : Nat) : ∀ (k i : Nat), i ≤ h.length → h.length - i = d → d + 49020000 < k → spinnakerref13_Check.l0 k (i : Int) h r = some (if (h.drop i).any (fun l => decide (l.length > 1024)) then 3 else if h.all (fun l => l.all (recOk h)) && rowsS h r r.length 0 then 0 else 1) := by
  induction d with
  | zero =>
    intro k i hi hd hk
    obtain ⟨k, rfl⟩ : ∃ m, k = m + 1 := ⟨k - 1, by omega⟩
    simp only [spinnakerref13_Check.l0]
    have e := rrecs_l1 h r hn hs hr h.length k 0 (by omega) (by omega) (by omega)
    rw [Int.natCast_zero, List.drop_zero] at e
    rw [if_neg (by omega), List.drop_of_length_le (by omega), e]; rfl
  | succ d ih =>
    intro k i hi hd hk
    obtain ⟨k, rfl⟩ : ∃ m, k = m + 1 := ⟨k - 1, by omega⟩
    simp only [spinnakerref13_Check.l0]
    have h1 : i < h.length := by omega
    rw [if_pos (by omega), if_pos (by omega), rdL h1, List.drop_eq_getElem_cons h1, w64n (i + 1) (by omega) (by omega), ih k (i + 1) (by omega) (by omega) (by omega), List.any_cons]
    by_cases h2 : h[i].length > 1024
    · rw [if_pos (by omega), show decide (h[i].length > 1024) = true from decide_eq_true h2]; rfl
    · rw [if_neg (by omega), show decide (h[i].length > 1024) = false from decide_eq_false h2, Bool.false_or]
theorem rcheck_f (k : Nat) (h : List (List S75)) (r : List S70) (hn : h.length ≤ 4000) (hs : ∀ x ∈ h, x.length ≤ 4000) (hr : RowsIn r) (hk : 50000000 ≤ k) : spinnakerref13_Check.f k h r = some (chk h r) := by
  unfold spinnakerref13_Check.f chk
  by_cases h1 : h.length > 8
  · rw [if_pos (by omega), if_pos h1]
  · rw [if_neg (by omega), if_neg h1]
    have e := rcheck_l0 h r hn hs hr h.length k 0 (by omega) (by omega) (by omega)
    rw [Int.natCast_zero, List.drop_zero] at e
    exact e

/-- Numbers' bytes. -/
def viF : Nat → Nat → List Int
  | 0, u => [(u : Int)]
  | f + 1, u => if u < 128 then [(u : Int)] else ((u % 128 + 128 : Nat) : Int) :: viF f (u / 128)
def zz (n : Int) : Nat := if n < 0 then (2 * (-(n + 1)) + 1).toNat else (2 * n).toNat
def num (n : Int) : List Int := viF 9 (zz n)
def unz (u : Nat) : Int := if u % 2 = 0 then ((u / 2 : Nat) : Int) else -((u / 2 : Nat) : Int) - 1
theorem unz_zz (n : Int) : unz (zz n) = n := by
  unfold zz unz
  split <;> split <;> omega
theorem zz_lt {n : Int} (h : -9223372036854775808 ≤ n) (h2 : n < 9223372036854775808) : zz n < 18446744073709551616 := by
  unfold zz
  split <;> omega
theorem wrap64_u (n : Int) (h0 : 0 ≤ n) (h1 : n < 2 ^ 64) : IntKind.u64.wrap n = n := by
  rw [wu64, show (18446744073709551616 : Int) = 2 ^ 64 from by decide]; exact Int.emod_eq_of_lt h0 h1
theorem and1 (u : Nat) (h : u < 18446744073709551616) : Go.bits .and .u64 (u : Int) 1 = ((u % 2 : Nat) : Int) := by
  have h64 : (2 : Nat) ^ 64 = 18446744073709551616 := by decide
  have e := (Go.bits_nat .u64 64 (by decide) wrap64_u u 1 (h64 ▸ h) (by decide)).1
  rw [Nat.and_one_is_mod] at e
  exact e
theorem or64 (a b : Nat) (ha : a < 18446744073709551616) (hb : b < 18446744073709551616) : Go.bits .or .u64 (a : Int) (b : Int) = ((a ||| b : Nat) : Int) := by
  have h64 : (2 : Nat) ^ 64 = 18446744073709551616 := by decide
  exact (Go.bits_nat .u64 64 (by decide) wrap64_u a b (h64 ▸ ha) (h64 ▸ hb)).2
theorem and127 : ∀ c : Nat, c < 256 → Go.bits .and .u8 (c : Int) 127 = ((c % 128 : Nat) : Int) := by decide +kernel
theorem xorI0 (a : Nat) (h : a < 9223372036854775808) : Go.bits .xor .i64 (a : Int) 0 = (a : Int) := by
  have e : Go.bits .xor .i64 (a : Int) 0 = IntKind.i64.wrap ((BitVec.ofInt 64 (a : Int) ^^^ BitVec.ofInt 64 0).toNat : Int) := rfl
  rw [e, show BitVec.ofInt 64 0 = 0#64 from by decide, BitVec.xor_zero, BitVec.ofInt_natCast, BitVec.toNat_ofNat, Nat.mod_eq_of_lt (by omega)]
  rw [i64_w]; exact w64 (by omega) (by omega)
theorem xorI1 (a : Nat) (h : a < 9223372036854775808) : Go.bits .xor .i64 (a : Int) (-1) = -(a : Int) - 1 := by
  have e : Go.bits .xor .i64 (a : Int) (-1) = IntKind.i64.wrap ((BitVec.ofInt 64 (a : Int) ^^^ BitVec.ofInt 64 (-1)).toNat : Int) := rfl
  rw [e, show BitVec.ofInt 64 (-1) = BitVec.allOnes 64 from by decide, BitVec.xor_allOnes, BitVec.ofInt_natCast, BitVec.toNat_not, BitVec.toNat_ofNat, Nat.mod_eq_of_lt (by omega)]
  rw [i64_w]; unfold wrap64
  omega
theorem unz_f (u : Nat) (h : u < 18446744073709551616) : Go.bits .xor .i64 (wrap64 ((u : Int) / 2)) (wrap64 (-(wrap64 (Go.bits .and .u64 (u : Int) 1)))) = unz u := by
  rw [and1 u h, w64n (u % 2) rfl (by omega), w64n (u / 2) (by omega) (by omega)]
  unfold unz
  by_cases h2 : u % 2 = 0
  · rw [if_pos h2, h2, show wrap64 (-((0 : Nat) : Int)) = 0 from by unfold wrap64; omega]
    exact xorI0 _ (by omega)
  · rw [if_neg h2, show u % 2 = 1 from by omega, show wrap64 (-((1 : Nat) : Int)) = -1 from by unfold wrap64; omega]
    exact xorI1 _ (by omega)
theorem shl64 (x s : Nat) (hs : s ≤ 64) (h : x * 2 ^ s < 18446744073709551616) : shl .u64 (x : Int) (s : Int) = ((x * 2 ^ s : Nat) : Int) := by
  unfold shl
  rw [show IntKind.u64.bits = 64 from rfl, Int.toNat_natCast, show min s 64 = s from by omega]
  have e : (x : Int) * 2 ^ s = ((x * 2 ^ s : Nat) : Int) := by rw [Int.natCast_mul, Int.natCast_pow]; rfl
  rw [e, wu64]
  omega
theorem acc_f (v c i : Nat) (hv : v < 2 ^ (7 * i)) (hi : i ≤ 9) (hc : c < 256) (h : v + 2 ^ (7 * i) * (c % 128) < 18446744073709551616) : Go.bits .or .u64 (v : Int) (shl .u64 (IntKind.u64.wrap (Go.bits .and .u8 (c : Int) 127)) ((7 * i : Nat) : Int)) = ((v + 2 ^ (7 * i) * (c % 128) : Nat) : Int) := by
  rw [and127 c hc, wu64, show (((c % 128 : Nat) : Int) % 18446744073709551616) = ((c % 128 : Nat) : Int) from by omega]
  have hm : c % 128 * 2 ^ (7 * i) = 2 ^ (7 * i) * (c % 128) := Nat.mul_comm _ _
  rw [shl64 (c % 128) (7 * i) (by omega) (by omega), hm, or64 _ _ (by omega) (by omega)]
  congr 1
  rw [Nat.or_comm, ← Nat.two_pow_add_eq_or_of_lt hv, Nat.add_comm]
/-- A candidate's bytes. -/
def flagN (x : S75) : Int := if x.f3 then 1 else if x.f4 then 2 else 0
def recB (x : S75) : List Int := num x.f0 ++ (num x.f1 ++ (num x.f2.f0 ++ (num x.f2.f1 ++ num (flagN x))))
def hartB (l : List S75) : List Int := num (l.length : Int) ++ l.flatMap recB
def refB (y : S73) : List Int := num y.f0 ++ num y.f1
def rowB (x : S70) : List Int := num x.f0 ++ (num (x.f1.length : Int) ++ x.f1.flatMap refB)
def bytesS (h : List (List S75)) (r : List S70) : List Int := num (h.length : Int) ++ (h.flatMap hartB ++ (num (r.length : Int) ++ r.flatMap rowB))
theorem viF_pos (f u : Nat) : 1 ≤ (viF f u).length := by
  cases f with
  | zero => exact Nat.le_refl _
  | succ f => unfold viF; split <;> simp
theorem num_pos (n : Int) : 1 ≤ (num n).length := viF_pos _ _
def inR (n : Int) : Prop := -9223372036854775808 ≤ n ∧ n < 9223372036854775808
def recR (x : S75) : Prop := inR x.f0 ∧ inR x.f1 ∧ inR x.f2.f0 ∧ inR x.f2.f1
def wfRef (y : S73) : Prop := (Lit.int .i64 y.f0).wf = true ∧ (Lit.int .i64 y.f1).wf = true
def rowR (x : S70) : Prop := inR x.f0 ∧ ∀ y ∈ x.f1, wfRef y
section
variable {b : List Int} (hb : ∀ x ∈ b, 0 ≤ x ∧ x < 256) (hn : b.length ≤ 4000)
include hb hn
end
theorem hartB_pos (l : List S75) : 1 ≤ (hartB l).length := by unfold hartB; rw [List.length_append]; have := num_pos (l.length : Int); omega
section
variable {b : List Int} (hb : ∀ x ∈ b, 0 ≤ x ∧ x < 256) (hn : b.length ≤ 4000)
include hb hn
end

theorem rnum_l (f : Nat) : ∀ (k u : Nat) (acc : List Int), u < 128 ^ (f + 1) → u < 18446744073709551616 → f < k → acc.length + f ≤ 1000 → spinnakerref13_Number.l0 k (u : Int) acc = some (acc ++ viF f u) := by
  induction f with
  | zero =>
    intro k u acc hu _ hk ha
    obtain ⟨k, rfl⟩ : ∃ m, k = m + 1 := ⟨k - 1, by omega⟩
    simp only [spinnakerref13_Number.l0]
    have hu1 : u < 128 := hu
    rw [if_neg (by omega), if_pos (by omega), show (u : Int) % 256 = (u : Int) from by omega]; rfl
  | succ f ih =>
    intro k u acc hu hu2 hk ha
    obtain ⟨k, rfl⟩ : ∃ m, k = m + 1 := ⟨k - 1, by omega⟩
    simp only [spinnakerref13_Number.l0]
    show _ = some (acc ++ (if u < 128 then [(u : Int)] else ((u % 128 + 128 : Nat) : Int) :: viF f (u / 128)))
    by_cases h : u < 128
    · rw [if_neg (by omega), if_pos (by omega), if_pos h, show (u : Int) % 256 = (u : Int) from by omega]
    · rw [if_pos (by omega), if_pos (by omega), if_neg h, Int.tdiv_eq_ediv_of_nonneg (by omega), Int.tmod_eq_emod_of_nonneg (by omega)]
      rw [show IntKind.u64.wrap ((u : Int) / 128) = ((u / 128 : Nat) : Int) from by rw [wu64]; omega, show IntKind.u64.wrap ((u : Int) % 128 + 128) % 256 = ((u % 128 + 128 : Nat) : Int) from by rw [wu64]; omega]
      have hp : u / 128 < 128 ^ (f + 1) := by
        rw [Nat.pow_succ] at hu
        exact Nat.div_lt_of_lt_mul (by rw [Nat.mul_comm]; exact hu)
      rw [ih k (u / 128) _ hp (by omega) (by omega) (by simp; omega), List.append_assoc]
      rfl
theorem rnum_f (k : Nat) (n : Int) (h : inR n) (hk : 20 ≤ k) : spinnakerref13_Number.f k n = some (num n) := by
  unfold spinnakerref13_Number.f
  obtain ⟨h1, h2⟩ := h
  obtain ⟨k, rfl⟩ : ∃ m, k = m + 1 := ⟨k - 1, by omega⟩
  have hz := zz_lt h1 h2
  have go : spinnakerref13_Number.j0 (k + 1) (zz n : Int) = some (num n) := by
    simp only [spinnakerref13_Number.j0]
    rw [rnum_l 9 k (zz n) [] (Nat.lt_of_lt_of_le hz (by decide)) hz (by omega) (by simp)]
    rfl
  by_cases h0 : n < 0
  · rw [if_pos h0, w64 (x := n + 1) (by omega) (by omega), w64 (x := -(n + 1)) (by omega) (by omega)]
    have e : IntKind.u64.wrap (IntKind.u64.wrap (2 * IntKind.u64.wrap (-(n + 1))) + 1) = (zz n : Int) := by
      rw [wu64, wu64, wu64]; unfold zz; rw [if_pos h0]; omega
    rw [e]; exact go
  · rw [if_neg h0]
    have e : IntKind.u64.wrap (2 * IntKind.u64.wrap n) = (zz n : Int) := by
      rw [wu64, wu64]; unfold zz; rw [if_neg h0]; omega
    rw [e]; exact go
theorem viF_le (f : Nat) : ∀ u, (viF f u).length ≤ f + 1 := by
  induction f with
  | zero => intro u; exact Nat.le_refl _
  | succ f ih => intro u; unfold viF; split <;> simp; exact ih _
theorem num_le (n : Int) : (num n).length ≤ 10 := viF_le 9 _
/-- The numbers of a candidate. -/
def flagR (x : S75) : Int := if x.f4 then 2 else if x.f3 then 1 else 0
def recN (x : S75) : List Int := [x.f0, x.f1, x.f2.f0, x.f2.f1, flagR x]
def hartN (l : List S75) : List Int := (l.length : Int) :: l.flatMap recN
def refN (y : S73) : List Int := [y.f0, y.f1]
def rowN (x : S70) : List Int := x.f0 :: (x.f1.length : Int) :: x.f1.flatMap refN
def listN (h : List (List S75)) (r : List S70) : List Int := (h.length : Int) :: (h.flatMap hartN ++ ((r.length : Int) :: r.flatMap rowN))
theorem rbytes_l4 (l : List Int) (hl : l.length ≤ 1000000) (hr : ∀ x ∈ l, inR x) (d : Nat) : ∀ (k i : Nat) (acc : List Int), i ≤ l.length → l.length - i = d → d + 30 < k → acc.length + 10 * d ≤ 100000000 → spinnakerref13_Bytes.l4 k l acc (i : Int) = some (acc ++ (l.drop i).flatMap num) := by
  induction d with
  | zero =>
    intro k i acc hi hd hk ha
    obtain ⟨k, rfl⟩ : ∃ m, k = m + 1 := ⟨k - 1, by omega⟩
    simp only [spinnakerref13_Bytes.l4]
    rw [if_neg (by omega), List.drop_of_length_le (by omega)]; simp
  | succ d ih =>
    intro k i acc hi hd hk ha
    obtain ⟨k, rfl⟩ : ∃ m, k = m + 1 := ⟨k - 1, by omega⟩
    simp only [spinnakerref13_Bytes.l4]
    have h1 : i < l.length := by omega
    have hnl := num_le l[i]
    rw [if_pos (by omega), if_pos (by omega), show rd l (i : Int) = l[i] from by unfold rd; simp [h1], w64n (i + 1) (by omega) (by omega), List.drop_eq_getElem_cons h1, List.flatMap_cons]
    refine bind_at (rnum_f k l[i] (hr _ (List.getElem_mem h1)) (by omega)) ?_
    rw [if_pos (by omega), ih k (i + 1) _ (by omega) (by omega) (by omega) (by rw [List.length_append]; omega), List.append_assoc]
theorem rbytes_l3 (h : List (List S75)) (r : List S70) (hr : r.length ≤ 4000) (i : Nat) (hi : i < r.length) (hl : r[i].f1.length ≤ 4000) (z : List Int) (K : Nat) (d : Nat) :
    ∀ (k j : Nat) (acc : List Int), j ≤ r[i].f1.length → r[i].f1.length - j = d → d + K < k → acc.length + 2 * d ≤ 1000000000000 → (∀ k, K ≤ k → spinnakerref13_Bytes.l2 k (acc ++ (r[i].f1.drop j).flatMap refN) ((i + 1 : Nat) : Int) h r = some z) → spinnakerref13_Bytes.l3 k acc (i : Int) (j : Int) h r = some z := by
  induction d with
  | zero =>
    intro k j acc hj hd hk ha hz
    obtain ⟨k, rfl⟩ : ∃ m, k = m + 1 := ⟨k - 1, by omega⟩
    simp only [spinnakerref13_Bytes.l3]
    have e := hz k (by omega)
    rw [List.drop_of_length_le (by omega), List.flatMap_nil, List.append_nil] at e
    rw [if_pos (by omega), if_pos (by omega), rd70 hi, if_neg (by omega), w64n (i + 1) (by omega) (by omega)]
    exact e
  | succ d ih =>
    intro k j acc hj hd hk ha hz
    obtain ⟨k, rfl⟩ : ∃ m, k = m + 1 := ⟨k - 1, by omega⟩
    simp only [spinnakerref13_Bytes.l3]
    have h1 : j < r[i].f1.length := by omega
    rw [if_pos (by omega), if_pos (by omega), rd70 hi, if_pos (by omega), if_pos (by omega), rd73 h1, w64n (j + 1) (by omega) (by omega)]
    refine bind_at rfl ?_
    rw [if_pos (by simp; omega)]
    refine ih k (j + 1) _ (by omega) (by omega) (by omega) (by simp; omega) (fun k hk => ?_)
    have e := hz k hk
    rw [List.drop_eq_getElem_cons h1, List.flatMap_cons, ← List.append_assoc] at e
    exact e
theorem rbytes_l2 (h : List (List S75)) (r : List S70) (hr : r.length ≤ 4000) (hl : ∀ x ∈ r, x.f1.length ≤ 4000) (z : List Int) (d : Nat) :
    ∀ (k i : Nat) (acc : List Int), i ≤ r.length → r.length - i = d → d * 4010 + 1000040 ≤ k → acc.length + 8002 * d ≤ 1000000000000 → (∀ k, 1000031 ≤ k → spinnakerref13_Bytes.l4 k (acc ++ (r.drop i).flatMap rowN) [] 0 = some z) → spinnakerref13_Bytes.l2 k acc (i : Int) h r = some z := by
  induction d with
  | zero =>
    intro k i acc hi hd hk ha hz
    obtain ⟨k, rfl⟩ : ∃ m, k = m + 1 := ⟨k - 1, by omega⟩
    simp only [spinnakerref13_Bytes.l2]
    have e := hz k (by omega)
    rw [List.drop_of_length_le (by omega), List.flatMap_nil, List.append_nil] at e
    rw [if_neg (by omega)]
    exact e
  | succ d ih =>
    intro k i acc hi hd hk ha hz
    obtain ⟨k, rfl⟩ : ∃ m, k = m + 1 := ⟨k - 1, by omega⟩
    simp only [spinnakerref13_Bytes.l2]
    have h1 : i < r.length := by omega
    have hx := hl _ (List.getElem_mem h1)
    rw [if_pos (by omega), if_pos (by omega), rd70 h1]
    refine bind_at rfl ?_
    rw [if_pos (by simp; omega)]
    have e := rbytes_l3 h r hr i h1 hx z (d * 4010 + 1000040) r[i].f1.length k 0 (acc ++ [r[i].f0, (r[i].f1.length : Int)]) (by omega) (by omega) (by omega) (by simp; omega)
    rw [Int.natCast_zero, List.drop_zero] at e
    refine e (fun k hk => ?_)
    refine ih k (i + 1) _ (by omega) (by omega) hk ?_ (fun k hk => ?_)
    · have : (r[i].f1.flatMap refN).length = 2 * r[i].f1.length := by
        generalize r[i].f1 = l
        induction l with
        | nil => rfl
        | cons y l ih => rw [List.flatMap_cons, List.length_append, ih, List.length_cons]; show 2 + _ = _; omega
      rw [List.length_append, this]; simp; omega
    · have e2 := hz k hk
      rw [List.drop_eq_getElem_cons h1, List.flatMap_cons] at e2
      rw [List.append_assoc, List.append_assoc]
      exact e2
theorem rbytes_l1 (h : List (List S75)) (r : List S70) (hh : h.length ≤ 4000) (i : Nat) (hi : i < h.length) (hl : h[i].length ≤ 4000) (z : List Int) (K : Nat) (d : Nat) :
    ∀ (k j : Nat) (acc : List Int), j ≤ h[i].length → h[i].length - j = d → d + K < k → acc.length + 5 * d ≤ 1000000000000 → (∀ k, K ≤ k → spinnakerref13_Bytes.l0 k (acc ++ (h[i].drop j).flatMap recN) ((i + 1 : Nat) : Int) h r = some z) → spinnakerref13_Bytes.l1 k acc (i : Int) (j : Int) h r = some z := by
  induction d with
  | zero =>
    intro k j acc hj hd hk ha hz
    obtain ⟨k, rfl⟩ : ∃ m, k = m + 1 := ⟨k - 1, by omega⟩
    simp only [spinnakerref13_Bytes.l1]
    have e := hz k (by omega)
    rw [List.drop_of_length_le (by omega), List.flatMap_nil, List.append_nil] at e
    rw [if_pos (by omega), if_pos (by omega), rdL hi, if_neg (by omega), w64n (i + 1) (by omega) (by omega)]
    exact e
  | succ d ih =>
    intro k j acc hj hd hk ha hz
    obtain ⟨k, rfl⟩ : ∃ m, k = m + 1 := ⟨k - 1, by omega⟩
    simp only [spinnakerref13_Bytes.l1]
    have h1 : j < h[i].length := by omega
    rw [if_pos (by omega), if_pos (by omega), rdL hi, if_pos (by omega), if_pos (by omega), rd75 h1, w64n (j + 1) (by omega) (by omega)]
    have go : spinnakerref13_Bytes.l1 k (acc ++ recN h[i][j]) (i : Int) ((j + 1 : Nat) : Int) h r = some z := by
      refine ih k (j + 1) _ (by omega) (by omega) (by omega) (by rw [List.length_append]; show _ + 5 + _ ≤ _; omega) (fun k hk => ?_)
      have e := hz k hk
      rw [List.drop_eq_getElem_cons h1, List.flatMap_cons, ← List.append_assoc] at e
      exact e
    unfold recN flagR at go
    cases hf3 : h[i][j].f3
    · rw [if_neg (by decide)]
      cases hf4 : h[i][j].f4
      · rw [if_neg (by decide)]
        refine bind_at rfl ?_
        rw [hf3, hf4] at go
        rw [if_pos (by simp; omega)]; exact go
      · rw [if_pos rfl]
        refine bind_at rfl ?_
        rw [hf4] at go
        rw [if_pos (by simp; omega)]; exact go
    · rw [if_pos rfl]
      cases hf4 : h[i][j].f4
      · rw [if_neg (by decide)]
        refine bind_at rfl ?_
        rw [hf3, hf4] at go
        rw [if_pos (by simp; omega)]; exact go
      · rw [if_pos rfl]
        refine bind_at rfl ?_
        rw [hf4] at go
        rw [if_pos (by simp; omega)]; exact go
theorem rbytes_l0 (h : List (List S75)) (r : List S70) (hh : h.length ≤ 4000) (hs : ∀ x ∈ h, x.length ≤ 4000) (hr : r.length ≤ 4000) (hl : ∀ x ∈ r, x.f1.length ≤ 4000) (z : List Int) (d : Nat) :
    ∀ (k i : Nat) (acc : List Int), i ≤ h.length → h.length - i = d → d * 4010 + 18000000 ≤ k → acc.length + 20001 * d ≤ 100000000000 → (∀ k, 1000031 ≤ k → spinnakerref13_Bytes.l4 k (acc ++ ((h.drop i).flatMap hartN ++ ((r.length : Int) :: r.flatMap rowN))) [] 0 = some z) → spinnakerref13_Bytes.l0 k acc (i : Int) h r = some z := by
  induction d with
  | zero =>
    intro k i acc hi hd hk ha hz
    obtain ⟨k, rfl⟩ : ∃ m, k = m + 1 := ⟨k - 1, by omega⟩
    simp only [spinnakerref13_Bytes.l0]
    rw [if_neg (by omega), if_pos (by omega)]
    have e := rbytes_l2 h r hr hl z r.length k 0 (acc ++ [(r.length : Int)]) (by omega) (by omega) (by omega) (by simp; omega)
    rw [Int.natCast_zero, List.drop_zero] at e
    refine e (fun k hk => ?_)
    have e2 := hz k hk
    rw [List.drop_of_length_le (by omega), List.flatMap_nil, List.nil_append] at e2
    rw [List.append_assoc]
    exact e2
  | succ d ih =>
    intro k i acc hi hd hk ha hz
    obtain ⟨k, rfl⟩ : ∃ m, k = m + 1 := ⟨k - 1, by omega⟩
    simp only [spinnakerref13_Bytes.l0]
    have h1 : i < h.length := by omega
    have hx := hs _ (List.getElem_mem h1)
    rw [if_pos (by omega), if_pos (by omega), rdL h1, if_pos (by omega)]
    have e := rbytes_l1 h r hh i h1 hx z (d * 4010 + 18000000) h[i].length k 0 (acc ++ [(h[i].length : Int)]) (by omega) (by omega) (by omega) (by simp; omega)
    rw [Int.natCast_zero, List.drop_zero] at e
    refine e (fun k hk => ?_)
    refine ih k (i + 1) _ (by omega) (by omega) hk ?_ (fun k hk => ?_)
    · have : (h[i].flatMap recN).length = 5 * h[i].length := by
        generalize h[i] = l
        induction l with
        | nil => rfl
        | cons y l ih => rw [List.flatMap_cons, List.length_append, ih, List.length_cons]; show 5 + _ = _; omega
      rw [List.length_append, this]; simp; omega
    · have e2 := hz k hk
      rw [List.drop_eq_getElem_cons h1, List.flatMap_cons] at e2
      rw [show acc ++ [(h[i].length : Int)] ++ h[i].flatMap recN = acc ++ hartN h[i] from by rw [List.append_assoc]; rfl, List.append_assoc, ← List.append_assoc (hartN h[i])]
      exact e2
theorem flatMap_flat {α β γ : Type} (f : α → List β) (g : β → List γ) (l : List α) : (l.flatMap f).flatMap g = l.flatMap (fun x => (f x).flatMap g) := by
  induction l with
  | nil => rfl
  | cons x l ih => rw [List.flatMap_cons, List.flatMap_append, ih, List.flatMap_cons]
theorem flatMap_eq {α β : Type} {f g : α → List β} {l : List α} (h : ∀ x ∈ l, f x = g x) : l.flatMap f = l.flatMap g := by
  induction l with
  | nil => rfl
  | cons x l ih => rw [List.flatMap_cons, List.flatMap_cons, h x List.mem_cons_self, ih (fun y hy => h y (List.mem_cons_of_mem _ hy))]
theorem list_bytes (h : List (List S75)) (r : List S70) (hf : ∀ l ∈ h, ∀ x ∈ l, (x.f3 && x.f4) = false) : (listN h r).flatMap num = bytesS h r := by
  unfold listN bytesS
  rw [List.flatMap_cons, List.flatMap_append, List.flatMap_cons, flatMap_flat, flatMap_flat]
  congr 1
  congr 1
  · refine flatMap_eq fun l hl => ?_
    unfold hartN hartB
    rw [List.flatMap_cons, flatMap_flat]
    congr 1
    refine flatMap_eq fun x hx => ?_
    have := hf l hl x hx
    unfold recN recB flagR flagN
    simp only [List.flatMap_cons, List.flatMap_nil, List.append_nil]
    cases h3 : x.f3 <;> cases h4 : x.f4 <;> simp_all
  · congr 1
    refine flatMap_eq fun x _ => ?_
    unfold rowN rowB
    rw [List.flatMap_cons, List.flatMap_cons, flatMap_flat]
    congr 1
    congr 1
    refine flatMap_eq fun y _ => ?_
    unfold refN refB
    simp
theorem rbytes_f (k : Nat) (h : List (List S75)) (r : List S70) (hh : h.length ≤ 4000) (hs : ∀ x ∈ h, x.length ≤ 4000) (hr : r.length ≤ 4000) (hl : ∀ x ∈ r, x.f1.length ≤ 4000) (hn : (listN h r).length ≤ 1000000) (hR : ∀ x ∈ listN h r, inR x) (hf : ∀ l ∈ h, ∀ x ∈ l, (x.f3 && x.f4) = false) (hk : 40000000 ≤ k) : spinnakerref13_Bytes.f k h r = some (bytesS h r) := by
  unfold spinnakerref13_Bytes.f
  have e := rbytes_l0 h r hh hs hr hl (bytesS h r) h.length k 0 [(h.length : Int)] (by omega) (by omega) (by omega) (by simp; omega)
  rw [Int.natCast_zero, List.drop_zero] at e
  refine e (fun k hk => ?_)
  have e4 := rbytes_l4 (listN h r) hn hR (listN h r).length k 0 [] (by omega) (by omega) (by omega) (by simp; omega)
  rw [Int.natCast_zero, List.drop_zero, List.nil_append, list_bytes h r hf] at e4
  exact e4

theorem chk_recs {h : List (List S75)} {r : List S70} (hz : chk h r = 0) : ∀ l ∈ h, ∀ x ∈ l, (x.f3 && x.f4) = false := by
  unfold chk at hz
  by_cases h1 : h.length > 8
  · rw [if_pos h1] at hz; cases hz
  rw [if_neg h1] at hz
  by_cases h2 : (h.any fun l => decide (l.length > 1024)) = true
  · rw [if_pos h2] at hz; cases hz
  rw [if_neg h2] at hz
  by_cases h3 : (h.all (fun l => l.all (recOk h)) && rowsS h r r.length 0) = true
  · intro l hl x hx
    have h4 := (Bool.and_eq_true_iff.1 h3).1
    have h5 := List.all_eq_true.1 (List.all_eq_true.1 h4 l hl) x hx
    unfold recOk at h5
    have h6 := (Bool.and_eq_true_iff.1 h5).1
    cases hq : (x.f3 && x.f4)
    · rfl
    · rw [hq] at h6; cases h6
  · rw [if_neg h3] at hz; cases hz
theorem inR_nat {n : Nat} (h : n ≤ 1000000) : inR (n : Int) := ⟨by omega, by omega⟩
theorem listN_in {h : List (List S75)} {r : List S70} (h1 : h.length ≤ 4000) (h2 : ∀ l ∈ h, l.length ≤ 4000) (h3 : r.length ≤ 4000) (h4 : ∀ x ∈ r, x.f1.length ≤ 4000) (h5 : ∀ l ∈ h, ∀ y ∈ l, recR y) (h6 : ∀ x ∈ r, rowR x) : ∀ x ∈ listN h r, inR x := by
  intro x hx
  unfold listN at hx
  rcases List.mem_cons.1 hx with rfl | hx
  · exact inR_nat (by omega)
  rcases List.mem_append.1 hx with hx | hx
  · obtain ⟨l, hl, hx⟩ := List.mem_flatMap.1 hx
    unfold hartN at hx
    rcases List.mem_cons.1 hx with rfl | hx
    · exact inR_nat (by have := h2 l hl; omega)
    obtain ⟨y, hy, hx⟩ := List.mem_flatMap.1 hx
    obtain ⟨r1, r2, r3, r4⟩ := h5 l hl y hy
    unfold recN at hx
    simp only [List.mem_cons, List.not_mem_nil, or_false] at hx
    rcases hx with rfl | rfl | rfl | rfl | rfl
    · exact r1
    · exact r2
    · exact r3
    · exact r4
    · unfold flagR; split
      · exact ⟨by decide, by decide⟩
      · split <;> exact ⟨by decide, by decide⟩
  · rcases List.mem_cons.1 hx with rfl | hx
    · exact inR_nat (by omega)
    obtain ⟨y, hy, hx⟩ := List.mem_flatMap.1 hx
    obtain ⟨r1, r2⟩ := h6 y hy
    unfold rowN at hx
    rcases List.mem_cons.1 hx with rfl | hx
    · exact r1
    rcases List.mem_cons.1 hx with rfl | hx
    · exact inR_nat (by have := h4 y hy; omega)
    obtain ⟨z, hz, hx⟩ := List.mem_flatMap.1 hx
    obtain ⟨w1, w2⟩ := r2 z hz
    unfold refN at hx
    simp only [List.mem_cons, List.not_mem_nil, or_false] at hx
    rcases hx with rfl | rfl
    · exact wf_i64 w1
    · exact wf_i64 w2

/-- A candidate's bytes, written. -/
theorem or128 : ∀ c : Nat, c < 256 → Go.bits .or .u8 (c : Int) 128 = ((c % 128 + 128 : Nat) : Int) := by decide +kernel
theorem xorU (a b : Nat) (ha : a < 18446744073709551616) (hb : b < 18446744073709551616) : Go.bits .xor .u64 (a : Int) (b : Int) = ((a ^^^ b : Nat) : Int) := by
  have e : Go.bits .xor .u64 (a : Int) (b : Int) = IntKind.u64.wrap ((BitVec.ofInt 64 (a : Int) ^^^ BitVec.ofInt 64 (b : Int)).toNat : Int) := rfl
  rw [e, BitVec.ofInt_natCast, BitVec.ofInt_natCast, BitVec.toNat_xor, BitVec.toNat_ofNat, BitVec.toNat_ofNat, Nat.mod_eq_of_lt (by omega), Nat.mod_eq_of_lt (by omega), wu64]
  have : a ^^^ b < 2 ^ 64 := Nat.xor_lt_two_pow (by omega) (by omega)
  omega
theorem zig_f {n : Int} (h : inR n) : Go.bits .xor .u64 (IntKind.u64.wrap ((IntKind.u64.wrap n) * 2)) (IntKind.u64.wrap (n / 9223372036854775808)) = (zz n : Int) := by
  obtain ⟨h1, h2⟩ := h
  rw [wu64, wu64, wu64]
  by_cases h0 : n < 0
  · have e1 : n % 18446744073709551616 * 2 % 18446744073709551616 = ((18446744073709551616 + 2 * n).toNat : Int) := by omega
    have e2 : n / 9223372036854775808 % 18446744073709551616 = ((18446744073709551615 : Nat) : Int) := by omega
    rw [e1, e2]
    have e : Go.bits .xor .u64 (((18446744073709551616 + 2 * n).toNat : Nat) : Int) ((18446744073709551615 : Nat) : Int) = IntKind.u64.wrap ((BitVec.ofInt 64 (((18446744073709551616 + 2 * n).toNat : Nat) : Int) ^^^ BitVec.ofInt 64 ((18446744073709551615 : Nat) : Int)).toNat : Int) := rfl
    rw [e, show BitVec.ofInt 64 ((18446744073709551615 : Nat) : Int) = BitVec.allOnes 64 from by decide, BitVec.xor_allOnes, BitVec.ofInt_natCast, BitVec.toNat_not, BitVec.toNat_ofNat, Nat.mod_eq_of_lt (by omega), wu64]
    unfold zz
    rw [if_pos h0]
    omega
  · have e1 : n % 18446744073709551616 * 2 % 18446744073709551616 = ((2 * n).toNat : Int) := by omega
    have e2 : n / 9223372036854775808 % 18446744073709551616 = ((0 : Nat) : Int) := by omega
    rw [e1, e2, xorU _ _ (by omega) (by omega), Nat.xor_zero]
    unfold zz
    rw [if_neg h0]
theorem put_l1 (l : List Int) (j : Nat) (hj : j < l.length) (hl : l.length ≤ 10) (z : List Int) (K : Nat) (f : Nat) : ∀ (k u : Nat) (acc : List Int), u < 128 ^ (f + 1) → u < 18446744073709551616 → f + K < k → acc.length + f ≤ 1000000000 →
    (∀ k, K ≤ k → cand_writer_put.l0 k (acc ++ viF f u) l (l.length : Int) ((j + 1 : Nat) : Int) = some z) → cand_writer_put.l1 k acc (u : Int) l (l.length : Int) (j : Int) = some z := by
  induction f with
  | zero =>
    intro k u acc hu hu2 hk ha hz
    obtain ⟨k, rfl⟩ : ∃ m, k = m + 1 := ⟨k - 1, by omega⟩
    simp only [cand_writer_put.l1]
    rw [if_neg (by omega), if_pos (by omega), w64n (j + 1) (by omega) (by omega), show ((u : Int) % 256) = (u : Int) from by omega]
    exact hz k (by omega)
  | succ f ih =>
    intro k u acc hu hu2 hk ha hz
    obtain ⟨k, rfl⟩ : ∃ m, k = m + 1 := ⟨k - 1, by omega⟩
    simp only [cand_writer_put.l1]
    by_cases h : u < 128
    · rw [if_neg (by omega), if_pos (by omega), w64n (j + 1) (by omega) (by omega), show ((u : Int) % 256) = (u : Int) from by omega]
      have e := hz k (by omega)
      rw [show viF (f + 1) u = [(u : Int)] from by unfold viF; rw [if_pos h]] at e
      exact e
    · rw [if_pos (by omega), if_pos (by omega), show ((u : Int) % 256) = ((u % 256 : Nat) : Int) from by omega, or128 _ (by omega), show (u : Int) / 128 = ((u / 128 : Nat) : Int) from by omega]
      have hp : u / 128 < 128 ^ (f + 1) := by
        rw [Nat.pow_succ] at hu
        exact Nat.div_lt_of_lt_mul (by rw [Nat.mul_comm]; exact hu)
      refine ih k (u / 128) _ hp (by omega) (by omega) (by simp; omega) (fun k hk => ?_)
      have e := hz k hk
      rw [show viF (f + 1) u = ((u % 128 + 128 : Nat) : Int) :: viF f (u / 128) from by conv => lhs; unfold viF; rw [if_neg h]] at e
      rw [show u % 256 % 128 = u % 128 from by omega, List.append_assoc]
      exact e
theorem put_l0 (l : List Int) (hl : l.length ≤ 10) (hr : ∀ x ∈ l, inR x) (d : Nat) : ∀ (k j : Nat) (acc : List Int), j ≤ l.length → l.length - j = d → 12 * d < k → acc.length + 10 * d ≤ 900000000 →
    cand_writer_put.l0 k acc l (l.length : Int) (j : Int) = some (acc ++ (l.drop j).flatMap num) := by
  induction d with
  | zero =>
    intro k j acc hj hd hk ha
    obtain ⟨k, rfl⟩ : ∃ m, k = m + 1 := ⟨k - 1, by omega⟩
    simp only [cand_writer_put.l0]
    rw [if_neg (by omega), List.drop_of_length_le (by omega)]; simp
  | succ d ih =>
    intro k j acc hj hd hk ha
    obtain ⟨k, rfl⟩ : ∃ m, k = m + 1 := ⟨k - 1, by omega⟩
    simp only [cand_writer_put.l0]
    have h1 : j < l.length := by omega
    have hx := hr _ (List.getElem_mem h1)
    have hzl := zz_lt hx.1 hx.2
    have hnl := num_le l[j]
    rw [if_pos (by omega), if_pos (by omega), if_pos (by omega), show rd l (j : Int) = l[j] from by unfold rd; simp [h1], zig_f hx]
    refine put_l1 l j h1 hl _ (12 * d + 1) 9 k (zz l[j]) acc (Nat.lt_of_lt_of_le hzl (by decide)) hzl (by omega) (by omega) (fun k hk => ?_)
    rw [List.drop_eq_getElem_cons h1, List.flatMap_cons, ← List.append_assoc]
    exact ih k (j + 1) (acc ++ num l[j]) (by omega) (by omega) (by omega) (by rw [List.length_append]; omega)
theorem put_f (k : Nat) (acc l : List Int) (hl : l.length ≤ 10) (hr : ∀ x ∈ l, inR x) (ha : acc.length ≤ 800000000) (hk : 130 ≤ k) : cand_writer_put.f k acc l = some (acc ++ l.flatMap num) := by
  unfold cand_writer_put.f
  have e := put_l0 l hl hr l.length k 0 acc (by omega) (by omega) (by omega) (by omega)
  rw [Int.natCast_zero, List.drop_zero] at e
  exact e
theorem len_le {α : Type} (f : α → List Int) (n : Nat) (hf : ∀ x, (f x).length ≤ n) (l : List α) : (l.flatMap f).length ≤ l.length * n := by
  induction l with
  | nil => simp
  | cons x l ih => rw [List.flatMap_cons, List.length_append, List.length_cons, Nat.succ_mul]; have := hf x; omega
theorem refB_le (y : S73) : (refB y).length ≤ 20 := by unfold refB; rw [List.length_append]; have := num_le y.f0; have := num_le y.f1; omega
theorem recB_le (x : S75) : (recB x).length ≤ 50 := by
  unfold recB; simp only [List.length_append]; have := num_le x.f0; have := num_le x.f1; have := num_le x.f2.f0; have := num_le x.f2.f1; have := num_le (flagN x); omega
theorem hartB_le {l : List S75} (hl : l.length ≤ 4000) : (hartB l).length ≤ 200010 := by
  unfold hartB; rw [List.length_append]; have := num_le (l.length : Int); have := len_le recB 50 recB_le l; omega
theorem rowB_le {x : S70} (hl : x.f1.length ≤ 4000) : (rowB x).length ≤ 80020 := by
  unfold rowB; rw [List.length_append, List.length_append]; have := num_le x.f0; have := num_le (x.f1.length : Int); have := len_le refB 20 refB_le x.f1; omega
theorem enc_l3 (r : List S70) (L : List S73) (i : Nat) (hi : i ≤ 4000) (hL : L.length ≤ 4000) (hr : ∀ y ∈ L, inR y.f0 ∧ inR y.f1) (z : List Int × Int) (K : Nat) (hK : 130 ≤ K) (d : Nat) :
    ∀ (k j : Nat) (acc : List Int), j ≤ L.length → L.length - j = d → d + K < k → acc.length + 20 * d ≤ 800000000 → (∀ k, K ≤ k → cand_Encode.l2 k (acc ++ (L.drop j).flatMap refB) r (r.length : Int) ((i + 1 : Nat) : Int) = some z) →
    cand_Encode.l3 k acc r (r.length : Int) (i : Int) L (L.length : Int) (j : Int) = some z := by
  induction d with
  | zero =>
    intro k j acc hj hd hk ha hz
    obtain ⟨k, rfl⟩ : ∃ m, k = m + 1 := ⟨k - 1, by omega⟩
    simp only [cand_Encode.l3]
    have e := hz k (by omega)
    rw [List.drop_of_length_le (by omega), List.flatMap_nil, List.append_nil] at e
    rw [if_neg (by omega), w64n (i + 1) (by omega) (by omega)]
    exact e
  | succ d ih =>
    intro k j acc hj hd hk ha hz
    obtain ⟨k, rfl⟩ : ∃ m, k = m + 1 := ⟨k - 1, by omega⟩
    simp only [cand_Encode.l3]
    have h1 : j < L.length := by omega
    have hx := hr _ (List.getElem_mem h1)
    have hb := refB_le L[j]
    rw [if_pos (by omega), if_pos (by omega), if_pos (by omega), rd73 h1]
    refine bind_at (put_f k acc [L[j].f0, L[j].f1] (by simp) (by intro x h; simp only [List.mem_cons, List.not_mem_nil, or_false] at h; rcases h with rfl | rfl <;> first | exact hx.1 | exact hx.2) (by omega) (by omega)) ?_
    rw [w64n (j + 1) (by omega) (by omega), show [L[j].f0, L[j].f1].flatMap num = refB L[j] from by unfold refB; simp]
    refine ih k (j + 1) _ (by omega) (by omega) (by omega) (by rw [List.length_append]; omega) (fun k hk => ?_)
    have e := hz k hk
    rw [List.drop_eq_getElem_cons h1, List.flatMap_cons, ← List.append_assoc] at e
    exact e
theorem enc_l2 (r : List S70) (hl : r.length ≤ 4000) (hls : ∀ x ∈ r, x.f1.length ≤ 4000) (hr : ∀ x ∈ r, inR x.f0 ∧ ∀ y ∈ x.f1, inR y.f0 ∧ inR y.f1) (d : Nat) :
    ∀ (k i : Nat) (acc : List Int), i ≤ r.length → r.length - i = d → d * 4010 + 140 ≤ k → acc.length + 80020 * d ≤ 700000000 →
    cand_Encode.l2 k acc r (r.length : Int) (i : Int) = some (acc ++ (r.drop i).flatMap rowB, 0) := by
  induction d with
  | zero =>
    intro k i acc hi hd hk ha
    obtain ⟨k, rfl⟩ : ∃ m, k = m + 1 := ⟨k - 1, by omega⟩
    simp only [cand_Encode.l2]
    rw [if_neg (by omega), List.drop_of_length_le (by omega), List.flatMap_nil, List.append_nil]
  | succ d ih =>
    intro k i acc hi hd hk ha
    obtain ⟨k, rfl⟩ : ∃ m, k = m + 1 := ⟨k - 1, by omega⟩
    simp only [cand_Encode.l2]
    have h1 : i < r.length := by omega
    have hx := hr _ (List.getElem_mem h1)
    have hn := hls _ (List.getElem_mem h1)
    have hb := rowB_le hn
    have hb2 : (rowB r[i]).length = (num r[i].f0).length + ((num (r[i].f1.length : Int)).length + (r[i].f1.flatMap refB).length) := by unfold rowB; simp only [List.length_append]
    have hb3 := len_le refB 20 refB_le r[i].f1
    have hb4 := num_le r[i].f0
    have hb5 := num_le (r[i].f1.length : Int)
    rw [if_pos (by omega), if_pos (by omega), if_pos (by omega), rd70 h1]
    refine bind_at (put_f k acc [r[i].f0, (r[i].f1.length : Int)] (by simp) (by intro x h; simp only [List.mem_cons, List.not_mem_nil, or_false] at h; rcases h with rfl | rfl <;> first | exact hx.1 | exact inR_nat (by omega)) (by omega) (by omega)) ?_
    have e := enc_l3 r r[i].f1 i (by omega) hn hx.2 (acc ++ (r.drop i).flatMap rowB, 0) (d * 4010 + 140) (by omega) r[i].f1.length k 0 (acc ++ [r[i].f0, (r[i].f1.length : Int)].flatMap num) (by omega) (by omega) (by omega)
      (by rw [show [r[i].f0, (r[i].f1.length : Int)].flatMap num = num r[i].f0 ++ num (r[i].f1.length : Int) from by simp, List.length_append, List.length_append]; omega) (fun k hk => by
        have e2 := ih k (i + 1) (acc ++ rowB r[i]) (by omega) (by omega) hk (by rw [List.length_append]; omega)
        rw [List.drop_zero, List.append_assoc, show [r[i].f0, (r[i].f1.length : Int)].flatMap num ++ r[i].f1.flatMap refB = rowB r[i] from by unfold rowB; simp, e2, List.append_assoc, ← List.flatMap_cons (f := rowB), ← List.drop_eq_getElem_cons h1])
    rw [Int.natCast_zero] at e
    exact e
theorem flag_f (x : S75) : cand_flag.f x.f0 x.f1 x.f2.f0 x.f2.f1 x.f3 x.f4 = some (flagN x) := by
  unfold cand_flag.f flagN
  cases x.f3 <;> cases x.f4 <;> rfl
theorem flagN_in (x : S75) : inR (flagN x) := by unfold flagN; split <;> (try split) <;> exact ⟨by decide, by decide⟩
theorem enc_l1 (h : List (List S75)) (r : List S70) (L : List S75) (i : Nat) (hi : i ≤ 4000) (hL : L.length ≤ 4000) (hr : ∀ y ∈ L, recR y) (z : List Int × Int) (K : Nat) (hK : 130 ≤ K) (d : Nat) :
    ∀ (k j : Nat) (acc : List Int), j ≤ L.length → L.length - j = d → d + K < k → acc.length + 50 * d ≤ 800000000 → (∀ k, K ≤ k → cand_Encode.l0 k (acc ++ (L.drop j).flatMap recB) h (h.length : Int) ((i + 1 : Nat) : Int) h r = some z) →
    cand_Encode.l1 k acc h (h.length : Int) (i : Int) L (L.length : Int) (j : Int) h r = some z := by
  induction d with
  | zero =>
    intro k j acc hj hd hk ha hz
    obtain ⟨k, rfl⟩ : ∃ m, k = m + 1 := ⟨k - 1, by omega⟩
    simp only [cand_Encode.l1]
    have e := hz k (by omega)
    rw [List.drop_of_length_le (by omega), List.flatMap_nil, List.append_nil] at e
    rw [if_neg (by omega), w64n (i + 1) (by omega) (by omega)]
    exact e
  | succ d ih =>
    intro k j acc hj hd hk ha hz
    obtain ⟨k, rfl⟩ : ∃ m, k = m + 1 := ⟨k - 1, by omega⟩
    simp only [cand_Encode.l1]
    have h1 : j < L.length := by omega
    obtain ⟨x1, x2, x3, x4⟩ := hr _ (List.getElem_mem h1)
    have hb := recB_le L[j]
    rw [if_pos (by omega), if_pos (by omega), if_pos (by omega), rd75 h1]
    refine bind_at (flag_f L[j]) ?_
    refine bind_at (put_f k acc [L[j].f0, L[j].f1, L[j].f2.f0, L[j].f2.f1, flagN L[j]] (by simp) (by intro x h; simp only [List.mem_cons, List.not_mem_nil, or_false] at h; rcases h with rfl | rfl | rfl | rfl | rfl <;> first | exact x1 | exact x2 | exact x3 | exact x4 | exact flagN_in _) (by omega) (by omega)) ?_
    rw [w64n (j + 1) (by omega) (by omega), show [L[j].f0, L[j].f1, L[j].f2.f0, L[j].f2.f1, flagN L[j]].flatMap num = recB L[j] from by unfold recB; simp]
    refine ih k (j + 1) _ (by omega) (by omega) (by omega) (by rw [List.length_append]; omega) (fun k hk => ?_)
    have e := hz k hk
    rw [List.drop_eq_getElem_cons h1, List.flatMap_cons, ← List.append_assoc] at e
    exact e
theorem enc_b {a q n : Nat} (ha : a + 200010 * 0 ≤ 400000000) (hq : q ≤ 10) (hn : n ≤ 1000) : a + q + 80020 * n ≤ 700000000 := by omega
theorem enc_l0 (h : List (List S75)) (r : List S70) (hh : h.length ≤ 1000) (hhs : ∀ l ∈ h, l.length ≤ 4000) (hR : ∀ l ∈ h, ∀ x ∈ l, recR x) (hl : r.length ≤ 1000) (hls : ∀ x ∈ r, x.f1.length ≤ 4000) (hr : ∀ x ∈ r, inR x.f0 ∧ ∀ y ∈ x.f1, inR y.f0 ∧ inR y.f1) (d : Nat) :
    ∀ (k i : Nat) (acc : List Int), i ≤ h.length → h.length - i = d → d * 4010 + 5000000 ≤ k → acc.length + 200010 * d ≤ 400000000 →
    cand_Encode.l0 k acc h (h.length : Int) (i : Int) h r = some (acc ++ ((h.drop i).flatMap hartB ++ (num (r.length : Int) ++ r.flatMap rowB)), 0) := by
  induction d with
  | zero =>
    intro k i acc hi hd hk ha
    obtain ⟨k, rfl⟩ : ∃ m, k = m + 1 := ⟨k - 1, by omega⟩
    simp only [cand_Encode.l0]
    rw [if_neg (by omega), List.drop_of_length_le (by omega), List.flatMap_nil, List.nil_append]
    refine bind_at (put_f k acc [(r.length : Int)] (by simp) (by intro x h; rw [List.mem_singleton] at h; rw [h]; exact inR_nat (by omega)) (by omega) (by omega)) ?_
    rw [show [(r.length : Int)].flatMap num = num (r.length : Int) from by simp]
    have hb5 := num_le (r.length : Int)
    have e := enc_l2 r (by omega) hls hr r.length k 0 (acc ++ num (r.length : Int)) (by omega) (by omega) (by omega) (by rw [List.length_append]; exact enc_b ha hb5 hl)
    rw [Int.natCast_zero, List.drop_zero, List.append_assoc] at e
    exact e
  | succ d ih =>
    intro k i acc hi hd hk ha
    obtain ⟨k, rfl⟩ : ∃ m, k = m + 1 := ⟨k - 1, by omega⟩
    simp only [cand_Encode.l0]
    have h1 : i < h.length := by omega
    have hx := hR _ (List.getElem_mem h1)
    have hn := hhs _ (List.getElem_mem h1)
    have hb := hartB_le hn
    have hb5 := num_le (h[i].length : Int)
    have hb2 : (hartB h[i]).length = (num (h[i].length : Int)).length + (h[i].flatMap recB).length := by unfold hartB; simp only [List.length_append]
    rw [if_pos (by omega), if_pos (by omega), if_pos (by omega), rdL h1]
    refine bind_at (put_f k acc [(h[i].length : Int)] (by simp) (by intro x h; rw [List.mem_singleton] at h; rw [h]; exact inR_nat (by omega)) (by omega) (by omega)) ?_
    rw [show [(h[i].length : Int)].flatMap num = num (h[i].length : Int) from by simp]
    have e := enc_l1 h r h[i] i (by omega) hn hx (acc ++ ((h.drop i).flatMap hartB ++ (num (r.length : Int) ++ r.flatMap rowB)), 0) (d * 4010 + 5000000) (by omega) h[i].length k 0 (acc ++ num (h[i].length : Int)) (by omega) (by omega) (by omega)
      (by rw [List.length_append]; omega) (fun k hk => by
        have e2 := ih k (i + 1) (acc ++ hartB h[i]) (by omega) (by omega) hk (by rw [List.length_append]; omega)
        rw [List.drop_zero, List.append_assoc, show num (h[i].length : Int) ++ h[i].flatMap recB = hartB h[i] from rfl, e2, List.append_assoc, ← List.append_assoc (hartB h[i]), ← List.flatMap_cons (f := hartB), ← List.drop_eq_getElem_cons h1])
    rw [Int.natCast_zero] at e
    exact e
theorem encode_f (k : Nat) (h : List (List S75)) (r : List S70) (hh : h.length ≤ 1000) (hhs : ∀ l ∈ h, l.length ≤ 4000) (hR : ∀ l ∈ h, ∀ x ∈ l, recR x) (hw : RowsIn r) (hl : r.length ≤ 1000) (hr : ∀ x ∈ r, inR x.f0 ∧ ∀ y ∈ x.f1, inR y.f0 ∧ inR y.f1) (hk : 60000000 ≤ k) :
    cand_Encode.f k h r = some (if chk h r = 0 then (bytesS h r, 0) else ([], chk h r)) := by
  unfold cand_Encode.f
  refine bind_at (check_f k h r (by omega) hhs hw (by omega)) ?_
  by_cases h0 : chk h r = 0
  · rw [if_pos h0, if_pos h0]
    refine bind_at (put_f k [] [(h.length : Int)] (by simp) (by intro x h; rw [List.mem_singleton] at h; rw [h]; exact inR_nat (by omega)) (by simp) (by omega)) ?_
    rw [show [(h.length : Int)].flatMap num = num (h.length : Int) from by simp, List.nil_append]
    have hb5 := num_le (h.length : Int)
    have e := enc_l0 h r hh hhs hR hl hw.lens hr h.length k 0 (num (h.length : Int)) (by omega) (by omega) (by omega) (by omega)
    rw [Int.natCast_zero, List.drop_zero] at e
    exact e
  · rw [if_neg h0, if_neg h0]

/-- A candidate's bytes, read back. -/
theorem drop_cons {b : List Int} {p : Nat} {c : Int} {R : List Int} (h : b.drop p = c :: R) : p < b.length ∧ rd b (p : Int) = c ∧ b.drop (p + 1) = R := by
  have hl : p < b.length := by
    rcases Nat.lt_or_ge p b.length with h1 | h1
    · exact h1
    · rw [List.drop_of_length_le h1] at h; cases h
  rw [List.drop_eq_getElem_cons hl] at h
  obtain ⟨h1, h2⟩ := List.cons.inj h
  exact ⟨hl, by unfold rd; simp [hl, h1], h2⟩
theorem next_fw {b : List Int} (hn : b.length ≤ 1000000000) {p : Nat} {c : Int} {R : List Int} (h : b.drop p = c :: R) (bad : Bool) : cand_reader_next.f b (p : Int) bad = some (c, ((p + 1 : Nat) : Int), bad) := by
  obtain ⟨h1, h2, h3⟩ := drop_cons h
  unfold cand_reader_next.f
  rw [if_neg (by omega), if_pos (by omega), if_pos (by omega), w64n (p + 1) (by omega) (by omega), h2]
theorem number_fwl (b : List Int) (hn : b.length ≤ 1000000000) (R : List Int) (d : Nat) : ∀ (k i v p w : Nat), i ≤ 9 → 9 - i = d → 2 * d + 4 < k → v < 2 ^ (7 * i) → v + 2 ^ (7 * i) * w < 18446744073709551616 → (0 < i → w ≠ 0) → b.drop p = viF d w ++ R →
    ∃ p' : Nat, cand_reader_number.l0 k (v : Int) (i : Int) b (p : Int) false = some (unz (v + 2 ^ (7 * i) * w), (p' : Int), false) ∧ b.drop p' = R ∧ p' ≤ b.length := by
  induction d with
  | zero =>
    intro k i v p w hi hd hk hv hw h0 hb
    obtain ⟨k, rfl⟩ : ∃ m, k = m + 2 := ⟨k - 2, by omega⟩
    obtain rfl : i = 9 := by omega
    have h7 : wrap64 (7 * ((9 : Nat) : Int)) = ((7 * 9 : Nat) : Int) := by unfold wrap64; omega
    obtain rfl : w = 1 := by have := h0 (by omega); omega
    obtain ⟨h1, h2, h3⟩ := drop_cons (show b.drop p = ((1 : Nat) : Int) :: R from hb)
    simp only [cand_reader_number.l0]
    rw [if_pos (by omega)]
    refine ⟨p + 1, bind_at (next_fw hn (show b.drop p = ((1 : Nat) : Int) :: R from hb) false) ?_, h3, h1⟩
    rw [if_neg (by simp), if_neg (by simp)]
    simp only [cand_reader_number.j1]
    rw [if_neg (by simp), h7, if_pos (by omega), if_pos (by decide), acc_f v 1 9 hv (by omega) (by omega) (by omega), unz_f _ (by omega)]
  | succ d ih =>
    intro k i v p w hi hd hk hv hw h0 hb
    obtain ⟨k, rfl⟩ : ∃ m, k = m + 2 := ⟨k - 2, by omega⟩
    have h7 : wrap64 (7 * (i : Int)) = ((7 * i : Nat) : Int) := w64n _ (by omega) (by omega)
    have hpw : 2 ^ (7 * i) ≤ 72057594037927936 := Nat.pow_le_pow_right (show 0 < 2 by decide) (show 7 * i ≤ 56 by omega)
    have hps : (2 : Nat) ^ (7 * (i + 1)) = 2 ^ (7 * i) * 128 := by rw [show 7 * (i + 1) = 7 * i + 7 from by omega, Nat.pow_add]
    have hi9 : ((i : Int) == 9) = false := by simp; omega
    simp only [cand_reader_number.l0]
    rw [if_pos (by omega)]
    by_cases h2 : w < 128
    · have hb' : b.drop p = (w : Int) :: R := by
        rw [hb]; show (if w < 128 then [(w : Int)] else _) ++ R = _; rw [if_pos h2]; rfl
      refine ⟨p + 1, bind_at (next_fw hn hb' false) ?_, (drop_cons hb').2.2, (drop_cons hb').1⟩
      have hj : cand_reader_number.j1 (k + 1) (v : Int) (i : Int) (w : Int) (i : Int) false b ((p + 1 : Nat) : Int) false = some (unz (v + 2 ^ (7 * i) * w), ((p + 1 : Nat) : Int), false) := by
        simp only [cand_reader_number.j1]
        have hcm : w % 128 = w := by omega
        rw [if_neg (by simp), h7, if_pos (by omega), if_pos (by omega), acc_f v w i hv hi (by omega) (by rw [hcm]; exact hw), hcm, unz_f _ hw]
      show (if (w : Int) = 0 then (if (i : Int) > 0 then _ else (if (w : Int) > 1 then _ else _)) else (if (w : Int) > 1 then _ else _)) = _
      rw [hi9]
      by_cases hc0 : w = 0
      · have : ¬ 0 < i := fun h => h0 h hc0
        rw [if_pos (by omega), if_neg (by omega), if_neg (by omega)]; exact hj
      · rw [if_neg (by omega)]
        split <;> exact hj
    · have hb' : b.drop p = ((w % 128 + 128 : Nat) : Int) :: (viF d (w / 128) ++ R) := by
        rw [hb]; show (if w < 128 then _ else (((w % 128 + 128 : Nat) : Int) :: viF d (w / 128))) ++ R = _; rw [if_neg h2]; rfl
      have hmul : 2 ^ (7 * i) * w = 2 ^ (7 * i) * (w % 128) + 2 ^ (7 * (i + 1)) * (w / 128) := by
        rw [hps, Nat.mul_assoc, ← Nat.mul_add]; congr 1; omega
      have hm : (w % 128 + 128) % 128 = w % 128 := by omega
      have hv' : v + 2 ^ (7 * i) * (w % 128) < 2 ^ (7 * (i + 1)) := by
        have : 2 ^ (7 * i) * (w % 128) ≤ 2 ^ (7 * i) * 127 := Nat.mul_le_mul_left _ (by omega)
        rw [hps]; omega
      have hq : v + 2 ^ (7 * i) * (w % 128) < 18446744073709551616 := by omega
      obtain ⟨p', hf, hr⟩ := ih k (i + 1) (v + 2 ^ (7 * i) * (w % 128)) (p + 1) (w / 128) (by omega) (by omega) (by omega) hv' (by omega) (fun _ => by omega) (drop_cons hb').2.2
      refine ⟨p', bind_at (next_fw hn hb' false) ?_, hr⟩
      rw [Nat.add_assoc, ← hmul] at hf
      have hj : cand_reader_number.j1 (k + 1) (v : Int) (i : Int) ((w % 128 + 128 : Nat) : Int) (i : Int) false b ((p + 1 : Nat) : Int) false = some (unz (v + 2 ^ (7 * i) * w), (p' : Int), false) := by
        simp only [cand_reader_number.j1]
        rw [if_neg (by simp), h7, if_pos (by omega), if_neg (by omega), acc_f v (w % 128 + 128) i hv hi (by omega) (by rw [hm]; exact hq), hm, w64n (i + 1) (by omega) (by omega)]
        exact hf
      show (if ((w % 128 + 128 : Nat) : Int) = 0 then _ else (if ((w % 128 + 128 : Nat) : Int) > 1 then _ else _)) = _
      rw [hi9, if_neg (by omega)]
      split <;> exact hj
theorem drop_len {b : List Int} {p : Nat} {R : List Int} (hb : b.drop p = R) : R.length = b.length - p := by rw [← hb, List.length_drop]
theorem flat_two {α : Type} (f : α → List Int) (n : Nat) (hg : ∀ x, n ≤ (f x).length) (l : List α) : l.length * n ≤ (l.flatMap f).length := by
  induction l with
  | nil => simp
  | cons x l ih => rw [List.length_cons, List.flatMap_cons, List.length_append, Nat.succ_mul]; have := hg x; omega
theorem refB_two (y : S73) : 2 ≤ (refB y).length := by unfold refB; rw [List.length_append]; have := num_pos y.f0; have := num_pos y.f1; omega
theorem rowB_two (x : S70) : 2 ≤ (rowB x).length := by unfold rowB; rw [List.length_append, List.length_append]; have := num_pos x.f0; have := num_pos (x.f1.length : Int); omega
theorem recB_five (x : S75) : 5 ≤ (recB x).length := by unfold recB; simp only [List.length_append]; have := num_pos x.f0; have := num_pos x.f1; have := num_pos x.f2.f0; have := num_pos x.f2.f1; have := num_pos (flagN x); omega
section
variable {b : List Int} (hn : b.length ≤ 1000000000)
include hn
theorem num_fw (k p : Nat) (n : Int) (h : inR n) (R : List Int) (hb : b.drop p = num n ++ R) (hk : 30 ≤ k) : ∃ p' : Nat, cand_reader_number.f k b (p : Int) false = some (n, (p' : Int), false) ∧ b.drop p' = R ∧ p' ≤ b.length := by
  unfold cand_reader_number.f
  have hz := zz_lt h.1 h.2
  obtain ⟨p', h1, h2⟩ := number_fwl b hn R 9 k 0 0 p (zz n) (by omega) (by omega) (by omega) (by decide) (by omega) (fun h => absurd h (by omega)) hb
  refine ⟨p', ?_, h2⟩
  rw [show 0 + 2 ^ (7 * 0) * zz n = zz n from by omega, unz_zz] at h1
  exact h1
theorem count_fw (k p m s : Nat) (R : List Int) (hs : 1 ≤ s) (hs2 : s ≤ 5) (hm : m * s ≤ R.length) (hb : b.drop p = num (m : Int) ++ R) (hk : 31 ≤ k) :
    ∃ p' : Nat, cand_reader_count.f k b (p : Int) false (s : Int) = some ((m : Int), (p' : Int), false) ∧ b.drop p' = R ∧ p' ≤ b.length := by
  have hR : R.length ≤ b.length := by have := drop_len hb; rw [List.length_append] at this; omega
  have hmR : m ≤ R.length := Nat.le_trans (Nat.le_mul_of_pos_right m hs) hm
  obtain ⟨p', hf, h2, h3⟩ := num_fw hn k p (m : Int) ⟨by omega, by omega⟩ R hb (by omega)
  refine ⟨p', ?_, h2, h3⟩
  unfold cand_reader_count.f
  obtain ⟨k, rfl⟩ : ∃ m, k = m + 1 := ⟨k - 1, by omega⟩
  have hl := drop_len h2
  refine bind_at hf ?_
  show (if (m : Int) < 0 then _ else (if (s : Int) = 0 then _ else _)) = _
  rw [if_neg (by omega), if_neg (by omega)]
  have hgt : decide ((m : Int) > wrap64 (Int.tdiv (wrap64 ((b.length : Int) - (p' : Int))) (s : Int))) = false := by
    have e1 : wrap64 ((b.length : Int) - (p' : Int)) = ((b.length - p' : Nat) : Int) := w64n _ (by omega) (by omega)
    have hle : (b.length - p') / s ≤ b.length - p' := Nat.div_le_self _ _
    have hm2 : m ≤ (b.length - p') / s := (Nat.le_div_iff_mul_le hs).2 (by omega)
    rw [e1, ← Int.ofNat_tdiv, w64n _ rfl (by omega)]
    exact decide_eq_false (by omega)
  rw [hgt]
  simp only [cand_reader_count.j0]
  rw [if_neg (by decide), if_neg (by decide)]
theorem ref_fw (k p : Nat) (y : S73) (h1 : inR y.f0) (h2 : inR y.f1) (R : List Int) (hb : b.drop p = refB y ++ R) (hk : 31 ≤ k) :
    ∃ p' : Nat, cand_reader_ref.f k b (p : Int) false = some (y.f0, y.f1, (p' : Int), false) ∧ b.drop p' = R ∧ p' ≤ b.length := by
  unfold refB at hb
  rw [List.append_assoc] at hb
  obtain ⟨p1, f1, g1, _⟩ := num_fw hn k p _ h1 _ hb (by omega)
  obtain ⟨p2, f2, g2, l2⟩ := num_fw hn k p1 _ h2 _ g1 (by omega)
  unfold cand_reader_ref.f
  exact ⟨p2, bind_at f1 (bind_at f2 rfl), g2, l2⟩
theorem rec_fw (k p : Nat) (x : S75) (h : recR x) (hx : (x.f3 && x.f4) = false) (R : List Int) (hb : b.drop p = recB x ++ R) (hk : 31 ≤ k) :
    ∃ p' : Nat, cand_reader_rec.f k b (p : Int) false = some (x.f0, x.f1, x.f2.f0, x.f2.f1, x.f3, x.f4, (p' : Int), false) ∧ b.drop p' = R ∧ p' ≤ b.length := by
  obtain ⟨h1, h2, h3, h4⟩ := h
  unfold recB at hb
  simp only [List.append_assoc] at hb
  obtain ⟨p1, f1, g1, _⟩ := num_fw hn k p _ h1 _ hb (by omega)
  obtain ⟨p2, f2, g2, _⟩ := num_fw hn k p1 _ h2 _ g1 (by omega)
  obtain ⟨p3, f3, g3, _⟩ := ref_fw hn k p2 x.f2 h3 h4 _ (by unfold refB; rw [List.append_assoc]; exact g2) hk
  obtain ⟨p4, f4, g4, l4⟩ := num_fw hn k p3 _ (flagN_in x) _ g3 (by omega)
  unfold cand_reader_rec.f
  refine ⟨p4, bind_at f1 (bind_at f2 (bind_at f3 (bind_at f4 ?_))), g4, l4⟩
  show (if false = true then _ else if flagN x < 0 then _ else _) = _
  unfold flagN
  rw [if_neg (by decide)]
  revert hx
  cases x.f3 <;> cases x.f4 <;> intro hx <;> first | rfl | cases hx
theorem dec_fw3 (n i : Nat) (hi : i ≤ 4000) (h : List (List S75)) (r : List S70) (hr : r.length ≤ 4000) (a : Int) (R : List Int) (z : (List (List S75)) × (List S70) × Int) (K m : Nat) (hm : m ≤ 4000) (hK : 31 ≤ K) (L : List S73)
    (hz : ∀ (k p : Nat), K ≤ k → b.drop p = R → p ≤ b.length → cand_Decode.l2 k (n : Int) ((i + 1 : Nat) : Int) b (p : Int) false h (r ++ [⟨a, L⟩]) = some z) (L1 : List S73) :
    ∀ (k j p : Nat) (L0 : List S73), L = L0 ++ L1 → L0.length = j → m = j + L1.length → L1.length + K < k → (∀ y ∈ L1, inR y.f0 ∧ inR y.f1) → p ≤ b.length → b.drop p = L1.flatMap refB ++ R →
    cand_Decode.l3 k (n : Int) (i : Int) (m : Int) (j : Int) b (p : Int) false h r a L0 = some z := by
  induction L1 with
  | nil =>
    intro k j p L0 e hj hd hk hy hp hb
    rw [List.append_nil] at e
    subst e
    rw [List.length_nil] at hd hk
    obtain ⟨k, rfl⟩ : ∃ m, k = m + 1 := ⟨k - 1, by omega⟩
    simp only [cand_Decode.l3]
    rw [if_neg (by omega), if_pos (by omega), w64n (i + 1) (by omega) (by omega)]
    exact hz k p (by omega) hb hp
  | cons y L1 ih =>
    intro k j p L0 e hj hd hk hy hp hb
    rw [List.length_cons] at hd hk
    obtain ⟨k, rfl⟩ : ∃ m, k = m + 1 := ⟨k - 1, by omega⟩
    have hyy := hy y List.mem_cons_self
    rw [List.flatMap_cons, List.append_assoc] at hb
    obtain ⟨p', f1, g1, l1⟩ := ref_fw hn k p y hyy.1 hyy.2 _ hb (by omega)
    simp only [cand_Decode.l3]
    rw [if_pos (by omega), w64n (j + 1) (by omega) (by omega)]
    refine bind_at f1 ?_
    rw [if_pos (by omega)]
    exact ih k (j + 1) p' (L0 ++ [y]) (by rw [e, List.append_assoc]; rfl) (by simp [hj]) (by omega) (by omega) (fun x hx => hy x (List.mem_cons_of_mem _ hx)) l1 g1
theorem dec_fw2 (n : Nat) (hn4 : n ≤ 1000) (h : List (List S75)) (r : List S70) (hh : h.length ≤ 4000) (hhs : ∀ x ∈ h, x.length ≤ 4000) (hw : RowsIn r) (hc : chk h r = 0) (r1 : List S70) :
    ∀ (k i p : Nat) (r0 : List S70), r = r0 ++ r1 → r0.length = i → n = i + r1.length → r1.length * 4010 + 16040000 ≤ k → (∀ x ∈ r1, x.f1.length ≤ 4000 ∧ inR x.f0 ∧ ∀ y ∈ x.f1, inR y.f0 ∧ inR y.f1) → p ≤ b.length → b.drop p = r1.flatMap rowB →
    cand_Decode.l2 k (n : Int) (i : Int) b (p : Int) false h r0 = some (h, r, 0) := by
  induction r1 with
  | nil =>
    intro k i p r0 e hj hd hk hy hp hb
    rw [List.append_nil] at e
    subst e
    rw [List.length_nil] at hd hk
    obtain ⟨k, rfl⟩ : ∃ m, k = m + 1 := ⟨k - 1, by omega⟩
    have hl := drop_len hb
    rw [List.flatMap_nil, List.length_nil] at hl
    simp only [cand_Decode.l2]
    rw [if_neg (by omega), if_neg (by decide), w64n (b.length - p) (by omega) (by omega), if_neg (by omega)]
    exact bind_at (check_f k h r hh hhs hw (by omega)) (if_pos hc)
  | cons x r1 ih =>
    intro k i p r0 e hj hd hk hy hp hb
    rw [List.length_cons] at hd hk
    obtain ⟨k, rfl⟩ : ∃ m, k = m + 1 := ⟨k - 1, by omega⟩
    obtain ⟨q1, q2, q3⟩ := hy x List.mem_cons_self
    rw [List.flatMap_cons] at hb
    unfold rowB at hb
    rw [← show rowB = fun x => num x.f0 ++ (num (x.f1.length : Int) ++ x.f1.flatMap refB) from rfl] at hb
    simp only [List.append_assoc] at hb
    obtain ⟨p1, f1, g1, _⟩ := num_fw hn k p _ q2 _ hb (by omega)
    obtain ⟨p2, f2, g2, l2⟩ := count_fw hn k p1 x.f1.length 2 _ (by omega) (by omega) (by rw [List.length_append]; have := flat_two refB 2 refB_two x.f1; omega) g1 (by omega)
    have e3 := dec_fw3 hn n i (by omega) h r0 (by omega) x.f0 (r1.flatMap rowB) (h, r, 0) (r1.length * 4010 + 16040000) x.f1.length q1 (by omega) x.f1
      (fun k p hk hb hp => ih k (i + 1) p (r0 ++ [⟨x.f0, x.f1⟩]) (by rw [e, List.append_assoc]; rfl) (by simp [hj]) (by omega) hk (fun y hy' => hy y (List.mem_cons_of_mem _ hy')) hp hb)
      x.f1 k 0 p2 [] rfl rfl (by omega) (by omega) q3 l2 g2
    simp only [cand_Decode.l2]
    rw [if_pos (by omega)]
    refine bind_at f1 (bind_at f2 ?_)
    rw [Int.natCast_zero] at e3
    exact e3
theorem dec_fw1 (n i : Nat) (hi : i ≤ 4000) (h : List (List S75)) (hh : h.length ≤ 4000) (R : List Int) (z : (List (List S75)) × (List S70) × Int) (K m : Nat) (hm : m ≤ 4000) (hK : 31 ≤ K) (L : List S75)
    (hz : ∀ (k p : Nat), K ≤ k → b.drop p = R → p ≤ b.length → cand_Decode.l0 k (n : Int) ((i + 1 : Nat) : Int) b (p : Int) false (h ++ [L]) = some z) (L1 : List S75) :
    ∀ (k j p : Nat) (L0 : List S75), L = L0 ++ L1 → L0.length = j → m = j + L1.length → L1.length + K < k → (∀ y ∈ L1, recR y ∧ (y.f3 && y.f4) = false) → p ≤ b.length → b.drop p = L1.flatMap recB ++ R →
    cand_Decode.l1 k L0 (n : Int) (i : Int) (m : Int) (j : Int) b (p : Int) false h = some z := by
  induction L1 with
  | nil =>
    intro k j p L0 e hj hd hk hy hp hb
    rw [List.append_nil] at e
    subst e
    rw [List.length_nil] at hd hk
    obtain ⟨k, rfl⟩ : ∃ m, k = m + 1 := ⟨k - 1, by omega⟩
    simp only [cand_Decode.l1]
    rw [if_neg (by omega), if_pos (by omega), w64n (i + 1) (by omega) (by omega)]
    exact hz k p (by omega) hb hp
  | cons y L1 ih =>
    intro k j p L0 e hj hd hk hy hp hb
    rw [List.length_cons] at hd hk
    obtain ⟨k, rfl⟩ : ∃ m, k = m + 1 := ⟨k - 1, by omega⟩
    have hyy := hy y List.mem_cons_self
    rw [List.flatMap_cons, List.append_assoc] at hb
    obtain ⟨p', f1, g1, l1⟩ := rec_fw hn k p y hyy.1 hyy.2 _ hb (by omega)
    simp only [cand_Decode.l1]
    rw [if_pos (by omega), w64n (j + 1) (by omega) (by omega)]
    refine bind_at f1 ?_
    rw [if_pos (by omega)]
    exact ih k (j + 1) p' (L0 ++ [y]) (by rw [e, List.append_assoc]; rfl) (by simp [hj]) (by omega) (by omega) (fun x hx => hy x (List.mem_cons_of_mem _ hx)) l1 g1
theorem dec_fw0 (n : Nat) (hn4 : n ≤ 1000) (h : List (List S75)) (r : List S70) (hh : h.length ≤ 4000) (hhs : ∀ x ∈ h, x.length ≤ 4000) (hw : RowsIn r) (hrl : r.length ≤ 1000) (hrr : ∀ x ∈ r, inR x.f0 ∧ ∀ y ∈ x.f1, inR y.f0 ∧ inR y.f1) (hc : chk h r = 0) (h1 : List (List S75)) :
    ∀ (k i p : Nat) (h0 : List (List S75)), h = h0 ++ h1 → h0.length = i → n = i + h1.length → h1.length * 4010 + 40000000 ≤ k → (∀ l ∈ h1, l.length ≤ 4000 ∧ ∀ y ∈ l, recR y ∧ (y.f3 && y.f4) = false) → p ≤ b.length → b.drop p = h1.flatMap hartB ++ (num (r.length : Int) ++ r.flatMap rowB) →
    cand_Decode.l0 k (n : Int) (i : Int) b (p : Int) false h0 = some (h, r, 0) := by
  induction h1 with
  | nil =>
    intro k i p h0 e hj hd hk hy hp hb
    rw [List.append_nil] at e
    subst e
    rw [List.length_nil] at hd hk
    obtain ⟨k, rfl⟩ : ∃ m, k = m + 1 := ⟨k - 1, by omega⟩
    rw [List.flatMap_nil, List.nil_append] at hb
    obtain ⟨p1, f1, g1, l1⟩ := count_fw hn k p r.length 2 _ (by omega) (by omega) (flat_two rowB 2 rowB_two r) hb (by omega)
    have e2 := dec_fw2 hn r.length hrl h r hh hhs hw hc r k 0 p1 [] rfl rfl (by omega) (by omega) (fun x hx => ⟨hw.lens x hx, hrr x hx⟩) l1 g1
    simp only [cand_Decode.l0]
    rw [if_neg (by omega)]
    refine bind_at f1 ?_
    rw [Int.natCast_zero] at e2
    exact e2
  | cons x h1 ih =>
    intro k i p h0 e hj hd hk hy hp hb
    rw [List.length_cons] at hd hk
    obtain ⟨k, rfl⟩ : ∃ m, k = m + 1 := ⟨k - 1, by omega⟩
    obtain ⟨q1, q2⟩ := hy x List.mem_cons_self
    rw [List.flatMap_cons, show hartB x = num (x.length : Int) ++ x.flatMap recB from rfl] at hb
    simp only [List.append_assoc] at hb
    obtain ⟨p1, f1, g1, l1⟩ := count_fw hn k p x.length 5 _ (by omega) (by omega) (by rw [List.length_append]; have := flat_two recB 5 recB_five x; omega) hb (by omega)
    have e3 := dec_fw1 hn n i (by omega) h0 (by omega) (h1.flatMap hartB ++ (num (r.length : Int) ++ r.flatMap rowB)) (h, r, 0) (h1.length * 4010 + 40000000) x.length q1 (by omega) x
      (fun k p hk hb hp => ih k (i + 1) p (h0 ++ [x]) (by rw [e, List.append_assoc]; rfl) (by simp [hj]) (by omega) hk (fun y hy' => hy y (List.mem_cons_of_mem _ hy')) hp hb)
      x k 0 p1 [] rfl rfl (by omega) (by omega) q2 l1 g1
    simp only [cand_Decode.l0]
    rw [if_pos (by omega)]
    refine bind_at f1 ?_
    rw [Int.natCast_zero] at e3
    exact e3
end
theorem decode_fw (k : Nat) (h : List (List S75)) (r : List S70) (hb : (bytesS h r).length ≤ 1000000000) (hh : h.length ≤ 1000) (hhs : ∀ x ∈ h, x.length ≤ 4000) (hR : ∀ l ∈ h, ∀ x ∈ l, recR x) (hw : RowsIn r) (hrl : r.length ≤ 1000) (hrr : ∀ x ∈ r, inR x.f0 ∧ ∀ y ∈ x.f1, inR y.f0 ∧ inR y.f1) (hc : chk h r = 0) (hk : 60000000 ≤ k) :
    cand_Decode.f k (bytesS h r) = some (h, r, 0) := by
  unfold cand_Decode.f
  have hfl := chk_recs hc
  obtain ⟨p1, f1, g1, l1⟩ := count_fw hb k 0 h.length 1 _ (by omega) (by omega) (by rw [List.length_append]; have := flat_two hartB 1 hartB_pos h; omega) (show (bytesS h r).drop 0 = _ from rfl) (by omega)
  have e := dec_fw0 hb h.length hh h r (by omega) hhs hw hrl hrr hc h k 0 p1 [] rfl rfl (by omega) (by omega) (fun l hl => ⟨hhs l hl, fun y hy => ⟨hR l hl y hy, hfl l hl y hy⟩⟩) l1 g1
  refine bind_at (show cand_newReader.f (bytesS h r) = some (bytesS h r, 0, false) from rfl) ?_
  rw [Int.natCast_zero] at f1 e
  exact bind_at f1 e

theorem CandChecks (x0 : (List (List S75)) × (List S70)) (q0 : Q42 x0) : ∃ k, spinnakerlaw13_CandChecks.f k x0.1 x0.2 = some true := by
  obtain ⟨h, r⟩ := x0
  have aw := awake13 60000001 (by omega)
  have aw2 := awake13 60000000 (by omega)
  obtain ⟨b, hb, hs⟩ := large_f 60000001 h r (by have : h.length * 24 ≤ 140737488351232 := q0.1.1; omega) (by have : r.length * 32 ≤ 140737488351232 := q0.2.1; omega) (fun y hy => by have := (q0.1.2 y hy).1; omega) (fun y hy => by have := (q0.2.2 y hy).2.1; omega) (by omega)
  refine ⟨60000001, ?_⟩
  show spinnakerlaw13_CandChecks.f 60000001 h r = some true
  unfold spinnakerlaw13_CandChecks.f
  refine bind_at hb ?_
  cases b
  · have sm := hs rfl
    obtain ⟨s1, s2, s3, s4⟩ := sm
    have hwf : ∀ x ∈ r, ∀ y ∈ x.f1, (Lit.int .i64 y.f0).wf = true ∧ (Lit.int .i64 y.f1).wf = true := fun x hx y hy => (q0.2.2 x hx).2.2 y hy
    have hsum : (r.map fun x => x.f1.length).sum ≤ r.length * 1500 := by
      clear hb hs q0 s1 s2 s3 hwf
      induction r with
      | nil => simp
      | cons x r ih => rw [List.map_cons, List.sum_cons, List.length_cons, Nat.succ_mul]; have := s4 x List.mem_cons_self; have := ih (fun y hy => s4 y (List.mem_cons_of_mem _ hy)); omega
    have hw : RowsIn r := ⟨by omega, fun x hx => Nat.le_trans (s4 x hx) (by decide), by omega, hwf⟩
    have hhs : ∀ l ∈ h, l.length ≤ 4000 := fun l hl => Nat.le_trans (s3 l hl) (by decide)
    have hR : ∀ l ∈ h, ∀ x ∈ l, recR x := fun l hl x hx => by
      obtain ⟨w1, w2, w3, _⟩ := (q0.1.2 l hl).2 x hx
      exact ⟨wf_i64 w1, wf_i64 w2, wf_i64 w3.1, wf_i64 w3.2⟩
    have hrr : ∀ x ∈ r, inR x.f0 ∧ ∀ y ∈ x.f1, inR y.f0 ∧ inR y.f1 := fun x hx => ⟨wf_i64 (q0.2.2 x hx).1, fun y hy => ⟨wf_i64 (hwf x hx y hy).1, wf_i64 (hwf x hx y hy).2⟩⟩
    rw [if_neg (by decide)]
    refine bind_at (rcheck_f 60000001 h r (by omega) hhs hw (by omega)) ?_
    refine bind_at (encode_f 60000001 h r (by omega) hhs hR hw (by omega) hrr (by omega)) ?_
    refine bind_at (check_f 60000001 h r (by omega) hhs hw (by omega)) ?_
    rw [if_pos rfl]
    show spinnakerlaw13_CandChecks.j0 (60000000 + 1) _ _ _ h r = _
    simp only [spinnakerlaw13_CandChecks.j0]
    by_cases hz : chk h r = 0
    · rw [if_pos hz, hz]
      refine (if_neg (by simp)).trans ?_
      rw [if_pos rfl]
      have hfl := chk_recs hz
      have hlen : (listN h r).length ≤ 1000000 := by
        have e1 : ∀ l : List (List S75), (∀ x ∈ l, x.length ≤ 1500) → (l.flatMap hartN).length ≤ l.length * 7501 := by
          intro l
          induction l with
          | nil => intro _; simp
          | cons x l ih =>
            intro hx
            have h1 := hx x List.mem_cons_self
            have h2 := ih (fun y hy => hx y (List.mem_cons_of_mem _ hy))
            have h3 : (hartN x).length = x.length * 5 + 1 := by
              unfold hartN
              rw [List.length_cons]
              congr 1
              clear h1 h2 hx ih
              induction x with
              | nil => rfl
              | cons y x ih => rw [List.flatMap_cons, List.length_append, ih, List.length_cons]; show 5 + _ = _; omega
            rw [List.flatMap_cons, List.length_append, List.length_cons]; omega
        have e2 : ∀ l : List S70, (∀ x ∈ l, x.f1.length ≤ 1500) → (l.flatMap rowN).length ≤ l.length * 3002 := by
          intro l
          induction l with
          | nil => intro _; simp
          | cons x l ih =>
            intro hx
            have h1 := hx x List.mem_cons_self
            have h2 := ih (fun y hy => hx y (List.mem_cons_of_mem _ hy))
            have h3 : (rowN x).length = x.f1.length * 2 + 2 := by
              unfold rowN
              rw [List.length_cons, List.length_cons]
              suffices hh : (x.f1.flatMap refN).length = x.f1.length * 2 by omega
              clear h1 h2 hx ih
              generalize x.f1 = q
              induction q with
              | nil => rfl
              | cons y q ih => rw [List.flatMap_cons, List.length_append, ih, List.length_cons]; show 2 + _ = _; omega
            rw [List.flatMap_cons, List.length_append, List.length_cons]; omega
        have := e1 h s3
        have := e2 r s4
        unfold listN
        rw [List.length_cons, List.length_append, List.length_cons]
        omega
      have hbl : (bytesS h r).length ≤ 10000000 := by
        have := len_le num 10 num_le (listN h r)
        rw [list_bytes h r hfl] at this
        omega
      refine bind_at (decode_fw 60000000 h r (by omega) (by omega) hhs hR hw (by omega) hrr hz (by omega)) ?_
      refine bind_at (rbytes_f 60000000 h r (by omega) hhs hw.len hw.lens hlen (listN_in (by omega) hhs hw.len hw.lens hR (fun x hx => ⟨(hrr x hx).1, hwf x hx⟩)) hfl (by omega)) ?_
      refine bind_at (ref_same 60000000 (bytesS h r) (bytesS h r) (by omega) (by omega)) ?_
      refine (if_pos (by simp)).trans ?_
      refine (if_pos rfl).trans ?_
      refine bind_at (rsame_f 60000000 h r h r ⟨s1, s2, s3, s4⟩ (by omega)) ?_
      refine (if_pos (sameS_self h r)).trans ?_
      exact bind_at aw2 rfl
    · rw [if_neg hz]
      refine (if_neg (by simp)).trans ?_
      rw [if_neg hz]
      refine (if_pos rfl).trans ?_
      exact bind_at aw2 rfl
  · rw [if_pos rfl]
    exact bind_at aw rfl

end Go.Proofs.Ytfpphaflbmlpeaa.Pure
