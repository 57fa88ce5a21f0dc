/- Same compares any candidates, and Clone returns an equal one, for every two candidates of at most 20 harts, 200 rows and 1500 records and stores in all, and the chapter's example holds; for every two candidates. -/
import Derived.Test.YtfpphaflbmlpeaaGCandSamex12
import Derived.Test.YtfpphaflbmlpeaaOpenCandSame
namespace Go.Proofs.Ytfpphaflbmlpeaa.Pure
open Go.RowKit Go.Proofs.Ytfpphaflbmlpeaa.GCandSame Go.Proofs.YtfpphaflbmlpeaaW.PrintWords Go.Proofs.YtfpphaflbmlpeaaW.PrintLast Go.Proofs.YtfpphaflbmlpeaaW.PrintMore
set_option linter.unusedVariables false
set_option linter.unusedSimpArgs false
attribute [local irreducible] shl shr

/-- Numbers that need no wrapping, and two's complement by its lowest bits. -/
theorem w64 {x : Int} (h0 : -9223372036854775808 ≤ x) (h1 : x < 9223372036854775808) : wrap64 x = x := by
  unfold wrap64; omega
theorem w64n {x : Int} (n : Nat) (h : x = n) (hn : n < 9223372036854775808) : wrap64 x = (n : Int) := by
  rw [w64 (by omega) (by omega), h]
theorem bind_at {α β : Type} {o : Option α} {v : α} (h : o = some v) {g : α → Option β} {r : Option β} (hg : g v = r) : o.bind g = r := by
  rw [h]; exact hg

/-- Lists that are alike, place by place. -/
def all2 {α : Type} (p : α → α → Bool) : List α → List α → Bool
  | [], [] => true
  | x :: a, y :: b => p x y && all2 p a b
  | _, _ => false
theorem all2_len {α : Type} {p : α → α → Bool} : ∀ {a b : List α}, a.length ≠ b.length → all2 p a b = false
  | [], [], h => absurd rfl h
  | _ :: _, [], _ => rfl
  | [], _ :: _, _ => rfl
  | x :: a, y :: b, h => by
    show (p x y && all2 p a b) = false
    rw [all2_len (a := a) (b := b) (fun e => h (by simp [e])), Bool.and_false]
theorem all2_self {α : Type} {p : α → α → Bool} (hp : ∀ x, p x x = true) : ∀ a : List α, all2 p a a = true
  | [] => rfl
  | x :: a => by show (p x x && all2 p a a) = true; rw [hp, all2_self hp a]; rfl
theorem rd75 {l : List S75} {i : Nat} (h : i < l.length) : rd_T75 l (i : Int) = l[i] := by unfold rd_T75; simp [h]
theorem rd73 {l : List S73} {i : Nat} (h : i < l.length) : rd_T73 l (i : Int) = l[i] := by unfold rd_T73; simp [h]
theorem rd70 {l : List S70} {i : Nat} (h : i < l.length) : rd_T70 l (i : Int) = l[i] := by unfold rd_T70; simp [h]
theorem rdL {l : List (List S75)} {i : Nat} (h : i < l.length) : rd_L4 l (i : Int) = l[i] := by unfold rd_L4; simp [h]
theorem up {α : Type} {f : Nat → Option α} (hm : ∀ k, LeO (f k) (f (k + 1))) {a : Nat} {r : α} (h : f a = some r) {k : Nat} (hk : a ≤ k) : f k = some r := by
  obtain ⟨d, rfl⟩ := Nat.exists_eq_add_of_le hk
  clear hk
  induction d with
  | zero => exact h
  | succ d ih => exact hm _ _ ih
/-- Is a candidate small? -/
def Small (h : List (List S75)) (r : List S70) : Prop := h.length ≤ 20 ∧ r.length ≤ 200 ∧ (∀ x ∈ h, x.length ≤ 1500) ∧ ∀ x ∈ r, x.f1.length ≤ 1500
theorem large1 (h : List (List S75)) (r : List S70) (hr : ∀ x ∈ r, x.f1.length ≤ 8796093022208) (d : Nat) : ∀ (k i n : Nat), i ≤ 200 → 200 - i = d → d < k → n ≤ (i + 30) * 8796093022208 →
    ∃ b, spinnakerlaw13_large.l1 k (n : Int) (i : Int) h r = some b ∧ (b = false → h.length ≤ 20 ∧ r.length ≤ 200 ∧ n ≤ 1500 ∧ ∀ x ∈ r.drop i, x.f1.length ≤ 1500) := by
  have fin : ∀ (n i : Nat), r.length ≤ i ∨ 200 ≤ i → ∃ b, (if (h.length : Int) > 20 then (some true) else (if (r.length : Int) > 200 then (some true) else (some (decide ((n : Int) > 1500))))) = some b ∧ (b = false → h.length ≤ 20 ∧ r.length ≤ 200 ∧ n ≤ 1500 ∧ ∀ x ∈ r.drop i, x.f1.length ≤ 1500) := by
    intro n i hi
    by_cases h1 : (h.length : Int) > 20
    · rw [if_pos h1]; exact ⟨_, rfl, fun e => by cases e⟩
    rw [if_neg h1]
    by_cases h2 : (r.length : Int) > 200
    · rw [if_pos h2]; exact ⟨_, rfl, fun e => by cases e⟩
    rw [if_neg h2]
    refine ⟨_, rfl, fun e => ⟨by omega, by omega, ?_, ?_⟩⟩
    · have := of_decide_eq_false e; omega
    · rw [List.drop_of_length_le (by omega)]; simp
  induction d with
  | zero =>
    intro k i n hi hd hk hn
    obtain ⟨k, rfl⟩ : ∃ m, k = m + 1 := ⟨k - 1, by omega⟩
    simp only [spinnakerlaw13_large.l1]
    by_cases hl : (i : Int) < (r.length : Int)
    · rw [if_pos hl, if_neg (by omega)]; exact fin n i (Or.inr (by omega))
    · rw [if_neg hl]; exact fin n i (Or.inl (by omega))
  | succ d ih =>
    intro k i n hi hd hk hn
    obtain ⟨k, rfl⟩ : ∃ m, k = m + 1 := ⟨k - 1, by omega⟩
    simp only [spinnakerlaw13_large.l1]
    by_cases hl : (i : Int) < (r.length : Int)
    · have hl2 : i < r.length := by omega
      have hx := hr r[i] (List.getElem_mem hl2)
      rw [if_pos hl, if_pos (by omega), if_pos (by omega), rd70 hl2, w64n (n + r[i].f1.length) (by omega) (by omega), w64n (i + 1) (by omega) (by omega)]
      obtain ⟨b, hb, hs⟩ := ih k (i + 1) (n + r[i].f1.length) (by omega) (by omega) (by omega) (by omega)
      refine ⟨b, hb, fun e => ?_⟩
      obtain ⟨s1, s2, s3, s4⟩ := hs e
      refine ⟨s1, s2, by omega, fun x hx => ?_⟩
      rw [List.drop_eq_getElem_cons hl2] at hx
      rcases List.mem_cons.1 hx with rfl | hx
      · omega
      · exact s4 x hx
    · rw [if_neg hl]; exact fin n i (Or.inl (by omega))
theorem large0 (h : List (List S75)) (r : List S70) (hh : ∀ x ∈ h, x.length ≤ 8796093022208) (hr : ∀ x ∈ r, x.f1.length ≤ 8796093022208) (d : Nat) : ∀ (k i n : Nat), i ≤ 20 → 20 - i = d → d + 202 < k → n ≤ (i + 10) * 8796093022208 →
    ∃ b, spinnakerlaw13_large.l0 k (n : Int) (i : Int) h r = some b ∧ (b = false → h.length ≤ 20 ∧ r.length ≤ 200 ∧ n ≤ 1500 ∧ (∀ x ∈ h.drop i, x.length ≤ 1500) ∧ ∀ x ∈ r, x.f1.length ≤ 1500) := by
  have fin : ∀ (k n i : Nat), 201 < k → n ≤ 263882790666240 → h.length ≤ i ∨ 20 ≤ i → ∃ b, spinnakerlaw13_large.j1 k (n : Int) h r = some b ∧ (b = false → h.length ≤ 20 ∧ r.length ≤ 200 ∧ n ≤ 1500 ∧ (∀ x ∈ h.drop i, x.length ≤ 1500) ∧ ∀ x ∈ r, x.f1.length ≤ 1500) := by
    intro k n i hk hn hi
    obtain ⟨k, rfl⟩ : ∃ m, k = m + 1 := ⟨k - 1, by omega⟩
    simp only [spinnakerlaw13_large.j1]
    obtain ⟨b, hb, hs⟩ := large1 h r hr 200 k 0 n (by omega) (by omega) (by omega) (by omega)
    rw [Int.natCast_zero] at hb
    refine ⟨b, hb, fun e => ?_⟩
    obtain ⟨s1, s2, s3, s4⟩ := hs e
    refine ⟨s1, s2, s3, ?_, fun x hx => s4 x (by simpa using hx)⟩
    rw [List.drop_of_length_le (by omega)]; simp
  induction d with
  | zero =>
    intro k i n hi hd hk hn
    obtain ⟨k, rfl⟩ : ∃ m, k = m + 1 := ⟨k - 1, by omega⟩
    simp only [spinnakerlaw13_large.l0]
    by_cases hl : (i : Int) < (h.length : Int)
    · rw [if_pos hl, if_neg (by omega)]; exact fin k n i (by omega) (by omega) (Or.inr (by omega))
    · rw [if_neg hl]; exact fin k n i (by omega) (by omega) (Or.inl (by omega))
  | succ d ih =>
    intro k i n hi hd hk hn
    obtain ⟨k, rfl⟩ : ∃ m, k = m + 1 := ⟨k - 1, by omega⟩
    simp only [spinnakerlaw13_large.l0]
    by_cases hl : (i : Int) < (h.length : Int)
    · have hl2 : i < h.length := by omega
      have hx := hh h[i] (List.getElem_mem hl2)
      rw [if_pos hl, if_pos (by omega), if_pos (by omega), rdL hl2, w64n (n + h[i].length) (by omega) (by omega), w64n (i + 1) (by omega) (by omega)]
      obtain ⟨b, hb, hs⟩ := ih k (i + 1) (n + h[i].length) (by omega) (by omega) (by omega) (by omega)
      refine ⟨b, hb, fun e => ?_⟩
      obtain ⟨s1, s2, s3, s4, s5⟩ := hs e
      refine ⟨s1, s2, by omega, fun x hx => ?_, s5⟩
      rw [List.drop_eq_getElem_cons hl2] at hx
      rcases List.mem_cons.1 hx with rfl | hx
      · omega
      · exact s4 x hx
    · rw [if_neg hl]; exact fin k n i (by omega) (by omega) (Or.inl (by omega))
theorem large_f (k : Nat) (h : List (List S75)) (r : List S70) (h1 : h.length ≤ 8796093022208) (h2 : r.length ≤ 8796093022208) (hh : ∀ x ∈ h, x.length ≤ 8796093022208) (hr : ∀ x ∈ r, x.f1.length ≤ 8796093022208) (hk : 222 < k) :
    ∃ b, spinnakerlaw13_large.f k h r = some b ∧ (b = false → Small h r) := by
  unfold spinnakerlaw13_large.f
  rw [w64n (h.length + r.length) (by omega) (by omega)]
  obtain ⟨b, hb, hs⟩ := large0 h r hh hr 20 k 0 (h.length + r.length) (by omega) (by omega) (by omega) (by omega)
  rw [Int.natCast_zero] at hb
  refine ⟨b, hb, fun e => ?_⟩
  obtain ⟨s1, s2, s3, s4, s5⟩ := hs e
  exact ⟨s1, s2, fun x hx => s4 x (by simpa using hx), s5⟩
set_option maxRecDepth 10000 in
theorem awake60 : spinnakerlaw13_awake.f 60 = some true := by decide +kernel
theorem awake13 (k : Nat) (hk : 60 ≤ k) : spinnakerlaw13_awake.f k = some true :=
  up (f := spinnakerlaw13_awake.f) spinnakerlaw13_awake.mono awake60 hk

def recNe (x y : S75) : Bool := (!(x.f0 == y.f0) || (!(x.f1 == y.f1) || ((!(x.f2.f0 == y.f2.f0) || (!(x.f2.f1 == y.f2.f1))) || (!(x.f3 == y.f3) || (!(x.f4 == y.f4))))))
def refNe (x y : S73) : Bool := (!(x.f0 == y.f0) || (!(x.f1 == y.f1)))
def recEq (x y : S75) : Bool := !recNe x y
def refEq (x y : S73) : Bool := !refNe x y
def rowEq (x y : S70) : Bool := (x.f0 == y.f0) && all2 refEq x.f1 y.f1
theorem recEq_self (x : S75) : recEq x x = true := by simp [recEq, recNe]
theorem refEq_self (x : S73) : refEq x x = true := by simp [refEq, refNe]
theorem rowEq_self (x : S70) : rowEq x x = true := by simp [rowEq, all2_self refEq_self]
theorem recs_l (a b : List S75) (hab : a.length = b.length) (hn : a.length ≤ 1500) (d : Nat) : ∀ (k i : Nat), i ≤ a.length → a.length - i = d → d < k → api_Rec_40.l0 k a b (a.length : Int) (i : Int) = some (all2 recEq (a.drop i) (b.drop i)) := by
  induction d with
  | zero =>
    intro k i hi hd hk
    obtain ⟨k, rfl⟩ : ∃ m, k = m + 1 := ⟨k - 1, by omega⟩
    simp only [api_Rec_40.l0]
    rw [if_neg (by omega), List.drop_of_length_le (by omega), List.drop_of_length_le (by omega)]; rfl
  | succ d ih =>
    intro k i hi hd hk
    obtain ⟨k, rfl⟩ : ∃ m, k = m + 1 := ⟨k - 1, by omega⟩
    simp only [api_Rec_40.l0]
    have h1 : i < a.length := by omega
    have h2 : i < b.length := by omega
    rw [if_pos (by omega), if_pos (by omega), if_pos (by omega), if_pos (by omega), rd75 h1, rd75 h2, List.drop_eq_getElem_cons h1, List.drop_eq_getElem_cons h2, w64n (i + 1) (by omega) (by omega)]
    show (if recNe a[i] b[i] = true then _ else _) = some (recEq a[i] b[i] && all2 recEq (a.drop (i + 1)) (b.drop (i + 1)))
    by_cases h : recNe a[i] b[i] = true
    · rw [if_pos h, recEq, h]; rfl
    · rw [if_neg h, ih k (i + 1) (by omega) (by omega) (by omega), recEq, Bool.eq_false_iff.2 h]; rfl
theorem recs_f (k : Nat) (a b : List S75) (hn : a.length ≤ 1500) (hk : 1501 ≤ k) : api_Rec_40.f k a b = some (all2 recEq a b) := by
  unfold api_Rec_40.f
  by_cases h : a.length = b.length
  · rw [if_pos (by omega)]
    have := recs_l a b h hn a.length k 0 (by omega) (by omega) (by omega)
    rw [Int.natCast_zero] at this
    exact this
  · rw [if_neg (by omega), all2_len h]
theorem refs_l (a b : List S73) (hab : a.length = b.length) (hn : a.length ≤ 1500) (d : Nat) : ∀ (k i : Nat), i ≤ a.length → a.length - i = d → d < k → api_Ref_63.l0 k a b (a.length : Int) (i : Int) = some (all2 refEq (a.drop i) (b.drop i)) := by
  induction d with
  | zero =>
    intro k i hi hd hk
    obtain ⟨k, rfl⟩ : ∃ m, k = m + 1 := ⟨k - 1, by omega⟩
    simp only [api_Ref_63.l0]
    rw [if_neg (by omega), List.drop_of_length_le (by omega), List.drop_of_length_le (by omega)]; rfl
  | succ d ih =>
    intro k i hi hd hk
    obtain ⟨k, rfl⟩ : ∃ m, k = m + 1 := ⟨k - 1, by omega⟩
    simp only [api_Ref_63.l0]
    have h1 : i < a.length := by omega
    have h2 : i < b.length := by omega
    rw [if_pos (by omega), if_pos (by omega), if_pos (by omega), if_pos (by omega), rd73 h1, rd73 h2, List.drop_eq_getElem_cons h1, List.drop_eq_getElem_cons h2, w64n (i + 1) (by omega) (by omega)]
    show (if refNe a[i] b[i] = true then _ else _) = some (refEq a[i] b[i] && all2 refEq (a.drop (i + 1)) (b.drop (i + 1)))
    by_cases h : refNe a[i] b[i] = true
    · rw [if_pos h, refEq, h]; rfl
    · rw [if_neg h, ih k (i + 1) (by omega) (by omega) (by omega), refEq, Bool.eq_false_iff.2 h]; rfl
theorem refs_f (k : Nat) (a b : List S73) (hn : a.length ≤ 1500) (hk : 1501 ≤ k) : api_Ref_63.f k a b = some (all2 refEq a b) := by
  unfold api_Ref_63.f
  by_cases h : a.length = b.length
  · rw [if_pos (by omega)]
    have := refs_l a b h hn a.length k 0 (by omega) (by omega) (by omega)
    rw [Int.natCast_zero] at this
    exact this
  · rw [if_neg (by omega), all2_len h]
theorem rrefs_l (a b : List S73) (hab : a.length = b.length) (hn : a.length ≤ 1500) (d : Nat) : ∀ (k i : Nat), i ≤ a.length → a.length - i = d → d < k → spinnakerref13_Refs.l0 k a b (i : Int) = some (all2 refEq (a.drop i) (b.drop i)) := by
  induction d with
  | zero =>
    intro k i hi hd hk
    obtain ⟨k, rfl⟩ : ∃ m, k = m + 1 := ⟨k - 1, by omega⟩
    simp only [spinnakerref13_Refs.l0]
    rw [if_neg (by omega), List.drop_of_length_le (by omega), List.drop_of_length_le (by omega)]; rfl
  | succ d ih =>
    intro k i hi hd hk
    obtain ⟨k, rfl⟩ : ∃ m, k = m + 1 := ⟨k - 1, by omega⟩
    simp only [spinnakerref13_Refs.l0]
    have h1 : i < a.length := by omega
    have h2 : i < b.length := by omega
    rw [if_pos (by omega), if_pos (by omega), if_pos (by omega), rd73 h1, rd73 h2, List.drop_eq_getElem_cons h1, List.drop_eq_getElem_cons h2, w64n (i + 1) (by omega) (by omega)]
    show (if refNe a[i] b[i] = true then _ else _) = some (refEq a[i] b[i] && all2 refEq (a.drop (i + 1)) (b.drop (i + 1)))
    by_cases h : refNe a[i] b[i] = true
    · rw [if_pos h, refEq, h]; rfl
    · rw [if_neg h, ih k (i + 1) (by omega) (by omega) (by omega), refEq, Bool.eq_false_iff.2 h]; rfl
theorem rrefs_f (k : Nat) (a b : List S73) (hn : a.length ≤ 1500) (hk : 1501 ≤ k) : spinnakerref13_Refs.f k a b = some (all2 refEq a b) := by
  unfold spinnakerref13_Refs.f
  by_cases h : a.length = b.length
  · rw [if_pos (by omega)]
    have := rrefs_l a b h hn a.length k 0 (by omega) (by omega) (by omega)
    rw [Int.natCast_zero] at this
    exact this
  · rw [if_neg (by omega), all2_len h]
theorem erecs_l (a b : List (List S75)) (hab : a.length = b.length) (hn : a.length ≤ 20) (hs : ∀ x ∈ a, x.length ≤ 1500) (d : Nat) : ∀ (k i : Nat), i ≤ a.length → a.length - i = d → d + 1502 < k → slices_EqualRecs.l0 k b a (a.length : Int) (i : Int) = some (all2 (all2 recEq) (a.drop i) (b.drop i)) := by
  induction d with
  | zero =>
    intro k i hi hd hk
    obtain ⟨k, rfl⟩ : ∃ m, k = m + 1 := ⟨k - 1, by omega⟩
    simp only [slices_EqualRecs.l0]
    rw [if_neg (by omega), List.drop_of_length_le (by omega), List.drop_of_length_le (by omega)]; rfl
  | succ d ih =>
    intro k i hi hd hk
    obtain ⟨k, rfl⟩ : ∃ m, k = m + 1 := ⟨k - 1, by omega⟩
    simp only [slices_EqualRecs.l0]
    have h1 : i < a.length := by omega
    have h2 : i < b.length := by omega
    rw [if_pos (by omega), if_pos (by omega), if_pos (by omega), if_pos (by omega), rdL h1, rdL h2, List.drop_eq_getElem_cons h1, List.drop_eq_getElem_cons h2, w64n (i + 1) (by omega) (by omega)]
    refine bind_at (recs_f k a[i] b[i] (hs _ (List.getElem_mem h1)) (by omega)) ?_
    show _ = some (all2 recEq a[i] b[i] && all2 (all2 recEq) (a.drop (i + 1)) (b.drop (i + 1)))
    rw [ih k (i + 1) (by omega) (by omega) (by omega)]
    cases all2 recEq a[i] b[i] <;> rfl
theorem erecs_f (k : Nat) (a b : List (List S75)) (hn : a.length ≤ 20) (hs : ∀ x ∈ a, x.length ≤ 1500) (hk : 1530 ≤ k) : slices_EqualRecs.f k a b = some (all2 (all2 recEq) a b) := by
  unfold slices_EqualRecs.f
  by_cases h : a.length = b.length
  · rw [if_pos (by omega)]
    have := erecs_l a b h hn hs a.length k 0 (by omega) (by omega) (by omega)
    rw [Int.natCast_zero] at this
    exact this
  · rw [if_neg (by omega), all2_len h]
theorem erows_l (a b : List S70) (hab : a.length = b.length) (hn : a.length ≤ 200) (hs : ∀ x ∈ a, x.f1.length ≤ 1500) (d : Nat) : ∀ (k i : Nat), i ≤ a.length → a.length - i = d → d + 1502 < k → slices_EqualRows.l0 k b a (a.length : Int) (i : Int) = some (all2 rowEq (a.drop i) (b.drop i)) := by
  induction d with
  | zero =>
    intro k i hi hd hk
    obtain ⟨k, rfl⟩ : ∃ m, k = m + 1 := ⟨k - 1, by omega⟩
    simp only [slices_EqualRows.l0]
    rw [if_neg (by omega), List.drop_of_length_le (by omega), List.drop_of_length_le (by omega)]; rfl
  | succ d ih =>
    intro k i hi hd hk
    obtain ⟨k, rfl⟩ : ∃ m, k = m + 1 := ⟨k - 1, by omega⟩
    simp only [slices_EqualRows.l0]
    have h1 : i < a.length := by omega
    have h2 : i < b.length := by omega
    have hr : cand_sameRow.f k a[i].f0 a[i].f1 b[i].f0 b[i].f1 = some (rowEq a[i] b[i]) := by
      unfold cand_sameRow.f rowEq
      by_cases h : a[i].f0 = b[i].f0
      · rw [if_pos h, beq_iff_eq.2 h, Bool.true_and]; exact bind_at (refs_f k _ _ (hs _ (List.getElem_mem h1)) (by omega)) rfl
      · rw [if_neg h, beq_eq_false_iff_ne.2 h, Bool.false_and]
    rw [if_pos (by omega), if_pos (by omega), if_pos (by omega), if_pos (by omega), rd70 h1, rd70 h2, List.drop_eq_getElem_cons h1, List.drop_eq_getElem_cons h2, w64n (i + 1) (by omega) (by omega)]
    refine bind_at hr ?_
    show _ = some (rowEq a[i] b[i] && all2 rowEq (a.drop (i + 1)) (b.drop (i + 1)))
    rw [ih k (i + 1) (by omega) (by omega) (by omega)]
    cases rowEq a[i] b[i] <;> rfl
theorem erows_f (k : Nat) (a b : List S70) (hn : a.length ≤ 200) (hs : ∀ x ∈ a, x.f1.length ≤ 1500) (hk : 1710 ≤ k) : slices_EqualRows.f k a b = some (all2 rowEq a b) := by
  unfold slices_EqualRows.f
  by_cases h : a.length = b.length
  · rw [if_pos (by omega)]
    have := erows_l a b h hn hs a.length k 0 (by omega) (by omega) (by omega)
    rw [Int.natCast_zero] at this
    exact this
  · rw [if_neg (by omega), all2_len h]
def sameS (h : List (List S75)) (r : List S70) (h' : List (List S75)) (r' : List S70) : Bool := all2 (all2 recEq) h h' && all2 rowEq r r'
theorem sameS_self (h : List (List S75)) (r : List S70) : sameS h r h r = true := by unfold sameS; rw [all2_self (all2_self recEq_self), all2_self rowEq_self]; rfl
theorem csame_f (k : Nat) (h : List (List S75)) (r : List S70) (h' : List (List S75)) (r' : List S70) (hs : Small h r) (hk : 1710 ≤ k) : cand_Same.f k h r h' r' = some (sameS h r h' r') := by
  unfold cand_Same.f sameS
  refine bind_at (erecs_f k h h' hs.1 hs.2.2.1 (by omega)) ?_
  cases all2 (all2 recEq) h h'
  · rfl
  · rw [if_pos rfl, Bool.true_and]
    exact bind_at (erows_f k r r' hs.2.1 hs.2.2.2 hk) rfl
theorem rsame_l2 (h : List (List S75)) (r : List S70) (h' : List (List S75)) (r' : List S70) (hs : Small h r) (hr : r.length = r'.length) (d : Nat) : ∀ (k i : Nat), i ≤ r.length → r.length - i = d → d + 1502 < k →
    spinnakerref13_Same.l2 k (i : Int) h r h' r' = some (all2 rowEq (r.drop i) (r'.drop i)) := by
  have hn := hs.2.1
  induction d with
  | zero =>
    intro k i hi hd hk
    obtain ⟨k, rfl⟩ : ∃ m, k = m + 1 := ⟨k - 1, by omega⟩
    simp only [spinnakerref13_Same.l2]
    rw [if_neg (by omega), List.drop_of_length_le (by omega), List.drop_of_length_le (by omega)]; rfl
  | succ d ih =>
    intro k i hi hd hk
    obtain ⟨k, rfl⟩ : ∃ m, k = m + 1 := ⟨k - 1, by omega⟩
    simp only [spinnakerref13_Same.l2]
    have h1 : i < r.length := by omega
    have h2 : i < r'.length := by omega
    rw [if_pos (by omega), if_pos (by omega), if_pos (by omega), rd70 h1, rd70 h2, List.drop_eq_getElem_cons h1, List.drop_eq_getElem_cons h2, w64n (i + 1) (by omega) (by omega)]
    show _ = some (((r[i].f0 == r'[i].f0) && all2 refEq r[i].f1 r'[i].f1) && all2 rowEq (r.drop (i + 1)) (r'.drop (i + 1)))
    by_cases h0 : r[i].f0 = r'[i].f0
    · rw [if_pos h0, beq_iff_eq.2 h0, Bool.true_and]
      refine bind_at (rrefs_f k _ _ (hs.2.2.2 _ (List.getElem_mem h1)) (by omega)) ?_
      rw [ih k (i + 1) (by omega) (by omega) (by omega)]
      cases all2 refEq r[i].f1 r'[i].f1 <;> rfl
    · rw [if_neg h0, beq_eq_false_iff_ne.2 h0]; rfl
theorem rsame_l1 (h : List (List S75)) (r : List S70) (h' : List (List S75)) (r' : List S70) (i : Nat) (hi : i < h.length) (hi' : i < h'.length) (hl : h[i].length = h'[i].length) (hn : h[i].length ≤ 1500) (hm : h.length ≤ 20) (z : Bool) (K : Nat)
    (hz : ∀ k, K ≤ k → spinnakerref13_Same.l0 k ((i + 1 : Nat) : Int) h r h' r' = some z) (d : Nat) : ∀ (k j : Nat), j ≤ h[i].length → h[i].length - j = d → d + K < k →
    spinnakerref13_Same.l1 k (i : Int) (j : Int) h r h' r' = some (all2 recEq (h[i].drop j) (h'[i].drop j) && z) := by
  induction d with
  | zero =>
    intro k j hj hd hk
    obtain ⟨k, rfl⟩ : ∃ m, k = m + 1 := ⟨k - 1, by omega⟩
    simp only [spinnakerref13_Same.l1]
    rw [if_pos (by omega), if_pos (by omega), rdL hi, if_neg (by omega), List.drop_of_length_le (by omega), List.drop_of_length_le (by omega), w64n (i + 1) (by omega) (by omega), hz k (by omega)]; rfl
  | succ d ih =>
    intro k j hj hd hk
    obtain ⟨k, rfl⟩ : ∃ m, k = m + 1 := ⟨k - 1, by omega⟩
    simp only [spinnakerref13_Same.l1]
    have h1 : j < h[i].length := by omega
    have h2 : j < h'[i].length := by omega
    rw [if_pos (by omega), if_pos (by omega), rdL hi, if_pos (by omega), if_pos (by omega), if_pos (by omega), rdL hi', if_pos (by omega), rd75 h1, rd75 h2, List.drop_eq_getElem_cons h1, List.drop_eq_getElem_cons h2, w64n (j + 1) (by omega) (by omega)]
    show (if recNe h[i][j] h'[i][j] = true then _ else _) = some ((recEq h[i][j] h'[i][j] && all2 recEq (h[i].drop (j + 1)) (h'[i].drop (j + 1))) && z)
    by_cases hq : recNe h[i][j] h'[i][j] = true
    · rw [if_pos hq, recEq, hq]; rfl
    · rw [if_neg hq, ih k (j + 1) (by omega) (by omega) (by omega), recEq, Bool.eq_false_iff.2 hq]; rfl
theorem rsame_l0 (h : List (List S75)) (r : List S70) (h' : List (List S75)) (r' : List S70) (hs : Small h r) (hh : h.length = h'.length) (hr : r.length = r'.length) (d : Nat) : ∀ (k i : Nat), i ≤ h.length → h.length - i = d → d * 1502 + 1800 ≤ k →
    spinnakerref13_Same.l0 k (i : Int) h r h' r' = some (all2 (all2 recEq) (h.drop i) (h'.drop i) && all2 rowEq r r') := by
  have hn := hs.1
  have hn2 := hs.2.1
  induction d with
  | zero =>
    intro k i hi hd hk
    obtain ⟨k, rfl⟩ : ∃ m, k = m + 1 := ⟨k - 1, by omega⟩
    simp only [spinnakerref13_Same.l0]
    have e := rsame_l2 h r h' r' hs hr r.length k 0 (by omega) (by omega) (by omega)
    rw [Int.natCast_zero] at e
    rw [if_neg (by omega), List.drop_of_length_le (by omega), List.drop_of_length_le (by omega), e]; rfl
  | succ d ih =>
    intro k i hi hd hk
    obtain ⟨k, rfl⟩ : ∃ m, k = m + 1 := ⟨k - 1, by omega⟩
    simp only [spinnakerref13_Same.l0]
    have h1 : i < h.length := by omega
    have h2 : i < h'.length := by omega
    have hx := hs.2.2.1 h[i] (List.getElem_mem h1)
    rw [if_pos (by omega), if_pos (by omega), if_pos (by omega), rdL h1, rdL h2, List.drop_eq_getElem_cons h1, List.drop_eq_getElem_cons h2]
    show _ = some ((all2 recEq h[i] h'[i] && all2 (all2 recEq) (h.drop (i + 1)) (h'.drop (i + 1))) && all2 rowEq r r')
    by_cases hl : h[i].length = h'[i].length
    · rw [if_pos (by omega)]
      have e := rsame_l1 h r h' r' i h1 h2 hl hx hn _ (d * 1502 + 1800) (fun k hk => ih k (i + 1) (by omega) (by omega) hk) h[i].length k 0 (by omega) (by omega) (by omega)
      rw [Int.natCast_zero] at e
      rw [e, Bool.and_assoc]; rfl
    · rw [if_neg (by omega), all2_len hl]; rfl
theorem rsame_f (k : Nat) (h : List (List S75)) (r : List S70) (h' : List (List S75)) (r' : List S70) (hs : Small h r) (hk : 32000 ≤ k) : spinnakerref13_Same.f k h r h' r' = some (sameS h r h' r') := by
  have hn := hs.1
  have hn2 := hs.2.1
  unfold spinnakerref13_Same.f sameS
  obtain ⟨k, rfl⟩ : ∃ m, k = m + 1 := ⟨k - 1, by omega⟩
  by_cases hh : h.length = h'.length
  · rw [if_pos (by omega)]
    by_cases hr : r.length = r'.length
    · have e : ((r.length : Int) != (r'.length : Int)) = false := by rw [hr]; simp
      simp only [spinnakerref13_Same.j0]
      rw [e, if_neg (by decide)]
      have := rsame_l0 h r h' r' hs hh hr h.length k 0 (by omega) (by omega) (by omega)
      rw [Int.natCast_zero] at this
      exact this
    · have e : ((r.length : Int) != (r'.length : Int)) = true := by simp; omega
      simp only [spinnakerref13_Same.j0]
      rw [e, if_pos rfl, all2_len hr, Bool.and_false]
  · rw [if_neg (by omega)]
    simp only [spinnakerref13_Same.j0]
    rw [if_pos trivial, all2_len hh]; rfl
theorem clone1 (h : List (List S75)) (r : List S70) (g : List (List S75)) (hr : r.length ≤ 200) (hs : ∀ x ∈ r, x.f1.length ≤ 1500) (d : Nat) : ∀ (k i : Nat), i ≤ r.length → r.length - i = d → d < k → cand_Clone.l1 k r (r.length : Int) (i : Int) g (r.take i) = some (g, r) := by
  induction d with
  | zero =>
    intro k i hi hd hk
    obtain ⟨k, rfl⟩ : ∃ m, k = m + 1 := ⟨k - 1, by omega⟩
    simp only [cand_Clone.l1]
    rw [if_neg (by omega), List.take_of_length_le (by omega)]
  | succ d ih =>
    intro k i hi hd hk
    obtain ⟨k, rfl⟩ : ∃ m, k = m + 1 := ⟨k - 1, by omega⟩
    simp only [cand_Clone.l1]
    have h1 : i < r.length := by omega
    have hx := hs r[i] (List.getElem_mem h1)
    have hc : api_Ref_45.f r[i].f1 = some r[i].f1 := by
      unfold api_Ref_45.f
      refine bind_at rfl ?_
      rw [if_pos (by simp; omega)]; rfl
    rw [if_pos (by omega), if_pos (by omega), if_pos (by omega), rd70 h1, w64n (i + 1) (by omega) (by omega)]
    refine bind_at hc ?_
    rw [if_pos (by rw [List.length_take]; omega), show r.take i ++ [(⟨r[i].f0, r[i].f1⟩ : S70)] = r.take (i + 1) from by rw [List.take_succ_eq_append_getElem h1]]
    exact ih k (i + 1) (by omega) (by omega) (by omega)
theorem clone0 (h : List (List S75)) (r : List S70) (sm : Small h r) (d : Nat) : ∀ (k i : Nat), i ≤ h.length → h.length - i = d → d + 202 < k → cand_Clone.l0 k h (h.length : Int) (i : Int) h r (h.take i) = some (h, r) := by
  obtain ⟨hh, hr, hs, hs2⟩ := sm
  induction d with
  | zero =>
    intro k i hi hd hk
    obtain ⟨k, rfl⟩ : ∃ m, k = m + 1 := ⟨k - 1, by omega⟩
    simp only [cand_Clone.l0]
    have e := clone1 h r h hr hs2 r.length k 0 (by omega) (by omega) (by omega)
    rw [Int.natCast_zero, List.take_zero] at e
    rw [if_neg (by omega), List.take_of_length_le (by omega)]
    exact e
  | succ d ih =>
    intro k i hi hd hk
    obtain ⟨k, rfl⟩ : ∃ m, k = m + 1 := ⟨k - 1, by omega⟩
    simp only [cand_Clone.l0]
    have h1 : i < h.length := by omega
    have hx := hs h[i] (List.getElem_mem h1)
    have hc : api_Rec_44.f h[i] = some h[i] := by
      unfold api_Rec_44.f
      refine bind_at rfl ?_
      rw [if_pos (by simp; omega)]; rfl
    rw [if_pos (by omega), if_pos (by omega), if_pos (by omega), rdL h1, w64n (i + 1) (by omega) (by omega)]
    refine bind_at hc ?_
    rw [if_pos (by rw [List.length_take]; omega), show h.take i ++ [h[i]] = h.take (i + 1) from by rw [List.take_succ_eq_append_getElem h1]]
    exact ih k (i + 1) (by omega) (by omega) (by omega)
theorem clone_f (k : Nat) (h : List (List S75)) (r : List S70) (sm : Small h r) (hk : 300 ≤ k) : cand_Clone.f k h r = some (h, r) := by
  have hn := sm.1
  unfold cand_Clone.f
  have e := clone0 h r sm h.length k 0 (by omega) (by omega) (by omega)
  rw [Int.natCast_zero, List.take_zero] at e
  exact e

theorem CandSame (x0 : (List (List S75)) × (List S70)) (q0 : Q42 x0) (x1 : (List (List S75)) × (List S70)) (q1 : Q42 x1) : ∃ k, spinnakerlaw13_CandSame.f k x0.1 x0.2 x1.1 x1.2 = some true := by
  obtain ⟨h, r⟩ := x0
  obtain ⟨h', r'⟩ := x1
  have aw := awake13 32001 (by omega)
  have aw2 := awake13 32000 (by omega)
  have lg : ∀ x, Q42 x → ∃ b, spinnakerlaw13_large.f 32001 x.1 x.2 = some b ∧ (b = false → Small x.1 x.2) := fun x q =>
    large_f 32001 x.1 x.2 (by have := q.1.1; omega) (by have := q.2.1; omega) (fun y hy => by have := (q.1.2 y hy).1; omega) (fun y hy => by have := (q.2.2 y hy).2.1; omega) (by omega)
  refine ⟨32001, ?_⟩
  show spinnakerlaw13_CandSame.f 32001 h r h' r' = some true
  unfold spinnakerlaw13_CandSame.f
  obtain ⟨b, hb, hs⟩ := lg _ q0
  obtain ⟨b', hb', hs'⟩ := lg _ q1
  have jt : spinnakerlaw13_CandSame.j0 (32000 + 1) true h r h' r' = some true := by
    simp only [spinnakerlaw13_CandSame.j0]
    exact (if_pos trivial).trans (bind_at aw2 rfl)
  refine bind_at hb ?_
  cases b
  · rw [if_neg (by decide)]
    refine bind_at hb' ?_
    cases b'
    · have sm := hs rfl
      show spinnakerlaw13_CandSame.j0 (32000 + 1) false h r h' r' = some true
      simp only [spinnakerlaw13_CandSame.j0]
      refine (if_neg (by decide)).trans ?_
      refine bind_at (csame_f 32000 h r h' r' sm (by omega)) ?_
      refine bind_at (rsame_f 32000 h r h' r' sm (by omega)) ?_
      refine (if_pos (by simp)).trans ?_
      refine bind_at (clone_f 32000 h r sm (by omega)) ?_
      refine bind_at (rsame_f 32000 h r h r sm (by omega)) ?_
      refine (if_pos (sameS_self h r)).trans ?_
      refine bind_at (clone_f 32000 h r sm (by omega)) ?_
      refine bind_at (csame_f 32000 h r h r sm (by omega)) ?_
      refine (if_pos (sameS_self h r)).trans ?_
      exact bind_at aw2 rfl
    · exact jt
  · rw [if_pos rfl]
    exact jt

end Go.Proofs.Ytfpphaflbmlpeaa.Pure
