/- If any bytes are decoded as a candidate, it is well formed and has these bytes; other bytes are refused with ErrForm; and the chapter's example holds; for every list of at most 4000 bytes. -/
import Derived.Test.YtfpphaflbmlpeaaGCandDecodesx16
namespace Go.Proofs.Ytfpphaflbmlpeaa.Pure
open Go.RowKit Go.Proofs.Ytfpphaflbmlpeaa.GCandDecodes Go.Proofs.YtfpphaflbmlpeaaW.PrintWords Go.Proofs.YtfpphaflbmlpeaaW.PrintLast Go.Proofs.YtfpphaflbmlpeaaW.PrintMore
set_option linter.unusedVariables false
set_option linter.unusedSimpArgs false
attribute [local irreducible] shl shr

/-- Numbers that need no wrapping, and two's complement by its lowest bits. -/
theorem w64 {x : Int} (h0 : -9223372036854775808 ≤ x) (h1 : x < 9223372036854775808) : wrap64 x = x := by
  unfold wrap64; omega
theorem w64n {x : Int} (n : Nat) (h : x = n) (hn : n < 9223372036854775808) : wrap64 x = (n : Int) := by
  rw [w64 (by omega) (by omega), h]
theorem wu64 (x : Int) : IntKind.u64.wrap x = x % 18446744073709551616 := by
  simp [IntKind.wrap, IntKind.bits, IntKind.signed]
theorem wf_i64 {x : Int} (h : (Lit.int .i64 x).wf = true) : -9223372036854775808 ≤ x ∧ x < 9223372036854775808 := by
  simp [Lit.wf, IntKind.min, IntKind.max, IntKind.bits, IntKind.signed] at h; omega
theorem wf_u8 {x : Int} (h : (Lit.int .u8 x).wf = true) : 0 ≤ x ∧ x < 256 := by
  simp [Lit.wf, IntKind.min, IntKind.max, IntKind.bits, IntKind.signed] at h; omega
theorem bind_at {α β : Type} {o : Option α} {v : α} (h : o = some v) {g : α → Option β} {r : Option β} (hg : g v = r) : o.bind g = r := by
  rw [h]; exact hg

theorem ref_same_l (a b : List Int) (hab : a.length = b.length) (hn : a.length < 4611686018427387904) (d : Nat) : ∀ (k i : Nat), i ≤ a.length → a.length - i = d → d < k →
    spinnakerref01_Same.l0 k a b i = some (decide (a.drop i = b.drop i)) := by
  induction d with
  | zero =>
    intro k i hi hd hk
    obtain ⟨k, rfl⟩ : ∃ m, k = m + 1 := ⟨k - 1, by omega⟩
    simp only [spinnakerref01_Same.l0]
    rw [if_neg (by omega), List.drop_of_length_le (by omega), List.drop_of_length_le (by omega)]
    simp
  | succ d ih =>
    intro k i hi hd hk
    obtain ⟨k, rfl⟩ : ∃ m, k = m + 1 := ⟨k - 1, by omega⟩
    simp only [spinnakerref01_Same.l0]
    rw [if_pos (by omega), if_pos (by omega), if_pos (by omega)]
    have e : ∀ l : List Int, ∀ h : i < l.length, rd l (i : Int) = l[i] := by
      intro l h; unfold rd; simp [h]
    rw [e a (by omega), e b (by omega), List.drop_eq_getElem_cons (show i < a.length by omega), List.drop_eq_getElem_cons (show i < b.length by omega)]
    by_cases h : a[i] = b[i]
    · rw [if_pos h, w64n (x := (i : Int) + 1) (i + 1) (by omega) (by omega), ih k (i + 1) (by omega) (by omega) (by omega)]
      congr 1; rw [decide_eq_decide]
      exact ⟨fun hh => by rw [h, hh], fun hh => (List.cons.inj hh).2⟩
    · rw [if_neg h]; congr 1; symm; rw [decide_eq_false_iff_not]; intro hc; exact h (List.cons.inj hc).1
theorem ref_same (k : Nat) (a b : List Int) (hn : a.length < 4611686018427387904) (hk : a.length < k) :
    spinnakerref01_Same.f k a b = some (decide (a = b)) := by
  unfold spinnakerref01_Same.f
  by_cases h : a.length = b.length
  · rw [if_pos (by omega)]
    have := ref_same_l a b h hn a.length k 0 (by omega) (by omega) hk
    simpa using this
  · rw [if_neg (by omega)]
    have : a ≠ b := fun e => h (by rw [e])
    simp [this]

/-- Lists that are alike, place by place. -/
def all2 {α : Type} (p : α → α → Bool) : List α → List α → Bool
  | [], [] => true
  | x :: a, y :: b => p x y && all2 p a b
  | _, _ => false
theorem all2_len {α : Type} {p : α → α → Bool} : ∀ {a b : List α}, a.length ≠ b.length → all2 p a b = false
  | [], [], h => absurd rfl h
  | _ :: _, [], _ => rfl
  | [], _ :: _, _ => rfl
  | x :: a, y :: b, h => by
    show (p x y && all2 p a b) = false
    rw [all2_len (a := a) (b := b) (fun e => h (by simp [e])), Bool.and_false]
theorem all2_self {α : Type} {p : α → α → Bool} (hp : ∀ x, p x x = true) : ∀ a : List α, all2 p a a = true
  | [] => rfl
  | x :: a => by show (p x x && all2 p a a) = true; rw [hp, all2_self hp a]; rfl
theorem rd75 {l : List S75} {i : Nat} (h : i < l.length) : rd_T75 l (i : Int) = l[i] := by unfold rd_T75; simp [h]
theorem rd73 {l : List S73} {i : Nat} (h : i < l.length) : rd_T73 l (i : Int) = l[i] := by unfold rd_T73; simp [h]
theorem rd70 {l : List S70} {i : Nat} (h : i < l.length) : rd_T70 l (i : Int) = l[i] := by unfold rd_T70; simp [h]
theorem rdL {l : List (List S75)} {i : Nat} (h : i < l.length) : rd_L5 l (i : Int) = l[i] := by unfold rd_L5; simp [h]
theorem up {α : Type} {f : Nat → Option α} (hm : ∀ k, LeO (f k) (f (k + 1))) {a : Nat} {r : α} (h : f a = some r) {k : Nat} (hk : a ≤ k) : f k = some r := by
  obtain ⟨d, rfl⟩ := Nat.exists_eq_add_of_le hk
  clear hk
  induction d with
  | zero => exact h
  | succ d ih => exact hm _ _ ih
/-- Is a candidate small? -/
def Small (h : List (List S75)) (r : List S70) : Prop := h.length ≤ 20 ∧ r.length ≤ 200 ∧ (∀ x ∈ h, x.length ≤ 1500) ∧ ∀ x ∈ r, x.f1.length ≤ 1500
set_option maxRecDepth 10000 in
theorem awake60 : spinnakerlaw13_awake.f 60 = some true := by decide +kernel
theorem awake13 (k : Nat) (hk : 60 ≤ k) : spinnakerlaw13_awake.f k = some true :=
  up (f := spinnakerlaw13_awake.f) spinnakerlaw13_awake.mono awake60 hk

def recNe (x y : S75) : Bool := (!(x.f0 == y.f0) || (!(x.f1 == y.f1) || ((!(x.f2.f0 == y.f2.f0) || (!(x.f2.f1 == y.f2.f1))) || (!(x.f3 == y.f3) || (!(x.f4 == y.f4))))))
def refNe (x y : S73) : Bool := (!(x.f0 == y.f0) || (!(x.f1 == y.f1)))
def recEq (x y : S75) : Bool := !recNe x y
def refEq (x y : S73) : Bool := !refNe x y
def rowEq (x y : S70) : Bool := (x.f0 == y.f0) && all2 refEq x.f1 y.f1
theorem recEq_self (x : S75) : recEq x x = true := by simp [recEq, recNe]
theorem refEq_self (x : S73) : refEq x x = true := by simp [refEq, refNe]
theorem rowEq_self (x : S70) : rowEq x x = true := by simp [rowEq, all2_self refEq_self]
theorem rrefs_l (a b : List S73) (hab : a.length = b.length) (hn : a.length ≤ 1500) (d : Nat) : ∀ (k i : Nat), i ≤ a.length → a.length - i = d → d < k → spinnakerref13_Refs.l0 k a b (i : Int) = some (all2 refEq (a.drop i) (b.drop i)) := by
  induction d with
  | zero =>
    intro k i hi hd hk
    obtain ⟨k, rfl⟩ : ∃ m, k = m + 1 := ⟨k - 1, by omega⟩
    simp only [spinnakerref13_Refs.l0]
    rw [if_neg (by omega), List.drop_of_length_le (by omega), List.drop_of_length_le (by omega)]; rfl
  | succ d ih =>
    intro k i hi hd hk
    obtain ⟨k, rfl⟩ : ∃ m, k = m + 1 := ⟨k - 1, by omega⟩
    simp only [spinnakerref13_Refs.l0]
    have h1 : i < a.length := by omega
    have h2 : i < b.length := by omega
    rw [if_pos (by omega), if_pos (by omega), if_pos (by omega), rd73 h1, rd73 h2, List.drop_eq_getElem_cons h1, List.drop_eq_getElem_cons h2, w64n (i + 1) (by omega) (by omega)]
    show (if refNe a[i] b[i] = true then _ else _) = some (refEq a[i] b[i] && all2 refEq (a.drop (i + 1)) (b.drop (i + 1)))
    by_cases h : refNe a[i] b[i] = true
    · rw [if_pos h, refEq, h]; rfl
    · rw [if_neg h, ih k (i + 1) (by omega) (by omega) (by omega), refEq, Bool.eq_false_iff.2 h]; rfl
theorem rrefs_f (k : Nat) (a b : List S73) (hn : a.length ≤ 1500) (hk : 1501 ≤ k) : spinnakerref13_Refs.f k a b = some (all2 refEq a b) := by
  unfold spinnakerref13_Refs.f
  by_cases h : a.length = b.length
  · rw [if_pos (by omega)]
    have := rrefs_l a b h hn a.length k 0 (by omega) (by omega) (by omega)
    rw [Int.natCast_zero] at this
    exact this
  · rw [if_neg (by omega), all2_len h]
def sameS (h : List (List S75)) (r : List S70) (h' : List (List S75)) (r' : List S70) : Bool := all2 (all2 recEq) h h' && all2 rowEq r r'
theorem sameS_self (h : List (List S75)) (r : List S70) : sameS h r h r = true := by unfold sameS; rw [all2_self (all2_self recEq_self), all2_self rowEq_self]; rfl
theorem rsame_l2 (h : List (List S75)) (r : List S70) (h' : List (List S75)) (r' : List S70) (hs : Small h r) (hr : r.length = r'.length) (d : Nat) : ∀ (k i : Nat), i ≤ r.length → r.length - i = d → d + 1502 < k →
    spinnakerref13_Same.l2 k (i : Int) h r h' r' = some (all2 rowEq (r.drop i) (r'.drop i)) := by
  have hn := hs.2.1
  induction d with
  | zero =>
    intro k i hi hd hk
    obtain ⟨k, rfl⟩ : ∃ m, k = m + 1 := ⟨k - 1, by omega⟩
    simp only [spinnakerref13_Same.l2]
    rw [if_neg (by omega), List.drop_of_length_le (by omega), List.drop_of_length_le (by omega)]; rfl
  | succ d ih =>
    intro k i hi hd hk
    obtain ⟨k, rfl⟩ : ∃ m, k = m + 1 := ⟨k - 1, by omega⟩
    simp only [spinnakerref13_Same.l2]
    have h1 : i < r.length := by omega
    have h2 : i < r'.length := by omega
    rw [if_pos (by omega), if_pos (by omega), if_pos (by omega), rd70 h1, rd70 h2, List.drop_eq_getElem_cons h1, List.drop_eq_getElem_cons h2, w64n (i + 1) (by omega) (by omega)]
    show _ = some (((r[i].f0 == r'[i].f0) && all2 refEq r[i].f1 r'[i].f1) && all2 rowEq (r.drop (i + 1)) (r'.drop (i + 1)))
    by_cases h0 : r[i].f0 = r'[i].f0
    · rw [if_pos h0, beq_iff_eq.2 h0, Bool.true_and]
      refine bind_at (rrefs_f k _ _ (hs.2.2.2 _ (List.getElem_mem h1)) (by omega)) ?_
      rw [ih k (i + 1) (by omega) (by omega) (by omega)]
      cases all2 refEq r[i].f1 r'[i].f1 <;> rfl
    · rw [if_neg h0, beq_eq_false_iff_ne.2 h0]; rfl
theorem rsame_l1 (h : List (List S75)) (r : List S70) (h' : List (List S75)) (r' : List S70) (i : Nat) (hi : i < h.length) (hi' : i < h'.length) (hl : h[i].length = h'[i].length) (hn : h[i].length ≤ 1500) (hm : h.length ≤ 20) (z : Bool) (K : Nat)
    (hz : ∀ k, K ≤ k → spinnakerref13_Same.l0 k ((i + 1 : Nat) : Int) h r h' r' = some z) (d : Nat) : ∀ (k j : Nat), j ≤ h[i].length → h[i].length - j = d → d + K < k →
    spinnakerref13_Same.l1 k (i : Int) (j : Int) h r h' r' = some (all2 recEq (h[i].drop j) (h'[i].drop j) && z) := by
  induction d with
  | zero =>
    intro k j hj hd hk
    obtain ⟨k, rfl⟩ : ∃ m, k = m + 1 := ⟨k - 1, by omega⟩
    simp only [spinnakerref13_Same.l1]
    rw [if_pos (by omega), if_pos (by omega), rdL hi, if_neg (by omega), List.drop_of_length_le (by omega), List.drop_of_length_le (by omega), w64n (i + 1) (by omega) (by omega), hz k (by omega)]; rfl
  | succ d ih =>
    intro k j hj hd hk
    obtain ⟨k, rfl⟩ : ∃ m, k = m + 1 := ⟨k - 1, by omega⟩
    simp only [spinnakerref13_Same.l1]
    have h1 : j < h[i].length := by omega
    have h2 : j < h'[i].length := by omega
    rw [if_pos (by omega), if_pos (by omega), rdL hi, if_pos (by omega), if_pos (by omega), if_pos (by omega), rdL hi', if_pos (by omega), rd75 h1, rd75 h2, List.drop_eq_getElem_cons h1, List.drop_eq_getElem_cons h2, w64n (j + 1) (by omega) (by omega)]
    show (if recNe h[i][j] h'[i][j] = true then _ else _) = some ((recEq h[i][j] h'[i][j] && all2 recEq (h[i].drop (j + 1)) (h'[i].drop (j + 1))) && z)
    by_cases hq : recNe h[i][j] h'[i][j] = true
    · rw [if_pos hq, recEq, hq]; rfl
    · rw [if_neg hq, ih k (j + 1) (by omega) (by omega) (by omega), recEq, Bool.eq_false_iff.2 hq]; rfl
theorem rsame_l0 (h : List (List S75)) (r : List S70) (h' : List (List S75)) (r' : List S70) (hs : Small h r) (hh : h.length = h'.length) (hr : r.length = r'.length) (d : Nat) : ∀ (k i : Nat), i ≤ h.length → h.length - i = d → d * 1502 + 1800 ≤ k →
    spinnakerref13_Same.l0 k (i : Int) h r h' r' = some (all2 (all2 recEq) (h.drop i) (h'.drop i) && all2 rowEq r r') := by
  have hn := hs.1
  have hn2 := hs.2.1
  induction d with
  | zero =>
    intro k i hi hd hk
    obtain ⟨k, rfl⟩ : ∃ m, k = m + 1 := ⟨k - 1, by omega⟩
    simp only [spinnakerref13_Same.l0]
    have e := rsame_l2 h r h' r' hs hr r.length k 0 (by omega) (by omega) (by omega)
    rw [Int.natCast_zero] at e
    rw [if_neg (by omega), List.drop_of_length_le (by omega), List.drop_of_length_le (by omega), e]; rfl
  | succ d ih =>
    intro k i hi hd hk
    obtain ⟨k, rfl⟩ : ∃ m, k = m + 1 := ⟨k - 1, by omega⟩
    simp only [spinnakerref13_Same.l0]
    have h1 : i < h.length := by omega
    have h2 : i < h'.length := by omega
    have hx := hs.2.2.1 h[i] (List.getElem_mem h1)
    rw [if_pos (by omega), if_pos (by omega), if_pos (by omega), rdL h1, rdL h2, List.drop_eq_getElem_cons h1, List.drop_eq_getElem_cons h2]
    show _ = some ((all2 recEq h[i] h'[i] && all2 (all2 recEq) (h.drop (i + 1)) (h'.drop (i + 1))) && all2 rowEq r r')
    by_cases hl : h[i].length = h'[i].length
    · rw [if_pos (by omega)]
      have e := rsame_l1 h r h' r' i h1 h2 hl hx hn _ (d * 1502 + 1800) (fun k hk => ih k (i + 1) (by omega) (by omega) hk) h[i].length k 0 (by omega) (by omega) (by omega)
      rw [Int.natCast_zero] at e
      rw [e, Bool.and_assoc]; rfl
    · rw [if_neg (by omega), all2_len hl]; rfl
theorem rsame_f (k : Nat) (h : List (List S75)) (r : List S70) (h' : List (List S75)) (r' : List S70) (hs : Small h r) (hk : 32000 ≤ k) : spinnakerref13_Same.f k h r h' r' = some (sameS h r h' r') := by
  have hn := hs.1
  have hn2 := hs.2.1
  unfold spinnakerref13_Same.f sameS
  obtain ⟨k, rfl⟩ : ∃ m, k = m + 1 := ⟨k - 1, by omega⟩
  by_cases hh : h.length = h'.length
  · rw [if_pos (by omega)]
    by_cases hr : r.length = r'.length
    · have e : ((r.length : Int) != (r'.length : Int)) = false := by rw [hr]; simp
      simp only [spinnakerref13_Same.j0]
      rw [e, if_neg (by decide)]
      have := rsame_l0 h r h' r' hs hh hr h.length k 0 (by omega) (by omega) (by omega)
      rw [Int.natCast_zero] at this
      exact this
    · have e : ((r.length : Int) != (r'.length : Int)) = true := by simp; omega
      simp only [spinnakerref13_Same.j0]
      rw [e, if_pos rfl, all2_len hr, Bool.and_false]
  · rw [if_neg (by omega)]
    simp only [spinnakerref13_Same.j0]
    rw [if_pos trivial, all2_len hh]; rfl
def thereB (h : List (List S75)) (a b : Int) : Bool := decide (0 ≤ a) && (decide (a < (h.length : Int)) && (decide (0 ≤ b) && decide (b < ((rd_L5 h a).length : Int))))
theorem there_f (h : List (List S75)) (r : List S70) (a b : Int) : cand_there.f h r a b = some (thereB h a b) := by
  unfold cand_there.f thereB
  by_cases h1 : a ≥ 0
  · rw [if_pos h1, show decide (0 ≤ a) = true from decide_eq_true h1, Bool.true_and]
    by_cases h2 : a < (h.length : Int)
    · rw [if_pos h2, show decide (a < (h.length : Int)) = true from decide_eq_true h2, Bool.true_and]
      by_cases h3 : b ≥ 0
      · rw [if_pos h3, if_pos (by omega), show decide (0 ≤ b) = true from decide_eq_true h3, Bool.true_and]
      · rw [if_neg h3, show decide (0 ≤ b) = false from decide_eq_false h3]; rfl
    · rw [if_neg h2, show decide (a < (h.length : Int)) = false from decide_eq_false h2]; rfl
  · rw [if_neg h1, show decide (0 ≤ a) = false from decide_eq_false h1]; rfl
theorem rthere_f (h : List (List S75)) (r : List S70) (a b : Int) : spinnakerref13_There.f h r a b = some (thereB h a b) := by
  unfold spinnakerref13_There.f thereB
  by_cases h1 : a < 0
  · rw [if_pos h1, show decide (0 ≤ a) = false from decide_eq_false (by omega)]; rfl
  · rw [if_neg h1, show decide (0 ≤ a) = true from decide_eq_true (by omega), Bool.true_and]
    by_cases h2 : a ≥ (h.length : Int)
    · rw [if_pos h2, show decide (a < (h.length : Int)) = false from decide_eq_false (by omega)]; rfl
    · rw [if_neg h2, show decide (a < (h.length : Int)) = true from decide_eq_true (by omega), Bool.true_and]
      by_cases h3 : b ≥ 0
      · rw [if_pos h3, if_pos (by omega), if_pos (by omega), show decide (0 ≤ b) = true from decide_eq_true h3, Bool.true_and]
      · rw [if_neg h3, show decide (0 ≤ b) = false from decide_eq_false h3]; rfl
def recOk (h : List (List S75)) (x : S75) : Bool := !(x.f3 && x.f4) && ((x.f2.f0 == -1 && x.f2.f1 == 0) || thereB h x.f2.f0 x.f2.f1)
theorem records_l (h : List (List S75)) (r : List S70) (l : List S75) (hn : l.length ≤ 4000) (d : Nat) : ∀ (k i : Nat), i ≤ l.length → l.length - i = d → d < k → cand_records.l0 k l (l.length : Int) (i : Int) h r = some ((l.drop i).all (recOk h)) := by
  induction d with
  | zero =>
    intro k i hi hd hk
    obtain ⟨k, rfl⟩ : ∃ m, k = m + 1 := ⟨k - 1, by omega⟩
    simp only [cand_records.l0]
    rw [if_neg (by omega), List.drop_of_length_le (by omega)]; rfl
  | succ d ih =>
    intro k i hi hd hk
    obtain ⟨k, rfl⟩ : ∃ m, k = m + 1 := ⟨k - 1, by omega⟩
    simp only [cand_records.l0]
    have h1 : i < l.length := by omega
    rw [if_pos (by omega), if_pos (by omega), if_pos (by omega), rd75 h1, List.drop_eq_getElem_cons h1, w64n (i + 1) (by omega) (by omega), ih k (i + 1) (by omega) (by omega) (by omega), List.all_cons]
    have e : ∀ x : S75, (cand_start.f.bind fun bt => (if (!(x.f2.f0 == bt.1) || (!(x.f2.f1 == bt.2))) = true then ((cand_there.f h r x.f2.f0 x.f2.f1).bind fun t => (if t = true then some ((l.drop (i + 1)).all (recOk h)) else some false)) else some ((l.drop (i + 1)).all (recOk h)))) = some (((x.f2.f0 == -1 && x.f2.f1 == 0) || thereB h x.f2.f0 x.f2.f1) && (l.drop (i + 1)).all (recOk h)) := by
      intro x
      refine bind_at (show cand_start.f = some (-1, 0) from rfl) ?_
      show (if (!(x.f2.f0 == -1) || (!(x.f2.f1 == 0))) = true then _ else _) = _
      rw [← Bool.not_and]
      cases hq : (x.f2.f0 == -1 && x.f2.f1 == 0)
      · rw [Bool.not_false, if_pos rfl, Bool.false_or]
        refine bind_at (there_f h r _ _) ?_
        cases thereB h x.f2.f0 x.f2.f1 <;> rfl
      · rw [Bool.not_true, if_neg (by decide), Bool.true_or, Bool.true_and]
    unfold recOk at e ⊢
    cases hw : l[i].f3
    · rw [if_neg (by decide), Bool.false_and, Bool.not_false, Bool.true_and]; exact e l[i]
    · rw [if_pos rfl, Bool.true_and]
      cases hf : l[i].f4
      · rw [if_neg (by decide), Bool.not_false, Bool.true_and]; exact e l[i]
      · rw [if_pos rfl]; rfl
theorem records_f (k : Nat) (h : List (List S75)) (r : List S70) (l : List S75) (hn : l.length ≤ 4000) (hk : 4001 ≤ k) : cand_records.f k h r l = some (l.all (recOk h)) := by
  unfold cand_records.f
  have := records_l h r l hn l.length k 0 (by omega) (by omega) (by omega)
  rw [Int.natCast_zero] at this
  exact this
/-- The rows. -/
def okRef (h : List (List S75)) (r : List S70) (i k : Nat) : Bool := thereB h (rd_T73 (rd_T70 r i).f1 k).f0 (rd_T73 (rd_T70 r i).f1 k).f1 && !cmet r i k (rd_T73 (rd_T70 r i).f1 k).f0 (rd_T73 (rd_T70 r i).f1 k).f1
def refsS (h : List (List S75)) (r : List S70) (i : Nat) : Nat → Nat → Bool
  | 0, _ => true
  | d + 1, k => okRef h r i k && refsS h r i d (k + 1)
def headS (r : List S70) (i : Nat) : Bool := decide ((rd_T70 r i).f1.length = 0) || (decide (0 < i) && decide ((rd_T70 r i).f0 ≤ (rd_T70 r ((i : Int) - 1)).f0))
def rowsS (h : List (List S75)) (r : List S70) : Nat → Nat → Bool
  | 0, _ => true
  | d + 1, i => !headS r i && (refsS h r i (rd_T70 r i).f1.length 0 && rowsS h r d (i + 1))
/-- What a candidate's rows hold. -/
structure RowsIn (r : List S70) : Prop where
  len : r.length ≤ 4000
  lens : ∀ x ∈ r, x.f1.length ≤ 4000
  sum : (r.map fun x => x.f1.length).sum < 1000000
  wf : ∀ x ∈ r, ∀ y ∈ x.f1, (Lit.int .i64 y.f0).wf = true ∧ (Lit.int .i64 y.f1).wf = true
theorem camt_le {r : List S70} {i : Nat} (hi : i < r.length) (k : Nat) : camt r i k ≤ (r.map fun x => x.f1.length).sum := by
  unfold camt
  have e : r = r.take i ++ (r[i] :: r.drop (i + 1)) := by rw [← List.drop_eq_getElem_cons hi, List.take_append_drop]
  have e2 : (r.map fun x => x.f1.length).sum = ((r.take i).map fun x => x.f1.length).sum + (r[i].f1.length + ((r.drop (i + 1)).map fun x => x.f1.length).sum) := by
    conv => lhs; rw [e]
    rw [List.map_append, List.sum_append, List.map_cons, List.sum_cons]
  rw [e2, rd70 hi, Int.toNat_natCast, Int.toNat_natCast, List.length_take]
  omega
theorem met_f {r : List S70} (hr : RowsIn r) {i k : Nat} (hi : i < r.length) (hk : k < r[i].f1.length) : cand_met.f r i k r[i].f1[k].f0 r[i].f1[k].f1 = some (if cmet r i k r[i].f1[k].f0 r[i].f1[k].f1 = true then 1 else 0) := by
  unfold cand_met.f
  have hw := hr.wf _ (List.getElem_mem hi) _ (List.getElem_mem hk)
  rw [if_pos ⟨hw.1, hw.2, Nat.lt_of_le_of_lt (camt_le hi k) hr.sum⟩]
theorem rows_l1 (h : List (List S75)) (r : List S70) (hr : RowsIn r) (i : Nat) (hi : i < r.length) (z : Bool) (K : Nat) (hz : ∀ k, K ≤ k → cand_rows.l0 k r (r.length : Int) ((i + 1 : Nat) : Int) h r = some z) (d : Nat) :
    ∀ (k j : Nat), j ≤ r[i].f1.length → r[i].f1.length - j = d → d + K < k → cand_rows.l1 k r (r.length : Int) (i : Int) r[i].f1 (r[i].f1.length : Int) (j : Int) h r = some (refsS h r i d j && z) := by
  have hl := hr.lens _ (List.getElem_mem hi)
  have hlr := hr.len
  induction d with
  | zero =>
    intro k j hj hd hk
    obtain ⟨k, rfl⟩ : ∃ m, k = m + 1 := ⟨k - 1, by omega⟩
    simp only [cand_rows.l1]
    rw [if_neg (by omega), w64n (i + 1) (by omega) (by omega), hz k (by omega)]; rfl
  | succ d ih =>
    intro k j hj hd hk
    obtain ⟨k, rfl⟩ : ∃ m, k = m + 1 := ⟨k - 1, by omega⟩
    simp only [cand_rows.l1]
    have h1 : j < r[i].f1.length := by omega
    rw [if_pos (by omega), if_pos (by omega), if_pos (by omega), rd73 h1, w64n (j + 1) (by omega) (by omega), ih k (j + 1) (by omega) (by omega) (by omega)]
    refine bind_at (met_f hr hi h1) ?_
    show _ = some ((okRef h r i j && refsS h r i d (j + 1)) && z)
    unfold okRef
    rw [rd70 hi, rd73 h1]
    cases hc : cmet r i j r[i].f1[j].f0 r[i].f1[j].f1
    · rw [if_neg (by decide)]
      refine bind_at (there_f h r _ _) ?_
      cases thereB h r[i].f1[j].f0 r[i].f1[j].f1
      · rfl
      · rw [if_pos rfl]; rfl
    · rw [if_pos rfl, if_pos (by decide), Bool.not_true, Bool.and_false]; rfl
theorem rows_l0 (h : List (List S75)) (r : List S70) (hr : RowsIn r) (d : Nat) : ∀ (k i : Nat), i ≤ r.length → r.length - i = d → d * 4003 + 1 ≤ k → cand_rows.l0 k r (r.length : Int) (i : Int) h r = some (rowsS h r d i) := by
  have hlr := hr.len
  induction d with
  | zero =>
    intro k i hi hd hk
    obtain ⟨k, rfl⟩ : ∃ m, k = m + 1 := ⟨k - 1, by omega⟩
    simp only [cand_rows.l0]
    rw [if_neg (by omega)]; rfl
  | succ d ih =>
    intro k i hi hd hk
    obtain ⟨k, rfl⟩ : ∃ m, k = m + 1 := ⟨k - 1, by omega⟩
    have h1 : i < r.length := by omega
    have hl := hr.lens _ (List.getElem_mem h1)
    have e := rows_l1 h r hr i h1 (rowsS h r d (i + 1)) (d * 4003 + 1) (fun k hk => ih k (i + 1) (by omega) (by omega) hk) r[i].f1.length
    have hj : ∀ b : Bool, cand_rows.j1 k r (r.length : Int) (i : Int) b h r r[i].f0 r[i].f1 = some (!b && (refsS h r i r[i].f1.length 0 && rowsS h r d (i + 1))) := by
      intro b
      obtain ⟨k, rfl⟩ : ∃ m, k = m + 1 := ⟨k - 1, by omega⟩
      simp only [cand_rows.j1]
      cases b
      · rw [if_neg (by decide)]
        have e2 := e k 0 (by omega) (by omega) (by omega)
        rw [Int.natCast_zero] at e2
        exact e2
      · rfl
    simp only [cand_rows.l0]
    show _ = some (!headS r i && (refsS h r i (rd_T70 r i).f1.length 0 && rowsS h r d (i + 1)))
    unfold headS
    rw [if_pos (by omega), if_pos (by omega), if_pos (by omega), rd70 h1]
    by_cases h2 : r[i].f1.length = 0
    · rw [if_pos (by omega), hj, show decide (r[i].f1.length = 0) = true from decide_eq_true h2, Bool.true_or]
    · rw [if_neg (by omega), show decide (r[i].f1.length = 0) = false from decide_eq_false h2, Bool.false_or]
      by_cases h3 : 0 < i
      · rw [if_pos (by omega), w64 (x := (i : Int) - 1) (by omega) (by omega), if_pos (by omega), if_pos (by omega), hj, show decide (0 < i) = true from decide_eq_true h3, Bool.true_and]
      · rw [if_neg (by omega), hj, show decide (0 < i) = false from decide_eq_false h3, Bool.false_and]
theorem rows_f (k : Nat) (h : List (List S75)) (r : List S70) (hr : RowsIn r) (hk : 16012001 ≤ k) : cand_rows.f k h r = some (rowsS h r r.length 0) := by
  have hlr := hr.len
  unfold cand_rows.f
  have := rows_l0 h r hr r.length k 0 (by omega) (by omega) (by omega)
  rw [Int.natCast_zero] at this
  exact this

/-- What is wrong with a candidate. -/
def chk (h : List (List S75)) (r : List S70) : Int := if h.length > 8 then 2 else if h.any (fun l => decide (l.length > 1024)) then 3 else if h.all (fun l => l.all (recOk h)) && rowsS h r r.length 0 then 0 else 1
theorem check_l1 (h : List (List S75)) (r : List S70) (hn : h.length ≤ 4000) (hs : ∀ x ∈ h, x.length ≤ 4000) (hr : RowsIn r) (d : Nat) : ∀ (k i : Nat), i ≤ h.length → h.length - i = d → d + 16012001 < k → cand_Check.l1 k h (h.length : Int) (i : Int) h r = some (if (h.drop i).all (fun l => l.all (recOk h)) && rowsS h r r.length 0 then 0 else 1) := by
  induction d with
  | zero =>
    intro k i hi hd hk
    obtain ⟨k, rfl⟩ : ∃ m, k = m + 1 := ⟨k - 1, by omega⟩
    simp only [cand_Check.l1]
    rw [if_neg (by omega), List.drop_of_length_le (by omega)]
    refine bind_at (rows_f k h r hr (by omega)) ?_
    cases rowsS h r r.length 0 <;> rfl
  | succ d ih =>
    intro k i hi hd hk
    obtain ⟨k, rfl⟩ : ∃ m, k = m + 1 := ⟨k - 1, by omega⟩
    simp only [cand_Check.l1]
    have h1 : i < h.length := by omega
    rw [if_pos (by omega), if_pos (by omega), if_pos (by omega), rdL h1, List.drop_eq_getElem_cons h1, w64n (i + 1) (by omega) (by omega), ih k (i + 1) (by omega) (by omega) (by omega), List.all_cons]
    refine bind_at (records_f k h r h[i] (hs _ (List.getElem_mem h1)) (by omega)) ?_
    cases h[i].all (recOk h)
    · rfl
    · rw [if_pos rfl, Bool.true_and]
theorem check_l0 (h : List (List S75)) (r : List S70) (hn : h.length ≤ 4000) (hs : ∀ x ∈ h, x.length ≤ 4000) (hr : RowsIn r) (d : Nat) : ∀ (k i : Nat), i ≤ h.length → h.length - i = d → d + 16020000 < k → cand_Check.l0 k h (h.length : Int) (i : Int) h r = some (if (h.drop i).any (fun l => decide (l.length > 1024)) then 3 else if h.all (fun l => l.all (recOk h)) && rowsS h r r.length 0 then 0 else 1) := by
  induction d with
  | zero =>
    intro k i hi hd hk
    obtain ⟨k, rfl⟩ : ∃ m, k = m + 1 := ⟨k - 1, by omega⟩
    simp only [cand_Check.l0]
    have e := check_l1 h r hn hs hr h.length k 0 (by omega) (by omega) (by omega)
    rw [Int.natCast_zero, List.drop_zero] at e
    rw [if_neg (by omega), List.drop_of_length_le (by omega), e]; rfl
  | succ d ih =>
    intro k i hi hd hk
    obtain ⟨k, rfl⟩ : ∃ m, k = m + 1 := ⟨k - 1, by omega⟩
    simp only [cand_Check.l0]
    have h1 : i < h.length := by omega
    rw [if_pos (by omega), if_pos (by omega), if_pos (by omega), rdL h1, List.drop_eq_getElem_cons h1, w64n (i + 1) (by omega) (by omega), ih k (i + 1) (by omega) (by omega) (by omega), List.any_cons]
    by_cases h2 : h[i].length > 1024
    · rw [if_pos (by omega), show decide (h[i].length > 1024) = true from decide_eq_true h2]; rfl
    · rw [if_neg (by omega), show decide (h[i].length > 1024) = false from decide_eq_false h2, Bool.false_or]
theorem check_f (k : Nat) (h : List (List S75)) (r : List S70) (hn : h.length ≤ 4000) (hs : ∀ x ∈ h, x.length ≤ 4000) (hr : RowsIn r) (hk : 16030000 ≤ k) : cand_Check.f k h r = some (chk h r) := by
  unfold cand_Check.f chk
  by_cases h1 : h.length > 8
  · rw [if_pos (by omega), if_pos h1]
  · rw [if_neg (by omega), if_neg h1]
    have e := check_l0 h r hn hs hr h.length k 0 (by omega) (by omega) (by omega)
    rw [Int.natCast_zero, List.drop_zero] at e
    exact e
theorem twice_l1 (h : List (List S75)) (r : List S70) (hr : RowsIn r) (row at_ : Nat) (a b : Int) (i : Nat) (hi : i < r.length) (hir : i ≤ row) (z : Bool) (K : Nat) (hz : ∀ k, K ≤ k → spinnakerref13_twice.l0 k (row : Int) (at_ : Int) ((i + 1 : Nat) : Int) h r a b = some z) (d : Nat) :
    ∀ (k j : Nat), j ≤ r[i].f1.length → r[i].f1.length - j = d → d + K < k → spinnakerref13_twice.l1 k (row : Int) (at_ : Int) (i : Int) (j : Int) h r a b = some ((((if i < row then r[i].f1 else r[i].f1.take at_).drop j).any fun y => y.f0 == a && y.f1 == b) || z) := by
  have hl := hr.lens _ (List.getElem_mem hi)
  have hlr := hr.len
  induction d with
  | zero =>
    intro k j hj hd hk
    obtain ⟨k, rfl⟩ : ∃ m, k = m + 1 := ⟨k - 1, by omega⟩
    simp only [spinnakerref13_twice.l1]
    have e : (if i < row then r[i].f1 else r[i].f1.take at_).drop j = [] := by
      split
      · rw [List.drop_of_length_le (by omega)]
      · rw [List.drop_of_length_le (by rw [List.length_take]; omega)]
    rw [if_pos (by omega), if_pos (by omega), rd70 hi, if_neg (by omega), w64n (i + 1) (by omega) (by omega), hz k (by omega), e]; rfl
  | succ d ih =>
    intro k j hj hd hk
    obtain ⟨k, rfl⟩ : ∃ m, k = m + 1 := ⟨k - 1, by omega⟩
    simp only [spinnakerref13_twice.l1]
    have h1 : j < r[i].f1.length := by omega
    rw [if_pos (by omega), if_pos (by omega), rd70 hi, if_pos (by omega), rd73 h1, w64n (j + 1) (by omega) (by omega), ih k (j + 1) (by omega) (by omega) (by omega)]
    by_cases h2 : i < row
    · rw [if_pos (by omega), if_pos (by omega), if_pos h2, List.drop_eq_getElem_cons h1, List.any_cons]
      cases hq : (r[i].f1[j].f0 == a && r[i].f1[j].f1 == b)
      · rw [if_neg (by decide), Bool.false_or]
      · rw [if_pos rfl, Bool.true_or]; rfl
    · rw [if_neg (by omega), if_neg h2]
      by_cases h3 : j < at_
      · have h4 : j < (r[i].f1.take at_).length := by rw [List.length_take]; omega
        rw [if_pos (by omega), if_pos (by omega), List.drop_eq_getElem_cons h4, List.any_cons, List.getElem_take]
        cases hq : (r[i].f1[j].f0 == a && r[i].f1[j].f1 == b)
        · rw [if_neg (by decide), Bool.false_or]
        · rw [if_pos rfl, Bool.true_or]; rfl
      · rw [if_neg (by omega), List.drop_of_length_le (by rw [List.length_take]; omega), List.drop_of_length_le (by rw [List.length_take]; omega)]
theorem twice_l0 (h : List (List S75)) (r : List S70) (hr : RowsIn r) (row at_ : Nat) (hrow : row < r.length) (a b : Int) (d : Nat) : ∀ (k i : Nat), i ≤ row + 1 → row + 1 - i = d → d * 4003 + 1 ≤ k →
    spinnakerref13_twice.l0 k (row : Int) (at_ : Int) (i : Int) h r a b = some ((((r.take row).drop i).any fun x => x.f1.any fun y => y.f0 == a && y.f1 == b) || (decide (i ≤ row) && ((r[row].f1.take at_).any fun y => y.f0 == a && y.f1 == b))) := by
  have hlr := hr.len
  induction d with
  | zero =>
    intro k i hi hd hk
    obtain ⟨k, rfl⟩ : ∃ m, k = m + 1 := ⟨k - 1, by omega⟩
    simp only [spinnakerref13_twice.l0]
    rw [if_neg (by omega), List.drop_of_length_le (by rw [List.length_take]; omega), show decide (i ≤ row) = false from decide_eq_false (by omega)]; rfl
  | succ d ih =>
    intro k i hi hd hk
    obtain ⟨k, rfl⟩ : ∃ m, k = m + 1 := ⟨k - 1, by omega⟩
    simp only [spinnakerref13_twice.l0]
    have h1 : i < r.length := by omega
    have hl := hr.lens _ (List.getElem_mem h1)
    have e := twice_l1 h r hr row at_ a b i h1 (by omega) _ (d * 4003 + 1) (fun k hk => ih k (i + 1) (by omega) (by omega) hk) r[i].f1.length k 0 (by omega) (by omega) (by omega)
    rw [Int.natCast_zero, List.drop_zero] at e
    rw [if_pos (by omega), e, show decide (i ≤ row) = true from decide_eq_true (by omega), Bool.true_and]
    by_cases h2 : i < row
    · have h3 : i < (r.take row).length := by rw [List.length_take]; omega
      rw [if_pos h2, List.drop_eq_getElem_cons h3, List.any_cons, List.getElem_take, show decide (i + 1 ≤ row) = true from decide_eq_true (by omega), Bool.true_and, Bool.or_assoc]
    · obtain rfl : i = row := by omega
      rw [if_neg h2, show decide (i + 1 ≤ i) = false from decide_eq_false (by omega), List.drop_of_length_le (by rw [List.length_take]; omega), List.drop_of_length_le (by rw [List.length_take]; omega)]
      simp
theorem twice_f (k : Nat) (h : List (List S75)) (r : List S70) (hr : RowsIn r) (i j : Nat) (hi : i < r.length) (hj : j < r[i].f1.length) (hk : 16020001 ≤ k) : spinnakerref13_twice.f k h r (i : Int) (j : Int) = some (cmet r i j r[i].f1[j].f0 r[i].f1[j].f1) := by
  have hlr := hr.len
  unfold spinnakerref13_twice.f cmet
  rw [if_pos (by omega), if_pos (by omega), if_pos (by omega), rd70 hi, if_pos (by omega), rd73 hj]
  have e := twice_l0 h r hr i j hi r[i].f1[j].f0 r[i].f1[j].f1 (i + 1) k 0 (by omega) (by omega) (by omega)
  rw [Int.natCast_zero, List.drop_zero] at e
  rw [e, show decide (0 ≤ i) = true from decide_eq_true (by omega), Bool.true_and]
  rfl
theorem rrows_l4 (h : List (List S75)) (r : List S70) (hr : RowsIn r) (i : Nat) (hi : i < r.length) (z : Int) (K : Nat) (hK : 16020001 ≤ K) (hz : ∀ k, K ≤ k → spinnakerref13_Check.l3 k ((i + 1 : Nat) : Int) h r = some z) (d : Nat) :
    ∀ (k j : Nat), j ≤ r[i].f1.length → r[i].f1.length - j = d → d + K < k → spinnakerref13_Check.l4 k (i : Int) (j : Int) h r = some (if refsS h r i d j then z else 1) := by
  have hl := hr.lens _ (List.getElem_mem hi)
  have hlr := hr.len
  induction d with
  | zero =>
    intro k j hj hd hk
    obtain ⟨k, rfl⟩ : ∃ m, k = m + 1 := ⟨k - 1, by omega⟩
    simp only [spinnakerref13_Check.l4]
    rw [if_pos (by omega), if_pos (by omega), rd70 hi, if_neg (by omega), w64n (i + 1) (by omega) (by omega), hz k (by omega)]; rfl
  | succ d ih =>
    intro k j hj hd hk
    obtain ⟨k, rfl⟩ : ∃ m, k = m + 1 := ⟨k - 1, by omega⟩
    simp only [spinnakerref13_Check.l4]
    have h1 : j < r[i].f1.length := by omega
    rw [if_pos (by omega), if_pos (by omega), rd70 hi, if_pos (by omega), if_pos (by omega), rd73 h1, w64n (j + 1) (by omega) (by omega), ih k (j + 1) (by omega) (by omega) (by omega)]
    refine bind_at (rthere_f h r _ _) ?_
    show _ = some (if (okRef h r i j && refsS h r i d (j + 1)) = true then z else 1)
    unfold okRef
    rw [rd70 hi, rd73 h1]
    cases thereB h r[i].f1[j].f0 r[i].f1[j].f1
    · rfl
    · rw [if_pos rfl]
      refine bind_at (twice_f k h r hr i j hi h1 (by omega)) ?_
      cases cmet r i j r[i].f1[j].f0 r[i].f1[j].f1
      · rw [if_neg (by decide)]; rfl
      · rfl
theorem rrows_l3 (h : List (List S75)) (r : List S70) (hr : RowsIn r) (d : Nat) : ∀ (k i : Nat), i ≤ r.length → r.length - i = d → d * 4004 + 16020001 ≤ k → spinnakerref13_Check.l3 k (i : Int) h r = some (if rowsS h r d i then 0 else 1) := by
  have hlr := hr.len
  induction d with
  | zero =>
    intro k i hi hd hk
    obtain ⟨k, rfl⟩ : ∃ m, k = m + 1 := ⟨k - 1, by omega⟩
    simp only [spinnakerref13_Check.l3]
    rw [if_neg (by omega)]; rfl
  | succ d ih =>
    intro k i hi hd hk
    obtain ⟨k, rfl⟩ : ∃ m, k = m + 1 := ⟨k - 1, by omega⟩
    have h1 : i < r.length := by omega
    have hl := hr.lens _ (List.getElem_mem h1)
    have e := rrows_l4 h r hr i h1 (if rowsS h r d (i + 1) then 0 else 1) (d * 4004 + 16020001) (by omega) (fun k hk => ih k (i + 1) (by omega) (by omega) hk) r[i].f1.length
    have hj : ∀ b : Bool, spinnakerref13_Check.j4 k (i : Int) b h r = some (if (!b && (refsS h r i r[i].f1.length 0 && rowsS h r d (i + 1))) = true then 0 else 1) := by
      intro b
      obtain ⟨k, rfl⟩ : ∃ m, k = m + 1 := ⟨k - 1, by omega⟩
      simp only [spinnakerref13_Check.j4]
      cases b
      · rw [if_neg (by decide)]
        have e2 := e k 0 (by omega) (by omega) (by omega)
        rw [Int.natCast_zero] at e2
        rw [e2]
        cases refsS h r i r[i].f1.length 0 <;> rfl
      · rfl
    simp only [spinnakerref13_Check.l3]
    show _ = some (if (!headS r i && (refsS h r i (rd_T70 r i).f1.length 0 && rowsS h r d (i + 1))) = true then 0 else 1)
    unfold headS
    rw [if_pos (by omega), if_pos (by omega), rd70 h1]
    by_cases h2 : r[i].f1.length = 0
    · rw [if_pos (by omega), hj, show decide (r[i].f1.length = 0) = true from decide_eq_true h2, Bool.true_or]
    · rw [if_neg (by omega), show decide (r[i].f1.length = 0) = false from decide_eq_false h2, Bool.false_or]
      by_cases h3 : 0 < i
      · rw [if_pos (by omega), w64 (x := (i : Int) - 1) (by omega) (by omega), if_pos (by omega), if_pos (by omega), hj, show decide (0 < i) = true from decide_eq_true h3, Bool.true_and]
      · rw [if_neg (by omega), hj, show decide (0 < i) = false from decide_eq_false h3, Bool.false_and]
theorem rrecs_l2 (h : List (List S75)) (r : List S70) (hn : h.length ≤ 4000) (i : Nat) (hi : i < h.length) (hl : h[i].length ≤ 4000) (z : Int) (K : Nat) (hz : ∀ k, K ≤ k → spinnakerref13_Check.l1 k ((i + 1 : Nat) : Int) h r = some z) (d : Nat) :
    ∀ (k j : Nat), j ≤ h[i].length → h[i].length - j = d → d + K < k → spinnakerref13_Check.l2 k (i : Int) (j : Int) h r = some (if (h[i].drop j).all (recOk h) then z else 1) := by
  induction d with
  | zero =>
    intro k j hj hd hk
    obtain ⟨k, rfl⟩ : ∃ m, k = m + 1 := ⟨k - 1, by omega⟩
    simp only [spinnakerref13_Check.l2]
    rw [if_pos (by omega), if_pos (by omega), rdL hi, if_neg (by omega), w64n (i + 1) (by omega) (by omega), hz k (by omega), List.drop_of_length_le (by omega)]; rfl
  | succ d ih =>
    intro k j hj hd hk
    obtain ⟨k, rfl⟩ : ∃ m, k = m + 1 := ⟨k - 1, by omega⟩
    simp only [spinnakerref13_Check.l2]
    have h1 : j < h[i].length := by omega
    rw [if_pos (by omega), if_pos (by omega), rdL hi, if_pos (by omega), if_pos (by omega), rd75 h1, w64n (j + 1) (by omega) (by omega), ih k (j + 1) (by omega) (by omega) (by omega), List.drop_eq_getElem_cons h1, List.all_cons]
    have tz : ∀ (x : S75) (v : Option Int), v = some (if (thereB h x.f2.f0 x.f2.f1 && (h[i].drop (j + 1)).all (recOk h)) = true then z else 1) → ((spinnakerref13_There.f h r x.f2.f0 x.f2.f1).bind fun t => (if t = true then some (if (h[i].drop (j + 1)).all (recOk h) = true then z else 1) else some 1)) = v := by
      intro x v hv
      rw [hv]
      refine bind_at (rthere_f h r _ _) ?_
      cases thereB h x.f2.f0 x.f2.f1 <;> rfl
    unfold recOk at tz ⊢
    by_cases h2 : h[i][j].f2.f0 = -1
    · rw [if_pos h2, show (h[i][j].f2.f0 == -1) = true from beq_iff_eq.2 h2, Bool.true_and]
      by_cases h3 : h[i][j].f2.f1 = 0
      · rw [if_pos h3, show (h[i][j].f2.f1 == 0) = true from beq_iff_eq.2 h3, Bool.true_or, Bool.and_true]
        cases h[i][j].f3
        · rw [if_neg (by decide)]; rfl
        · rw [if_pos rfl]
          cases h[i][j].f4
          · rw [if_neg (by decide)]; rfl
          · rfl
      · rw [if_neg h3, show (h[i][j].f2.f1 == 0) = false from beq_eq_false_iff_ne.2 h3, Bool.false_or]
        cases h[i][j].f3
        · rw [if_neg (by decide)]; exact tz h[i][j] _ rfl
        · rw [if_pos rfl]
          cases h[i][j].f4
          · rw [if_neg (by decide)]; exact tz h[i][j] _ rfl
          · rfl
    · rw [if_neg h2, show (h[i][j].f2.f0 == -1) = false from beq_eq_false_iff_ne.2 h2, Bool.false_and, Bool.false_or]
      cases h[i][j].f3
      · rw [if_neg (by decide)]; exact tz h[i][j] _ rfl
      · rw [if_pos rfl]
        cases h[i][j].f4
        · rw [if_neg (by decide)]; exact tz h[i][j] _ rfl
        · rfl
theorem rrecs_l1 (h : List (List S75)) (r : List S70) (hn : h.length ≤ 4000) (hs : ∀ x ∈ h, x.length ≤ 4000) (hr : RowsIn r) (d : Nat) : ∀ (k i : Nat), i ≤ h.length → h.length - i = d → d * 4003 + 33000000 ≤ k →
    spinnakerref13_Check.l1 k (i : Int) h r = some (if (h.drop i).all (fun l => l.all (recOk h)) && rowsS h r r.length 0 then 0 else 1) := by
  have hlr := hr.len
  induction d with
  | zero =>
    intro k i hi hd hk
    obtain ⟨k, rfl⟩ : ∃ m, k = m + 1 := ⟨k - 1, by omega⟩
    simp only [spinnakerref13_Check.l1]
    have e := rrows_l3 h r hr r.length k 0 (by omega) (by omega) (by omega)
    rw [Int.natCast_zero] at e
    rw [if_neg (by omega), List.drop_of_length_le (by omega), e]; rfl
  | succ d ih =>
    intro k i hi hd hk
    obtain ⟨k, rfl⟩ : ∃ m, k = m + 1 := ⟨k - 1, by omega⟩
    have h1 : i < h.length := by omega
    have hl := hs _ (List.getElem_mem h1)
    simp only [spinnakerref13_Check.l1]
    have e := rrecs_l2 h r hn i h1 hl _ (d * 4003 + 33000000) (fun k hk => ih k (i + 1) (by omega) (by omega) hk) h[i].length k 0 (by omega) (by omega) (by omega)
    rw [Int.natCast_zero, List.drop_zero] at e
    rw [if_pos (by omega), e, List.drop_eq_getElem_cons h1, List.all_cons]
    cases h[i].all (recOk h) <;> rfl
theorem rcheck_l0 (h : List (List S75)) (r : List S70) (hn : h.length ≤ 4000) (hs : ∀ x ∈ h, x.length ≤ 4000) (hr : RowsIn r) (d : Nat) : ∀ (k i : Nat), i ≤ h.length → h.length - i = d → d + 49020000 < k → spinnakerref13_Check.l0 k (i : Int) h r = some (if (h.drop i).any (fun l => decide (l.length > 1024)) then 3 else if h.all (fun l => l.all (recOk h)) && rowsS h r r.length 0 then 0 else 1) := by
  induction d with
  | zero =>
    intro k i hi hd hk
    obtain ⟨k, rfl⟩ : ∃ m, k = m + 1 := ⟨k - 1, by omega⟩
    simp only [spinnakerref13_Check.l0]
    have e := rrecs_l1 h r hn hs hr h.length k 0 (by omega) (by omega) (by omega)
    rw [Int.natCast_zero, List.drop_zero] at e
    rw [if_neg (by omega), List.drop_of_length_le (by omega), e]; rfl
  | succ d ih =>
    intro k i hi hd hk
    obtain ⟨k, rfl⟩ : ∃ m, k = m + 1 := ⟨k - 1, by omega⟩
    simp only [spinnakerref13_Check.l0]
    have h1 : i < h.length := by omega
    rw [if_pos (by omega), if_pos (by omega), rdL h1, List.drop_eq_getElem_cons h1, w64n (i + 1) (by omega) (by omega), ih k (i + 1) (by omega) (by omega) (by omega), List.any_cons]
    by_cases h2 : h[i].length > 1024
    · rw [if_pos (by omega), show decide (h[i].length > 1024) = true from decide_eq_true h2]; rfl
    · rw [if_neg (by omega), show decide (h[i].length > 1024) = false from decide_eq_false h2, Bool.false_or]
theorem rcheck_f (k : Nat) (h : List (List S75)) (r : List S70) (hn : h.length ≤ 4000) (hs : ∀ x ∈ h, x.length ≤ 4000) (hr : RowsIn r) (hk : 50000000 ≤ k) : spinnakerref13_Check.f k h r = some (chk h r) := by
  unfold spinnakerref13_Check.f chk
  by_cases h1 : h.length > 8
  · rw [if_pos (by omega), if_pos h1]
  · rw [if_neg (by omega), if_neg h1]
    have e := rcheck_l0 h r hn hs hr h.length k 0 (by omega) (by omega) (by omega)
    rw [Int.natCast_zero, List.drop_zero] at e
    exact e

/-- Numbers' bytes. -/
def viF : Nat → Nat → List Int
  | 0, u => [(u : Int)]
  | f + 1, u => if u < 128 then [(u : Int)] else ((u % 128 + 128 : Nat) : Int) :: viF f (u / 128)
def zz (n : Int) : Nat := if n < 0 then (2 * (-(n + 1)) + 1).toNat else (2 * n).toNat
def num (n : Int) : List Int := viF 9 (zz n)
def unz (u : Nat) : Int := if u % 2 = 0 then ((u / 2 : Nat) : Int) else -((u / 2 : Nat) : Int) - 1
theorem zz_unz (u : Nat) : zz (unz u) = u := by
  unfold zz unz
  split <;> split <;> omega
theorem unz_in {u : Nat} (h : u < 18446744073709551616) : -9223372036854775808 ≤ unz u ∧ unz u < 9223372036854775808 := by
  unfold unz
  split <;> omega
theorem zz_lt {n : Int} (h : -9223372036854775808 ≤ n) (h2 : n < 9223372036854775808) : zz n < 18446744073709551616 := by
  unfold zz
  split <;> omega
theorem wrap64_u (n : Int) (h0 : 0 ≤ n) (h1 : n < 2 ^ 64) : IntKind.u64.wrap n = n := by
  rw [wu64, show (18446744073709551616 : Int) = 2 ^ 64 from by decide]; exact Int.emod_eq_of_lt h0 h1
theorem and1 (u : Nat) (h : u < 18446744073709551616) : Go.bits .and .u64 (u : Int) 1 = ((u % 2 : Nat) : Int) := by
  have h64 : (2 : Nat) ^ 64 = 18446744073709551616 := by decide
  have e := (Go.bits_nat .u64 64 (by decide) wrap64_u u 1 (h64 ▸ h) (by decide)).1
  rw [Nat.and_one_is_mod] at e
  exact e
theorem or64 (a b : Nat) (ha : a < 18446744073709551616) (hb : b < 18446744073709551616) : Go.bits .or .u64 (a : Int) (b : Int) = ((a ||| b : Nat) : Int) := by
  have h64 : (2 : Nat) ^ 64 = 18446744073709551616 := by decide
  exact (Go.bits_nat .u64 64 (by decide) wrap64_u a b (h64 ▸ ha) (h64 ▸ hb)).2
theorem and127 : ∀ c : Nat, c < 256 → Go.bits .and .u8 (c : Int) 127 = ((c % 128 : Nat) : Int) := by decide +kernel
theorem xorI0 (a : Nat) (h : a < 9223372036854775808) : Go.bits .xor .i64 (a : Int) 0 = (a : Int) := by
  have e : Go.bits .xor .i64 (a : Int) 0 = IntKind.i64.wrap ((BitVec.ofInt 64 (a : Int) ^^^ BitVec.ofInt 64 0).toNat : Int) := rfl
  rw [e, show BitVec.ofInt 64 0 = 0#64 from by decide, BitVec.xor_zero, BitVec.ofInt_natCast, BitVec.toNat_ofNat, Nat.mod_eq_of_lt (by omega)]
  rw [i64_w]; exact w64 (by omega) (by omega)
theorem xorI1 (a : Nat) (h : a < 9223372036854775808) : Go.bits .xor .i64 (a : Int) (-1) = -(a : Int) - 1 := by
  have e : Go.bits .xor .i64 (a : Int) (-1) = IntKind.i64.wrap ((BitVec.ofInt 64 (a : Int) ^^^ BitVec.ofInt 64 (-1)).toNat : Int) := rfl
  rw [e, show BitVec.ofInt 64 (-1) = BitVec.allOnes 64 from by decide, BitVec.xor_allOnes, BitVec.ofInt_natCast, BitVec.toNat_not, BitVec.toNat_ofNat, Nat.mod_eq_of_lt (by omega)]
  rw [i64_w]; unfold wrap64
  omega
theorem unz_f (u : Nat) (h : u < 18446744073709551616) : Go.bits .xor .i64 (wrap64 ((u : Int) / 2)) (wrap64 (-(wrap64 (Go.bits .and .u64 (u : Int) 1)))) = unz u := by
  rw [and1 u h, w64n (u % 2) rfl (by omega), w64n (u / 2) (by omega) (by omega)]
  unfold unz
  by_cases h2 : u % 2 = 0
  · rw [if_pos h2, h2, show wrap64 (-((0 : Nat) : Int)) = 0 from by unfold wrap64; omega]
    exact xorI0 _ (by omega)
  · rw [if_neg h2, show u % 2 = 1 from by omega, show wrap64 (-((1 : Nat) : Int)) = -1 from by unfold wrap64; omega]
    exact xorI1 _ (by omega)
theorem shl64 (x s : Nat) (hs : s ≤ 64) (h : x * 2 ^ s < 18446744073709551616) : shl .u64 (x : Int) (s : Int) = ((x * 2 ^ s : Nat) : Int) := by
  unfold shl
  rw [show IntKind.u64.bits = 64 from rfl, Int.toNat_natCast, show min s 64 = s from by omega]
  have e : (x : Int) * 2 ^ s = ((x * 2 ^ s : Nat) : Int) := by rw [Int.natCast_mul, Int.natCast_pow]; rfl
  rw [e, wu64]
  omega
theorem acc_f (v c i : Nat) (hv : v < 2 ^ (7 * i)) (hi : i ≤ 9) (hc : c < 256) (h : v + 2 ^ (7 * i) * (c % 128) < 18446744073709551616) : Go.bits .or .u64 (v : Int) (shl .u64 (IntKind.u64.wrap (Go.bits .and .u8 (c : Int) 127)) ((7 * i : Nat) : Int)) = ((v + 2 ^ (7 * i) * (c % 128) : Nat) : Int) := by
  rw [and127 c hc, wu64, show (((c % 128 : Nat) : Int) % 18446744073709551616) = ((c % 128 : Nat) : Int) from by omega]
  have hm : c % 128 * 2 ^ (7 * i) = 2 ^ (7 * i) * (c % 128) := Nat.mul_comm _ _
  rw [shl64 (c % 128) (7 * i) (by omega) (by omega), hm, or64 _ _ (by omega) (by omega)]
  congr 1
  rw [Nat.or_comm, ← Nat.two_pow_add_eq_or_of_lt hv, Nat.add_comm]
theorem j1_bad (k v i : Nat) (hi : i ≤ 9) (b : List Int) (p : Int) (bad : Bool) : ∃ n, cand_reader_number.j1 (k + 1) (v : Int) (i : Int) 0 (i : Int) true b p bad = some (n, p, true) := by
  simp only [cand_reader_number.j1]
  rw [if_pos trivial, w64n (7 * i) (by omega) (by omega), if_pos (by omega), if_pos (by decide)]
  exact ⟨_, rfl⟩
theorem number_l (b : List Int) (hb : ∀ x ∈ b, 0 ≤ x ∧ x < 256) (hn : b.length ≤ 100000) (d : Nat) : ∀ (k i v p : Nat) (bad : Bool), i ≤ 9 → 9 - i = d → 2 * d + 4 < k → p ≤ b.length → v < 2 ^ (7 * i) →
    ∃ (n : Int) (p' : Nat) (bad' : Bool), cand_reader_number.l0 k (v : Int) (i : Int) b (p : Int) bad = some (n, (p' : Int), bad') ∧ p ≤ p' ∧ p' ≤ b.length ∧
      (bad' = false → bad = false ∧ p < p' ∧ ∃ w : Nat, v + 2 ^ (7 * i) * w < 18446744073709551616 ∧ (0 < i → w ≠ 0) ∧ b.drop p = viF d w ++ b.drop p' ∧ n = unz (v + 2 ^ (7 * i) * w)) := by
  induction d with
  | zero =>
    intro k i v p bad hi hd hk hp hv
    obtain ⟨k, rfl⟩ : ∃ m, k = m + 2 := ⟨k - 2, by omega⟩
    obtain rfl : i = 9 := by omega
    simp only [cand_reader_number.l0]
    rw [if_pos (by omega)]
    have h7 : wrap64 (7 * ((9 : Nat) : Int)) = ((7 * 9 : Nat) : Int) := by unfold wrap64; omega
    by_cases hE : p = b.length
    · obtain ⟨n, hn'⟩ := j1_bad k v 9 (by omega) b (p : Int) true
      refine ⟨n, p, true, bind_at (show cand_reader_next.f b (p : Int) bad = some (0, (p : Int), true) from by unfold cand_reader_next.f; rw [if_pos (by omega)]) ?_, Nat.le_refl _, hp, fun h => by cases h⟩
      show (if (0 : Int) = 0 then (if ((9 : Nat) : Int) > 0 then _ else _) else _) = _
      rw [if_pos rfl, if_pos (by decide)]
      exact hn'
    · have hlt : p < b.length := by omega
      have hc := hb b[p] (List.getElem_mem hlt)
      obtain ⟨c, hcn⟩ : ∃ c : Nat, b[p] = (c : Int) := ⟨b[p].toNat, by omega⟩
      have hnx : cand_reader_next.f b (p : Int) bad = some ((c : Int), ((p + 1 : Nat) : Int), bad) := by
        unfold cand_reader_next.f
        rw [if_neg (by omega), if_pos (by omega), if_pos (by omega), w64n (p + 1) (by omega) (by omega), show rd b (p : Int) = (c : Int) from by unfold rd; simp [hlt, hcn]]
      by_cases h1 : c = 1
      · subst h1
        refine ⟨_, p + 1, bad, bind_at hnx ?_, by omega, by omega, fun h => ⟨h, by omega, 1, by omega, fun _ => by decide, ?_, rfl⟩⟩
        · rw [if_neg (by simp), if_neg (by simp)]
          simp only [cand_reader_number.j1]
          rw [if_neg (by simp), h7, if_pos (by omega), if_pos (by decide), acc_f v 1 9 hv (by omega) (by omega) (by omega), unz_f _ (by omega)]
        · rw [List.drop_eq_getElem_cons hlt, hcn]; rfl
      · have hbadj : ∀ b' : Bool, b' = true → ∃ n, cand_reader_number.j1 (k + 1) (v : Int) (9 : Nat) (c : Int) (9 : Nat) b' b ((p + 1 : Nat) : Int) bad = some (n, ((p + 1 : Nat) : Int), true) := by
          intro b' hb'
          subst hb'
          simp only [cand_reader_number.j1]
          rw [if_pos trivial, h7, if_pos (by omega)]
          by_cases h2 : (c : Int) < 128
          · rw [if_pos h2]; exact ⟨_, rfl⟩
          · rw [if_neg h2]
            obtain ⟨k, rfl⟩ : ∃ m, k = m + 1 := ⟨k - 1, by omega⟩
            simp only [cand_reader_number.l0]
            rw [show wrap64 (((9 : Nat) : Int) + 1) = 10 from by unfold wrap64; omega, if_neg (by decide)]
            exact ⟨_, rfl⟩
        have hgo : ∃ n, ((cand_reader_next.f b (p : Int) bad).bind fun bt272 => (if bt272.1 = 0 then (if ((9 : Nat) : Int) > 0 then (cand_reader_number.j1 (k + 1) (v : Int) (9 : Nat) bt272.1 (9 : Nat) true b bt272.2.1 bt272.2.2) else (if bt272.1 > 1 then (cand_reader_number.j1 (k + 1) (v : Int) (9 : Nat) bt272.1 (9 : Nat) (((9 : Nat) : Int) == 9) b bt272.2.1 bt272.2.2) else (cand_reader_number.j1 (k + 1) (v : Int) (9 : Nat) bt272.1 (9 : Nat) false b bt272.2.1 bt272.2.2))) else (if bt272.1 > 1 then (cand_reader_number.j1 (k + 1) (v : Int) (9 : Nat) bt272.1 (9 : Nat) (((9 : Nat) : Int) == 9) b bt272.2.1 bt272.2.2) else (cand_reader_number.j1 (k + 1) (v : Int) (9 : Nat) bt272.1 (9 : Nat) false b bt272.2.1 bt272.2.2)))) = some (n, ((p + 1 : Nat) : Int), true) := by
          by_cases h0 : c = 0
          · obtain ⟨n, hn'⟩ := hbadj true rfl
            refine ⟨n, bind_at hnx ?_⟩
            show (if (c : Int) = 0 then _ else _) = _
            rw [if_pos (by omega), if_pos (by decide)]; exact hn'
          · obtain ⟨n, hn'⟩ := hbadj (((9 : Nat) : Int) == 9) (by decide)
            refine ⟨n, bind_at hnx ?_⟩
            show (if (c : Int) = 0 then _ else if (c : Int) > 1 then _ else _) = _
            rw [if_neg (by omega), if_pos (by omega)]; exact hn'
        obtain ⟨n, hn'⟩ := hgo
        exact ⟨n, p + 1, true, hn', by omega, by omega, fun h => by cases h⟩
  | succ d ih =>
    intro k i v p bad hi hd hk hp hv
    obtain ⟨k, rfl⟩ : ∃ m, k = m + 2 := ⟨k - 2, by omega⟩
    simp only [cand_reader_number.l0]
    rw [if_pos (by omega)]
    have h7 : wrap64 (7 * (i : Int)) = ((7 * i : Nat) : Int) := w64n _ (by omega) (by omega)
    have hpw : 2 ^ (7 * i) ≤ 72057594037927936 := by
      have := Nat.pow_le_pow_right (show 0 < 2 by decide) (show 7 * i ≤ 56 by omega)
      exact this
    have hps : (2 : Nat) ^ (7 * (i + 1)) = 2 ^ (7 * i) * 128 := by rw [show 7 * (i + 1) = 7 * i + 7 from by omega, Nat.pow_add]
    by_cases hE : p = b.length
    · have hnx : cand_reader_next.f b (p : Int) bad = some (0, (p : Int), true) := by unfold cand_reader_next.f; rw [if_pos (by omega)]
      have hj : ∀ b' : Bool, ∃ n, cand_reader_number.j1 (k + 1) (v : Int) (i : Int) 0 (i : Int) b' b (p : Int) true = some (n, (p : Int), true) := by
        intro b'
        simp only [cand_reader_number.j1]
        rw [h7]
        cases b'
        · rw [if_neg (by decide), if_pos (by omega), if_pos (by decide)]; exact ⟨_, rfl⟩
        · rw [if_pos rfl, if_pos (by omega), if_pos (by decide)]; exact ⟨_, rfl⟩
      by_cases h0 : 0 < i
      · obtain ⟨n, hn'⟩ := hj true
        refine ⟨n, p, true, bind_at hnx ?_, Nat.le_refl _, hp, fun h => by cases h⟩
        show (if (0 : Int) = 0 then (if (i : Int) > 0 then _ else _) else _) = _
        rw [if_pos rfl, if_pos (by omega)]; exact hn'
      · obtain ⟨n, hn'⟩ := hj false
        refine ⟨n, p, true, bind_at hnx ?_, Nat.le_refl _, hp, fun h => by cases h⟩
        show (if (0 : Int) = 0 then (if (i : Int) > 0 then _ else (if (0 : Int) > 1 then _ else _)) else _) = _
        rw [if_pos rfl, if_neg (by omega), if_neg (by decide)]; exact hn'
    · have hlt : p < b.length := by omega
      have hc := hb b[p] (List.getElem_mem hlt)
      obtain ⟨c, hcn⟩ : ∃ c : Nat, b[p] = (c : Int) := ⟨b[p].toNat, by omega⟩
      have hnx : cand_reader_next.f b (p : Int) bad = some ((c : Int), ((p + 1 : Nat) : Int), bad) := by
        unfold cand_reader_next.f
        rw [if_neg (by omega), if_pos (by omega), if_pos (by omega), w64n (p + 1) (by omega) (by omega), show rd b (p : Int) = (c : Int) from by unfold rd; simp [hlt, hcn]]
      have hi9 : ((i : Int) == 9) = false := by simp; omega
      have hdr : b.drop p = (c : Int) :: b.drop (p + 1) := by rw [List.drop_eq_getElem_cons hlt, hcn]
      by_cases h0 : c = 0 ∧ 0 < i
      · obtain ⟨rfl, h0⟩ := h0
        obtain ⟨n, hn'⟩ := j1_bad k v i hi b ((p + 1 : Nat) : Int) bad
        refine ⟨n, p + 1, true, bind_at hnx ?_, by omega, by omega, fun h => by cases h⟩
        rw [if_pos (by simp), if_pos (by omega)]
        exact hn'
      · have hstep : ∀ z, cand_reader_number.j1 (k + 1) (v : Int) (i : Int) (c : Int) (i : Int) false b ((p + 1 : Nat) : Int) bad = z → ((cand_reader_next.f b (p : Int) bad).bind fun bt272 => (if bt272.1 = 0 then (if (i : Int) > 0 then (cand_reader_number.j1 (k + 1) (v : Int) (i : Int) bt272.1 (i : Int) true b bt272.2.1 bt272.2.2) else (if bt272.1 > 1 then (cand_reader_number.j1 (k + 1) (v : Int) (i : Int) bt272.1 (i : Int) ((i : Int) == 9) b bt272.2.1 bt272.2.2) else (cand_reader_number.j1 (k + 1) (v : Int) (i : Int) bt272.1 (i : Int) false b bt272.2.1 bt272.2.2))) else (if bt272.1 > 1 then (cand_reader_number.j1 (k + 1) (v : Int) (i : Int) bt272.1 (i : Int) ((i : Int) == 9) b bt272.2.1 bt272.2.2) else (cand_reader_number.j1 (k + 1) (v : Int) (i : Int) bt272.1 (i : Int) false b bt272.2.1 bt272.2.2)))) = z := by
          intro z hz
          refine bind_at hnx ?_
          show (if (c : Int) = 0 then (if (i : Int) > 0 then _ else (if (c : Int) > 1 then _ else _)) else (if (c : Int) > 1 then _ else _)) = z
          rw [hi9]
          by_cases hc0 : c = 0
          · rw [if_pos (by omega), if_neg (by omega), if_neg (by omega)]; exact hz
          · rw [if_neg (by omega)]
            split <;> exact hz
        by_cases h2 : c < 128
        · have hlt64 : v + 2 ^ (7 * i) * c < 18446744073709551616 := by
            have : 2 ^ (7 * i) * c ≤ 2 ^ (7 * i) * 127 := Nat.mul_le_mul_left _ (by omega)
            omega
          refine ⟨_, p + 1, bad, hstep _ ?_, by omega, by omega, fun h => ⟨h, by omega, c, hlt64, fun hi0 hcz => h0 ⟨hcz, hi0⟩, ?_, rfl⟩⟩
          · simp only [cand_reader_number.j1]
            have hcm : c % 128 = c := by omega
            rw [if_neg (by simp), h7, if_pos (by omega), if_pos (by omega), acc_f v c i hv hi (by omega) (by rw [hcm]; exact hlt64), hcm, unz_f _ hlt64]
          · rw [hdr]
            show _ = (if c < 128 then [(c : Int)] else _) ++ _
            rw [if_pos h2]; rfl
        · have hlt64 : v + 2 ^ (7 * i) * (c % 128) < 18446744073709551616 := by
            have : 2 ^ (7 * i) * (c % 128) ≤ 2 ^ (7 * i) * 127 := Nat.mul_le_mul_left _ (by omega)
            omega
          have hv' : v + 2 ^ (7 * i) * (c % 128) < 2 ^ (7 * (i + 1)) := by
            have : 2 ^ (7 * i) * (c % 128) ≤ 2 ^ (7 * i) * 127 := Nat.mul_le_mul_left _ (by omega)
            rw [hps]; omega
          obtain ⟨n, p', bad', hf, hp1, hp2, hg⟩ := ih k (i + 1) (v + 2 ^ (7 * i) * (c % 128)) (p + 1) bad (by omega) (by omega) (by omega) (by omega) hv'
          refine ⟨n, p', bad', hstep _ ?_, by omega, hp2, fun h => ?_⟩
          · simp only [cand_reader_number.j1]
            rw [if_neg (by simp), h7, if_pos (by omega), if_neg (by omega), acc_f v c i hv hi (by omega) hlt64, w64n (i + 1) (by omega) (by omega)]
            exact hf
          · obtain ⟨g1, g2, w, g3, g4, g5, g6⟩ := hg h
            have hw0 := g4 (by omega)
            have hmul : 2 ^ (7 * i) * (c % 128 + 128 * w) = 2 ^ (7 * i) * (c % 128) + 2 ^ (7 * (i + 1)) * w := by rw [hps, Nat.mul_add, Nat.mul_assoc]
            refine ⟨g1, by omega, c % 128 + 128 * w, by rw [hmul, ← Nat.add_assoc]; exact g3, fun _ => by omega, ?_, by rw [hmul, ← Nat.add_assoc]; exact g6⟩
            rw [hdr, g5]
            show _ = (if c % 128 + 128 * w < 128 then _ else (((c % 128 + 128 * w) % 128 + 128 : Nat) : Int) :: viF d ((c % 128 + 128 * w) / 128)) ++ _
            rw [if_neg (by omega), show (c % 128 + 128 * w) % 128 + 128 = c from by omega, show (c % 128 + 128 * w) / 128 = w from by omega]
            rfl
theorem number_f (k : Nat) (b : List Int) (hb : ∀ x ∈ b, 0 ≤ x ∧ x < 256) (hn : b.length ≤ 100000) (p : Nat) (bad : Bool) (hp : p ≤ b.length) (hk : 30 ≤ k) :
    ∃ (n : Int) (p' : Nat) (bad' : Bool), cand_reader_number.f k b (p : Int) bad = some (n, (p' : Int), bad') ∧ p ≤ p' ∧ p' ≤ b.length ∧ (bad' = false → bad = false ∧ p < p' ∧ (-9223372036854775808 ≤ n ∧ n < 9223372036854775808) ∧ b.drop p = num n ++ b.drop p') := by
  unfold cand_reader_number.f
  obtain ⟨n, p', bad', hf, h1, h2, hg⟩ := number_l b hb hn 9 k 0 0 p bad (by omega) (by omega) (by omega) hp (by decide)
  rw [Int.natCast_zero] at hf
  refine ⟨n, p', bad', hf, h1, h2, fun h => ?_⟩
  obtain ⟨g1, g2, w, g3, g4, g5, g6⟩ := hg h
  have e : 0 + 2 ^ (7 * 0) * w = w := by omega
  rw [e] at g3 g6
  subst g6
  refine ⟨g1, g2, unz_in g3, ?_⟩
  unfold num
  rw [zz_unz]; exact g5

/-- A candidate's bytes. -/
def flagN (x : S75) : Int := if x.f3 then 1 else if x.f4 then 2 else 0
def recB (x : S75) : List Int := num x.f0 ++ (num x.f1 ++ (num x.f2.f0 ++ (num x.f2.f1 ++ num (flagN x))))
def hartB (l : List S75) : List Int := num (l.length : Int) ++ l.flatMap recB
def refB (y : S73) : List Int := num y.f0 ++ num y.f1
def rowB (x : S70) : List Int := num x.f0 ++ (num (x.f1.length : Int) ++ x.f1.flatMap refB)
def bytesS (h : List (List S75)) (r : List S70) : List Int := num (h.length : Int) ++ (h.flatMap hartB ++ (num (r.length : Int) ++ r.flatMap rowB))
theorem viF_pos (f u : Nat) : 1 ≤ (viF f u).length := by
  cases f with
  | zero => exact Nat.le_refl _
  | succ f => unfold viF; split <;> simp
theorem num_pos (n : Int) : 1 ≤ (num n).length := viF_pos _ _
def inR (n : Int) : Prop := -9223372036854775808 ≤ n ∧ n < 9223372036854775808
def recR (x : S75) : Prop := inR x.f0 ∧ inR x.f1 ∧ inR x.f2.f0 ∧ inR x.f2.f1
def wfRef (y : S73) : Prop := (Lit.int .i64 y.f0).wf = true ∧ (Lit.int .i64 y.f1).wf = true
def rowR (x : S70) : Prop := inR x.f0 ∧ ∀ y ∈ x.f1, wfRef y
theorem wf_of64 {n : Int} (h : -9223372036854775808 ≤ n ∧ n < 9223372036854775808) : (Lit.int .i64 n).wf = true := by
  simp [Lit.wf, IntKind.min, IntKind.max, IntKind.bits, IntKind.signed]; omega
section
variable {b : List Int} (hb : ∀ x ∈ b, 0 ≤ x ∧ x < 256) (hn : b.length ≤ 4000)
include hb hn
theorem count_f (k p s : Nat) (bad : Bool) (hs : 1 ≤ s) (hs2 : s ≤ 5) (hp : p ≤ b.length) (hk : 31 ≤ k) :
    ∃ (n p' : Nat) (bad' : Bool), cand_reader_count.f k b (p : Int) bad (s : Int) = some ((n : Int), (p' : Int), bad') ∧ p ≤ p' ∧ p' ≤ b.length ∧ n ≤ 4000 ∧ (bad' = false → bad = false ∧ b.drop p = num (n : Int) ++ b.drop p') := by
  obtain ⟨n, p', bad', hf, h1, h2, hg⟩ := number_f k b hb (by omega) p bad hp (by omega)
  unfold cand_reader_count.f
  obtain ⟨k, rfl⟩ : ∃ m, k = m + 1 := ⟨k - 1, by omega⟩
  have bt : ∃ (n1 p1 : Nat) (b1 : Bool), cand_reader_count.j0 (k + 1) n true b (p' : Int) bad' = some ((n1 : Int), (p1 : Int), b1) ∧ p ≤ p1 ∧ p1 ≤ b.length ∧ n1 ≤ 4000 ∧ (b1 = false → bad = false ∧ b.drop p = num (n1 : Int) ++ b.drop p1) :=
    ⟨0, p', true, by simp only [cand_reader_count.j0]; exact if_pos trivial, h1, h2, by omega, fun h => by cases h⟩
  by_cases h0 : n < 0
  · obtain ⟨n1, p1, b1, e, r⟩ := bt
    exact ⟨n1, p1, b1, bind_at hf ((if_pos h0).trans e), r⟩
  · obtain ⟨m, rfl⟩ := Int.eq_ofNat_of_zero_le (show 0 ≤ n by omega)
    have hq : wrap64 (Int.tdiv (wrap64 ((b.length : Int) - (p' : Int))) (s : Int)) = (((b.length - p') / s : Nat) : Int) := by
      have e1 : wrap64 ((b.length : Int) - (p' : Int)) = ((b.length - p' : Nat) : Int) := w64n _ (by omega) (by omega)
      rw [e1, ← Int.ofNat_tdiv]
      have : (b.length - p') / s ≤ b.length - p' := Nat.div_le_self _ _
      exact w64n _ rfl (by omega)
    by_cases hm : (m : Int) > (((b.length - p') / s : Nat) : Int)
    · obtain ⟨n1, p1, b1, e, r⟩ := bt
      refine ⟨n1, p1, b1, bind_at hf ?_, r⟩
      show (if (m : Int) < 0 then _ else (if (s : Int) = 0 then _ else _)) = _
      rw [if_neg h0, if_neg (by omega), hq, decide_eq_true hm]
      exact e
    · have hm4 : m ≤ 4000 := by
        have : (b.length - p') / s ≤ b.length - p' := Nat.div_le_self _ _
        omega
      cases bad'
      · refine ⟨m, p', false, bind_at hf ?_, h1, h2, hm4, fun h => ?_⟩
        · show (if (m : Int) < 0 then _ else (if (s : Int) = 0 then _ else _)) = _
          rw [if_neg h0, if_neg (by omega), hq, decide_eq_false hm]
          simp only [cand_reader_count.j0]
          rw [if_neg (by decide), if_neg (by decide)]
        · obtain ⟨g1, g2, _, g3⟩ := hg rfl
          exact ⟨g1, g3⟩
      · refine ⟨0, p', true, bind_at hf ?_, h1, h2, by omega, fun h => by cases h⟩
        show (if (m : Int) < 0 then _ else (if (s : Int) = 0 then _ else _)) = _
        rw [if_neg h0, if_neg (by omega), hq, decide_eq_false hm]
        simp only [cand_reader_count.j0]
        rw [if_neg (by decide)]
        exact if_pos trivial
theorem ref_f (k p : Nat) (bad : Bool) (hp : p ≤ b.length) (hk : 31 ≤ k) :
    ∃ (x y : Int) (p' : Nat) (bad' : Bool), cand_reader_ref.f k b (p : Int) bad = some (x, y, (p' : Int), bad') ∧ p ≤ p' ∧ p' ≤ b.length ∧ (bad' = false → bad = false ∧ (wfRef ⟨x, y⟩ ∧ inR x ∧ inR y) ∧ b.drop p = refB ⟨x, y⟩ ++ b.drop p') := by
  obtain ⟨x, p1, b1, hf, h1, h2, hg⟩ := number_f k b hb (by omega) p bad hp (by omega)
  obtain ⟨y, p2, b2, hf2, h3, h4, hg2⟩ := number_f k b hb (by omega) p1 b1 h2 (by omega)
  unfold cand_reader_ref.f
  refine ⟨x, y, p2, b2, bind_at hf (bind_at hf2 rfl), by omega, h4, fun h => ?_⟩
  obtain ⟨g1, _, g2, g3⟩ := hg2 h
  obtain ⟨f1, _, f2, f3⟩ := hg g1
  refine ⟨f1, ⟨⟨wf_of64 f2, wf_of64 g2⟩, f2, g2⟩, ?_⟩
  rw [f3, g3]
  show _ = (num x ++ num y) ++ _
  rw [List.append_assoc]
theorem rec_f (k p : Nat) (bad : Bool) (hp : p ≤ b.length) (hk : 31 ≤ k) :
    ∃ (x1 x2 x3 x4 : Int) (x5 x6 : Bool) (p' : Nat) (bad' : Bool), cand_reader_rec.f k b (p : Int) bad = some (x1, x2, x3, x4, x5, x6, (p' : Int), bad') ∧ p ≤ p' ∧ p' ≤ b.length ∧ (bad' = false → bad = false ∧ recR ⟨x1, x2, ⟨x3, x4⟩, x5, x6⟩ ∧ b.drop p = recB ⟨x1, x2, ⟨x3, x4⟩, x5, x6⟩ ++ b.drop p') := by
  obtain ⟨x1, p1, b1, f1, h1, h2, g1⟩ := number_f k b hb (by omega) p bad hp (by omega)
  obtain ⟨x2, p2, b2, f2, h3, h4, g2⟩ := number_f k b hb (by omega) p1 b1 h2 (by omega)
  obtain ⟨x3, x4, p3, b3, f3, h5, h6, g3⟩ := ref_f hb hn k p2 b2 h4 (by omega)
  obtain ⟨n, p4, b4, f4, h7, h8, g4⟩ := number_f k b hb (by omega) p3 b3 h6 (by omega)
  unfold cand_reader_rec.f
  have nb : ∀ b' : Bool, (b' = false → b4 = false ∧ 0 ≤ n ∧ n ≤ 2) → (b' = false → bad = false ∧ recR ⟨x1, x2, ⟨x3, x4⟩, (n == 1), (n == 2)⟩ ∧ b.drop p = recB ⟨x1, x2, ⟨x3, x4⟩, (n == 1), (n == 2)⟩ ++ b.drop p4) := by
    intro b' hb' h
    obtain ⟨h, n0, n2⟩ := hb' h
    obtain ⟨e4, _, _, d4⟩ := g4 h
    obtain ⟨e3, ⟨_, r3, r4⟩, d3⟩ := g3 e4
    obtain ⟨e2, _, r2, d2⟩ := g2 e3
    obtain ⟨e1, _, r1, d1⟩ := g1 e2
    refine ⟨e1, ⟨r1, r2, r3, r4⟩, ?_⟩
    have hfl : flagN ⟨x1, x2, ⟨x3, x4⟩, (n == 1), (n == 2)⟩ = n := by
      unfold flagN
      have : n = 0 ∨ n = 1 ∨ n = 2 := by omega
      rcases this with rfl | rfl | rfl <;> rfl
    unfold recB
    rw [hfl, d1, d2, d3, d4]
    unfold refB
    simp only [List.append_assoc]
  cases hb4 : b4
  · by_cases h0 : n < 0
    · refine ⟨x1, x2, x3, x4, (n == 1), (n == 2), p4, true, bind_at f1 (bind_at f2 (bind_at f3 (bind_at f4 ?_))), by omega, h8, fun h => by cases h⟩
      show (if b4 = true then _ else if n < 0 then _ else _) = _
      rw [hb4, if_neg (by decide), if_pos h0]
    · refine ⟨x1, x2, x3, x4, (n == 1), (n == 2), p4, decide (n > 2), bind_at f1 (bind_at f2 (bind_at f3 (bind_at f4 ?_))), by omega, h8, nb _ (fun h => ⟨hb4, by omega, by have := of_decide_eq_false h; omega⟩)⟩
      show (if b4 = true then _ else if n < 0 then _ else _) = _
      rw [hb4, if_neg (by decide), if_neg h0]
  · refine ⟨x1, x2, x3, x4, (n == 1), (n == 2), p4, true, bind_at f1 (bind_at f2 (bind_at f3 (bind_at f4 ?_))), by omega, h8, fun h => by cases h⟩
    show (if b4 = true then _ else if n < 0 then _ else _) = _
    rw [hb4, if_pos rfl]
end
/-- What Decode's answer is. -/
def Good (b : List Int) (res : (List (List S75)) × (List S70) × Int) : Prop :=
  res = ([], [], 1) ∨ ∃ h r, res = (h, r, 0) ∧ chk h r = 0 ∧ b = bytesS h r ∧ h.length ≤ 4000 ∧ (∀ x ∈ h, x.length ≤ 4000) ∧ RowsIn r ∧ (∀ l ∈ h, ∀ y ∈ l, recR y) ∧ (∀ x ∈ r, rowR x)
theorem flat_len {α : Type} (f : α → List Int) (g : α → Nat) (hg : ∀ x, g x ≤ (f x).length) (l : List α) : (l.map g).sum ≤ (l.flatMap f).length := by
  induction l with
  | nil => simp
  | cons x l ih => rw [List.map_cons, List.sum_cons, List.flatMap_cons, List.length_append]; have := hg x; omega
theorem flat_one {α : Type} (f : α → List Int) (hg : ∀ x, 1 ≤ (f x).length) (l : List α) : l.length ≤ (l.flatMap f).length := by
  induction l with
  | nil => simp
  | cons x l ih => rw [List.length_cons, List.flatMap_cons, List.length_append]; have := hg x; omega
theorem recB_pos (x : S75) : 1 ≤ (recB x).length := by unfold recB; rw [List.length_append]; have := num_pos x.f0; omega
theorem refB_pos (x : S73) : 1 ≤ (refB x).length := by unfold refB; rw [List.length_append]; have := num_pos x.f0; omega
theorem hartB_len (l : List S75) : l.length ≤ (hartB l).length := by unfold hartB; rw [List.length_append]; have := flat_one recB recB_pos l; omega
theorem hartB_pos (l : List S75) : 1 ≤ (hartB l).length := by unfold hartB; rw [List.length_append]; have := num_pos (l.length : Int); omega
theorem rowB_len (x : S70) : x.f1.length ≤ (rowB x).length := by unfold rowB; rw [List.length_append, List.length_append]; have := flat_one refB refB_pos x.f1; omega
theorem rowB_pos (x : S70) : 1 ≤ (rowB x).length := by unfold rowB; rw [List.length_append]; have := num_pos x.f0; omega
theorem mem_flat_le {α : Type} {f : α → List Int} {l : List α} {x : α} (hx : x ∈ l) : (f x).length ≤ (l.flatMap f).length := by
  induction l with
  | nil => cases hx
  | cons y l ih =>
    rw [List.flatMap_cons, List.length_append]
    rcases List.mem_cons.1 hx with rfl | hx
    · omega
    · have := ih hx; omega
theorem bytes_in {b : List Int} {h : List (List S75)} {r : List S70} (hn : b.length ≤ 4000) (e : b = bytesS h r) (hw : ∀ x ∈ r, ∀ y ∈ x.f1, wfRef y) : h.length ≤ 4000 ∧ (∀ x ∈ h, x.length ≤ 4000) ∧ RowsIn r := by
  have hl : b.length = (num (h.length : Int)).length + ((h.flatMap hartB).length + ((num (r.length : Int)).length + (r.flatMap rowB).length)) := by rw [e]; unfold bytesS; simp only [List.length_append]
  have h1 := flat_one hartB hartB_pos h
  have h2 := flat_one rowB rowB_pos r
  refine ⟨by omega, fun x hx => ?_, ⟨by omega, fun x hx => ?_, ?_, hw⟩⟩
  · have := mem_flat_le (f := hartB) hx; have := hartB_len x; omega
  · have := mem_flat_le (f := rowB) hx; have := rowB_len x; omega
  · have := flat_len rowB (fun x => x.f1.length) rowB_len r; omega
section
variable {b : List Int} (hb : ∀ x ∈ b, 0 ≤ x ∧ x < 256) (hn : b.length ≤ 4000)
include hb hn
theorem dec_l3 (n i m : Nat) (hm : m ≤ 4000) (h : List (List S75)) (r : List S70) (hr : r.length ≤ 4000) (a : Int) (P : List Int) (Q : Prop) (K : Nat) (hK : 31 ≤ K) (hi : i ≤ 4000)
    (hz : ∀ (k p : Nat) (bad : Bool) (L : List S73), K ≤ k → p ≤ b.length → L.length = m → (bad = false → b = P ++ (L.flatMap refB ++ b.drop p) ∧ Q ∧ ∀ y ∈ L, wfRef y) → ∃ res, cand_Decode.l2 k (n : Int) ((i + 1 : Nat) : Int) b (p : Int) bad h (r ++ [⟨a, L⟩]) = some res ∧ Good b res) (d : Nat) :
    ∀ (k j p : Nat) (bad : Bool) (L : List S73), j ≤ m → m - j = d → d + K < k → p ≤ b.length → L.length = j → (bad = false → b = P ++ (L.flatMap refB ++ b.drop p) ∧ Q ∧ ∀ y ∈ L, wfRef y) →
    ∃ res, cand_Decode.l3 k (n : Int) (i : Int) (m : Int) (j : Int) b (p : Int) bad h r a L = some res ∧ Good b res := by
  induction d with
  | zero =>
    intro k j p bad L hj hd hk hp hL hI
    obtain ⟨k, rfl⟩ : ∃ m, k = m + 1 := ⟨k - 1, by omega⟩
    simp only [cand_Decode.l3]
    rw [if_neg (by omega), if_pos (by omega), w64n (i + 1) (by omega) (by omega)]
    exact hz k p bad L (by omega) hp (by omega) hI
  | succ d ih =>
    intro k j p bad L hj hd hk hp hL hI
    obtain ⟨k, rfl⟩ : ∃ m, k = m + 1 := ⟨k - 1, by omega⟩
    simp only [cand_Decode.l3]
    obtain ⟨x, y, p', bad', hf, h1, h2, hg⟩ := ref_f hb hn k p bad hp (by omega)
    obtain ⟨res, e, g⟩ := ih k (j + 1) p' bad' (L ++ [⟨x, y⟩]) (by omega) (by omega) (by omega) h2 (by simp [hL]) (fun hbad => by
      obtain ⟨g1, ⟨g2, _⟩, g3⟩ := hg hbad
      obtain ⟨f1, fq, f2⟩ := hI g1
      refine ⟨?_, fq, fun z hz => ?_⟩
      · conv => lhs; rw [f1, g3]
        rw [List.flatMap_append, List.flatMap_cons, List.flatMap_nil, List.append_nil, List.append_assoc]
      · rcases List.mem_append.1 hz with hz | hz
        · exact f2 z hz
        · rw [List.mem_singleton.1 hz]; exact g2)
    refine ⟨res, ?_, g⟩
    rw [if_pos (by omega), w64n (j + 1) (by omega) (by omega)]
    refine bind_at hf ?_
    rw [if_pos (by omega)]
    exact e
theorem dec_l2 (n : Nat) (hm : n ≤ 4000) (h : List (List S75)) (d : Nat) :
    ∀ (k i p : Nat) (bad : Bool) (r : List S70), i ≤ n → n - i = d → d * 4010 + 16040000 ≤ k → p ≤ b.length → r.length = i → (bad = false → b = num (h.length : Int) ++ (h.flatMap hartB ++ (num (n : Int) ++ (r.flatMap rowB ++ b.drop p))) ∧ (∀ l ∈ h, ∀ y ∈ l, recR y) ∧ ∀ x ∈ r, rowR x) →
    ∃ res, cand_Decode.l2 k (n : Int) (i : Int) b (p : Int) bad h r = some res ∧ Good b res := by
  induction d with
  | zero =>
    intro k i p bad r hi hd hk hp hr hI
    obtain ⟨k, rfl⟩ : ∃ m, k = m + 1 := ⟨k - 1, by omega⟩
    simp only [cand_Decode.l2]
    rw [if_neg (by omega), w64n (b.length - p) (by omega) (by omega)]
    cases bad
    · rw [if_neg (by decide)]
      by_cases h0 : ((b.length - p : Nat) : Int) > 0
      · rw [if_pos h0]; exact ⟨_, rfl, Or.inl rfl⟩
      · rw [if_neg h0]
        obtain ⟨e, hq, hw⟩ := hI rfl
        rw [List.drop_of_length_le (by omega), List.append_nil] at e
        have e2 : b = bytesS h r := by
          unfold bytesS
          rw [hr, show i = n from by omega]; exact e
        obtain ⟨c1, c2, c3⟩ := bytes_in hn e2 (fun x hx => (hw x hx).2)
        have hc := check_f k h r c1 c2 c3 (by omega)
        by_cases hz : chk h r = 0
        · exact ⟨(h, r, 0), bind_at hc (if_pos hz), Or.inr ⟨h, r, rfl, hz, e2, c1, c2, c3, hq, hw⟩⟩
        · exact ⟨([], [], 1), bind_at hc (if_neg hz), Or.inl rfl⟩
    · refine ⟨([], [], 1), ?_, Or.inl rfl⟩
      rw [if_pos rfl]
  | succ d ih =>
    intro k i p bad r hi hd hk hp hr hI
    obtain ⟨k, rfl⟩ : ∃ m, k = m + 1 := ⟨k - 1, by omega⟩
    simp only [cand_Decode.l2]
    obtain ⟨a, p1, b1, f1, h1, h2, g1⟩ := number_f k b hb (by omega) p bad hp (by omega)
    obtain ⟨m, p2, b2, f2, h3, h4, hm4, g2⟩ := count_f hb hn k p1 2 b1 (by omega) (by omega) h2 (by omega)
    obtain ⟨res, e, g⟩ := dec_l3 hb hn n i m hm4 h r (by omega) a (num (h.length : Int) ++ (h.flatMap hartB ++ (num (n : Int) ++ (r.flatMap rowB ++ (num a ++ num (m : Int)))))) ((∀ l ∈ h, ∀ y ∈ l, recR y) ∧ inR a ∧ ∀ x ∈ r, rowR x) (d * 4010 + 16040000) (by omega) (by omega)
      (fun k p bad L hk hp hL hq => ih k (i + 1) p bad (r ++ [⟨a, L⟩]) (by omega) (by omega) hk hp (by simp [hr]) (fun hbad => by
        obtain ⟨q1, ⟨qh, qa, qr⟩, q2⟩ := hq hbad
        refine ⟨?_, qh, fun x hx => ?_⟩
        · conv => lhs; rw [q1]
          rw [List.flatMap_append, List.flatMap_cons, List.flatMap_nil, List.append_nil]
          unfold rowB
          simp only [List.append_assoc, hL]
        · rcases List.mem_append.1 hx with hx | hx
          · exact qr x hx
          · rw [List.mem_singleton.1 hx]; exact ⟨qa, q2⟩)) m k 0 p2 b2 [] (by omega) (by omega) (by omega) h4 rfl (fun hbad => by
      obtain ⟨z1, z2⟩ := g2 hbad
      obtain ⟨y1, _, ya, y2⟩ := g1 z1
      obtain ⟨x1, xh, x2⟩ := hI y1
      refine ⟨?_, ⟨xh, ya, x2⟩, fun y hy => by cases hy⟩
      conv => lhs; rw [x1, y2, z2]
      simp only [List.append_assoc, List.flatMap_nil, List.nil_append])
    refine ⟨res, ?_, g⟩
    rw [if_pos (by omega)]
    refine bind_at f1 (bind_at f2 ?_)
    rw [Int.natCast_zero] at e
    exact e
theorem dec_l1 (n i m : Nat) (hm : m ≤ 4000) (hi : i ≤ 4000) (h : List (List S75)) (hh : h.length ≤ 4000) (P : List Int) (K : Nat) (hK : 31 ≤ K)
    (hz : ∀ (k p : Nat) (bad : Bool) (L : List S75), K ≤ k → p ≤ b.length → L.length = m → (bad = false → b = P ++ (L.flatMap recB ++ b.drop p) ∧ (∀ l ∈ h, ∀ y ∈ l, recR y) ∧ ∀ y ∈ L, recR y) → ∃ res, cand_Decode.l0 k (n : Int) ((i + 1 : Nat) : Int) b (p : Int) bad (h ++ [L]) = some res ∧ Good b res) (d : Nat) :
    ∀ (k j p : Nat) (bad : Bool) (L : List S75), j ≤ m → m - j = d → d + K < k → p ≤ b.length → L.length = j → (bad = false → b = P ++ (L.flatMap recB ++ b.drop p) ∧ (∀ l ∈ h, ∀ y ∈ l, recR y) ∧ ∀ y ∈ L, recR y) →
    ∃ res, cand_Decode.l1 k L (n : Int) (i : Int) (m : Int) (j : Int) b (p : Int) bad h = some res ∧ Good b res := by
  induction d with
  | zero =>
    intro k j p bad L hj hd hk hp hL hI
    obtain ⟨k, rfl⟩ : ∃ m, k = m + 1 := ⟨k - 1, by omega⟩
    simp only [cand_Decode.l1]
    rw [if_neg (by omega), if_pos (by omega), w64n (i + 1) (by omega) (by omega)]
    exact hz k p bad L (by omega) hp (by omega) hI
  | succ d ih =>
    intro k j p bad L hj hd hk hp hL hI
    obtain ⟨k, rfl⟩ : ∃ m, k = m + 1 := ⟨k - 1, by omega⟩
    simp only [cand_Decode.l1]
    obtain ⟨x1, x2, x3, x4, x5, x6, p', bad', hf, h1, h2, hg⟩ := rec_f hb hn k p bad hp (by omega)
    obtain ⟨res, e, g⟩ := ih k (j + 1) p' bad' (L ++ [⟨x1, x2, ⟨x3, x4⟩, x5, x6⟩]) (by omega) (by omega) (by omega) h2 (by simp [hL]) (fun hbad => by
      obtain ⟨g1, g2, g3⟩ := hg hbad
      obtain ⟨f1, fh, f2⟩ := hI g1
      refine ⟨?_, fh, fun z hz => ?_⟩
      · conv => lhs; rw [f1, g3]
        rw [List.flatMap_append, List.flatMap_cons, List.flatMap_nil, List.append_nil, List.append_assoc]
      · rcases List.mem_append.1 hz with hz | hz
        · exact f2 z hz
        · rw [List.mem_singleton.1 hz]; exact g2)
    refine ⟨res, ?_, g⟩
    rw [if_pos (by omega), w64n (j + 1) (by omega) (by omega)]
    refine bind_at hf ?_
    rw [if_pos (by omega)]
    exact e
theorem dec_l0 (n : Nat) (hm : n ≤ 4000) (d : Nat) :
    ∀ (k i p : Nat) (bad : Bool) (h : List (List S75)), i ≤ n → n - i = d → d * 4010 + 40000000 ≤ k → p ≤ b.length → h.length = i → (bad = false → b = num (n : Int) ++ (h.flatMap hartB ++ b.drop p) ∧ ∀ l ∈ h, ∀ y ∈ l, recR y) →
    ∃ res, cand_Decode.l0 k (n : Int) (i : Int) b (p : Int) bad h = some res ∧ Good b res := by
  induction d with
  | zero =>
    intro k i p bad h hi hd hk hp hh hI
    obtain ⟨k, rfl⟩ : ∃ m, k = m + 1 := ⟨k - 1, by omega⟩
    simp only [cand_Decode.l0]
    obtain ⟨m, p1, b1, f1, h1, h2, hm4, g1⟩ := count_f hb hn k p 2 bad (by omega) (by omega) hp (by omega)
    obtain ⟨res, e, g⟩ := dec_l2 hb hn m hm4 h m k 0 p1 b1 [] (by omega) (by omega) (by omega) h2 rfl (fun hbad => by
      obtain ⟨z1, z2⟩ := g1 hbad
      refine ⟨?_, (hI z1).2, fun x hx => by cases hx⟩
      conv => lhs; rw [(hI z1).1, z2]
      rw [hh, show i = n from by omega, List.flatMap_nil, List.nil_append])
    refine ⟨res, ?_, g⟩
    rw [if_neg (by omega)]
    refine bind_at f1 ?_
    rw [Int.natCast_zero] at e
    exact e
  | succ d ih =>
    intro k i p bad h hi hd hk hp hh hI
    obtain ⟨k, rfl⟩ : ∃ m, k = m + 1 := ⟨k - 1, by omega⟩
    simp only [cand_Decode.l0]
    obtain ⟨m, p1, b1, f1, h1, h2, hm4, g1⟩ := count_f hb hn k p 5 bad (by omega) (by omega) hp (by omega)
    obtain ⟨res, e, g⟩ := dec_l1 hb hn n i m hm4 (by omega) h (by omega) (num (n : Int) ++ (h.flatMap hartB ++ num (m : Int))) (d * 4010 + 40000000) (by omega)
      (fun k p bad L hk hp hL hq => ih k (i + 1) p bad (h ++ [L]) (by omega) (by omega) hk hp (by simp [hh]) (fun hbad => by
        obtain ⟨q1, qh, q2⟩ := hq hbad
        refine ⟨?_, fun z hz => ?_⟩
        · conv => lhs; rw [q1]
          rw [List.flatMap_append, List.flatMap_cons, List.flatMap_nil, List.append_nil]
          unfold hartB
          simp only [List.append_assoc, hL]
        · rcases List.mem_append.1 hz with hz | hz
          · exact qh z hz
          · rw [List.mem_singleton.1 hz]; exact q2)) m k 0 p1 b1 [] (by omega) (by omega) (by omega) h2 rfl (fun hbad => by
      obtain ⟨z1, z2⟩ := g1 hbad
      refine ⟨?_, (hI z1).2, fun y hy => by cases hy⟩
      conv => lhs; rw [(hI z1).1, z2]
      simp only [List.append_assoc, List.flatMap_nil, List.nil_append])
    refine ⟨res, ?_, g⟩
    rw [if_pos (by omega)]
    refine bind_at f1 ?_
    rw [Int.natCast_zero] at e
    exact e
theorem decode_f (k : Nat) (hk : 60000000 ≤ k) : ∃ res, cand_Decode.f k b = some res ∧ Good b res := by
  unfold cand_Decode.f
  obtain ⟨n, p1, b1, f1, h1, h2, hm4, g1⟩ := count_f hb hn k 0 1 false (by omega) (by omega) (by omega) (by omega)
  obtain ⟨res, e, g⟩ := dec_l0 hb hn n hm4 n k 0 p1 b1 [] (by omega) (by omega) (by omega) h2 rfl (fun hbad => by
    obtain ⟨z1, z2⟩ := g1 hbad
    rw [List.drop_zero] at z2
    refine ⟨?_, fun l hl => by cases hl⟩
    conv => lhs; rw [z2]
    rw [List.flatMap_nil, List.nil_append])
  refine ⟨res, ?_, g⟩
  refine bind_at (show cand_newReader.f b = some (b, 0, false) from rfl) ?_
  rw [Int.natCast_zero] at f1 e
  exact bind_at f1 e
end

theorem rnum_l (f : Nat) : ∀ (k u : Nat) (acc : List Int), u < 128 ^ (f + 1) → u < 18446744073709551616 → f < k → acc.length + f ≤ 1000 → spinnakerref13_Number.l0 k (u : Int) acc = some (acc ++ viF f u) := by
  induction f with
  | zero =>
    intro k u acc hu _ hk ha
    obtain ⟨k, rfl⟩ : ∃ m, k = m + 1 := ⟨k - 1, by omega⟩
    simp only [spinnakerref13_Number.l0]
    have hu1 : u < 128 := hu
    rw [if_neg (by omega), if_pos (by omega), show (u : Int) % 256 = (u : Int) from by omega]; rfl
  | succ f ih =>
    intro k u acc hu hu2 hk ha
    obtain ⟨k, rfl⟩ : ∃ m, k = m + 1 := ⟨k - 1, by omega⟩
    simp only [spinnakerref13_Number.l0]
    show _ = some (acc ++ (if u < 128 then [(u : Int)] else ((u % 128 + 128 : Nat) : Int) :: viF f (u / 128)))
    by_cases h : u < 128
    · rw [if_neg (by omega), if_pos (by omega), if_pos h, show (u : Int) % 256 = (u : Int) from by omega]
    · rw [if_pos (by omega), if_pos (by omega), if_neg h, Int.tdiv_eq_ediv_of_nonneg (by omega), Int.tmod_eq_emod_of_nonneg (by omega)]
      rw [show IntKind.u64.wrap ((u : Int) / 128) = ((u / 128 : Nat) : Int) from by rw [wu64]; omega, show IntKind.u64.wrap ((u : Int) % 128 + 128) % 256 = ((u % 128 + 128 : Nat) : Int) from by rw [wu64]; omega]
      have hp : u / 128 < 128 ^ (f + 1) := by
        rw [Nat.pow_succ] at hu
        exact Nat.div_lt_of_lt_mul (by rw [Nat.mul_comm]; exact hu)
      rw [ih k (u / 128) _ hp (by omega) (by omega) (by simp; omega), List.append_assoc]
      rfl
theorem rnum_f (k : Nat) (n : Int) (h : inR n) (hk : 20 ≤ k) : spinnakerref13_Number.f k n = some (num n) := by
  unfold spinnakerref13_Number.f
  obtain ⟨h1, h2⟩ := h
  obtain ⟨k, rfl⟩ : ∃ m, k = m + 1 := ⟨k - 1, by omega⟩
  have hz := zz_lt h1 h2
  have go : spinnakerref13_Number.j0 (k + 1) (zz n : Int) = some (num n) := by
    simp only [spinnakerref13_Number.j0]
    rw [rnum_l 9 k (zz n) [] (Nat.lt_of_lt_of_le hz (by decide)) hz (by omega) (by simp)]
    rfl
  by_cases h0 : n < 0
  · rw [if_pos h0, w64 (x := n + 1) (by omega) (by omega), w64 (x := -(n + 1)) (by omega) (by omega)]
    have e : IntKind.u64.wrap (IntKind.u64.wrap (2 * IntKind.u64.wrap (-(n + 1))) + 1) = (zz n : Int) := by
      rw [wu64, wu64, wu64]; unfold zz; rw [if_pos h0]; omega
    rw [e]; exact go
  · rw [if_neg h0]
    have e : IntKind.u64.wrap (2 * IntKind.u64.wrap n) = (zz n : Int) := by
      rw [wu64, wu64]; unfold zz; rw [if_neg h0]; omega
    rw [e]; exact go
theorem viF_le (f : Nat) : ∀ u, (viF f u).length ≤ f + 1 := by
  induction f with
  | zero => intro u; exact Nat.le_refl _
  | succ f ih => intro u; unfold viF; split <;> simp; exact ih _
theorem num_le (n : Int) : (num n).length ≤ 10 := viF_le 9 _
/-- The numbers of a candidate. -/
def flagR (x : S75) : Int := if x.f4 then 2 else if x.f3 then 1 else 0
def recN (x : S75) : List Int := [x.f0, x.f1, x.f2.f0, x.f2.f1, flagR x]
def hartN (l : List S75) : List Int := (l.length : Int) :: l.flatMap recN
def refN (y : S73) : List Int := [y.f0, y.f1]
def rowN (x : S70) : List Int := x.f0 :: (x.f1.length : Int) :: x.f1.flatMap refN
def listN (h : List (List S75)) (r : List S70) : List Int := (h.length : Int) :: (h.flatMap hartN ++ ((r.length : Int) :: r.flatMap rowN))
theorem rbytes_l4 (l : List Int) (hl : l.length ≤ 1000000) (hr : ∀ x ∈ l, inR x) (d : Nat) : ∀ (k i : Nat) (acc : List Int), i ≤ l.length → l.length - i = d → d + 30 < k → acc.length + 10 * d ≤ 100000000 → spinnakerref13_Bytes.l4 k l acc (i : Int) = some (acc ++ (l.drop i).flatMap num) := by
  induction d with
  | zero =>
    intro k i acc hi hd hk ha
    obtain ⟨k, rfl⟩ : ∃ m, k = m + 1 := ⟨k - 1, by omega⟩
    simp only [spinnakerref13_Bytes.l4]
    rw [if_neg (by omega), List.drop_of_length_le (by omega)]; simp
  | succ d ih =>
    intro k i acc hi hd hk ha
    obtain ⟨k, rfl⟩ : ∃ m, k = m + 1 := ⟨k - 1, by omega⟩
    simp only [spinnakerref13_Bytes.l4]
    have h1 : i < l.length := by omega
    have hnl := num_le l[i]
    rw [if_pos (by omega), if_pos (by omega), show rd l (i : Int) = l[i] from by unfold rd; simp [h1], w64n (i + 1) (by omega) (by omega), List.drop_eq_getElem_cons h1, List.flatMap_cons]
    refine bind_at (rnum_f k l[i] (hr _ (List.getElem_mem h1)) (by omega)) ?_
    rw [if_pos (by omega), ih k (i + 1) _ (by omega) (by omega) (by omega) (by rw [List.length_append]; omega), List.append_assoc]
theorem rbytes_l3 (h : List (List S75)) (r : List S70) (hr : r.length ≤ 4000) (i : Nat) (hi : i < r.length) (hl : r[i].f1.length ≤ 4000) (z : List Int) (K : Nat) (d : Nat) :
    ∀ (k j : Nat) (acc : List Int), j ≤ r[i].f1.length → r[i].f1.length - j = d → d + K < k → acc.length + 2 * d ≤ 1000000000000 → (∀ k, K ≤ k → spinnakerref13_Bytes.l2 k (acc ++ (r[i].f1.drop j).flatMap refN) ((i + 1 : Nat) : Int) h r = some z) → spinnakerref13_Bytes.l3 k acc (i : Int) (j : Int) h r = some z := by
  induction d with
  | zero =>
    intro k j acc hj hd hk ha hz
    obtain ⟨k, rfl⟩ : ∃ m, k = m + 1 := ⟨k - 1, by omega⟩
    simp only [spinnakerref13_Bytes.l3]
    have e := hz k (by omega)
    rw [List.drop_of_length_le (by omega), List.flatMap_nil, List.append_nil] at e
    rw [if_pos (by omega), if_pos (by omega), rd70 hi, if_neg (by omega), w64n (i + 1) (by omega) (by omega)]
    exact e
  | succ d ih =>
    intro k j acc hj hd hk ha hz
    obtain ⟨k, rfl⟩ : ∃ m, k = m + 1 := ⟨k - 1, by omega⟩
    simp only [spinnakerref13_Bytes.l3]
    have h1 : j < r[i].f1.length := by omega
    rw [if_pos (by omega), if_pos (by omega), rd70 hi, if_pos (by omega), if_pos (by omega), rd73 h1, w64n (j + 1) (by omega) (by omega)]
    refine bind_at rfl ?_
    rw [if_pos (by simp; omega)]
    refine ih k (j + 1) _ (by omega) (by omega) (by omega) (by simp; omega) (fun k hk => ?_)
    have e := hz k hk
    rw [List.drop_eq_getElem_cons h1, List.flatMap_cons, ← List.append_assoc] at e
    exact e
theorem rbytes_l2 (h : List (List S75)) (r : List S70) (hr : r.length ≤ 4000) (hl : ∀ x ∈ r, x.f1.length ≤ 4000) (z : List Int) (d : Nat) :
    ∀ (k i : Nat) (acc : List Int), i ≤ r.length → r.length - i = d → d * 4010 + 1000040 ≤ k → acc.length + 8002 * d ≤ 1000000000000 → (∀ k, 1000031 ≤ k → spinnakerref13_Bytes.l4 k (acc ++ (r.drop i).flatMap rowN) [] 0 = some z) → spinnakerref13_Bytes.l2 k acc (i : Int) h r = some z := by
  induction d with
  | zero =>
    intro k i acc hi hd hk ha hz
    obtain ⟨k, rfl⟩ : ∃ m, k = m + 1 := ⟨k - 1, by omega⟩
    simp only [spinnakerref13_Bytes.l2]
    have e := hz k (by omega)
    rw [List.drop_of_length_le (by omega), List.flatMap_nil, List.append_nil] at e
    rw [if_neg (by omega)]
    exact e
  | succ d ih =>
    intro k i acc hi hd hk ha hz
    obtain ⟨k, rfl⟩ : ∃ m, k = m + 1 := ⟨k - 1, by omega⟩
    simp only [spinnakerref13_Bytes.l2]
    have h1 : i < r.length := by omega
    have hx := hl _ (List.getElem_mem h1)
    rw [if_pos (by omega), if_pos (by omega), rd70 h1]
    refine bind_at rfl ?_
    rw [if_pos (by simp; omega)]
    have e := rbytes_l3 h r hr i h1 hx z (d * 4010 + 1000040) r[i].f1.length k 0 (acc ++ [r[i].f0, (r[i].f1.length : Int)]) (by omega) (by omega) (by omega) (by simp; omega)
    rw [Int.natCast_zero, List.drop_zero] at e
    refine e (fun k hk => ?_)
    refine ih k (i + 1) _ (by omega) (by omega) hk ?_ (fun k hk => ?_)
    · have : (r[i].f1.flatMap refN).length = 2 * r[i].f1.length := by
        generalize r[i].f1 = l
        induction l with
        | nil => rfl
        | cons y l ih => rw [List.flatMap_cons, List.length_append, ih, List.length_cons]; show 2 + _ = _; omega
      rw [List.length_append, this]; simp; omega
    · have e2 := hz k hk
      rw [List.drop_eq_getElem_cons h1, List.flatMap_cons] at e2
      rw [List.append_assoc, List.append_assoc]
      exact e2
theorem rbytes_l1 (h : List (List S75)) (r : List S70) (hh : h.length ≤ 4000) (i : Nat) (hi : i < h.length) (hl : h[i].length ≤ 4000) (z : List Int) (K : Nat) (d : Nat) :
    ∀ (k j : Nat) (acc : List Int), j ≤ h[i].length → h[i].length - j = d → d + K < k → acc.length + 5 * d ≤ 1000000000000 → (∀ k, K ≤ k → spinnakerref13_Bytes.l0 k (acc ++ (h[i].drop j).flatMap recN) ((i + 1 : Nat) : Int) h r = some z) → spinnakerref13_Bytes.l1 k acc (i : Int) (j : Int) h r = some z := by
  induction d with
  | zero =>
    intro k j acc hj hd hk ha hz
    obtain ⟨k, rfl⟩ : ∃ m, k = m + 1 := ⟨k - 1, by omega⟩
    simp only [spinnakerref13_Bytes.l1]
    have e := hz k (by omega)
    rw [List.drop_of_length_le (by omega), List.flatMap_nil, List.append_nil] at e
    rw [if_pos (by omega), if_pos (by omega), rdL hi, if_neg (by omega), w64n (i + 1) (by omega) (by omega)]
    exact e
  | succ d ih =>
    intro k j acc hj hd hk ha hz
    obtain ⟨k, rfl⟩ : ∃ m, k = m + 1 := ⟨k - 1, by omega⟩
    simp only [spinnakerref13_Bytes.l1]
    have h1 : j < h[i].length := by omega
    rw [if_pos (by omega), if_pos (by omega), rdL hi, if_pos (by omega), if_pos (by omega), rd75 h1, w64n (j + 1) (by omega) (by omega)]
    have go : spinnakerref13_Bytes.l1 k (acc ++ recN h[i][j]) (i : Int) ((j + 1 : Nat) : Int) h r = some z := by
      refine ih k (j + 1) _ (by omega) (by omega) (by omega) (by rw [List.length_append]; show _ + 5 + _ ≤ _; omega) (fun k hk => ?_)
      have e := hz k hk
      rw [List.drop_eq_getElem_cons h1, List.flatMap_cons, ← List.append_assoc] at e
      exact e
    unfold recN flagR at go
    cases hf3 : h[i][j].f3
    · rw [if_neg (by decide)]
      cases hf4 : h[i][j].f4
      · rw [if_neg (by decide)]
        refine bind_at rfl ?_
        rw [hf3, hf4] at go
        rw [if_pos (by simp; omega)]; exact go
      · rw [if_pos rfl]
        refine bind_at rfl ?_
        rw [hf4] at go
        rw [if_pos (by simp; omega)]; exact go
    · rw [if_pos rfl]
      cases hf4 : h[i][j].f4
      · rw [if_neg (by decide)]
        refine bind_at rfl ?_
        rw [hf3, hf4] at go
        rw [if_pos (by simp; omega)]; exact go
      · rw [if_pos rfl]
        refine bind_at rfl ?_
        rw [hf4] at go
        rw [if_pos (by simp; omega)]; exact go
theorem rbytes_l0 (h : List (List S75)) (r : List S70) (hh : h.length ≤ 4000) (hs : ∀ x ∈ h, x.length ≤ 4000) (hr : r.length ≤ 4000) (hl : ∀ x ∈ r, x.f1.length ≤ 4000) (z : List Int) (d : Nat) :
    ∀ (k i : Nat) (acc : List Int), i ≤ h.length → h.length - i = d → d * 4010 + 18000000 ≤ k → acc.length + 20001 * d ≤ 100000000000 → (∀ k, 1000031 ≤ k → spinnakerref13_Bytes.l4 k (acc ++ ((h.drop i).flatMap hartN ++ ((r.length : Int) :: r.flatMap rowN))) [] 0 = some z) → spinnakerref13_Bytes.l0 k acc (i : Int) h r = some z := by
  induction d with
  | zero =>
    intro k i acc hi hd hk ha hz
    obtain ⟨k, rfl⟩ : ∃ m, k = m + 1 := ⟨k - 1, by omega⟩
    simp only [spinnakerref13_Bytes.l0]
    rw [if_neg (by omega), if_pos (by omega)]
    have e := rbytes_l2 h r hr hl z r.length k 0 (acc ++ [(r.length : Int)]) (by omega) (by omega) (by omega) (by simp; omega)
    rw [Int.natCast_zero, List.drop_zero] at e
    refine e (fun k hk => ?_)
    have e2 := hz k hk
    rw [List.drop_of_length_le (by omega), List.flatMap_nil, List.nil_append] at e2
    rw [List.append_assoc]
    exact e2
  | succ d ih =>
    intro k i acc hi hd hk ha hz
    obtain ⟨k, rfl⟩ : ∃ m, k = m + 1 := ⟨k - 1, by omega⟩
    simp only [spinnakerref13_Bytes.l0]
    have h1 : i < h.length := by omega
    have hx := hs _ (List.getElem_mem h1)
    rw [if_pos (by omega), if_pos (by omega), rdL h1, if_pos (by omega)]
    have e := rbytes_l1 h r hh i h1 hx z (d * 4010 + 18000000) h[i].length k 0 (acc ++ [(h[i].length : Int)]) (by omega) (by omega) (by omega) (by simp; omega)
    rw [Int.natCast_zero, List.drop_zero] at e
    refine e (fun k hk => ?_)
    refine ih k (i + 1) _ (by omega) (by omega) hk ?_ (fun k hk => ?_)
    · have : (h[i].flatMap recN).length = 5 * h[i].length := by
        generalize h[i] = l
        induction l with
        | nil => rfl
        | cons y l ih => rw [List.flatMap_cons, List.length_append, ih, List.length_cons]; show 5 + _ = _; omega
      rw [List.length_append, this]; simp; omega
    · have e2 := hz k hk
      rw [List.drop_eq_getElem_cons h1, List.flatMap_cons] at e2
      rw [show acc ++ [(h[i].length : Int)] ++ h[i].flatMap recN = acc ++ hartN h[i] from by rw [List.append_assoc]; rfl, List.append_assoc, ← List.append_assoc (hartN h[i])]
      exact e2
theorem flatMap_flat {α β γ : Type} (f : α → List β) (g : β → List γ) (l : List α) : (l.flatMap f).flatMap g = l.flatMap (fun x => (f x).flatMap g) := by
  induction l with
  | nil => rfl
  | cons x l ih => rw [List.flatMap_cons, List.flatMap_append, ih, List.flatMap_cons]
theorem flatMap_eq {α β : Type} {f g : α → List β} {l : List α} (h : ∀ x ∈ l, f x = g x) : l.flatMap f = l.flatMap g := by
  induction l with
  | nil => rfl
  | cons x l ih => rw [List.flatMap_cons, List.flatMap_cons, h x List.mem_cons_self, ih (fun y hy => h y (List.mem_cons_of_mem _ hy))]
theorem list_bytes (h : List (List S75)) (r : List S70) (hf : ∀ l ∈ h, ∀ x ∈ l, (x.f3 && x.f4) = false) : (listN h r).flatMap num = bytesS h r := by
  unfold listN bytesS
  rw [List.flatMap_cons, List.flatMap_append, List.flatMap_cons, flatMap_flat, flatMap_flat]
  congr 1
  congr 1
  · refine flatMap_eq fun l hl => ?_
    unfold hartN hartB
    rw [List.flatMap_cons, flatMap_flat]
    congr 1
    refine flatMap_eq fun x hx => ?_
    have := hf l hl x hx
    unfold recN recB flagR flagN
    simp only [List.flatMap_cons, List.flatMap_nil, List.append_nil]
    cases h3 : x.f3 <;> cases h4 : x.f4 <;> simp_all
  · congr 1
    refine flatMap_eq fun x _ => ?_
    unfold rowN rowB
    rw [List.flatMap_cons, List.flatMap_cons, flatMap_flat]
    congr 1
    congr 1
    refine flatMap_eq fun y _ => ?_
    unfold refN refB
    simp
theorem rbytes_f (k : Nat) (h : List (List S75)) (r : List S70) (hh : h.length ≤ 4000) (hs : ∀ x ∈ h, x.length ≤ 4000) (hr : r.length ≤ 4000) (hl : ∀ x ∈ r, x.f1.length ≤ 4000) (hn : (listN h r).length ≤ 1000000) (hR : ∀ x ∈ listN h r, inR x) (hf : ∀ l ∈ h, ∀ x ∈ l, (x.f3 && x.f4) = false) (hk : 40000000 ≤ k) : spinnakerref13_Bytes.f k h r = some (bytesS h r) := by
  unfold spinnakerref13_Bytes.f
  have e := rbytes_l0 h r hh hs hr hl (bytesS h r) h.length k 0 [(h.length : Int)] (by omega) (by omega) (by omega) (by simp; omega)
  rw [Int.natCast_zero, List.drop_zero] at e
  refine e (fun k hk => ?_)
  have e4 := rbytes_l4 (listN h r) hn hR (listN h r).length k 0 [] (by omega) (by omega) (by omega) (by simp; omega)
  rw [Int.natCast_zero, List.drop_zero, List.nil_append, list_bytes h r hf] at e4
  exact e4

theorem chk_recs {h : List (List S75)} {r : List S70} (hz : chk h r = 0) : ∀ l ∈ h, ∀ x ∈ l, (x.f3 && x.f4) = false := by
  unfold chk at hz
  by_cases h1 : h.length > 8
  · rw [if_pos h1] at hz; cases hz
  rw [if_neg h1] at hz
  by_cases h2 : (h.any fun l => decide (l.length > 1024)) = true
  · rw [if_pos h2] at hz; cases hz
  rw [if_neg h2] at hz
  by_cases h3 : (h.all (fun l => l.all (recOk h)) && rowsS h r r.length 0) = true
  · intro l hl x hx
    have h4 := (Bool.and_eq_true_iff.1 h3).1
    have h5 := List.all_eq_true.1 (List.all_eq_true.1 h4 l hl) x hx
    unfold recOk at h5
    have h6 := (Bool.and_eq_true_iff.1 h5).1
    cases hq : (x.f3 && x.f4)
    · rfl
    · rw [hq] at h6; cases h6
  · rw [if_neg h3] at hz; cases hz
theorem inR_nat {n : Nat} (h : n ≤ 1000000) : inR (n : Int) := ⟨by omega, by omega⟩
theorem listN_in {h : List (List S75)} {r : List S70} (h1 : h.length ≤ 4000) (h2 : ∀ l ∈ h, l.length ≤ 4000) (h3 : r.length ≤ 4000) (h4 : ∀ x ∈ r, x.f1.length ≤ 4000) (h5 : ∀ l ∈ h, ∀ y ∈ l, recR y) (h6 : ∀ x ∈ r, rowR x) : ∀ x ∈ listN h r, inR x := by
  intro x hx
  unfold listN at hx
  rcases List.mem_cons.1 hx with rfl | hx
  · exact inR_nat (by omega)
  rcases List.mem_append.1 hx with hx | hx
  · obtain ⟨l, hl, hx⟩ := List.mem_flatMap.1 hx
    unfold hartN at hx
    rcases List.mem_cons.1 hx with rfl | hx
    · exact inR_nat (by have := h2 l hl; omega)
    obtain ⟨y, hy, hx⟩ := List.mem_flatMap.1 hx
    obtain ⟨r1, r2, r3, r4⟩ := h5 l hl y hy
    unfold recN at hx
    simp only [List.mem_cons, List.not_mem_nil, or_false] at hx
    rcases hx with rfl | rfl | rfl | rfl | rfl
    · exact r1
    · exact r2
    · exact r3
    · exact r4
    · unfold flagR; split
      · exact ⟨by decide, by decide⟩
      · split <;> exact ⟨by decide, by decide⟩
  · rcases List.mem_cons.1 hx with rfl | hx
    · exact inR_nat (by omega)
    obtain ⟨y, hy, hx⟩ := List.mem_flatMap.1 hx
    obtain ⟨r1, r2⟩ := h6 y hy
    unfold rowN at hx
    rcases List.mem_cons.1 hx with rfl | hx
    · exact r1
    rcases List.mem_cons.1 hx with rfl | hx
    · exact inR_nat (by have := h4 y hy; omega)
    obtain ⟨z, hz, hx⟩ := List.mem_flatMap.1 hx
    obtain ⟨w1, w2⟩ := r2 z hz
    unfold refN at hx
    simp only [List.mem_cons, List.not_mem_nil, or_false] at hx
    rcases hx with rfl | rfl
    · exact wf_i64 w1
    · exact wf_i64 w2

theorem CandDecodes : spinnakerlaw13_CandDecodes.Pure := by
  intro b hl hl2 hb
  have hb : ∀ x ∈ b, 0 ≤ x ∧ x < 256 := fun x hx => wf_u8 (hb x hx)
  refine ⟨60000000, ?_⟩
  unfold spinnakerlaw13_CandDecodes.f
  have aw := awake13 60000000 (by omega)
  by_cases h : (b.length : Int) > 4000
  · rw [if_pos h]; exact bind_at aw rfl
  rw [if_neg h]
  obtain ⟨res, hf, hg⟩ := decode_f hb (by omega) 60000000 (by omega)
  refine bind_at hf ?_
  rcases hg with rfl | ⟨H, R, rfl, hz, e, c1, c2, c3, c4, c5⟩
  · show (if (1 : Int) = 0 then _ else (if (1 : Int) = 1 then _ else _)) = _
    rw [if_neg (by decide), if_pos rfl]
    refine bind_at (rsame_f 60000000 [] [] [] [] (show Small [] [] from ⟨by decide, by decide, ⟨fun x hx => (by cases hx), fun x hx => (by cases hx)⟩⟩) (by omega)) ?_
    refine (if_pos (sameS_self [] [])).trans ?_
    exact bind_at aw rfl
  · show (if (0 : Int) = 0 then _ else _) = _
    rw [if_pos rfl]
    refine bind_at (rcheck_f 60000000 H R c1 c2 c3 (by omega)) ?_
    rw [if_pos hz]
    have hfl := chk_recs hz
    have hlen : (listN H R).length ≤ 1000000 := by
      have := flat_one num num_pos (listN H R)
      rw [list_bytes H R hfl, ← e] at this
      omega
    refine bind_at (rbytes_f 60000000 H R c1 c2 c3.len c3.lens hlen (listN_in c1 c2 c3.len c3.lens c4 c5) hfl (by omega)) ?_
    refine bind_at (ref_same 60000000 (bytesS H R) b (by rw [← e]; omega) (by rw [← e]; omega)) ?_
    refine (if_pos (decide_eq_true e.symm)).trans ?_
    exact bind_at aw rfl

end Go.Proofs.Ytfpphaflbmlpeaa.Pure
