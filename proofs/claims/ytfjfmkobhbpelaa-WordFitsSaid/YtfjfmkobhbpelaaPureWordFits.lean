/- Fits of package word is the document's answer for every number and width, and a number that fits comes back from its field; no condition. -/
import Derived.Test.YtfjfmkobhbpelaaPWordFitsx1
namespace Go.Proofs.Ytfjfmkobhbpelaa.Pure
open Go.RowKit Go.Proofs.Ytfjfmkobhbpelaa.PWordFits Go.Proofs.YtfjfmkobhbpelaaW.PrintWords Go.Proofs.YtfjfmkobhbpelaaW.PrintLast Go.Proofs.YtfjfmkobhbpelaaW.PrintMore
set_option linter.unusedVariables false
set_option linter.unusedSimpArgs false
attribute [local irreducible] shl shr

/-- Numbers that need no wrapping, and two's complement by its lowest bits. -/
theorem w64 {x : Int} (h0 : -9223372036854775808 ≤ x) (h1 : x < 9223372036854775808) : wrap64 x = x := by
  unfold wrap64; omega
theorem wu64 (x : Int) : IntKind.u64.wrap x = x % 18446744073709551616 := by
  simp [IntKind.wrap, IntKind.bits, IntKind.signed]
theorem wf_i64 {x : Int} (h : (Lit.int .i64 x).wf = true) : -9223372036854775808 ≤ x ∧ x < 9223372036854775808 := by
  simp [Lit.wf, IntKind.min, IntKind.max, IntKind.bits, IntKind.signed] at h; omega
theorem wf_u32 {x : Int} (h : (Lit.int .u32 x).wf = true) : 0 ≤ x ∧ x < 4294967296 := by
  simp [Lit.wf, IntKind.min, IntKind.max, IntKind.bits, IntKind.signed] at h; omega
theorem wf_u8 {x : Int} (h : (Lit.int .u8 x).wf = true) : 0 ≤ x ∧ x < 256 := by
  simp [Lit.wf, IntKind.min, IntKind.max, IntKind.bits, IntKind.signed] at h; omega
theorem p64 : (2 : Int) ^ 64 = 18446744073709551616 := by decide
theorem p63 : (2 : Int) ^ 63 = 9223372036854775808 := by decide
theorem p_pos (n : Nat) : (0 : Int) < 2 ^ n := Int.pow_pos (by decide)
theorem p_add (a b : Nat) : (2 : Int) ^ (a + b) = 2 ^ a * 2 ^ b := Int.pow_add 2 a b
theorem p_le {a b : Nat} (h : a ≤ b) : (2 : Int) ^ a ≤ 2 ^ b := by
  obtain ⟨c, rfl⟩ := Nat.exists_eq_add_of_le h
  rw [p_add]
  have h1 : (2 : Int) ^ a * 1 ≤ 2 ^ a * 2 ^ c := Int.mul_le_mul_of_nonneg_left (by have := p_pos c; omega) (Int.le_of_lt (p_pos a))
  omega
theorem b64 {i : Nat} (h : i ≤ 64) : (2 : Int) ^ i ≤ 18446744073709551616 := by have := p_le h; rw [p64] at this; exact this
theorem b63 {i : Nat} (h : i ≤ 63) : (2 : Int) ^ i ≤ 9223372036854775808 := by have := p_le h; rw [p63] at this; exact this
theorem b62 {i : Nat} (h : i ≤ 62) : (2 : Int) ^ i ≤ 4611686018427387904 := by have := p_le h; rw [show (2 : Int) ^ 62 = 4611686018427387904 from by decide] at this; exact this
theorem b60 {i : Nat} (h : i ≤ 60) : (2 : Int) ^ i ≤ 1152921504606846976 := by have := p_le h; rw [show (2 : Int) ^ 60 = 1152921504606846976 from by decide] at this; exact this
theorem p_succ (n : Nat) : (2 : Int) ^ (n + 1) = 2 * 2 ^ n := by rw [p_add]; omega

/-- The number with a sign that the lowest n bits are. -/
def sgn (v : Int) (n : Nat) : Int := if v % 2 ^ n < 2 ^ (n - 1) then v % 2 ^ n else v % 2 ^ n - 2 ^ n

theorem mod_mod {v : Int} {a b : Nat} (h : a ≤ b) : v % 2 ^ b % 2 ^ a = v % 2 ^ a := by
  obtain ⟨c, rfl⟩ := Nat.exists_eq_add_of_le h
  exact Int.emod_emod_of_dvd v ⟨2 ^ c, p_add a c⟩
theorem sgn_mod {v : Int} {a b : Nat} (h : a ≤ b) : sgn (v % 2 ^ b) a = sgn v a := by
  unfold sgn; rw [mod_mod h]
theorem sgn_range (v : Int) (n : Nat) (h : 1 ≤ n) : -2 ^ (n - 1) ≤ sgn v n ∧ sgn v n < 2 ^ (n - 1) := by
  have h0 := Int.emod_nonneg v (Int.ne_of_gt (p_pos n))
  have h1 := Int.emod_lt_of_pos v (p_pos n)
  have h2 : (2 : Int) ^ n = 2 * 2 ^ (n - 1) := by rw [← p_succ]; congr 1; omega
  unfold sgn
  split <;> omega
/-- Which number has the same lowest bits and fits is the one. -/
theorem sgn_self {v : Int} {n : Nat} (h : 1 ≤ n) (h0 : -2 ^ (n - 1) ≤ v) (h1 : v < 2 ^ (n - 1)) : sgn v n = v := by
  have h2 : (2 : Int) ^ n = 2 * 2 ^ (n - 1) := by rw [← p_succ]; congr 1; omega
  have hp := p_pos (n - 1)
  unfold sgn
  by_cases hv : 0 ≤ v
  · have e : v % 2 ^ n = v := Int.emod_eq_of_lt hv (by omega)
    rw [e, if_pos h1]
  · have e : v % 2 ^ n = v + 2 ^ n := by
      rw [← Int.add_emod_right]; exact Int.emod_eq_of_lt (by omega) (by omega)
    rw [e, if_neg (by omega)]; omega
theorem shl_shr (v : Int) (n : Nat) (h1 : 1 ≤ n) (h64 : n ≤ 64) :
    shr .i64 (wrap64 (shl .u64 (v % 18446744073709551616) (64 - (n : Int)))) (64 - (n : Int)) = sgn v n := by
  have hy : (64 - (n : Int)).toNat = 64 - n := by omega
  have hm : min (64 - n) 64 = 64 - n := by omega
  unfold shl shr
  rw [hy, show IntKind.u64.bits = 64 from rfl, show IntKind.i64.bits = 64 from rfl, hm, wu64]
  have hP := p_pos (64 - n)
  have hR := p_pos (n - 1)
  have hQ : (2 : Int) ^ n = 2 * 2 ^ (n - 1) := by rw [← p_succ]; congr 1; omega
  have hPQ : (2 : Int) ^ n * 2 ^ (64 - n) = 18446744073709551616 := by
    rw [← p_add, show n + (64 - n) = 64 from by omega]; exact p64
  have hRP : (2 : Int) ^ (n - 1) * 2 ^ (64 - n) = 9223372036854775808 := by
    rw [← p_add, show n - 1 + (64 - n) = 63 from by omega]; exact p63
  have e1 : v % 18446744073709551616 * 2 ^ (64 - n) % 18446744073709551616 = (v % 2 ^ n) * 2 ^ (64 - n) := by
    have e2 : (v % 18446744073709551616) % 2 ^ n = v % 2 ^ n := by rw [← p64]; exact mod_mod h64
    rw [← e2, Int.mul_comm (v % 18446744073709551616 % 2 ^ n), ← Int.mul_emod_mul_of_pos _ _ hP, Int.mul_comm (2 ^ (64 - n)) (2 ^ n), hPQ, Int.mul_comm (2 ^ (64 - n))]
  rw [e1]
  have h0 := Int.emod_nonneg v (Int.ne_of_gt (p_pos n))
  have h3 := Int.emod_lt_of_pos v (p_pos n)
  unfold sgn
  generalize v % 2 ^ n = m at h0 h3 ⊢
  generalize (2 : Int) ^ (64 - n) = P at hP hPQ hRP ⊢
  generalize (2 : Int) ^ (n - 1) = R at hR hQ hRP ⊢
  rw [hQ] at h3 hPQ ⊢
  split
  · rename_i hlt
    have a1 : 0 ≤ m * P := Int.mul_nonneg h0 (Int.le_of_lt hP)
    have a2 : m * P < R * P := Int.mul_lt_mul_of_pos_right hlt hP
    rw [w64 (by omega) (by omega), Int.mul_ediv_cancel _ (Int.ne_of_gt hP)]
  · rename_i hge
    have a1 : R * P ≤ m * P := Int.mul_le_mul_of_nonneg_right (by omega) (Int.le_of_lt hP)
    have a2 : m * P < 2 * R * P := Int.mul_lt_mul_of_pos_right h3 hP
    have e3 : wrap64 (m * P) = (m - 2 * R) * P := by
      rw [Int.sub_mul]; unfold wrap64; omega
    rw [e3, Int.mul_ediv_cancel _ (Int.ne_of_gt hP)]

theorem power_l (d : Nat) : ∀ (k : Nat) (n p : Int) (i : Nat), n ≤ 63 → p = 2 ^ i → n - i = d → d < k →
    spinnakerref01_Power.l0 k n p i = some (2 ^ n.toNat) := by
  induction d with
  | zero =>
    intro k n p i hn hp hd hk
    obtain ⟨k, rfl⟩ : ∃ m, k = m + 1 := ⟨k - 1, by omega⟩
    simp only [spinnakerref01_Power.l0]
    rw [if_neg (by omega), hp, show n.toNat = i from by omega]
  | succ d ih =>
    intro k n p i hn hp hd hk
    obtain ⟨k, rfl⟩ : ∃ m, k = m + 1 := ⟨k - 1, by omega⟩
    simp only [spinnakerref01_Power.l0]
    have h62 : (2 : Int) ^ i ≤ 4611686018427387904 := b62 (by omega)
    have hpi := p_pos i
    have e1 : 2 * p % 18446744073709551616 = 2 ^ (i + 1) := by
      rw [hp, p_succ]; omega
    have e2 : wrap64 ((i : Int) + 1) = ((i + 1 : Nat) : Int) := by rw [w64 (by omega) (by omega)]; simp
    rw [if_pos (by omega), wu64, e1, e2]
    exact ih k n _ (i + 1) hn rfl (by omega) (by omega)
theorem power_f (k : Nat) (n : Int) (h0 : 0 ≤ n) (hn : n ≤ 63) (hk : 64 < k) : spinnakerref01_Power.f k n = some (2 ^ n.toNat) := by
  unfold spinnakerref01_Power.f
  exact power_l n.toNat k n 1 0 hn (by simp) (by omega) (by omega)
theorem ref_fits (k : Nat) (v n : Int) (h0 : -9223372036854775808 ≤ v) (h1 : v < 9223372036854775808) (hk : 66 < k) :
    spinnakerref01_Fits.f k v n = some (decide (1 ≤ n ∧ n ≤ 64 ∧ -2 ^ (n.toNat - 1) ≤ v ∧ v < 2 ^ (n.toNat - 1))) := by
  obtain ⟨k, rfl⟩ : ∃ m, k = m + 1 := ⟨k - 1, by omega⟩
  have e : ∀ b, b = true → ¬ (1 ≤ n ∧ n ≤ 64) → spinnakerref01_Fits.j0 (k + 1) v n b = some (decide (1 ≤ n ∧ n ≤ 64 ∧ -2 ^ (n.toNat - 1) ≤ v ∧ v < 2 ^ (n.toNat - 1))) := by
    rintro b rfl hn
    simp only [spinnakerref01_Fits.j0]
    rw [if_true]; congr 1; symm; simp only [decide_eq_false_iff_not]; omega
  unfold spinnakerref01_Fits.f
  by_cases hn1 : n < 1
  · rw [if_pos hn1]; exact e _ rfl (by omega)
  · rw [if_neg hn1]
    by_cases hn2 : n > 64
    · exact e _ (by simpa using hn2) (by omega)
    · simp only [spinnakerref01_Fits.j0]
      rw [if_neg (by simp; omega)]
      by_cases hn3 : n = 64
      · rw [if_pos hn3]; subst hn3
        congr 1; symm; simp only [decide_eq_true_eq]
        have h63 : (2 : Int) ^ ((64 : Int).toNat - 1) = 9223372036854775808 := by decide
        rw [h63]; omega
      · rw [if_neg hn3, w64 (x := n - 1) (by omega) (by omega), power_f k (n - 1) (by omega) (by omega) (by omega)]
        simp only [Option.bind_some]
        have hb : (2 : Int) ^ (n.toNat - 1) ≤ 4611686018427387904 := b62 (by omega)
        have hp := p_pos (n.toNat - 1)
        rw [show (n - 1).toNat = n.toNat - 1 from by omega]
        generalize (2 : Int) ^ (n.toNat - 1) = p at *
        rw [w64 (x := p) (by omega) (by omega), w64 (x := -p) (by omega) (by omega), w64 (x := p - 1) (by omega) (by omega)]
        by_cases hv : v ≥ -p
        · rw [if_pos hv]; congr 1; simp only [decide_eq_decide]; omega
        · rw [if_neg hv]; congr 1; symm; simp only [decide_eq_false_iff_not]; omega

theorem may_f (a n : Int) (h : -9223372036854775808 ≤ n) (h' : n < 9223372036854775808) : word_may.f a n = some (decide (0 ≤ a ∧ 1 ≤ n ∧ n ≤ 32 ∧ a ≤ 32 - n)) := by
  unfold word_may.f
  by_cases h0 : a ≥ 0
  · rw [if_pos h0]
    by_cases h1 : n ≥ 1
    · rw [if_pos h1]
      by_cases h2 : n ≤ 32
      · rw [if_pos h2, w64 (by omega) (by omega)]
        congr 1; simp only [decide_eq_decide]; omega
      · rw [if_neg h2]; congr 1; symm; simp; omega
    · rw [if_neg h1]; congr 1; symm; simp; omega
  · rw [if_neg h0]; congr 1; symm; simp; omega
theorem sign_f (v n : Int) (h0 : 0 ≤ v) (h1 : v < 18446744073709551616) (h : -9223372036854775808 ≤ n) (h' : n < 9223372036854775808) :
    word_Sign.f v n = some (if 1 ≤ n ∧ n ≤ 32 then (sgn v n.toNat, 0) else (0, 2)) := by
  unfold word_Sign.f
  rw [may_f 0 n h h']
  simp only [Option.bind_some]
  by_cases hn : 1 ≤ n ∧ n ≤ 32
  · rw [if_pos (by simp; omega), if_pos hn, w64 (by omega) (by omega), if_pos (by omega), wu64]
    have e := shl_shr v n.toNat (by omega) (by omega)
    rw [show ((n.toNat : Nat) : Int) = n from by omega] at e
    rw [e]
  · rw [if_neg (by simp; omega), if_neg hn]

/-- The bytes of a number, and the number of bytes, the lowest one first. -/
def dig (v : Int) (n : Nat) : List Int := (List.range n).map fun j => v / 2 ^ (8 * j) % 256
def lev : List Int → Int
  | [] => 0
  | b :: t => b + 256 * lev t
theorem dig_length (v : Int) (n : Nat) : (dig v n).length = n := by simp [dig]
theorem dig_zero (v : Int) : dig v 0 = [] := rfl
theorem dig_succ (v : Int) (n : Nat) : dig v (n + 1) = v % 256 :: dig (v / 256) n := by
  unfold dig
  rw [List.range_succ_eq_map, List.map_cons, List.map_map]
  congr 1
  · simp
  · apply List.map_congr_left
    intro j _
    simp only [Function.comp_apply]
    rw [show 8 * Nat.succ j = 8 + 8 * j from by omega, p_add, ← Int.ediv_ediv_of_nonneg (Int.le_of_lt (p_pos 8))]
    rfl
theorem lev_dig (n : Nat) : ∀ v : Int, lev (dig v n) = v % 2 ^ (8 * n) := by
  induction n with
  | zero => intro v; simp [dig, lev]
  | succ n ih =>
    intro v
    rw [dig_succ]
    simp only [lev]
    rw [ih, show 8 * (n + 1) = 8 + 8 * n from by omega, p_add, show (2 : Int) ^ 8 = 256 from by decide]
    have a := Int.mul_ediv_add_emod v (256 * 2 ^ (8 * n))
    have b := Int.mul_ediv_add_emod v 256
    have c := Int.mul_ediv_add_emod (v / 256) (2 ^ (8 * n))
    rw [Int.ediv_ediv_of_nonneg (by decide)] at c
    generalize v / (256 * 2 ^ (8 * n)) = q at a c
    rw [Int.mul_assoc] at a
    omega
theorem lev_range : ∀ l : List Int, (∀ x ∈ l, 0 ≤ x ∧ x < 256) → 0 ≤ lev l ∧ lev l < 2 ^ (8 * l.length)
  | [], _ => by simp [lev]
  | b :: t, h => by
    have ih := lev_range t fun x hx => h x (List.mem_cons_of_mem _ hx)
    have hb := h b List.mem_cons_self
    simp only [lev, List.length_cons]
    rw [show 8 * (t.length + 1) = 8 + 8 * t.length from by omega, p_add, show (2 : Int) ^ 8 = 256 from by decide]
    omega
theorem dig_lev : ∀ l : List Int, (∀ x ∈ l, 0 ≤ x ∧ x < 256) → dig (lev l) l.length = l
  | [], _ => rfl
  | b :: t, h => by
    have hb := h b List.mem_cons_self
    rw [List.length_cons, dig_succ]
    simp only [lev]
    rw [show (b + 256 * lev t) % 256 = b from by omega, show (b + 256 * lev t) / 256 = lev t from by omega, dig_lev t fun x hx => h x (List.mem_cons_of_mem _ hx)]
theorem lev_snoc : ∀ (l : List Int) (b : Int), lev (l ++ [b]) = lev l + b * 2 ^ (8 * l.length)
  | [], b => by simp [lev]
  | c :: t, b => by
    rw [List.cons_append]
    simp only [lev, List.length_cons]
    rw [lev_snoc t b, show 8 * (t.length + 1) = 8 + 8 * t.length from by omega, p_add, show (2 : Int) ^ 8 = 256 from by decide, Int.mul_add,
      show b * (256 * 2 ^ (8 * t.length)) = 256 * (b * 2 ^ (8 * t.length)) from by rw [Int.mul_left_comm]]
    omega
theorem dig_bytes (v : Int) (n : Nat) : ∀ x ∈ dig v n, 0 ≤ x ∧ x < 256 := by
  intro x hx
  simp only [dig, List.mem_map] at hx
  obtain ⟨j, _, rfl⟩ := hx
  omega
attribute [local irreducible] lev dig

theorem split_l (d : Nat) : ∀ (k : Nat) (v n : Int) (l : List Int) (i : Nat), n ≤ 8 → n - i = d → d < k → l.length = i →
    word_split.l0 k v l n i = some (l ++ (List.range' i d).map fun j => v / 2 ^ (8 * j) % 256) := by
  induction d with
  | zero =>
    intro k v n l i hn hd hk hl
    obtain ⟨k, rfl⟩ : ∃ m, k = m + 1 := ⟨k - 1, by omega⟩
    simp only [word_split.l0]
    rw [if_neg (by omega)]; simp
  | succ d ih =>
    intro k v n l i hn hd hk hl
    obtain ⟨k, rfl⟩ : ∃ m, k = m + 1 := ⟨k - 1, by omega⟩
    simp only [word_split.l0]
    rw [w64 (x := 8 * (i : Int)) (by omega) (by omega), w64 (x := (i : Int) + 1) (by omega) (by omega), if_pos (by omega), if_pos (by omega), if_pos (by omega)]
    have e : shr .u64 v (8 * (i : Int)) = v / 2 ^ (8 * i) := by
      unfold shr
      rw [show IntKind.u64.bits = 64 from rfl, show (8 * (i : Int)).toNat = 8 * i from by omega, Nat.min_eq_left (by omega)]
    have e2 : (i : Int) + 1 = ((i + 1 : Nat) : Int) := by omega
    rw [e, e2, ih k v n _ (i + 1) hn (by omega) (by omega) (by simp [hl]), List.append_assoc]
    congr 1
theorem split_f (k : Nat) (v n : Int) (h0 : 0 ≤ n) (hn : n ≤ 8) (hk : 8 < k) :
    word_split.f k v n = some (dig v n.toNat) := by
  unfold word_split.f dig
  have := split_l n.toNat k v n [] 0 hn (by omega) (by omega) rfl
  rw [List.range_eq_range']
  simpa using this
theorem word_bytes_f (k : Nat) (v : Int) (h0 : 0 ≤ v) (h1 : v < 18446744073709551616) (hk : 8 < k) :
    word_Bytes.f k v = some (dig v 4) := by
  unfold word_Bytes.f
  rw [wu64, Int.emod_eq_of_lt h0 h1, split_f k v 4 (by decide) (by decide) hk]; rfl
theorem fits_f (v n : Int) (h0 : -9223372036854775808 ≤ v) (h1 : v < 9223372036854775808) (h : -9223372036854775808 ≤ n) (h' : n < 9223372036854775808) :
    word_Fits.f v n = some (decide (1 ≤ n ∧ n ≤ 64 ∧ -2 ^ (n.toNat - 1) ≤ v ∧ v < 2 ^ (n.toNat - 1))) := by
  unfold word_Fits.f
  by_cases hn1 : n < 1
  · rw [if_pos hn1]; congr 1; symm; simp; omega
  · rw [if_neg hn1]
    by_cases hn2 : n > 64
    · rw [if_pos hn2]; congr 1; symm; simp; omega
    · rw [if_neg hn2, w64 (by omega) (by omega), if_pos (by omega), wu64]
      have e := shl_shr v n.toNat (by omega) (by omega)
      rw [show ((n.toNat : Nat) : Int) = n from by omega] at e
      rw [e]
      congr 1
      rw [Bool.eq_iff_iff]
      simp only [beq_iff_eq, decide_eq_true_eq]
      constructor
      · intro hh
        have := sgn_range v n.toNat (by omega)
        rw [hh] at this
        exact ⟨by omega, by omega, this⟩
      · intro hh
        exact sgn_self (by omega) hh.2.2.1 hh.2.2.2
theorem awake01 (k : Nat) (hk : 8 < k) : spinnakerlaw01_awake.f k = some true := by
  unfold spinnakerlaw01_awake.f
  rw [sign_f 4095 12 (by decide) (by decide) (by decide) (by decide), word_bytes_f k 305419896 (by decide) (by decide) hk, fits_f (-5) 4 (by decide) (by decide) (by decide) (by decide)]
  decide +kernel

theorem WordFits : spinnakerlaw01_WordFits.Pure := by
  intro v n hv hn
  have hv := wf_i64 hv
  have hn := wf_i64 hn
  refine ⟨1000, ?_⟩
  unfold spinnakerlaw01_WordFits.f
  rw [fits_f v n hv.1 hv.2 hn.1 hn.2, ref_fits 1000 v n hv.1 hv.2 (by decide)]
  simp only [Option.bind_some]
  rw [if_neg (by simp)]
  have e : ∀ b, b = true → spinnakerlaw01_WordFits.j0 1000 v n b = some true := by
    rintro b rfl
    simp only [spinnakerlaw01_WordFits.j0]
    rw [awake01 999 (by decide)]; simp
  by_cases h : 1 ≤ n ∧ n ≤ 64 ∧ -2 ^ (n.toNat - 1) ≤ v ∧ v < 2 ^ (n.toNat - 1)
  · rw [if_pos (by simpa using h)]
    by_cases h32 : n > 32
    · exact e _ (by simpa using h32)
    · simp only [spinnakerlaw01_WordFits.j0]
      rw [if_neg (by simpa using h32), wu64, Int.tmod_eq_emod_of_nonneg (by omega), sign_f _ n (by omega) (by omega) hn.1 hn.2]
      simp only [Option.bind_some]
      have hn32 : 1 ≤ n ∧ n ≤ 32 := ⟨h.1, by omega⟩
      rw [if_pos hn32]
      have e2 : sgn (v % 18446744073709551616 % 4294967296 % 4294967296) n.toNat = v := by
        have a1 : v % 18446744073709551616 % 4294967296 % 4294967296 = v % 2 ^ 32 := by
          rw [show (2 : Int) ^ 32 = 4294967296 from by decide]; omega
        rw [a1, sgn_mod (by omega)]
        exact sgn_self (by omega) h.2.2.1 h.2.2.2
      rw [e2, awake01 999 (by decide)]
      simp
  · rw [if_neg (by simpa using h)]; exact e _ rfl

end Go.Proofs.Ytfjfmkobhbpelaa.Pure
