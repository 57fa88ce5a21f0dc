/- Put and then Get answer the value of every field of every word, and all other bits stay; no condition. -/
import Derived.Test.YtfjfmkobhbpelaaGWordFieldsx2
import Derived.Test.YtfjfmkobhbpelaaOpenWordFields
namespace Go.Proofs.Ytfjfmkobhbpelaa.Pure
open Go.RowKit Go.Proofs.Ytfjfmkobhbpelaa.GWordFields Go.Proofs.YtfjfmkobhbpelaaW.PrintWords Go.Proofs.YtfjfmkobhbpelaaW.PrintLast Go.Proofs.YtfjfmkobhbpelaaW.PrintMore
set_option linter.unusedVariables false
set_option linter.unusedSimpArgs false
attribute [local irreducible] shl shr

/-- Numbers that need no wrapping, and two's complement by its lowest bits. -/
theorem w64 {x : Int} (h0 : -9223372036854775808 ≤ x) (h1 : x < 9223372036854775808) : wrap64 x = x := by
  unfold wrap64; omega
theorem w64n {x : Int} (n : Nat) (h : x = n) (hn : n < 9223372036854775808) : wrap64 x = (n : Int) := by
  rw [w64 (by omega) (by omega), h]
theorem wu64 (x : Int) : IntKind.u64.wrap x = x % 18446744073709551616 := by
  simp [IntKind.wrap, IntKind.bits, IntKind.signed]
theorem wf_i64 {x : Int} (h : (Lit.int .i64 x).wf = true) : -9223372036854775808 ≤ x ∧ x < 9223372036854775808 := by
  simp [Lit.wf, IntKind.min, IntKind.max, IntKind.bits, IntKind.signed] at h; omega
theorem wf_u32 {x : Int} (h : (Lit.int .u32 x).wf = true) : 0 ≤ x ∧ x < 4294967296 := by
  simp [Lit.wf, IntKind.min, IntKind.max, IntKind.bits, IntKind.signed] at h; omega
theorem wf_u8 {x : Int} (h : (Lit.int .u8 x).wf = true) : 0 ≤ x ∧ x < 256 := by
  simp [Lit.wf, IntKind.min, IntKind.max, IntKind.bits, IntKind.signed] at h; omega
theorem p64 : (2 : Int) ^ 64 = 18446744073709551616 := by decide
theorem p63 : (2 : Int) ^ 63 = 9223372036854775808 := by decide
theorem p_pos (n : Nat) : (0 : Int) < 2 ^ n := Int.pow_pos (by decide)
theorem p_add (a b : Nat) : (2 : Int) ^ (a + b) = 2 ^ a * 2 ^ b := Int.pow_add 2 a b
theorem p_le {a b : Nat} (h : a ≤ b) : (2 : Int) ^ a ≤ 2 ^ b := by
  obtain ⟨c, rfl⟩ := Nat.exists_eq_add_of_le h
  rw [p_add]
  have h1 : (2 : Int) ^ a * 1 ≤ 2 ^ a * 2 ^ c := Int.mul_le_mul_of_nonneg_left (by have := p_pos c; omega) (Int.le_of_lt (p_pos a))
  omega
theorem b64 {i : Nat} (h : i ≤ 64) : (2 : Int) ^ i ≤ 18446744073709551616 := by have := p_le h; rw [p64] at this; exact this
theorem b63 {i : Nat} (h : i ≤ 63) : (2 : Int) ^ i ≤ 9223372036854775808 := by have := p_le h; rw [p63] at this; exact this
theorem b62 {i : Nat} (h : i ≤ 62) : (2 : Int) ^ i ≤ 4611686018427387904 := by have := p_le h; rw [show (2 : Int) ^ 62 = 4611686018427387904 from by decide] at this; exact this
theorem b60 {i : Nat} (h : i ≤ 60) : (2 : Int) ^ i ≤ 1152921504606846976 := by have := p_le h; rw [show (2 : Int) ^ 60 = 1152921504606846976 from by decide] at this; exact this
theorem p_succ (n : Nat) : (2 : Int) ^ (n + 1) = 2 * 2 ^ n := by rw [p_add]; omega

/-- The number with a sign that the lowest n bits are. -/
def sgn (v : Int) (n : Nat) : Int := if v % 2 ^ n < 2 ^ (n - 1) then v % 2 ^ n else v % 2 ^ n - 2 ^ n

theorem mod_mod {v : Int} {a b : Nat} (h : a ≤ b) : v % 2 ^ b % 2 ^ a = v % 2 ^ a := by
  obtain ⟨c, rfl⟩ := Nat.exists_eq_add_of_le h
  exact Int.emod_emod_of_dvd v ⟨2 ^ c, p_add a c⟩
theorem sgn_mod {v : Int} {a b : Nat} (h : a ≤ b) : sgn (v % 2 ^ b) a = sgn v a := by
  unfold sgn; rw [mod_mod h]
theorem sgn_range (v : Int) (n : Nat) (h : 1 ≤ n) : -2 ^ (n - 1) ≤ sgn v n ∧ sgn v n < 2 ^ (n - 1) := by
  have h0 := Int.emod_nonneg v (Int.ne_of_gt (p_pos n))
  have h1 := Int.emod_lt_of_pos v (p_pos n)
  have h2 : (2 : Int) ^ n = 2 * 2 ^ (n - 1) := by rw [← p_succ]; congr 1; omega
  unfold sgn
  split <;> omega
/-- Which number has the same lowest bits and fits is the one. -/
theorem sgn_self {v : Int} {n : Nat} (h : 1 ≤ n) (h0 : -2 ^ (n - 1) ≤ v) (h1 : v < 2 ^ (n - 1)) : sgn v n = v := by
  have h2 : (2 : Int) ^ n = 2 * 2 ^ (n - 1) := by rw [← p_succ]; congr 1; omega
  have hp := p_pos (n - 1)
  unfold sgn
  by_cases hv : 0 ≤ v
  · have e : v % 2 ^ n = v := Int.emod_eq_of_lt hv (by omega)
    rw [e, if_pos h1]
  · have e : v % 2 ^ n = v + 2 ^ n := by
      rw [← Int.add_emod_right]; exact Int.emod_eq_of_lt (by omega) (by omega)
    rw [e, if_neg (by omega)]; omega
theorem shl_shr (v : Int) (n : Nat) (h1 : 1 ≤ n) (h64 : n ≤ 64) :
    shr .i64 (wrap64 (shl .u64 (v % 18446744073709551616) (64 - (n : Int)))) (64 - (n : Int)) = sgn v n := by
  have hy : (64 - (n : Int)).toNat = 64 - n := by omega
  have hm : min (64 - n) 64 = 64 - n := by omega
  unfold shl shr
  rw [hy, show IntKind.u64.bits = 64 from rfl, show IntKind.i64.bits = 64 from rfl, hm, wu64]
  have hP := p_pos (64 - n)
  have hR := p_pos (n - 1)
  have hQ : (2 : Int) ^ n = 2 * 2 ^ (n - 1) := by rw [← p_succ]; congr 1; omega
  have hPQ : (2 : Int) ^ n * 2 ^ (64 - n) = 18446744073709551616 := by
    rw [← p_add, show n + (64 - n) = 64 from by omega]; exact p64
  have hRP : (2 : Int) ^ (n - 1) * 2 ^ (64 - n) = 9223372036854775808 := by
    rw [← p_add, show n - 1 + (64 - n) = 63 from by omega]; exact p63
  have e1 : v % 18446744073709551616 * 2 ^ (64 - n) % 18446744073709551616 = (v % 2 ^ n) * 2 ^ (64 - n) := by
    have e2 : (v % 18446744073709551616) % 2 ^ n = v % 2 ^ n := by rw [← p64]; exact mod_mod h64
    rw [← e2, Int.mul_comm (v % 18446744073709551616 % 2 ^ n), ← Int.mul_emod_mul_of_pos _ _ hP, Int.mul_comm (2 ^ (64 - n)) (2 ^ n), hPQ, Int.mul_comm (2 ^ (64 - n))]
  rw [e1]
  have h0 := Int.emod_nonneg v (Int.ne_of_gt (p_pos n))
  have h3 := Int.emod_lt_of_pos v (p_pos n)
  unfold sgn
  generalize v % 2 ^ n = m at h0 h3 ⊢
  generalize (2 : Int) ^ (64 - n) = P at hP hPQ hRP ⊢
  generalize (2 : Int) ^ (n - 1) = R at hR hQ hRP ⊢
  rw [hQ] at h3 hPQ ⊢
  split
  · rename_i hlt
    have a1 : 0 ≤ m * P := Int.mul_nonneg h0 (Int.le_of_lt hP)
    have a2 : m * P < R * P := Int.mul_lt_mul_of_pos_right hlt hP
    rw [w64 (by omega) (by omega), Int.mul_ediv_cancel _ (Int.ne_of_gt hP)]
  · rename_i hge
    have a1 : R * P ≤ m * P := Int.mul_le_mul_of_nonneg_right (by omega) (Int.le_of_lt hP)
    have a2 : m * P < 2 * R * P := Int.mul_lt_mul_of_pos_right h3 hP
    have e3 : wrap64 (m * P) = (m - 2 * R) * P := by
      rw [Int.sub_mul]; unfold wrap64; omega
    rw [e3, Int.mul_ediv_cancel _ (Int.ne_of_gt hP)]

theorem bit_l (d : Nat) : ∀ (k : Nat) (v i j : Int), 0 ≤ v → v < 18446744073709551616 → 0 ≤ j → j ≤ i → i < 4611686018427387904 → i - j = d → d < k →
    spinnakerref01_Bit.l0 k v i j = some (v / 2 ^ d % 2) := by
  induction d with
  | zero =>
    intro k v i j h0 h1 hj hji hi hd hk
    obtain ⟨k, rfl⟩ : ∃ m, k = m + 1 := ⟨k - 1, by omega⟩
    simp only [spinnakerref01_Bit.l0]
    rw [if_neg (by omega), Int.tmod_eq_emod_of_nonneg h0, w64 (by omega) (by omega)]
    simp
  | succ d ih =>
    intro k v i j h0 h1 hj hji hi hd hk
    obtain ⟨k, rfl⟩ : ∃ m, k = m + 1 := ⟨k - 1, by omega⟩
    simp only [spinnakerref01_Bit.l0]
    rw [if_pos (by omega), Int.tdiv_eq_ediv_of_nonneg h0, wu64, w64 (x := j + 1) (by omega) (by omega)]
    have hv : v / 2 % 18446744073709551616 = v / 2 := by omega
    rw [hv, ih k (v / 2) i (j + 1) (by omega) (by omega) (by omega) (by omega) hi (by omega) (by omega)]
    rw [p_succ, Int.ediv_ediv_of_nonneg (by decide)]
theorem bit_f (k : Nat) (v i : Int) (h0 : 0 ≤ v) (h1 : v < 18446744073709551616) (hi0 : 0 ≤ i) (hi : i < 4611686018427387904) (hk : i.toNat < k) :
    spinnakerref01_Bit.f k v i = some (v / 2 ^ i.toNat % 2) := by
  unfold spinnakerref01_Bit.f
  exact bit_l i.toNat k v i 0 h0 h1 (by omega) hi0 hi (by omega) hk

theorem may_f (a n : Int) (h : -9223372036854775808 ≤ n) (h' : n < 9223372036854775808) : word_may.f a n = some (decide (0 ≤ a ∧ 1 ≤ n ∧ n ≤ 32 ∧ a ≤ 32 - n)) := by
  unfold word_may.f
  by_cases h0 : a ≥ 0
  · rw [if_pos h0]
    by_cases h1 : n ≥ 1
    · rw [if_pos h1]
      by_cases h2 : n ≤ 32
      · rw [if_pos h2, w64 (by omega) (by omega)]
        congr 1; simp only [decide_eq_decide]; omega
      · rw [if_neg h2]; congr 1; symm; simp; omega
    · rw [if_neg h1]; congr 1; symm; simp; omega
  · rw [if_neg h0]; congr 1; symm; simp; omega
theorem sign_f (v n : Int) (h0 : 0 ≤ v) (h1 : v < 18446744073709551616) (h : -9223372036854775808 ≤ n) (h' : n < 9223372036854775808) :
    word_Sign.f v n = some (if 1 ≤ n ∧ n ≤ 32 then (sgn v n.toNat, 0) else (0, 2)) := by
  unfold word_Sign.f
  rw [may_f 0 n h h']
  simp only [Option.bind_some]
  by_cases hn : 1 ≤ n ∧ n ≤ 32
  · rw [if_pos (by simp; omega), if_pos hn, w64 (by omega) (by omega), if_pos (by omega), wu64]
    have e := shl_shr v n.toNat (by omega) (by omega)
    rw [show ((n.toNat : Nat) : Int) = n from by omega] at e
    rw [e]
  · rw [if_neg (by simp; omega), if_neg hn]

theorem fits_f (v n : Int) (h0 : -9223372036854775808 ≤ v) (h1 : v < 9223372036854775808) (h : -9223372036854775808 ≤ n) (h' : n < 9223372036854775808) :
    word_Fits.f v n = some (decide (1 ≤ n ∧ n ≤ 64 ∧ -2 ^ (n.toNat - 1) ≤ v ∧ v < 2 ^ (n.toNat - 1))) := by
  unfold word_Fits.f
  by_cases hn1 : n < 1
  · rw [if_pos hn1]; congr 1; symm; simp; omega
  · rw [if_neg hn1]
    by_cases hn2 : n > 64
    · rw [if_pos hn2]; congr 1; symm; simp; omega
    · rw [if_neg hn2, w64 (by omega) (by omega), if_pos (by omega), wu64]
      have e := shl_shr v n.toNat (by omega) (by omega)
      rw [show ((n.toNat : Nat) : Int) = n from by omega] at e
      rw [e]
      congr 1
      rw [Bool.eq_iff_iff]
      simp only [beq_iff_eq, decide_eq_true_eq]
      constructor
      · intro hh
        have := sgn_range v n.toNat (by omega)
        rw [hh] at this
        exact ⟨by omega, by omega, this⟩
      · intro hh
        exact sgn_self (by omega) hh.2.2.1 hh.2.2.2

/-- The bytes of a number, and the number of bytes, the lowest one first. -/
def dig (v : Int) (n : Nat) : List Int := (List.range n).map fun j => v / 2 ^ (8 * j) % 256
def lev : List Int → Int
  | [] => 0
  | b :: t => b + 256 * lev t
theorem dig_length (v : Int) (n : Nat) : (dig v n).length = n := by simp [dig]
theorem dig_zero (v : Int) : dig v 0 = [] := rfl
theorem dig_succ (v : Int) (n : Nat) : dig v (n + 1) = v % 256 :: dig (v / 256) n := by
  unfold dig
  rw [List.range_succ_eq_map, List.map_cons, List.map_map]
  congr 1
  · simp
  · apply List.map_congr_left
    intro j _
    simp only [Function.comp_apply]
    rw [show 8 * Nat.succ j = 8 + 8 * j from by omega, p_add, ← Int.ediv_ediv_of_nonneg (Int.le_of_lt (p_pos 8))]
    rfl
theorem lev_dig (n : Nat) : ∀ v : Int, lev (dig v n) = v % 2 ^ (8 * n) := by
  induction n with
  | zero => intro v; simp [dig, lev]
  | succ n ih =>
    intro v
    rw [dig_succ]
    simp only [lev]
    rw [ih, show 8 * (n + 1) = 8 + 8 * n from by omega, p_add, show (2 : Int) ^ 8 = 256 from by decide]
    have a := Int.mul_ediv_add_emod v (256 * 2 ^ (8 * n))
    have b := Int.mul_ediv_add_emod v 256
    have c := Int.mul_ediv_add_emod (v / 256) (2 ^ (8 * n))
    rw [Int.ediv_ediv_of_nonneg (by decide)] at c
    generalize v / (256 * 2 ^ (8 * n)) = q at a c
    rw [Int.mul_assoc] at a
    omega
theorem lev_range : ∀ l : List Int, (∀ x ∈ l, 0 ≤ x ∧ x < 256) → 0 ≤ lev l ∧ lev l < 2 ^ (8 * l.length)
  | [], _ => by simp [lev]
  | b :: t, h => by
    have ih := lev_range t fun x hx => h x (List.mem_cons_of_mem _ hx)
    have hb := h b List.mem_cons_self
    simp only [lev, List.length_cons]
    rw [show 8 * (t.length + 1) = 8 + 8 * t.length from by omega, p_add, show (2 : Int) ^ 8 = 256 from by decide]
    omega
theorem dig_lev : ∀ l : List Int, (∀ x ∈ l, 0 ≤ x ∧ x < 256) → dig (lev l) l.length = l
  | [], _ => rfl
  | b :: t, h => by
    have hb := h b List.mem_cons_self
    rw [List.length_cons, dig_succ]
    simp only [lev]
    rw [show (b + 256 * lev t) % 256 = b from by omega, show (b + 256 * lev t) / 256 = lev t from by omega, dig_lev t fun x hx => h x (List.mem_cons_of_mem _ hx)]
theorem lev_snoc : ∀ (l : List Int) (b : Int), lev (l ++ [b]) = lev l + b * 2 ^ (8 * l.length)
  | [], b => by simp [lev]
  | c :: t, b => by
    rw [List.cons_append]
    simp only [lev, List.length_cons]
    rw [lev_snoc t b, show 8 * (t.length + 1) = 8 + 8 * t.length from by omega, p_add, show (2 : Int) ^ 8 = 256 from by decide, Int.mul_add,
      show b * (256 * 2 ^ (8 * t.length)) = 256 * (b * 2 ^ (8 * t.length)) from by rw [Int.mul_left_comm]]
    omega
theorem dig_bytes (v : Int) (n : Nat) : ∀ x ∈ dig v n, 0 ≤ x ∧ x < 256 := by
  intro x hx
  simp only [dig, List.mem_map] at hx
  obtain ⟨j, _, rfl⟩ := hx
  omega
attribute [local irreducible] lev dig

theorem split_l (d : Nat) : ∀ (k : Nat) (v n : Int) (l : List Int) (i : Nat), n ≤ 8 → n - i = d → d < k → l.length = i →
    word_split.l0 k v l n i = some (l ++ (List.range' i d).map fun j => v / 2 ^ (8 * j) % 256) := by
  induction d with
  | zero =>
    intro k v n l i hn hd hk hl
    obtain ⟨k, rfl⟩ : ∃ m, k = m + 1 := ⟨k - 1, by omega⟩
    simp only [word_split.l0]
    rw [if_neg (by omega)]; simp
  | succ d ih =>
    intro k v n l i hn hd hk hl
    obtain ⟨k, rfl⟩ : ∃ m, k = m + 1 := ⟨k - 1, by omega⟩
    simp only [word_split.l0]
    rw [w64 (x := 8 * (i : Int)) (by omega) (by omega), w64 (x := (i : Int) + 1) (by omega) (by omega), if_pos (by omega), if_pos (by omega), if_pos (by omega)]
    have e : shr .u64 v (8 * (i : Int)) = v / 2 ^ (8 * i) := by
      unfold shr
      rw [show IntKind.u64.bits = 64 from rfl, show (8 * (i : Int)).toNat = 8 * i from by omega, Nat.min_eq_left (by omega)]
    have e2 : (i : Int) + 1 = ((i + 1 : Nat) : Int) := by omega
    rw [e, e2, ih k v n _ (i + 1) hn (by omega) (by omega) (by simp [hl]), List.append_assoc]
    congr 1
theorem split_f (k : Nat) (v n : Int) (h0 : 0 ≤ n) (hn : n ≤ 8) (hk : 8 < k) :
    word_split.f k v n = some (dig v n.toNat) := by
  unfold word_split.f dig
  have := split_l n.toNat k v n [] 0 hn (by omega) (by omega) rfl
  rw [List.range_eq_range']
  simpa using this
theorem word_bytes_f (k : Nat) (v : Int) (h0 : 0 ≤ v) (h1 : v < 18446744073709551616) (hk : 8 < k) :
    word_Bytes.f k v = some (dig v 4) := by
  unfold word_Bytes.f
  rw [wu64, Int.emod_eq_of_lt h0 h1, split_f k v 4 (by decide) (by decide) hk]; rfl
theorem awake01 (k : Nat) (hk : 8 < k) : spinnakerlaw01_awake.f k = some true := by
  unfold spinnakerlaw01_awake.f
  rw [sign_f 4095 12 (by decide) (by decide) (by decide) (by decide), word_bytes_f k 305419896 (by decide) (by decide) hk, fits_f (-5) 4 (by decide) (by decide) (by decide) (by decide)]
  decide +kernel

/-- Words by their bits. -/
theorem u64n (N : Nat) (h : N < 18446744073709551616) : IntKind.u64.wrap (N : Int) = (N : Int) := by rw [wu64]; omega
theorem wrap32n (n : Int) (h0 : 0 ≤ n) (h1 : n < 2 ^ 32) : IntKind.u32.wrap n = n := by
  rw [Go.IntKind.wrap_u32]; rw [show (2 : Int) ^ 32 = 4294967296 from by decide] at h1; omega
theorem and32 (a b : Nat) (ha : a < 2 ^ 32) (hb : b < 2 ^ 32) : Go.bits .and .u32 (a : Int) (b : Int) = ((a &&& b : Nat) : Int) :=
  (Go.bits_nat .u32 32 (by decide) wrap32n a b ha hb).1
theorem or32 (a b : Nat) (ha : a < 2 ^ 32) (hb : b < 2 ^ 32) : Go.bits .or .u32 (a : Int) (b : Int) = ((a ||| b : Nat) : Int) :=
  (Go.bits_nat .u32 32 (by decide) wrap32n a b ha hb).2
theorem andnot32 (a b : Nat) (ha : a < 2 ^ 32) (hb : b < 2 ^ 32) : ∃ c : Nat, Go.bits .andNot .u32 (a : Int) (b : Int) = (c : Int) ∧ c < 2 ^ 32 ∧ ∀ i, c.testBit i = (a.testBit i && !b.testBit i) := by
  have e : Go.bits .andNot .u32 (a : Int) (b : Int) = IntKind.u32.wrap ((BitVec.ofInt 32 (a : Int) &&& ~~~ BitVec.ofInt 32 (b : Int)).toNat : Int) := rfl
  refine ⟨(BitVec.ofInt 32 (a : Int) &&& ~~~ BitVec.ofInt 32 (b : Int)).toNat, ?_, BitVec.isLt _, fun i => ?_⟩
  · rw [e]
    refine wrap32n _ (Int.natCast_nonneg _) ?_
    have := (BitVec.ofInt 32 (a : Int) &&& ~~~ BitVec.ofInt 32 (b : Int)).isLt
    exact_mod_cast this
  · rw [BitVec.testBit_toNat, BitVec.getLsbD_and, BitVec.getLsbD_not]
    have h1 : (BitVec.ofInt 32 (a : Int)).getLsbD i = a.testBit i := by
      rw [BitVec.ofInt_natCast, ← BitVec.testBit_toNat, BitVec.toNat_ofNat, Nat.mod_eq_of_lt ha]
    have h2 : (BitVec.ofInt 32 (b : Int)).getLsbD i = b.testBit i := by
      rw [BitVec.ofInt_natCast, ← BitVec.testBit_toNat, BitVec.toNat_ofNat, Nat.mod_eq_of_lt hb]
    rw [h1, h2]
    by_cases hi : i < 32
    · simp [hi]
    · have : a.testBit i = false := Nat.testBit_lt_two_pow (Nat.lt_of_lt_of_le ha (Nat.pow_le_pow_right (by decide) (by omega)))
      simp [hi, this]
theorem shl32 (a n : Nat) (hn : n ≤ 32) : shl .u32 (a : Int) (n : Int) = ((a * 2 ^ n % 2 ^ 32 : Nat) : Int) := by
  unfold shl
  rw [show IntKind.u32.bits = 32 from rfl, show ((n : Int)).toNat = n from by omega, Nat.min_eq_left hn, Go.IntKind.wrap_u32]
  simp
theorem shr32 (a n : Nat) (hn : n ≤ 32) : shr .u32 (a : Int) (n : Int) = ((a / 2 ^ n : Nat) : Int) := by
  unfold shr
  rw [show IntKind.u32.bits = 32 from rfl, show ((n : Int)).toNat = n from by omega, Nat.min_eq_left hn]
  simp
theorem mask_f (n : Nat) (h1 : 1 ≤ n) (h : n ≤ 32) : word_mask.f (n : Int) = some ((2 ^ n - 1 : Nat) : Int) := by
  unfold word_mask.f
  rw [if_pos (by omega)]
  congr 1
  unfold shl
  rw [show IntKind.u64.bits = 64 from rfl, show ((n : Int)).toNat = n from by omega, Nat.min_eq_left (by omega), wu64, wu64, Int.one_mul]
  have hp := p_pos n
  have hb : (2 : Int) ^ n ≤ 4294967296 := by have := p_le h; rw [show (2 : Int) ^ 32 = 4294967296 from by decide] at this; exact this
  have hc : ((2 ^ n - 1 : Nat) : Int) = 2 ^ n - 1 := by
    have : 0 < 2 ^ n := Nat.two_pow_pos n
    rw [Int.natCast_sub (by omega)]; simp
  rw [hc]
  generalize (2 : Int) ^ n = P at *
  omega
/-- A field of a word. -/
theorem get_f (W A N : Nat) (hW : W < 2 ^ 32) (h1 : 1 ≤ N) (hN : A + N ≤ 32) : word_Get.f (W : Int) (A : Int) (N : Int) = some (((W / 2 ^ A % 2 ^ N : Nat) : Int), 0) := by
  unfold word_Get.f
  rw [may_f _ _ (by omega) (by omega), decide_eq_true (by omega)]
  simp only [Option.bind_some, if_true]
  rw [if_pos (by omega), mask_f N h1 (by omega)]
  simp only [Option.bind_some]
  have hlt : W / 2 ^ A < 2 ^ 32 := Nat.lt_of_le_of_lt (Nat.div_le_self _ _) hW
  have hm : 2 ^ N - 1 < 2 ^ 32 := by
    have := Nat.pow_le_pow_right (show 0 < 2 by decide) (show N ≤ 32 by omega)
    have := Nat.two_pow_pos N
    omega
  rw [shr32 W A (by omega), and32 _ _ hlt hm, Nat.and_two_pow_sub_one_eq_mod]
theorem put_f (W A N V : Nat) (hW : W < 2 ^ 32) (hV : V < 2 ^ 32) (h1 : 1 ≤ N) (hN : A + N ≤ 32) :
    ∃ Y : Nat, word_Put.f (W : Int) (A : Int) (N : Int) (V : Int) = some ((Y : Int), 0) ∧ Y < 2 ^ 32 ∧ ∀ i, Y.testBit i = if A ≤ i ∧ i < A + N then V.testBit (i - A) else W.testBit i := by
  have hm : 2 ^ N - 1 < 2 ^ 32 := by
    have := Nat.pow_le_pow_right (show 0 < 2 by decide) (show N ≤ 32 by omega)
    have := Nat.two_pow_pos N
    omega
  obtain ⟨c, hc, hc32, hcb⟩ := andnot32 W ((2 ^ N - 1) * 2 ^ A % 2 ^ 32) hW (Nat.mod_lt _ (by decide))
  refine ⟨c ||| (V * 2 ^ A % 2 ^ 32 &&& (2 ^ N - 1) * 2 ^ A % 2 ^ 32), ?_, Nat.or_lt_two_pow hc32 (Nat.and_lt_two_pow _ (Nat.mod_lt _ (by decide))), fun i => ?_⟩
  · unfold word_Put.f
    rw [may_f _ _ (by omega) (by omega), decide_eq_true (by omega)]
    simp only [Option.bind_some, if_true]
    rw [mask_f N h1 (by omega)]
    simp only [Option.bind_some]
    rw [if_pos (by omega), shl32 _ A (by omega), shl32 _ A (by omega), hc, and32 _ _ (Nat.mod_lt _ (by decide)) (Nat.mod_lt _ (by decide)), or32 _ _ hc32 (Nat.and_lt_two_pow _ (Nat.mod_lt _ (by decide)))]
  · rw [Nat.testBit_or, hcb, Nat.testBit_and, Nat.testBit_mod_two_pow, Nat.testBit_mod_two_pow, Nat.testBit_mul_two_pow, Nat.testBit_mul_two_pow, Nat.testBit_two_pow_sub_one]
    by_cases hi : A ≤ i ∧ i < A + N
    · rw [if_pos hi, decide_eq_true hi.1, decide_eq_true (show i - A < N by omega), decide_eq_true (show i < 32 by omega)]
      simp
    · rw [if_neg hi]
      by_cases h0 : A ≤ i
      · rw [decide_eq_false (show ¬ i - A < N by omega)]; simp
      · rw [decide_eq_false h0]; simp
theorem bit_n (k N i : Nat) (hN : N < 18446744073709551616) (hi : i < 64) (hk : 64 < k) : spinnakerref01_Bit.f k (N : Int) (i : Int) = some (((N.testBit i).toNat : Nat) : Int) := by
  rw [bit_f k N i (by omega) (by omega) (by omega) (by omega) (by omega), Nat.toNat_testBit]
  simp

theorem fields_l (W V X Y Z A N : Nat) (hW : W < 2 ^ 32) (hV : V < 2 ^ 32) (hY : Y < 2 ^ 32) (hX : X < 2 ^ N) (hZ : Z < 2 ^ N) (h1 : 1 ≤ N) (hN : A + N ≤ 32)
    (hy : ∀ i, Y.testBit i = if A ≤ i ∧ i < A + N then V.testBit (i - A) else W.testBit i) (hx : ∀ i, A ≤ i → i < A + N → X.testBit (i - A) = W.testBit i)
    (hz : ∀ i, A ≤ i → i < A + N → Z.testBit (i - A) = Y.testBit i) (d : Nat) : ∀ (k i : Nat), i + d = 32 → 200 + 2 * d < k →
    spinnakerlaw01_WordFields.l0 k W V X 0 Y 0 Z 0 i A N = some true := by
  have h32 : (2 : Nat) ^ 32 = 4294967296 := by decide
  have hXN : X < 4294967296 := by have := Nat.pow_le_pow_right (show 0 < 2 by decide) (show N ≤ 32 by omega); omega
  have hZN : Z < 4294967296 := by have := Nat.pow_le_pow_right (show 0 < 2 by decide) (show N ≤ 32 by omega); omega
  induction d with
  | zero =>
    intro k i hi hk
    obtain ⟨k, rfl⟩ : ∃ m, k = m + 1 := ⟨k - 1, by omega⟩
    simp only [spinnakerlaw01_WordFields.l0]
    have hs : shl .u64 1 (N : Int) = ((2 ^ N : Nat) : Int) := by
      unfold shl
      rw [show IntKind.u64.bits = 64 from rfl, show ((N : Int)).toNat = N from by omega, Nat.min_eq_left (by omega), wu64, Int.one_mul]
      have hp := p_pos N
      have hb : (2 : Int) ^ N ≤ 4294967296 := by have := p_le (show N ≤ 32 by omega); rw [show (2 : Int) ^ 32 = 4294967296 from by decide] at this; exact this
      have hc : ((2 ^ N : Nat) : Int) = 2 ^ N := by simp
      rw [hc]
      omega
    rw [if_neg (by omega), u64n N (by omega), if_pos (by omega), u64n X (by omega), u64n Z (by omega), hs]
    simp only [if_true]
    rw [if_pos (by omega), if_pos (by omega), awake01 k (by omega)]; rfl
  | succ d ih =>
    intro k i hi hk
    obtain ⟨k, rfl⟩ : ∃ m, k = m + 1 := ⟨k - 1, by omega⟩
    obtain ⟨k, rfl⟩ : ∃ m, k = m + 1 := ⟨k - 1, by omega⟩
    simp only [spinnakerlaw01_WordFields.l0]
    rw [if_pos (by omega), u64n W (by omega), u64n Y (by omega), bit_n (k + 1) W i (by omega) (by omega) (by omega), bit_n (k + 1) Y i (by omega) (by omega) (by omega)]
    simp only [Option.bind_some]
    have hnext : spinnakerlaw01_WordFields.l0 k W V X 0 Y 0 Z 0 (wrap64 ((i : Int) + 1)) A N = some true := by
      rw [w64n (i + 1) (by omega) (by omega)]
      exact ih k (i + 1) (by omega) (by omega)
    have hin : ∀ b : Bool, b = decide (A ≤ i ∧ i < A + N) → spinnakerlaw01_WordFields.j2 (k + 1) W V X 0 Y 0 Z 0 i (W.testBit i).toNat (Y.testBit i).toNat b A N = some true := by
      rintro b rfl
      simp only [spinnakerlaw01_WordFields.j2]
      by_cases hc : A ≤ i ∧ i < A + N
      · rw [if_pos (decide_eq_true hc), w64n (x := (i : Int) - A) (i - A) (by omega) (by omega), u64n V (by omega), bit_n k V (i - A) (by omega) (by omega) (by omega)]
        simp only [Option.bind_some]
        rw [if_pos (by rw [hy i, if_pos hc]), u64n X (by omega), bit_n k X (i - A) (by omega) (by omega) (by omega)]
        simp only [Option.bind_some]
        rw [if_pos (by rw [hx i hc.1 hc.2]), u64n Z (by omega), bit_n k Z (i - A) (by omega) (by omega) (by omega)]
        simp only [Option.bind_some]
        rw [if_pos (by rw [hz i hc.1 hc.2]), hnext]
      · rw [if_neg (by simpa using hc), if_pos (by rw [hy i, if_neg hc]), hnext]
    by_cases hA : A ≤ i
    · rw [if_pos (by omega)]
      refine hin _ ?_
      rw [w64n (x := (A : Int) + N) (A + N) (by omega) (by omega), decide_eq_decide]; omega
    · rw [if_neg (by omega)]
      exact hin _ (by symm; rw [decide_eq_false_iff_not]; omega)
theorem fields_j (k : Nat) (w v x e y f a n : Int) : spinnakerlaw01_WordFields.j0 (k + 1) w v x e y f false a n = (word_Get.f y a n).bind fun bt => spinnakerlaw01_WordFields.l0 k w v x e y f bt.1 bt.2 0 a n := by
  simp only [spinnakerlaw01_WordFields.j0]
  rw [if_neg (by decide)]
theorem fields_go (k : Nat) (w v x y z a n : Int) (hz : word_Get.f y a n = some (z, 0)) (h : spinnakerlaw01_WordFields.l0 k w v x 0 y 0 z 0 0 a n = some true) : spinnakerlaw01_WordFields.j0 (k + 1) w v x 0 y 0 false a n = some true := by
  rw [fields_j, hz]
  exact h
theorem WordFields (w : Int) (hw : (Lit.int .u32 w).wf = true) (x : Int × Int) (q : Q31 x) (v : Int) (hv : (Lit.int .u32 v).wf = true) : ∃ k, spinnakerlaw01_WordFields.f k w x.1 x.2 v = some true := by
  obtain ⟨a, n⟩ := x
  have ha := wf_i64 q.1
  have hn := wf_i64 q.2
  have hw := wf_u32 hw
  have hv := wf_u32 hv
  simp only at ha hn ⊢
  refine ⟨1000, ?_⟩
  obtain ⟨W, rfl⟩ := Int.eq_ofNat_of_zero_le hw.1
  obtain ⟨V, rfl⟩ := Int.eq_ofNat_of_zero_le hv.1
  have h32 : (2 : Nat) ^ 32 = 4294967296 := by decide
  unfold spinnakerlaw01_WordFields.f
  by_cases h : 0 ≤ a ∧ 1 ≤ n ∧ a + n ≤ 32
  · obtain ⟨A, rfl⟩ := Int.eq_ofNat_of_zero_le h.1
    obtain ⟨N, rfl⟩ := Int.eq_ofNat_of_zero_le (show 0 ≤ n by omega)
    obtain ⟨Y, hp, hY, hy⟩ := put_f W A N V (by omega) (by omega) (by omega) (by omega)
    rw [get_f W A N (by omega) (by omega) (by omega), hp]
    simp only [Option.bind_some]
    rw [if_neg (by omega), if_neg (by omega), if_neg (by omega), w64 (x := 32 - (A : Int)) (by omega) (by omega), decide_eq_false (by omega)]
    have hg : ∀ U i : Nat, A ≤ i → i < A + N → (U / 2 ^ A % 2 ^ N).testBit (i - A) = U.testBit i := by
      intro U i h1 h2
      rw [Nat.testBit_mod_two_pow, Nat.testBit_div_two_pow, decide_eq_true (show i - A < N by omega), Bool.true_and]
      congr 1; omega
    have hX : W / 2 ^ A % 2 ^ N < 2 ^ N := Nat.mod_lt _ (Nat.two_pow_pos N)
    have hZ : Y / 2 ^ A % 2 ^ N < 2 ^ N := Nat.mod_lt _ (Nat.two_pow_pos N)
    have hz := get_f Y A N hY (by omega) (by omega)
    have gW := hg W
    have gY := hg Y
    clear hg
    generalize W / 2 ^ A % 2 ^ N = X at hX gW ⊢
    generalize Y / 2 ^ A % 2 ^ N = Z at hZ gY hz
    have hf := fields_l W V X Y Z A N (by omega) (by omega) hY hX hZ (by omega) (by omega) hy gW gY 32 999 0 (by omega) (by omega)
    rw [show ((0 : Nat) : Int) = 0 from rfl] at hf
    exact fields_go 999 W V X Y Z A N hz hf
  · have hg : word_Get.f (W : Int) a n = some (0, 2) := by
      unfold word_Get.f
      rw [may_f _ _ hn.1 hn.2, decide_eq_false (by omega)]; rfl
    have hp : word_Put.f (W : Int) a n (V : Int) = some (0, 2) := by
      unfold word_Put.f
      rw [may_f _ _ hn.1 hn.2, decide_eq_false (by omega)]; rfl
    rw [hg, hp]
    simp only [Option.bind_some]
    have e : ∀ b, b = true → spinnakerlaw01_WordFields.j0 1000 W V 0 2 0 2 b a n = some true := by
      rintro b rfl
      simp only [spinnakerlaw01_WordFields.j0, if_true]
      rw [awake01 999 (by decide)]; rfl
    by_cases h1 : a < 0
    · rw [if_pos h1]; exact e _ rfl
    · rw [if_neg h1]
      by_cases h2 : a > 31
      · rw [if_pos h2]; exact e _ rfl
      · rw [if_neg h2]
        by_cases h3 : n < 1
        · rw [if_pos h3]; exact e _ rfl
        · rw [if_neg h3, w64 (x := 32 - a) (by omega) (by omega)]; exact e _ (by simp; omega)

end Go.Proofs.Ytfjfmkobhbpelaa.Pure
