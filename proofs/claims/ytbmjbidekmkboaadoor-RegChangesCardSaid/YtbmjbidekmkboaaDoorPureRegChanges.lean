/- Adding a register to every set, and removing one, have the specified results; the listed tables are tied to the program's text; no other condition. -/
import Derived.Test.YtbmjbidekmkboaaDoorGRegChangesx2
namespace Go.Proofs.YtbmjbidekmkboaaDoor.Pure
open Go.RowKit Go.Proofs.YtbmjbidekmkboaaDoor.GRegChanges Go.Proofs.YtbmjbidekmkboaaDoorW.PrintWords Go.Proofs.YtbmjbidekmkboaaDoorW.PrintLast Go.Proofs.YtbmjbidekmkboaaDoorW.PrintMore
set_option linter.unusedVariables false
set_option linter.unusedSimpArgs false
attribute [local irreducible] shl shr

/-- Numbers that need no wrapping, and two's complement by its lowest bits. -/
theorem w64 {x : Int} (h0 : -9223372036854775808 ≤ x) (h1 : x < 9223372036854775808) : wrap64 x = x := by
  unfold wrap64; omega
theorem w64n {x : Int} (n : Nat) (h : x = n) (hn : n < 9223372036854775808) : wrap64 x = (n : Int) := by
  rw [w64 (by omega) (by omega), h]
theorem wu64 (x : Int) : IntKind.u64.wrap x = x % 18446744073709551616 := by
  simp [IntKind.wrap, IntKind.bits, IntKind.signed]
theorem wf_i64 {x : Int} (h : (Lit.int .i64 x).wf = true) : -9223372036854775808 ≤ x ∧ x < 9223372036854775808 := by
  simp [Lit.wf, IntKind.min, IntKind.max, IntKind.bits, IntKind.signed] at h; omega
theorem wf_u32 {x : Int} (h : (Lit.int .u32 x).wf = true) : 0 ≤ x ∧ x < 4294967296 := by
  simp [Lit.wf, IntKind.min, IntKind.max, IntKind.bits, IntKind.signed] at h; omega
theorem wf_u8 {x : Int} (h : (Lit.int .u8 x).wf = true) : 0 ≤ x ∧ x < 256 := by
  simp [Lit.wf, IntKind.min, IntKind.max, IntKind.bits, IntKind.signed] at h; omega
theorem p64 : (2 : Int) ^ 64 = 18446744073709551616 := by decide
theorem p63 : (2 : Int) ^ 63 = 9223372036854775808 := by decide
theorem p_pos (n : Nat) : (0 : Int) < 2 ^ n := Int.pow_pos (by decide)
theorem p_add (a b : Nat) : (2 : Int) ^ (a + b) = 2 ^ a * 2 ^ b := Int.pow_add 2 a b
theorem p_le {a b : Nat} (h : a ≤ b) : (2 : Int) ^ a ≤ 2 ^ b := by
  obtain ⟨c, rfl⟩ := Nat.exists_eq_add_of_le h
  rw [p_add]
  have h1 : (2 : Int) ^ a * 1 ≤ 2 ^ a * 2 ^ c := Int.mul_le_mul_of_nonneg_left (by have := p_pos c; omega) (Int.le_of_lt (p_pos a))
  omega
theorem b64 {i : Nat} (h : i ≤ 64) : (2 : Int) ^ i ≤ 18446744073709551616 := by have := p_le h; rw [p64] at this; exact this
theorem b63 {i : Nat} (h : i ≤ 63) : (2 : Int) ^ i ≤ 9223372036854775808 := by have := p_le h; rw [p63] at this; exact this
theorem b62 {i : Nat} (h : i ≤ 62) : (2 : Int) ^ i ≤ 4611686018427387904 := by have := p_le h; rw [show (2 : Int) ^ 62 = 4611686018427387904 from by decide] at this; exact this
theorem b60 {i : Nat} (h : i ≤ 60) : (2 : Int) ^ i ≤ 1152921504606846976 := by have := p_le h; rw [show (2 : Int) ^ 60 = 1152921504606846976 from by decide] at this; exact this
theorem p_succ (n : Nat) : (2 : Int) ^ (n + 1) = 2 * 2 ^ n := by rw [p_add]; omega

/-- The number with a sign that the lowest n bits are. -/
def sgn (v : Int) (n : Nat) : Int := if v % 2 ^ n < 2 ^ (n - 1) then v % 2 ^ n else v % 2 ^ n - 2 ^ n

theorem mod_mod {v : Int} {a b : Nat} (h : a ≤ b) : v % 2 ^ b % 2 ^ a = v % 2 ^ a := by
  obtain ⟨c, rfl⟩ := Nat.exists_eq_add_of_le h
  exact Int.emod_emod_of_dvd v ⟨2 ^ c, p_add a c⟩
theorem sgn_mod {v : Int} {a b : Nat} (h : a ≤ b) : sgn (v % 2 ^ b) a = sgn v a := by
  unfold sgn; rw [mod_mod h]
theorem sgn_range (v : Int) (n : Nat) (h : 1 ≤ n) : -2 ^ (n - 1) ≤ sgn v n ∧ sgn v n < 2 ^ (n - 1) := by
  have h0 := Int.emod_nonneg v (Int.ne_of_gt (p_pos n))
  have h1 := Int.emod_lt_of_pos v (p_pos n)
  have h2 : (2 : Int) ^ n = 2 * 2 ^ (n - 1) := by rw [← p_succ]; congr 1; omega
  unfold sgn
  split <;> omega
/-- Which number has the same lowest bits and fits is the one. -/
theorem sgn_self {v : Int} {n : Nat} (h : 1 ≤ n) (h0 : -2 ^ (n - 1) ≤ v) (h1 : v < 2 ^ (n - 1)) : sgn v n = v := by
  have h2 : (2 : Int) ^ n = 2 * 2 ^ (n - 1) := by rw [← p_succ]; congr 1; omega
  have hp := p_pos (n - 1)
  unfold sgn
  by_cases hv : 0 ≤ v
  · have e : v % 2 ^ n = v := Int.emod_eq_of_lt hv (by omega)
    rw [e, if_pos h1]
  · have e : v % 2 ^ n = v + 2 ^ n := by
      rw [← Int.add_emod_right]; exact Int.emod_eq_of_lt (by omega) (by omega)
    rw [e, if_neg (by omega)]; omega
theorem shl_shr (v : Int) (n : Nat) (h1 : 1 ≤ n) (h64 : n ≤ 64) :
    shr .i64 (wrap64 (shl .u64 (v % 18446744073709551616) (64 - (n : Int)))) (64 - (n : Int)) = sgn v n := by
  have hy : (64 - (n : Int)).toNat = 64 - n := by omega
  have hm : min (64 - n) 64 = 64 - n := by omega
  unfold shl shr
  rw [hy, show IntKind.u64.bits = 64 from rfl, show IntKind.i64.bits = 64 from rfl, hm, wu64]
  have hP := p_pos (64 - n)
  have hR := p_pos (n - 1)
  have hQ : (2 : Int) ^ n = 2 * 2 ^ (n - 1) := by rw [← p_succ]; congr 1; omega
  have hPQ : (2 : Int) ^ n * 2 ^ (64 - n) = 18446744073709551616 := by
    rw [← p_add, show n + (64 - n) = 64 from by omega]; exact p64
  have hRP : (2 : Int) ^ (n - 1) * 2 ^ (64 - n) = 9223372036854775808 := by
    rw [← p_add, show n - 1 + (64 - n) = 63 from by omega]; exact p63
  have e1 : v % 18446744073709551616 * 2 ^ (64 - n) % 18446744073709551616 = (v % 2 ^ n) * 2 ^ (64 - n) := by
    have e2 : (v % 18446744073709551616) % 2 ^ n = v % 2 ^ n := by rw [← p64]; exact mod_mod h64
    rw [← e2, Int.mul_comm (v % 18446744073709551616 % 2 ^ n), ← Int.mul_emod_mul_of_pos _ _ hP, Int.mul_comm (2 ^ (64 - n)) (2 ^ n), hPQ, Int.mul_comm (2 ^ (64 - n))]
  rw [e1]
  have h0 := Int.emod_nonneg v (Int.ne_of_gt (p_pos n))
  have h3 := Int.emod_lt_of_pos v (p_pos n)
  unfold sgn
  generalize v % 2 ^ n = m at h0 h3 ⊢
  generalize (2 : Int) ^ (64 - n) = P at hP hPQ hRP ⊢
  generalize (2 : Int) ^ (n - 1) = R at hR hQ hRP ⊢
  rw [hQ] at h3 hPQ ⊢
  split
  · rename_i hlt
    have a1 : 0 ≤ m * P := Int.mul_nonneg h0 (Int.le_of_lt hP)
    have a2 : m * P < R * P := Int.mul_lt_mul_of_pos_right hlt hP
    rw [w64 (by omega) (by omega), Int.mul_ediv_cancel _ (Int.ne_of_gt hP)]
  · rename_i hge
    have a1 : R * P ≤ m * P := Int.mul_le_mul_of_nonneg_right (by omega) (Int.le_of_lt hP)
    have a2 : m * P < 2 * R * P := Int.mul_lt_mul_of_pos_right h3 hP
    have e3 : wrap64 (m * P) = (m - 2 * R) * P := by
      rw [Int.sub_mul]; unfold wrap64; omega
    rw [e3, Int.mul_ediv_cancel _ (Int.ne_of_gt hP)]

theorem bit_l (d : Nat) : ∀ (k : Nat) (v i j : Int), 0 ≤ v → v < 18446744073709551616 → 0 ≤ j → j ≤ i → i < 4611686018427387904 → i - j = d → d < k →
    spinnakerref01_Bit.l0 k v i j = some (v / 2 ^ d % 2) := by
  induction d with
  | zero =>
    intro k v i j h0 h1 hj hji hi hd hk
    obtain ⟨k, rfl⟩ : ∃ m, k = m + 1 := ⟨k - 1, by omega⟩
    simp only [spinnakerref01_Bit.l0]
    rw [if_neg (by omega), Int.tmod_eq_emod_of_nonneg h0, w64 (by omega) (by omega)]
    simp
  | succ d ih =>
    intro k v i j h0 h1 hj hji hi hd hk
    obtain ⟨k, rfl⟩ : ∃ m, k = m + 1 := ⟨k - 1, by omega⟩
    simp only [spinnakerref01_Bit.l0]
    rw [if_pos (by omega), Int.tdiv_eq_ediv_of_nonneg h0, wu64, w64 (x := j + 1) (by omega) (by omega)]
    have hv : v / 2 % 18446744073709551616 = v / 2 := by omega
    rw [hv, ih k (v / 2) i (j + 1) (by omega) (by omega) (by omega) (by omega) hi (by omega) (by omega)]
    rw [p_succ, Int.ediv_ediv_of_nonneg (by decide)]
theorem bit_f (k : Nat) (v i : Int) (h0 : 0 ≤ v) (h1 : v < 18446744073709551616) (hi0 : 0 ≤ i) (hi : i < 4611686018427387904) (hk : i.toNat < k) :
    spinnakerref01_Bit.f k v i = some (v / 2 ^ i.toNat % 2) := by
  unfold spinnakerref01_Bit.f
  exact bit_l i.toNat k v i 0 h0 h1 (by omega) hi0 hi (by omega) hk

theorem toList_d (s : ByteArray) : s.toList = s.data.toList := ByteArray.toList_eq s
/-- The first place, from i on, of a text in a list of texts; -1: there is none. -/
def idx (s : ByteArray) : List ByteArray → Int → Int
  | [], _ => -1
  | x :: t, i => if s.data.toList = x.data.toList then i else idx s t (i + 1)
theorem index_f (s : ByteArray) (l : List ByteArray) (hl : l.length < 1000) (d : Nat) : ∀ (k i : Nat), l.length - i = d → i ≤ l.length → d < k →
    slices_Index_string_string.l0 k l s l.length i = some (idx s (l.drop i) i) := by
  induction d with
  | zero =>
    intro k i hd hi hk
    obtain ⟨k, rfl⟩ : ∃ m, k = m + 1 := ⟨k - 1, by omega⟩
    simp only [slices_Index_string_string.l0]
    rw [if_neg (by omega), List.drop_of_length_le (by omega)]; rfl
  | succ d ih =>
    intro k i hd hi hk
    obtain ⟨k, rfl⟩ : ∃ m, k = m + 1 := ⟨k - 1, by omega⟩
    simp only [slices_Index_string_string.l0]
    rw [if_pos (by omega), if_pos (by omega), if_pos (by omega), toList_d, toList_d, List.drop_eq_getElem_cons (show i < l.length by omega)]
    have e : rdOf ByteArray.empty l (i : Int) = l[i] := by unfold rdOf; simp [show i < l.length by omega]
    simp only [idx]
    rw [e]
    by_cases he : s.data.toList = l[i].data.toList
    · rw [if_pos he, if_pos he]
    · rw [if_neg he, if_neg he, show wrap64 ((i : Int) + 1) = ((i + 1 : Nat) : Int) from by unfold wrap64; omega, ih k (i + 1) (by omega) (by omega) (by omega)]
      rfl
theorem regIdx_eq (s : ByteArray) : regIdx s = idx s regUses 0 := by
  unfold regIdx slices_Index_string_string.f
  have := index_f s regUses (by rw [regUses_length]; decide) 32 100 0 (by rw [regUses_length]) (by omega) (by omega)
  rw [show ((0 : Nat) : Int) = 0 from rfl] at this
  rw [this]; rfl
/-- The plain names. -/
def xNames : List ByteArray := (List.range 32).map fun (r : Nat) => (reg_Name.f (r : Int)).getD ⟨#[]⟩
theorem xNames_length : xNames.length = 32 := by simp [xNames]
theorem name_at (n : Nat) (hn : n < 32) : reg_Name.f (n : Int) = some (rdOf ByteArray.empty xNames n) := by
  revert hn; revert n; decide +kernel
theorem parse_l (s : ByteArray) (d : Nat) : ∀ (k i : Nat), 32 - i = d → i ≤ 32 → d < k →
    reg_Parse.l0 k s i = some (if idx s (xNames.drop i) i = -1 then (mx (regIdx s) 0, decide (regIdx s ≥ 0)) else (idx s (xNames.drop i) i, true)) := by
  have hl := xNames_length
  induction d with
  | zero =>
    intro k i hd hi hk
    obtain ⟨k, rfl⟩ : ∃ m, k = m + 1 := ⟨k - 1, by omega⟩
    simp only [reg_Parse.l0]
    rw [if_neg (by omega), List.drop_of_length_le (by omega)]
    rfl
  | succ d ih =>
    intro k i hd hi hk
    obtain ⟨k, rfl⟩ : ∃ m, k = m + 1 := ⟨k - 1, by omega⟩
    simp only [reg_Parse.l0]
    rw [if_pos (by omega), name_at i (by omega)]
    simp only [Option.bind_some]
    have e : rdOf ByteArray.empty xNames (i : Int) = xNames[i] := by unfold rdOf; simp [show i < xNames.length by omega]
    rw [e, toList_d, toList_d, List.drop_eq_getElem_cons (show i < xNames.length by omega)]
    by_cases he : s.data.toList = xNames[i].data.toList
    · have e2 : idx s (xNames[i] :: List.drop (i + 1) xNames) i = i := by simp only [idx]; rw [if_pos he]
      rw [if_pos he.symm]; simp only [e2]; rw [if_neg (by omega)]
    · have e2 : idx s (xNames[i] :: List.drop (i + 1) xNames) i = idx s (List.drop (i + 1) xNames) ((i + 1 : Nat) : Int) := by simp only [idx]; rw [if_neg he]; rfl
      rw [if_neg (fun h => he h.symm), show wrap64 ((i : Int) + 1) = ((i + 1 : Nat) : Int) from by unfold wrap64; omega, ih k (i + 1) (by omega) (by omega) (by omega)]
      simp only [e2]
theorem parse_f (k : Nat) (s : ByteArray) (hk : 40 ≤ k) :
    reg_Parse.f k s = some (if idx s xNames 0 = -1 then (mx (idx s regUses 0) 0, decide (idx s regUses 0 ≥ 0)) else (idx s xNames 0, true)) := by
  unfold reg_Parse.f
  have := parse_l s 32 k 0 rfl (by omega) (by omega)
  rw [show ((0 : Nat) : Int) = 0 from rfl, List.drop_zero, regIdx_eq] at this
  exact this
theorem awake02_of (k : Nat) (hk : 40 ≤ k) : reg_Of.f k (([3, 1, 40] : List Int)) = some 10 := by
  refine at_rounds (fun k => reg_Of.mono _ k) hk ?_
  decide +kernel
theorem awake02 (k : Nat) (hk : 40 ≤ k) : spinnakerlaw02_awake.f k = some true := by
  unfold spinnakerlaw02_awake.f
  rw [parse_f k _ hk, awake02_of k hk, show idx (⟨#[97, 48]⟩ : ByteArray) xNames 0 = -1 from by decide +kernel, show idx (⟨#[97, 48]⟩ : ByteArray) regUses 0 = 10 from by decide +kernel]
  decide +kernel
theorem name_out {a : Int} (h : ¬ (0 ≤ a ∧ a < 32)) : reg_Name.f a = some (⟨#[]⟩ : ByteArray) := by unfold reg_Name.f; rw [if_neg h]

/-- Words by their bits. -/
theorem u64n (N : Nat) (h : N < 18446744073709551616) : IntKind.u64.wrap (N : Int) = (N : Int) := by rw [wu64]; omega
theorem wrap32n (n : Int) (h0 : 0 ≤ n) (h1 : n < 2 ^ 32) : IntKind.u32.wrap n = n := by
  rw [Go.IntKind.wrap_u32]; rw [show (2 : Int) ^ 32 = 4294967296 from by decide] at h1; omega
theorem and32 (a b : Nat) (ha : a < 2 ^ 32) (hb : b < 2 ^ 32) : Go.bits .and .u32 (a : Int) (b : Int) = ((a &&& b : Nat) : Int) :=
  (Go.bits_nat .u32 32 (by decide) wrap32n a b ha hb).1
theorem or32 (a b : Nat) (ha : a < 2 ^ 32) (hb : b < 2 ^ 32) : Go.bits .or .u32 (a : Int) (b : Int) = ((a ||| b : Nat) : Int) :=
  (Go.bits_nat .u32 32 (by decide) wrap32n a b ha hb).2
theorem andnot32 (a b : Nat) (ha : a < 2 ^ 32) (hb : b < 2 ^ 32) : ∃ c : Nat, Go.bits .andNot .u32 (a : Int) (b : Int) = (c : Int) ∧ c < 2 ^ 32 ∧ ∀ i, c.testBit i = (a.testBit i && !b.testBit i) := by
  have e : Go.bits .andNot .u32 (a : Int) (b : Int) = IntKind.u32.wrap ((BitVec.ofInt 32 (a : Int) &&& ~~~ BitVec.ofInt 32 (b : Int)).toNat : Int) := rfl
  refine ⟨(BitVec.ofInt 32 (a : Int) &&& ~~~ BitVec.ofInt 32 (b : Int)).toNat, ?_, BitVec.isLt _, fun i => ?_⟩
  · rw [e]
    refine wrap32n _ (Int.natCast_nonneg _) ?_
    have := (BitVec.ofInt 32 (a : Int) &&& ~~~ BitVec.ofInt 32 (b : Int)).isLt
    exact_mod_cast this
  · rw [BitVec.testBit_toNat, BitVec.getLsbD_and, BitVec.getLsbD_not]
    have h1 : (BitVec.ofInt 32 (a : Int)).getLsbD i = a.testBit i := by
      rw [BitVec.ofInt_natCast, ← BitVec.testBit_toNat, BitVec.toNat_ofNat, Nat.mod_eq_of_lt ha]
    have h2 : (BitVec.ofInt 32 (b : Int)).getLsbD i = b.testBit i := by
      rw [BitVec.ofInt_natCast, ← BitVec.testBit_toNat, BitVec.toNat_ofNat, Nat.mod_eq_of_lt hb]
    rw [h1, h2]
    by_cases hi : i < 32
    · simp [hi]
    · have : a.testBit i = false := Nat.testBit_lt_two_pow (Nat.lt_of_lt_of_le ha (Nat.pow_le_pow_right (by decide) (by omega)))
      simp [hi, this]
theorem shl32 (a n : Nat) (hn : n ≤ 32) : shl .u32 (a : Int) (n : Int) = ((a * 2 ^ n % 2 ^ 32 : Nat) : Int) := by
  unfold shl
  rw [show IntKind.u32.bits = 32 from rfl, show ((n : Int)).toNat = n from by omega, Nat.min_eq_left hn, Go.IntKind.wrap_u32]
  simp
theorem shr32 (a n : Nat) (hn : n ≤ 32) : shr .u32 (a : Int) (n : Int) = ((a / 2 ^ n : Nat) : Int) := by
  unfold shr
  rw [show IntKind.u32.bits = 32 from rfl, show ((n : Int)).toNat = n from by omega, Nat.min_eq_left hn]
  simp
theorem bit_n (k N i : Nat) (hN : N < 18446744073709551616) (hi : i < 64) (hk : 64 < k) : spinnakerref01_Bit.f k (N : Int) (i : Int) = some (((N.testBit i).toNat : Nat) : Int) := by
  rw [bit_f k N i (by omega) (by omega) (by omega) (by omega) (by omega), Nat.toNat_testBit]
  simp

/-- The least bit of a number, and what is left without it. -/
theorem least_bit (S : Nat) : S ≠ 0 → ∃ v m, S = 2 ^ v * (2 * m + 1) := by
  induction S using Nat.strongRecOn with
  | ind S ih =>
    intro h
    by_cases h2 : S % 2 = 0
    · obtain ⟨v, m, hv⟩ := ih (S / 2) (by omega) (by omega)
      exact ⟨v + 1, m, by rw [Nat.pow_succ, Nat.mul_assoc, Nat.mul_comm 2, ← Nat.mul_assoc, ← hv]; omega⟩
    · exact ⟨0, S / 2, by omega⟩
theorem bit_ge {S v m i : Nat} (h : S = 2 ^ v * (2 * m + 1)) : S.testBit i = (decide (i ≥ v) && (2 * m + 1).testBit (i - v)) := by
  rw [h, Nat.testBit_two_pow_mul]
theorem and_neg {S v m n : Nat} (h : S = 2 ^ v * (2 * m + 1)) (hn : S < 2 ^ n) : S &&& (2 ^ n - S) = 2 ^ v := by
  have hp := Nat.two_pow_pos v
  have hS : 1 ≤ S := by rw [h]; exact Nat.mul_pos hp (by omega)
  have hvn : v < n := by
    rcases Nat.lt_or_ge v n with h1 | h1
    · exact h1
    · exfalso
      have h2 : 2 ^ n ≤ 2 ^ v := Nat.pow_le_pow_right (by decide) h1
      have h3 : 2 ^ v ≤ S := by rw [h]; exact Nat.le_mul_of_pos_right _ (by omega)
      omega
  have e1 : 2 ^ n - S = 2 ^ n - ((S - 1) + 1) := by congr 1; omega
  have e2 : S - 1 = 2 ^ v * (2 * m) + (2 ^ v - 1) := by rw [h, Nat.mul_add, Nat.mul_one]; omega
  apply Nat.eq_of_testBit_eq
  intro i
  rw [Nat.testBit_and, bit_ge h, e1, Nat.testBit_two_pow_sub_succ (by omega), e2, Nat.testBit_two_pow_mul_add _ (by omega), Nat.testBit_two_pow]
  by_cases h1 : i < v
  · rw [decide_eq_false (show ¬ i ≥ v by omega), decide_eq_false (show ¬ v = i by omega)]; rfl
  · rw [if_neg h1, decide_eq_true (show i ≥ v by omega)]
    by_cases h2 : i = v
    · subst h2
      rw [Nat.sub_self, decide_eq_true hvn, decide_eq_true rfl]
      simp [Nat.testBit_zero]
    · obtain ⟨j, hj⟩ : ∃ j, i - v = j + 1 := ⟨i - v - 1, by omega⟩
      rw [hj, Nat.testBit_succ, Nat.testBit_succ, decide_eq_false (show ¬ v = i by omega), show (2 * m + 1) / 2 = m from by omega, show 2 * m / 2 = m from by omega]
      cases m.testBit j <;> simp
theorem least_is {S v m : Nat} (h : S = 2 ^ v * (2 * m + 1)) : S.testBit v = true ∧ ∀ j, j < v → S.testBit j = false := by
  refine ⟨?_, fun j hj => ?_⟩
  · rw [bit_ge h, Nat.sub_self, decide_eq_true (Nat.le_refl v)]; simp [Nat.testBit_zero]
  · rw [bit_ge h, decide_eq_false (show ¬ j ≥ v by omega)]; rfl
theorem least_lt {S v m n : Nat} (h : S = 2 ^ v * (2 * m + 1)) (hn : S < 2 ^ n) : v < n := by
  rcases Nat.lt_or_ge v n with h1 | h1
  · exact h1
  · exfalso
    have h2 : 2 ^ n ≤ 2 ^ v := Nat.pow_le_pow_right (by decide) h1
    have h3 : 2 ^ v ≤ S := by rw [h]; exact Nat.le_mul_of_pos_right _ (by omega)
    omega
theorem filter_more (p : Nat → Bool) (a d : Nat) (hn : ∀ j, a ≤ j → j < a + d → p j = false) : (List.range (a + d)).filter p = (List.range a).filter p := by
  induction d with
  | zero => rfl
  | succ d ih =>
    rw [← Nat.add_assoc, List.range_succ, List.filter_append, ih fun j h1 h2 => hn j h1 (by omega)]
    simp [hn (a + d) (by omega) (by omega)]
theorem filter_next (p : Nat → Bool) {a v : Nat} (ha : a ≤ v) (hn : ∀ j, a ≤ j → j < v → p j = false) (hv : p v = true) : (List.range (v + 1)).filter p = (List.range a).filter p ++ [v] := by
  obtain ⟨d, rfl⟩ := Nat.exists_eq_add_of_le ha
  rw [List.range_succ, List.filter_append, filter_more p a d hn]
  simp [hv]

/-- Sets of registers as numbers, by their bits. -/
theorem is_f (r : Int) : reg_is.f r = some (decide (0 ≤ r ∧ r < 32)) := by
  unfold reg_is.f
  by_cases h : r ≥ 0
  · rw [if_pos h]; congr 1; simp only [decide_eq_decide]; omega
  · rw [if_neg h]; congr 1; symm; simp only [decide_eq_false_iff_not]; omega
theorem rbit_f (r : Int) : reg_bit.f r = some (if 0 ≤ r ∧ r < 32 then ((2 ^ r.toNat : Nat) : Int) else 0) := by
  unfold reg_bit.f
  rw [is_f]
  simp only [Option.bind_some]
  by_cases h : 0 ≤ r ∧ r < 32
  · rw [if_pos (decide_eq_true h), if_pos h.1, if_pos h]
    have e := shl32 1 r.toNat (by omega)
    rw [show ((r.toNat : Nat) : Int) = r from by omega, show ((1 : Nat) : Int) = 1 from rfl] at e
    rw [e, Nat.one_mul, Nat.mod_eq_of_lt (Nat.pow_lt_pow_right (by decide) (by omega))]
  · rw [if_neg (by simpa using h), if_neg h]
theorem two_lt {n : Nat} (h : n < 32) : 2 ^ n < 2 ^ 32 := Nat.pow_lt_pow_right (by decide) h
theorem and_pow (S n : Nat) : S &&& 2 ^ n = if S.testBit n then 2 ^ n else 0 := by
  apply Nat.eq_of_testBit_eq
  intro i
  rw [Nat.testBit_and, Nat.testBit_two_pow]
  by_cases h : n = i
  · subst h
    cases hb : S.testBit n <;> simp [Nat.testBit_two_pow]
  · cases hb : S.testBit n <;> simp [Nat.testBit_two_pow, h]
theorem has_set (S : Nat) (hS : S < 2 ^ 32) (r : Int) : reg_Set_Has.f (S : Int) r = some (decide (0 ≤ r ∧ r < 32) && S.testBit r.toNat) := by
  unfold reg_Set_Has.f
  rw [rbit_f]
  simp only [Option.bind_some]
  by_cases h : 0 ≤ r ∧ r < 32
  · rw [if_pos h, decide_eq_true h, and32 S _ hS (two_lt (by omega)), and_pow]
    cases hb : S.testBit r.toNat
    · simp
    · have hp := Nat.two_pow_pos r.toNat
      generalize 2 ^ r.toNat = P at hp
      rw [if_pos rfl]
      congr 1
      exact bne_iff_ne.mpr (by omega)
  · rw [if_neg h, decide_eq_false h]
    have e := and32 S 0 hS (by decide)
    rw [show ((0 : Nat) : Int) = 0 from rfl] at e
    rw [e]; simp
theorem less_set (S : Nat) (hS : S < 2 ^ 32) (r : Int) : ∃ T : Nat, reg_Set_Less.f (S : Int) r = some (T : Int) ∧ T < 2 ^ 32 ∧ ∀ i, T.testBit i = (S.testBit i && !decide ((i : Int) = r ∧ i < 32)) := by
  unfold reg_Set_Less.f
  rw [rbit_f]
  simp only [Option.bind_some]
  by_cases h : 0 ≤ r ∧ r < 32
  · obtain ⟨T, h1, h2, h3⟩ := andnot32 S (2 ^ r.toNat) hS (two_lt (by omega))
    refine ⟨T, by rw [if_pos h, h1], h2, fun i => ?_⟩
    rw [h3, Nat.testBit_two_pow]
    congr 2
    rw [decide_eq_decide]; omega
  · obtain ⟨T, h1, h2, h3⟩ := andnot32 S 0 hS (by decide)
    rw [show ((0 : Nat) : Int) = 0 from rfl] at h1
    refine ⟨T, by rw [if_neg h, h1], h2, fun i => ?_⟩
    rw [h3, Nat.zero_testBit, decide_eq_false (by omega)]
theorem with_set (S : Nat) (hS : S < 2 ^ 32) (r : Int) : ∃ T : Nat, reg_Set_With.f (S : Int) r = some (T : Int) ∧ T < 2 ^ 32 ∧ ∀ i, T.testBit i = (S.testBit i || decide ((i : Int) = r ∧ i < 32)) := by
  unfold reg_Set_With.f
  rw [rbit_f]
  simp only [Option.bind_some]
  by_cases h : 0 ≤ r ∧ r < 32
  · refine ⟨S ||| 2 ^ r.toNat, by rw [if_pos h, or32 S _ hS (two_lt (by omega))], Nat.or_lt_two_pow hS (two_lt (by omega)), fun i => ?_⟩
    rw [Nat.testBit_or, Nat.testBit_two_pow]
    congr 1
    rw [decide_eq_decide]; omega
  · refine ⟨S, ?_, hS, fun i => ?_⟩
    · have e := or32 S 0 hS (by decide)
      rw [show ((0 : Nat) : Int) = 0 from rfl] at e
      rw [if_neg h, e]; simp
    · rw [decide_eq_false (by omega)]; simp
theorem tz_table (v : Nat) (hv : v < 32) : rd deBruijn32 (((2 ^ v * 125613361 % 4294967296 / 134217728 : Nat) : Int)) = (v : Int) := by
  revert hv; revert v; decide +kernel
theorem first_none : reg_Set_First.f 0 = some (0, false) := rfl
theorem first_some (S v m : Nat) (h : S = 2 ^ v * (2 * m + 1)) (hS : S < 2 ^ 32) : reg_Set_First.f (S : Int) = some ((v : Int), true) := by
  have hp := Nat.two_pow_pos v
  have h1 : 1 ≤ S := by rw [h]; exact Nat.mul_pos hp (by omega)
  have hv := least_lt h hS
  unfold reg_Set_First.f bits_TrailingZeros32.f
  rw [if_neg (by omega), if_neg (by omega)]
  simp only [Option.bind_some]
  have h32 : (2 : Nat) ^ 32 = 4294967296 := by decide
  have e : -(S : Int) % 4294967296 = ((2 ^ 32 - S : Nat) : Int) := by omega
  rw [e, and32 S _ hS (by omega), and_neg h hS]
  have e2 : (((2 ^ v : Nat) : Int) * 125613361) % 4294967296 / 134217728 = ((2 ^ v * 125613361 % 4294967296 / 134217728 : Nat) : Int) := by
    rw [show (((2 ^ v * 125613361 % 4294967296 / 134217728 : Nat) : Int)) = (((2 ^ v : Nat) : Int) * 125613361) % 4294967296 / 134217728 from by simp]
  rw [e2, tz_table v hv]
theorem list_l (W : Nat) (d : Nat) : ∀ (k a S : Nat) (L : List Int) (r : Int) (some_ : Bool), 32 - a ≤ d → a ≤ 32 → d < k → S < 2 ^ 32 → (∀ j, S.testBit j = (W.testBit j && decide (a ≤ j))) → L = ((List.range a).filter W.testBit).map (fun n : Nat => (n : Int)) →
    W < 2 ^ 32 → reg_Set_First.f (S : Int) = some (r, some_) → reg_Set_List.l0 k S L r some_ = some (((List.range 32).filter W.testBit).map (fun n : Nat => (n : Int))) := by
  induction d with
  | zero =>
    intro k a S L r sm hd ha hk hS hb hL hW hf
    obtain ⟨k, rfl⟩ : ∃ m, k = m + 1 := ⟨k - 1, by omega⟩
    have ha' : a = 32 := by omega
    subst ha'
    have h0 : S = 0 := by
      apply Nat.eq_of_testBit_eq
      intro j
      rw [hb, Nat.zero_testBit]
      by_cases hj : j < 32
      · rw [decide_eq_false (by omega)]; simp
      · rw [Nat.testBit_lt_two_pow (Nat.lt_of_lt_of_le hW (Nat.pow_le_pow_right (by decide) (by omega)))]; rfl
    subst h0
    rw [show ((0 : Nat) : Int) = 0 from rfl, first_none] at hf
    obtain ⟨rfl, rfl⟩ := Prod.mk.inj (Option.some.inj hf)
    simp only [reg_Set_List.l0]
    rw [if_neg (by decide), hL]
  | succ d ih =>
    intro k a S L r sm hd ha hk hS hb hL hW hf
    obtain ⟨k, rfl⟩ : ∃ m, k = m + 1 := ⟨k - 1, by omega⟩
    by_cases h0 : S = 0
    · subst h0
      rw [show ((0 : Nat) : Int) = 0 from rfl, first_none] at hf
      obtain ⟨rfl, rfl⟩ := Prod.mk.inj (Option.some.inj hf)
      simp only [reg_Set_List.l0]
      rw [if_neg (by decide), hL]
      have := filter_more W.testBit a (32 - a) fun j h1 h2 => by
        have := hb j
        rw [Nat.zero_testBit, decide_eq_true h1, Bool.and_true] at this
        exact this.symm
      rw [show a + (32 - a) = 32 from by omega] at this
      rw [this]
    · obtain ⟨v, m, hv⟩ := least_bit S h0
      rw [first_some S v m hv hS] at hf
      obtain ⟨rfl, rfl⟩ := Prod.mk.inj (Option.some.inj hf)
      have hv32 := least_lt hv hS
      obtain ⟨hl1, hl2⟩ := least_is hv
      have h1 := hb v
      rw [hl1] at h1
      have hWv : W.testBit v = true ∧ a ≤ v := by simpa using h1.symm
      obtain ⟨T, hT, hT32, hTb⟩ := less_set S hS (v : Int)
      have hlen : L.length ≤ 32 := by
        rw [hL, List.length_map]
        exact Nat.le_trans (List.length_filter_le _ _) (by simp; omega)
      obtain ⟨r', s', hf'⟩ : ∃ r' s', reg_Set_First.f (T : Int) = some (r', s') := by
        by_cases hT0 : T = 0
        · subst hT0; exact ⟨0, false, rfl⟩
        · obtain ⟨v', m', hv'⟩ := least_bit T hT0
          exact ⟨_, _, first_some T v' m' hv' hT32⟩
      simp only [reg_Set_List.l0]
      rw [if_pos trivial, if_pos (by omega), hT]
      simp only [Option.bind_some]
      rw [hf']
      simp only [Option.bind_some]
      refine ih k (v + 1) T _ r' s' (by omega) (by omega) (by omega) hT32 (fun j => ?_) ?_ hW hf'
      · rw [hTb, hb]
        by_cases hj : j < 32
        · by_cases h2 : j = v
          · subst h2; simp [hj]
          · by_cases h3 : a ≤ j
            · by_cases h4 : j < v
              · have := hl2 j h4
                rw [hb, decide_eq_true h3, Bool.and_true] at this
                rw [this]; rfl
              · rw [decide_eq_true h3, decide_eq_true (show v + 1 ≤ j by omega), decide_eq_false (show ¬ ((j : Int) = (v : Int) ∧ j < 32) by omega)]; simp
            · rw [decide_eq_false h3, decide_eq_false (show ¬ v + 1 ≤ j by omega)]; simp
        · rw [Nat.testBit_lt_two_pow (Nat.lt_of_lt_of_le hW (Nat.pow_le_pow_right (by decide) (show 32 ≤ j by omega)))]; rfl
      · rw [hL, filter_next W.testBit hWv.2 (fun j h2 h3 => by
          have := hl2 j h3
          rw [hb, decide_eq_true h2, Bool.and_true] at this
          exact this) hWv.1]
        simp
theorem list_set (k W : Nat) (hW : W < 2 ^ 32) (hk : 40 ≤ k) : reg_Set_List.f k (W : Int) = some (((List.range 32).filter W.testBit).map (fun n : Nat => (n : Int))) := by
  unfold reg_Set_List.f
  obtain ⟨r', s', hf'⟩ : ∃ r' s', reg_Set_First.f (W : Int) = some (r', s') := by
    by_cases hT0 : W = 0
    · subst hT0; exact ⟨0, false, rfl⟩
    · obtain ⟨v', m', hv'⟩ := least_bit W hT0
      exact ⟨_, _, first_some W v' m' hv' hW⟩
  rw [hf']
  simp only [Option.bind_some]
  exact list_l W 32 k 0 W [] r' s' (by omega) (by omega) (by omega) hW (fun j => by simp) rfl hW hf'
theorem ref_in_l (l : List Int) (r : Int) (hl : l.length < 1000) (d : Nat) : ∀ (k i : Nat), l.length - i = d → i ≤ l.length → d < k →
    spinnakerref02_In.l0 k l r i = some (decide (r ∈ l.drop i)) := by
  induction d with
  | zero =>
    intro k i hd hi hk
    obtain ⟨k, rfl⟩ : ∃ m, k = m + 1 := ⟨k - 1, by omega⟩
    simp only [spinnakerref02_In.l0]
    rw [if_neg (by omega), List.drop_of_length_le (by omega)]; simp
  | succ d ih =>
    intro k i hd hi hk
    obtain ⟨k, rfl⟩ : ∃ m, k = m + 1 := ⟨k - 1, by omega⟩
    simp only [spinnakerref02_In.l0]
    rw [if_pos (by omega), if_pos (by omega)]
    have e : rd l (i : Int) = l[i] := by unfold rd; simp [show i < l.length by omega]
    rw [e, List.drop_eq_getElem_cons (show i < l.length by omega)]
    by_cases he : l[i] = r
    · rw [if_pos he]; simp [he]
    · rw [if_neg he, w64n (x := (i : Int) + 1) (i + 1) (by omega) (by omega), ih k (i + 1) (by omega) (by omega) (by omega)]
      congr 1; rw [decide_eq_decide, List.mem_cons]
      exact ⟨.inr, fun h => h.elim (fun e => absurd e.symm he) id⟩
theorem ref_in (k : Nat) (l : List Int) (r : Int) (hl : l.length < 1000) (hk : l.length < k) : spinnakerref02_In.f k l r = some (decide (r ∈ l)) := by
  unfold spinnakerref02_In.f
  have := ref_in_l l r hl l.length k 0 (by omega) (by omega) hk
  simpa using this
theorem mem_set (p : Nat → Bool) (i : Nat) (hi : i < 32) : ((i : Int) ∈ ((List.range 32).filter p).map (fun n : Nat => (n : Int))) ↔ p i = true := by
  simp only [List.mem_map, List.mem_filter, List.mem_range]
  constructor
  · rintro ⟨n, ⟨_, h2⟩, h3⟩
    rw [← show n = i from by omega]; exact h2
  · intro h; exact ⟨i, ⟨hi, h⟩, rfl⟩

theorem changes_l (W A B : Nat) (r : Int) (L : List Int) (hW : W < 2 ^ 32) (hA : A < 2 ^ 32) (hB : B < 2 ^ 32) (hL : L = ((List.range 32).filter W.testBit).map (fun n : Nat => (n : Int)))
    (ha : ∀ i, A.testBit i = (W.testBit i || decide ((i : Int) = r ∧ i < 32))) (hb : ∀ i, B.testBit i = (W.testBit i && !decide ((i : Int) = r ∧ i < 32))) (d : Nat) : ∀ (k i : Nat), i + d = 32 → 200 + d < k →
    spinnakerlaw02_RegChanges.l0 k W r W L A B i = some true := by
  have h32 : (2 : Nat) ^ 32 = 4294967296 := by decide
  have hLl : L.length < 1000 := by
    rw [hL, List.length_map]
    exact Nat.lt_of_le_of_lt (List.length_filter_le _ _) (by simp)
  have hLk : L.length ≤ 32 := by
    rw [hL, List.length_map]
    exact Nat.le_trans (List.length_filter_le _ _) (by simp)
  induction d with
  | zero =>
    intro k i hi hk
    obtain ⟨k, rfl⟩ : ∃ m, k = m + 1 := ⟨k - 1, by omega⟩
    simp only [spinnakerlaw02_RegChanges.l0]
    rw [if_neg (by omega), awake02 k (by omega)]; rfl
  | succ d ih =>
    intro k i hi hk
    obtain ⟨k, rfl⟩ : ∃ m, k = m + 1 := ⟨k - 1, by omega⟩
    simp only [spinnakerlaw02_RegChanges.l0]
    have hi32 : i < 32 := by omega
    rw [if_pos (by omega), u64n W (by omega), bit_n k W i (by omega) (by omega) (by omega), has_set W hW, has_set A hA, has_set B hB, ref_in k L i hLl (by omega)]
    simp only [Option.bind_some]
    have hn : spinnakerlaw02_RegChanges.l0 k W r W L A B (wrap64 ((i : Int) + 1)) = some true := by
      rw [w64n (i + 1) (by omega) (by omega)]
      exact ih k (i + 1) (by omega) (by omega)
    have hm : decide ((i : Int) ∈ L) = W.testBit i := by
      rw [hL, Bool.eq_iff_iff, decide_eq_true_iff, mem_set _ i hi32]
    rw [hn, hm, ha, hb, decide_eq_true (show 0 ≤ (i : Int) ∧ (i : Int) < 32 by omega), show ((i : Int)).toNat = i from by omega]
    have e1 : decide ((i : Int) = r ∧ i < 32) = ((i : Int) == r) := by
      rw [Bool.eq_iff_iff, decide_eq_true_iff, beq_iff_eq]; omega
    rw [e1, show ((i : Int) != r) = !((i : Int) == r) from rfl]
    cases W.testBit i <;> cases ((i : Int) == r) <;> rfl
theorem RegChanges : spinnakerlaw02_RegChanges.Pure := by
  intro w r hw hr
  have hw := wf_u32 hw
  obtain ⟨W, rfl⟩ := Int.eq_ofNat_of_zero_le hw.1
  have h32 : (2 : Nat) ^ 32 = 4294967296 := by decide
  have hW : W < 2 ^ 32 := by omega
  obtain ⟨A, h1, h2, h3⟩ := with_set W hW r
  obtain ⟨B, h4, h5, h6⟩ := less_set W hW r
  refine ⟨1000, ?_⟩
  have hf := changes_l W A B r _ hW h2 h5 rfl h3 h6 32 1000 0 rfl (by omega)
  rw [show ((0 : Nat) : Int) = 0 from rfl] at hf
  unfold spinnakerlaw02_RegChanges.f
  rw [list_set 1000 W hW (by decide), h1, h4]
  exact hf

end Go.Proofs.YtbmjbidekmkboaaDoor.Pure
