/- The set of any registers has the specified list, least register, size and members; the listed tables are tied to the program's text; no other condition. -/
import Derived.Test.YtbmjbidekmkboaaDoorGRegSetsx3
namespace Go.Proofs.YtbmjbidekmkboaaDoor.Pure
open Go.RowKit Go.Proofs.YtbmjbidekmkboaaDoor.GRegSets Go.Proofs.YtbmjbidekmkboaaDoorW.PrintWords Go.Proofs.YtbmjbidekmkboaaDoorW.PrintLast Go.Proofs.YtbmjbidekmkboaaDoorW.PrintMore
set_option linter.unusedVariables false
set_option linter.unusedSimpArgs false
attribute [local irreducible] shl shr

/-- Numbers that need no wrapping, and two's complement by its lowest bits. -/
theorem w64 {x : Int} (h0 : -9223372036854775808 ≤ x) (h1 : x < 9223372036854775808) : wrap64 x = x := by
  unfold wrap64; omega
theorem w64n {x : Int} (n : Nat) (h : x = n) (hn : n < 9223372036854775808) : wrap64 x = (n : Int) := by
  rw [w64 (by omega) (by omega), h]
theorem wu64 (x : Int) : IntKind.u64.wrap x = x % 18446744073709551616 := by
  simp [IntKind.wrap, IntKind.bits, IntKind.signed]
theorem wf_i64 {x : Int} (h : (Lit.int .i64 x).wf = true) : -9223372036854775808 ≤ x ∧ x < 9223372036854775808 := by
  simp [Lit.wf, IntKind.min, IntKind.max, IntKind.bits, IntKind.signed] at h; omega
theorem wf_u32 {x : Int} (h : (Lit.int .u32 x).wf = true) : 0 ≤ x ∧ x < 4294967296 := by
  simp [Lit.wf, IntKind.min, IntKind.max, IntKind.bits, IntKind.signed] at h; omega
theorem wf_u8 {x : Int} (h : (Lit.int .u8 x).wf = true) : 0 ≤ x ∧ x < 256 := by
  simp [Lit.wf, IntKind.min, IntKind.max, IntKind.bits, IntKind.signed] at h; omega
theorem p64 : (2 : Int) ^ 64 = 18446744073709551616 := by decide
theorem p63 : (2 : Int) ^ 63 = 9223372036854775808 := by decide
theorem p_pos (n : Nat) : (0 : Int) < 2 ^ n := Int.pow_pos (by decide)
theorem p_add (a b : Nat) : (2 : Int) ^ (a + b) = 2 ^ a * 2 ^ b := Int.pow_add 2 a b
theorem p_le {a b : Nat} (h : a ≤ b) : (2 : Int) ^ a ≤ 2 ^ b := by
  obtain ⟨c, rfl⟩ := Nat.exists_eq_add_of_le h
  rw [p_add]
  have h1 : (2 : Int) ^ a * 1 ≤ 2 ^ a * 2 ^ c := Int.mul_le_mul_of_nonneg_left (by have := p_pos c; omega) (Int.le_of_lt (p_pos a))
  omega
theorem b64 {i : Nat} (h : i ≤ 64) : (2 : Int) ^ i ≤ 18446744073709551616 := by have := p_le h; rw [p64] at this; exact this
theorem b63 {i : Nat} (h : i ≤ 63) : (2 : Int) ^ i ≤ 9223372036854775808 := by have := p_le h; rw [p63] at this; exact this
theorem b62 {i : Nat} (h : i ≤ 62) : (2 : Int) ^ i ≤ 4611686018427387904 := by have := p_le h; rw [show (2 : Int) ^ 62 = 4611686018427387904 from by decide] at this; exact this
theorem b60 {i : Nat} (h : i ≤ 60) : (2 : Int) ^ i ≤ 1152921504606846976 := by have := p_le h; rw [show (2 : Int) ^ 60 = 1152921504606846976 from by decide] at this; exact this
theorem p_succ (n : Nat) : (2 : Int) ^ (n + 1) = 2 * 2 ^ n := by rw [p_add]; omega

/-- The number with a sign that the lowest n bits are. -/
def sgn (v : Int) (n : Nat) : Int := if v % 2 ^ n < 2 ^ (n - 1) then v % 2 ^ n else v % 2 ^ n - 2 ^ n

theorem mod_mod {v : Int} {a b : Nat} (h : a ≤ b) : v % 2 ^ b % 2 ^ a = v % 2 ^ a := by
  obtain ⟨c, rfl⟩ := Nat.exists_eq_add_of_le h
  exact Int.emod_emod_of_dvd v ⟨2 ^ c, p_add a c⟩
theorem sgn_mod {v : Int} {a b : Nat} (h : a ≤ b) : sgn (v % 2 ^ b) a = sgn v a := by
  unfold sgn; rw [mod_mod h]
theorem sgn_range (v : Int) (n : Nat) (h : 1 ≤ n) : -2 ^ (n - 1) ≤ sgn v n ∧ sgn v n < 2 ^ (n - 1) := by
  have h0 := Int.emod_nonneg v (Int.ne_of_gt (p_pos n))
  have h1 := Int.emod_lt_of_pos v (p_pos n)
  have h2 : (2 : Int) ^ n = 2 * 2 ^ (n - 1) := by rw [← p_succ]; congr 1; omega
  unfold sgn
  split <;> omega
/-- Which number has the same lowest bits and fits is the one. -/
theorem sgn_self {v : Int} {n : Nat} (h : 1 ≤ n) (h0 : -2 ^ (n - 1) ≤ v) (h1 : v < 2 ^ (n - 1)) : sgn v n = v := by
  have h2 : (2 : Int) ^ n = 2 * 2 ^ (n - 1) := by rw [← p_succ]; congr 1; omega
  have hp := p_pos (n - 1)
  unfold sgn
  by_cases hv : 0 ≤ v
  · have e : v % 2 ^ n = v := Int.emod_eq_of_lt hv (by omega)
    rw [e, if_pos h1]
  · have e : v % 2 ^ n = v + 2 ^ n := by
      rw [← Int.add_emod_right]; exact Int.emod_eq_of_lt (by omega) (by omega)
    rw [e, if_neg (by omega)]; omega
theorem shl_shr (v : Int) (n : Nat) (h1 : 1 ≤ n) (h64 : n ≤ 64) :
    shr .i64 (wrap64 (shl .u64 (v % 18446744073709551616) (64 - (n : Int)))) (64 - (n : Int)) = sgn v n := by
  have hy : (64 - (n : Int)).toNat = 64 - n := by omega
  have hm : min (64 - n) 64 = 64 - n := by omega
  unfold shl shr
  rw [hy, show IntKind.u64.bits = 64 from rfl, show IntKind.i64.bits = 64 from rfl, hm, wu64]
  have hP := p_pos (64 - n)
  have hR := p_pos (n - 1)
  have hQ : (2 : Int) ^ n = 2 * 2 ^ (n - 1) := by rw [← p_succ]; congr 1; omega
  have hPQ : (2 : Int) ^ n * 2 ^ (64 - n) = 18446744073709551616 := by
    rw [← p_add, show n + (64 - n) = 64 from by omega]; exact p64
  have hRP : (2 : Int) ^ (n - 1) * 2 ^ (64 - n) = 9223372036854775808 := by
    rw [← p_add, show n - 1 + (64 - n) = 63 from by omega]; exact p63
  have e1 : v % 18446744073709551616 * 2 ^ (64 - n) % 18446744073709551616 = (v % 2 ^ n) * 2 ^ (64 - n) := by
    have e2 : (v % 18446744073709551616) % 2 ^ n = v % 2 ^ n := by rw [← p64]; exact mod_mod h64
    rw [← e2, Int.mul_comm (v % 18446744073709551616 % 2 ^ n), ← Int.mul_emod_mul_of_pos _ _ hP, Int.mul_comm (2 ^ (64 - n)) (2 ^ n), hPQ, Int.mul_comm (2 ^ (64 - n))]
  rw [e1]
  have h0 := Int.emod_nonneg v (Int.ne_of_gt (p_pos n))
  have h3 := Int.emod_lt_of_pos v (p_pos n)
  unfold sgn
  generalize v % 2 ^ n = m at h0 h3 ⊢
  generalize (2 : Int) ^ (64 - n) = P at hP hPQ hRP ⊢
  generalize (2 : Int) ^ (n - 1) = R at hR hQ hRP ⊢
  rw [hQ] at h3 hPQ ⊢
  split
  · rename_i hlt
    have a1 : 0 ≤ m * P := Int.mul_nonneg h0 (Int.le_of_lt hP)
    have a2 : m * P < R * P := Int.mul_lt_mul_of_pos_right hlt hP
    rw [w64 (by omega) (by omega), Int.mul_ediv_cancel _ (Int.ne_of_gt hP)]
  · rename_i hge
    have a1 : R * P ≤ m * P := Int.mul_le_mul_of_nonneg_right (by omega) (Int.le_of_lt hP)
    have a2 : m * P < 2 * R * P := Int.mul_lt_mul_of_pos_right h3 hP
    have e3 : wrap64 (m * P) = (m - 2 * R) * P := by
      rw [Int.sub_mul]; unfold wrap64; omega
    rw [e3, Int.mul_ediv_cancel _ (Int.ne_of_gt hP)]

theorem toList_d (s : ByteArray) : s.toList = s.data.toList := ByteArray.toList_eq s
/-- The first place, from i on, of a text in a list of texts; -1: there is none. -/
def idx (s : ByteArray) : List ByteArray → Int → Int
  | [], _ => -1
  | x :: t, i => if s.data.toList = x.data.toList then i else idx s t (i + 1)
theorem index_f (s : ByteArray) (l : List ByteArray) (hl : l.length < 1000) (d : Nat) : ∀ (k i : Nat), l.length - i = d → i ≤ l.length → d < k →
    slices_Index_string_string.l0 k l s l.length i = some (idx s (l.drop i) i) := by
  induction d with
  | zero =>
    intro k i hd hi hk
    obtain ⟨k, rfl⟩ : ∃ m, k = m + 1 := ⟨k - 1, by omega⟩
    simp only [slices_Index_string_string.l0]
    rw [if_neg (by omega), List.drop_of_length_le (by omega)]; rfl
  | succ d ih =>
    intro k i hd hi hk
    obtain ⟨k, rfl⟩ : ∃ m, k = m + 1 := ⟨k - 1, by omega⟩
    simp only [slices_Index_string_string.l0]
    rw [if_pos (by omega), if_pos (by omega), if_pos (by omega), toList_d, toList_d, List.drop_eq_getElem_cons (show i < l.length by omega)]
    have e : rdOf ByteArray.empty l (i : Int) = l[i] := by unfold rdOf; simp [show i < l.length by omega]
    simp only [idx]
    rw [e]
    by_cases he : s.data.toList = l[i].data.toList
    · rw [if_pos he, if_pos he]
    · rw [if_neg he, if_neg he, show wrap64 ((i : Int) + 1) = ((i + 1 : Nat) : Int) from by unfold wrap64; omega, ih k (i + 1) (by omega) (by omega) (by omega)]
      rfl
theorem regIdx_eq (s : ByteArray) : regIdx s = idx s regUses 0 := by
  unfold regIdx slices_Index_string_string.f
  have := index_f s regUses (by rw [regUses_length]; decide) 32 100 0 (by rw [regUses_length]) (by omega) (by omega)
  rw [show ((0 : Nat) : Int) = 0 from rfl] at this
  rw [this]; rfl
/-- The plain names. -/
def xNames : List ByteArray := (List.range 32).map fun (r : Nat) => (reg_Name.f (r : Int)).getD ⟨#[]⟩
theorem xNames_length : xNames.length = 32 := by simp [xNames]
theorem name_at (n : Nat) (hn : n < 32) : reg_Name.f (n : Int) = some (rdOf ByteArray.empty xNames n) := by
  revert hn; revert n; decide +kernel
theorem parse_l (s : ByteArray) (d : Nat) : ∀ (k i : Nat), 32 - i = d → i ≤ 32 → d < k →
    reg_Parse.l0 k s i = some (if idx s (xNames.drop i) i = -1 then (mx (regIdx s) 0, decide (regIdx s ≥ 0)) else (idx s (xNames.drop i) i, true)) := by
  have hl := xNames_length
  induction d with
  | zero =>
    intro k i hd hi hk
    obtain ⟨k, rfl⟩ : ∃ m, k = m + 1 := ⟨k - 1, by omega⟩
    simp only [reg_Parse.l0]
    rw [if_neg (by omega), List.drop_of_length_le (by omega)]
    rfl
  | succ d ih =>
    intro k i hd hi hk
    obtain ⟨k, rfl⟩ : ∃ m, k = m + 1 := ⟨k - 1, by omega⟩
    simp only [reg_Parse.l0]
    rw [if_pos (by omega), name_at i (by omega)]
    simp only [Option.bind_some]
    have e : rdOf ByteArray.empty xNames (i : Int) = xNames[i] := by unfold rdOf; simp [show i < xNames.length by omega]
    rw [e, toList_d, toList_d, List.drop_eq_getElem_cons (show i < xNames.length by omega)]
    by_cases he : s.data.toList = xNames[i].data.toList
    · have e2 : idx s (xNames[i] :: List.drop (i + 1) xNames) i = i := by simp only [idx]; rw [if_pos he]
      rw [if_pos he.symm]; simp only [e2]; rw [if_neg (by omega)]
    · have e2 : idx s (xNames[i] :: List.drop (i + 1) xNames) i = idx s (List.drop (i + 1) xNames) ((i + 1 : Nat) : Int) := by simp only [idx]; rw [if_neg he]; rfl
      rw [if_neg (fun h => he h.symm), show wrap64 ((i : Int) + 1) = ((i + 1 : Nat) : Int) from by unfold wrap64; omega, ih k (i + 1) (by omega) (by omega) (by omega)]
      simp only [e2]
theorem parse_f (k : Nat) (s : ByteArray) (hk : 40 ≤ k) :
    reg_Parse.f k s = some (if idx s xNames 0 = -1 then (mx (idx s regUses 0) 0, decide (idx s regUses 0 ≥ 0)) else (idx s xNames 0, true)) := by
  unfold reg_Parse.f
  have := parse_l s 32 k 0 rfl (by omega) (by omega)
  rw [show ((0 : Nat) : Int) = 0 from rfl, List.drop_zero, regIdx_eq] at this
  exact this
theorem awake02_of (k : Nat) (hk : 40 ≤ k) : reg_Of.f k (([3, 1, 40] : List Int)) = some 10 := by
  refine at_rounds (fun k => reg_Of.mono _ k) hk ?_
  decide +kernel
theorem awake02 (k : Nat) (hk : 40 ≤ k) : spinnakerlaw02_awake.f k = some true := by
  unfold spinnakerlaw02_awake.f
  rw [parse_f k _ hk, awake02_of k hk, show idx (⟨#[97, 48]⟩ : ByteArray) xNames 0 = -1 from by decide +kernel, show idx (⟨#[97, 48]⟩ : ByteArray) regUses 0 = 10 from by decide +kernel]
  decide +kernel
theorem name_out {a : Int} (h : ¬ (0 ≤ a ∧ a < 32)) : reg_Name.f a = some (⟨#[]⟩ : ByteArray) := by unfold reg_Name.f; rw [if_neg h]

/-- Words by their bits. -/
theorem u64n (N : Nat) (h : N < 18446744073709551616) : IntKind.u64.wrap (N : Int) = (N : Int) := by rw [wu64]; omega
theorem wrap32n (n : Int) (h0 : 0 ≤ n) (h1 : n < 2 ^ 32) : IntKind.u32.wrap n = n := by
  rw [Go.IntKind.wrap_u32]; rw [show (2 : Int) ^ 32 = 4294967296 from by decide] at h1; omega
theorem and32 (a b : Nat) (ha : a < 2 ^ 32) (hb : b < 2 ^ 32) : Go.bits .and .u32 (a : Int) (b : Int) = ((a &&& b : Nat) : Int) :=
  (Go.bits_nat .u32 32 (by decide) wrap32n a b ha hb).1
theorem or32 (a b : Nat) (ha : a < 2 ^ 32) (hb : b < 2 ^ 32) : Go.bits .or .u32 (a : Int) (b : Int) = ((a ||| b : Nat) : Int) :=
  (Go.bits_nat .u32 32 (by decide) wrap32n a b ha hb).2
theorem andnot32 (a b : Nat) (ha : a < 2 ^ 32) (hb : b < 2 ^ 32) : ∃ c : Nat, Go.bits .andNot .u32 (a : Int) (b : Int) = (c : Int) ∧ c < 2 ^ 32 ∧ ∀ i, c.testBit i = (a.testBit i && !b.testBit i) := by
  have e : Go.bits .andNot .u32 (a : Int) (b : Int) = IntKind.u32.wrap ((BitVec.ofInt 32 (a : Int) &&& ~~~ BitVec.ofInt 32 (b : Int)).toNat : Int) := rfl
  refine ⟨(BitVec.ofInt 32 (a : Int) &&& ~~~ BitVec.ofInt 32 (b : Int)).toNat, ?_, BitVec.isLt _, fun i => ?_⟩
  · rw [e]
    refine wrap32n _ (Int.natCast_nonneg _) ?_
    have := (BitVec.ofInt 32 (a : Int) &&& ~~~ BitVec.ofInt 32 (b : Int)).isLt
    exact_mod_cast this
  · rw [BitVec.testBit_toNat, BitVec.getLsbD_and, BitVec.getLsbD_not]
    have h1 : (BitVec.ofInt 32 (a : Int)).getLsbD i = a.testBit i := by
      rw [BitVec.ofInt_natCast, ← BitVec.testBit_toNat, BitVec.toNat_ofNat, Nat.mod_eq_of_lt ha]
    have h2 : (BitVec.ofInt 32 (b : Int)).getLsbD i = b.testBit i := by
      rw [BitVec.ofInt_natCast, ← BitVec.testBit_toNat, BitVec.toNat_ofNat, Nat.mod_eq_of_lt hb]
    rw [h1, h2]
    by_cases hi : i < 32
    · simp [hi]
    · have : a.testBit i = false := Nat.testBit_lt_two_pow (Nat.lt_of_lt_of_le ha (Nat.pow_le_pow_right (by decide) (by omega)))
      simp [hi, this]
theorem shl32 (a n : Nat) (hn : n ≤ 32) : shl .u32 (a : Int) (n : Int) = ((a * 2 ^ n % 2 ^ 32 : Nat) : Int) := by
  unfold shl
  rw [show IntKind.u32.bits = 32 from rfl, show ((n : Int)).toNat = n from by omega, Nat.min_eq_left hn, Go.IntKind.wrap_u32]
  simp
theorem shr32 (a n : Nat) (hn : n ≤ 32) : shr .u32 (a : Int) (n : Int) = ((a / 2 ^ n : Nat) : Int) := by
  unfold shr
  rw [show IntKind.u32.bits = 32 from rfl, show ((n : Int)).toNat = n from by omega, Nat.min_eq_left hn]
  simp

/-- The least bit of a number, and what is left without it. -/
theorem least_bit (S : Nat) : S ≠ 0 → ∃ v m, S = 2 ^ v * (2 * m + 1) := by
  induction S using Nat.strongRecOn with
  | ind S ih =>
    intro h
    by_cases h2 : S % 2 = 0
    · obtain ⟨v, m, hv⟩ := ih (S / 2) (by omega) (by omega)
      exact ⟨v + 1, m, by rw [Nat.pow_succ, Nat.mul_assoc, Nat.mul_comm 2, ← Nat.mul_assoc, ← hv]; omega⟩
    · exact ⟨0, S / 2, by omega⟩
theorem bit_ge {S v m i : Nat} (h : S = 2 ^ v * (2 * m + 1)) : S.testBit i = (decide (i ≥ v) && (2 * m + 1).testBit (i - v)) := by
  rw [h, Nat.testBit_two_pow_mul]
theorem and_neg {S v m n : Nat} (h : S = 2 ^ v * (2 * m + 1)) (hn : S < 2 ^ n) : S &&& (2 ^ n - S) = 2 ^ v := by
  have hp := Nat.two_pow_pos v
  have hS : 1 ≤ S := by rw [h]; exact Nat.mul_pos hp (by omega)
  have hvn : v < n := by
    rcases Nat.lt_or_ge v n with h1 | h1
    · exact h1
    · exfalso
      have h2 : 2 ^ n ≤ 2 ^ v := Nat.pow_le_pow_right (by decide) h1
      have h3 : 2 ^ v ≤ S := by rw [h]; exact Nat.le_mul_of_pos_right _ (by omega)
      omega
  have e1 : 2 ^ n - S = 2 ^ n - ((S - 1) + 1) := by congr 1; omega
  have e2 : S - 1 = 2 ^ v * (2 * m) + (2 ^ v - 1) := by rw [h, Nat.mul_add, Nat.mul_one]; omega
  apply Nat.eq_of_testBit_eq
  intro i
  rw [Nat.testBit_and, bit_ge h, e1, Nat.testBit_two_pow_sub_succ (by omega), e2, Nat.testBit_two_pow_mul_add _ (by omega), Nat.testBit_two_pow]
  by_cases h1 : i < v
  · rw [decide_eq_false (show ¬ i ≥ v by omega), decide_eq_false (show ¬ v = i by omega)]; rfl
  · rw [if_neg h1, decide_eq_true (show i ≥ v by omega)]
    by_cases h2 : i = v
    · subst h2
      rw [Nat.sub_self, decide_eq_true hvn, decide_eq_true rfl]
      simp [Nat.testBit_zero]
    · obtain ⟨j, hj⟩ : ∃ j, i - v = j + 1 := ⟨i - v - 1, by omega⟩
      rw [hj, Nat.testBit_succ, Nat.testBit_succ, decide_eq_false (show ¬ v = i by omega), show (2 * m + 1) / 2 = m from by omega, show 2 * m / 2 = m from by omega]
      cases m.testBit j <;> simp
theorem least_is {S v m : Nat} (h : S = 2 ^ v * (2 * m + 1)) : S.testBit v = true ∧ ∀ j, j < v → S.testBit j = false := by
  refine ⟨?_, fun j hj => ?_⟩
  · rw [bit_ge h, Nat.sub_self, decide_eq_true (Nat.le_refl v)]; simp [Nat.testBit_zero]
  · rw [bit_ge h, decide_eq_false (show ¬ j ≥ v by omega)]; rfl
theorem least_lt {S v m n : Nat} (h : S = 2 ^ v * (2 * m + 1)) (hn : S < 2 ^ n) : v < n := by
  rcases Nat.lt_or_ge v n with h1 | h1
  · exact h1
  · exfalso
    have h2 : 2 ^ n ≤ 2 ^ v := Nat.pow_le_pow_right (by decide) h1
    have h3 : 2 ^ v ≤ S := by rw [h]; exact Nat.le_mul_of_pos_right _ (by omega)
    omega
theorem filter_more (p : Nat → Bool) (a d : Nat) (hn : ∀ j, a ≤ j → j < a + d → p j = false) : (List.range (a + d)).filter p = (List.range a).filter p := by
  induction d with
  | zero => rfl
  | succ d ih =>
    rw [← Nat.add_assoc, List.range_succ, List.filter_append, ih fun j h1 h2 => hn j h1 (by omega)]
    simp [hn (a + d) (by omega) (by omega)]
theorem filter_next (p : Nat → Bool) {a v : Nat} (ha : a ≤ v) (hn : ∀ j, a ≤ j → j < v → p j = false) (hv : p v = true) : (List.range (v + 1)).filter p = (List.range a).filter p ++ [v] := by
  obtain ⟨d, rfl⟩ := Nat.exists_eq_add_of_le ha
  rw [List.range_succ, List.filter_append, filter_more p a d hn]
  simp [hv]

/-- Sets of registers as numbers, by their bits. -/
theorem is_f (r : Int) : reg_is.f r = some (decide (0 ≤ r ∧ r < 32)) := by
  unfold reg_is.f
  by_cases h : r ≥ 0
  · rw [if_pos h]; congr 1; simp only [decide_eq_decide]; omega
  · rw [if_neg h]; congr 1; symm; simp only [decide_eq_false_iff_not]; omega
theorem rbit_f (r : Int) : reg_bit.f r = some (if 0 ≤ r ∧ r < 32 then ((2 ^ r.toNat : Nat) : Int) else 0) := by
  unfold reg_bit.f
  rw [is_f]
  simp only [Option.bind_some]
  by_cases h : 0 ≤ r ∧ r < 32
  · rw [if_pos (decide_eq_true h), if_pos h.1, if_pos h]
    have e := shl32 1 r.toNat (by omega)
    rw [show ((r.toNat : Nat) : Int) = r from by omega, show ((1 : Nat) : Int) = 1 from rfl] at e
    rw [e, Nat.one_mul, Nat.mod_eq_of_lt (Nat.pow_lt_pow_right (by decide) (by omega))]
  · rw [if_neg (by simpa using h), if_neg h]
theorem two_lt {n : Nat} (h : n < 32) : 2 ^ n < 2 ^ 32 := Nat.pow_lt_pow_right (by decide) h
theorem and_pow (S n : Nat) : S &&& 2 ^ n = if S.testBit n then 2 ^ n else 0 := by
  apply Nat.eq_of_testBit_eq
  intro i
  rw [Nat.testBit_and, Nat.testBit_two_pow]
  by_cases h : n = i
  · subst h
    cases hb : S.testBit n <;> simp [Nat.testBit_two_pow]
  · cases hb : S.testBit n <;> simp [Nat.testBit_two_pow, h]
theorem has_set (S : Nat) (hS : S < 2 ^ 32) (r : Int) : reg_Set_Has.f (S : Int) r = some (decide (0 ≤ r ∧ r < 32) && S.testBit r.toNat) := by
  unfold reg_Set_Has.f
  rw [rbit_f]
  simp only [Option.bind_some]
  by_cases h : 0 ≤ r ∧ r < 32
  · rw [if_pos h, decide_eq_true h, and32 S _ hS (two_lt (by omega)), and_pow]
    cases hb : S.testBit r.toNat
    · simp
    · have hp := Nat.two_pow_pos r.toNat
      generalize 2 ^ r.toNat = P at hp
      rw [if_pos rfl]
      congr 1
      exact bne_iff_ne.mpr (by omega)
  · rw [if_neg h, decide_eq_false h]
    have e := and32 S 0 hS (by decide)
    rw [show ((0 : Nat) : Int) = 0 from rfl] at e
    rw [e]; simp
theorem less_set (S : Nat) (hS : S < 2 ^ 32) (r : Int) : ∃ T : Nat, reg_Set_Less.f (S : Int) r = some (T : Int) ∧ T < 2 ^ 32 ∧ ∀ i, T.testBit i = (S.testBit i && !decide ((i : Int) = r ∧ i < 32)) := by
  unfold reg_Set_Less.f
  rw [rbit_f]
  simp only [Option.bind_some]
  by_cases h : 0 ≤ r ∧ r < 32
  · obtain ⟨T, h1, h2, h3⟩ := andnot32 S (2 ^ r.toNat) hS (two_lt (by omega))
    refine ⟨T, by rw [if_pos h, h1], h2, fun i => ?_⟩
    rw [h3, Nat.testBit_two_pow]
    congr 2
    rw [decide_eq_decide]; omega
  · obtain ⟨T, h1, h2, h3⟩ := andnot32 S 0 hS (by decide)
    rw [show ((0 : Nat) : Int) = 0 from rfl] at h1
    refine ⟨T, by rw [if_neg h, h1], h2, fun i => ?_⟩
    rw [h3, Nat.zero_testBit, decide_eq_false (by omega)]
theorem tz_table (v : Nat) (hv : v < 32) : rd deBruijn32 (((2 ^ v * 125613361 % 4294967296 / 134217728 : Nat) : Int)) = (v : Int) := by
  revert hv; revert v; decide +kernel
theorem first_none : reg_Set_First.f 0 = some (0, false) := rfl
theorem first_some (S v m : Nat) (h : S = 2 ^ v * (2 * m + 1)) (hS : S < 2 ^ 32) : reg_Set_First.f (S : Int) = some ((v : Int), true) := by
  have hp := Nat.two_pow_pos v
  have h1 : 1 ≤ S := by rw [h]; exact Nat.mul_pos hp (by omega)
  have hv := least_lt h hS
  unfold reg_Set_First.f bits_TrailingZeros32.f
  rw [if_neg (by omega), if_neg (by omega)]
  simp only [Option.bind_some]
  have h32 : (2 : Nat) ^ 32 = 4294967296 := by decide
  have e : -(S : Int) % 4294967296 = ((2 ^ 32 - S : Nat) : Int) := by omega
  rw [e, and32 S _ hS (by omega), and_neg h hS]
  have e2 : (((2 ^ v : Nat) : Int) * 125613361) % 4294967296 / 134217728 = ((2 ^ v * 125613361 % 4294967296 / 134217728 : Nat) : Int) := by
    rw [show (((2 ^ v * 125613361 % 4294967296 / 134217728 : Nat) : Int)) = (((2 ^ v : Nat) : Int) * 125613361) % 4294967296 / 134217728 from by simp]
  rw [e2, tz_table v hv]
theorem list_l (W : Nat) (d : Nat) : ∀ (k a S : Nat) (L : List Int) (r : Int) (some_ : Bool), 32 - a ≤ d → a ≤ 32 → d < k → S < 2 ^ 32 → (∀ j, S.testBit j = (W.testBit j && decide (a ≤ j))) → L = ((List.range a).filter W.testBit).map (fun n : Nat => (n : Int)) →
    W < 2 ^ 32 → reg_Set_First.f (S : Int) = some (r, some_) → reg_Set_List.l0 k S L r some_ = some (((List.range 32).filter W.testBit).map (fun n : Nat => (n : Int))) := by
  induction d with
  | zero =>
    intro k a S L r sm hd ha hk hS hb hL hW hf
    obtain ⟨k, rfl⟩ : ∃ m, k = m + 1 := ⟨k - 1, by omega⟩
    have ha' : a = 32 := by omega
    subst ha'
    have h0 : S = 0 := by
      apply Nat.eq_of_testBit_eq
      intro j
      rw [hb, Nat.zero_testBit]
      by_cases hj : j < 32
      · rw [decide_eq_false (by omega)]; simp
      · rw [Nat.testBit_lt_two_pow (Nat.lt_of_lt_of_le hW (Nat.pow_le_pow_right (by decide) (by omega)))]; rfl
    subst h0
    rw [show ((0 : Nat) : Int) = 0 from rfl, first_none] at hf
    obtain ⟨rfl, rfl⟩ := Prod.mk.inj (Option.some.inj hf)
    simp only [reg_Set_List.l0]
    rw [if_neg (by decide), hL]
  | succ d ih =>
    intro k a S L r sm hd ha hk hS hb hL hW hf
    obtain ⟨k, rfl⟩ : ∃ m, k = m + 1 := ⟨k - 1, by omega⟩
    by_cases h0 : S = 0
    · subst h0
      rw [show ((0 : Nat) : Int) = 0 from rfl, first_none] at hf
      obtain ⟨rfl, rfl⟩ := Prod.mk.inj (Option.some.inj hf)
      simp only [reg_Set_List.l0]
      rw [if_neg (by decide), hL]
      have := filter_more W.testBit a (32 - a) fun j h1 h2 => by
        have := hb j
        rw [Nat.zero_testBit, decide_eq_true h1, Bool.and_true] at this
        exact this.symm
      rw [show a + (32 - a) = 32 from by omega] at this
      rw [this]
    · obtain ⟨v, m, hv⟩ := least_bit S h0
      rw [first_some S v m hv hS] at hf
      obtain ⟨rfl, rfl⟩ := Prod.mk.inj (Option.some.inj hf)
      have hv32 := least_lt hv hS
      obtain ⟨hl1, hl2⟩ := least_is hv
      have h1 := hb v
      rw [hl1] at h1
      have hWv : W.testBit v = true ∧ a ≤ v := by simpa using h1.symm
      obtain ⟨T, hT, hT32, hTb⟩ := less_set S hS (v : Int)
      have hlen : L.length ≤ 32 := by
        rw [hL, List.length_map]
        exact Nat.le_trans (List.length_filter_le _ _) (by simp; omega)
      obtain ⟨r', s', hf'⟩ : ∃ r' s', reg_Set_First.f (T : Int) = some (r', s') := by
        by_cases hT0 : T = 0
        · subst hT0; exact ⟨0, false, rfl⟩
        · obtain ⟨v', m', hv'⟩ := least_bit T hT0
          exact ⟨_, _, first_some T v' m' hv' hT32⟩
      simp only [reg_Set_List.l0]
      rw [if_pos trivial, if_pos (by omega), hT]
      simp only [Option.bind_some]
      rw [hf']
      simp only [Option.bind_some]
      refine ih k (v + 1) T _ r' s' (by omega) (by omega) (by omega) hT32 (fun j => ?_) ?_ hW hf'
      · rw [hTb, hb]
        by_cases hj : j < 32
        · by_cases h2 : j = v
          · subst h2; simp [hj]
          · by_cases h3 : a ≤ j
            · by_cases h4 : j < v
              · have := hl2 j h4
                rw [hb, decide_eq_true h3, Bool.and_true] at this
                rw [this]; rfl
              · rw [decide_eq_true h3, decide_eq_true (show v + 1 ≤ j by omega), decide_eq_false (show ¬ ((j : Int) = (v : Int) ∧ j < 32) by omega)]; simp
            · rw [decide_eq_false h3, decide_eq_false (show ¬ v + 1 ≤ j by omega)]; simp
        · rw [Nat.testBit_lt_two_pow (Nat.lt_of_lt_of_le hW (Nat.pow_le_pow_right (by decide) (show 32 ≤ j by omega)))]; rfl
      · rw [hL, filter_next W.testBit hWv.2 (fun j h2 h3 => by
          have := hl2 j h3
          rw [hb, decide_eq_true h2, Bool.and_true] at this
          exact this) hWv.1]
        simp
theorem list_set (k W : Nat) (hW : W < 2 ^ 32) (hk : 40 ≤ k) : reg_Set_List.f k (W : Int) = some (((List.range 32).filter W.testBit).map (fun n : Nat => (n : Int))) := by
  unfold reg_Set_List.f
  obtain ⟨r', s', hf'⟩ : ∃ r' s', reg_Set_First.f (W : Int) = some (r', s') := by
    by_cases hT0 : W = 0
    · subst hT0; exact ⟨0, false, rfl⟩
    · obtain ⟨v', m', hv'⟩ := least_bit W hT0
      exact ⟨_, _, first_some W v' m' hv' hW⟩
  rw [hf']
  simp only [Option.bind_some]
  exact list_l W 32 k 0 W [] r' s' (by omega) (by omega) (by omega) hW (fun j => by simp) rfl hW hf'
theorem ref_in_l (l : List Int) (r : Int) (hl : l.length < 1000) (d : Nat) : ∀ (k i : Nat), l.length - i = d → i ≤ l.length → d < k →
    spinnakerref02_In.l0 k l r i = some (decide (r ∈ l.drop i)) := by
  induction d with
  | zero =>
    intro k i hd hi hk
    obtain ⟨k, rfl⟩ : ∃ m, k = m + 1 := ⟨k - 1, by omega⟩
    simp only [spinnakerref02_In.l0]
    rw [if_neg (by omega), List.drop_of_length_le (by omega)]; simp
  | succ d ih =>
    intro k i hd hi hk
    obtain ⟨k, rfl⟩ : ∃ m, k = m + 1 := ⟨k - 1, by omega⟩
    simp only [spinnakerref02_In.l0]
    rw [if_pos (by omega), if_pos (by omega)]
    have e : rd l (i : Int) = l[i] := by unfold rd; simp [show i < l.length by omega]
    rw [e, List.drop_eq_getElem_cons (show i < l.length by omega)]
    by_cases he : l[i] = r
    · rw [if_pos he]; simp [he]
    · rw [if_neg he, w64n (x := (i : Int) + 1) (i + 1) (by omega) (by omega), ih k (i + 1) (by omega) (by omega) (by omega)]
      congr 1; rw [decide_eq_decide, List.mem_cons]
      exact ⟨.inr, fun h => h.elim (fun e => absurd e.symm he) id⟩
theorem ref_in (k : Nat) (l : List Int) (r : Int) (hl : l.length < 1000) (hk : l.length < k) : spinnakerref02_In.f k l r = some (decide (r ∈ l)) := by
  unfold spinnakerref02_In.f
  have := ref_in_l l r hl l.length k 0 (by omega) (by omega) hk
  simpa using this
theorem mem_set (p : Nat → Bool) (i : Nat) (hi : i < 32) : ((i : Int) ∈ ((List.range 32).filter p).map (fun n : Nat => (n : Int))) ↔ p i = true := by
  simp only [List.mem_map, List.mem_filter, List.mem_range]
  constructor
  · rintro ⟨n, ⟨_, h2⟩, h3⟩
    rw [← show n = i from by omega]; exact h2
  · intro h; exact ⟨i, ⟨hi, h⟩, rfl⟩

theorem pop8 (b : Nat) (hb : b < 256) : bt (⟨#[0, 1, 1, 2, 1, 2, 2, 3, 1, 2, 2, 3, 2, 3, 3, 4, 1, 2, 2, 3, 2, 3, 3, 4, 2, 3, 3, 4, 3, 4, 4, 5, 1, 2, 2, 3, 2, 3, 3, 4, 2, 3, 3, 4, 3, 4, 4, 5, 2, 3, 3, 4, 3, 4, 4, 5, 3, 4, 4, 5, 4, 5, 5, 6, 1, 2, 2, 3, 2, 3, 3, 4, 2, 3, 3, 4, 3, 4, 4, 5, 2, 3, 3, 4, 3, 4, 4, 5, 3, 4, 4, 5, 4, 5, 5, 6, 2, 3, 3, 4, 3, 4, 4, 5, 3, 4, 4, 5, 4, 5, 5, 6, 3, 4, 4, 5, 4, 5, 5, 6, 4, 5, 5, 6, 5, 6, 6, 7, 1, 2, 2, 3, 2, 3, 3, 4, 2, 3, 3, 4, 3, 4, 4, 5, 2, 3, 3, 4, 3, 4, 4, 5, 3, 4, 4, 5, 4, 5, 5, 6, 2, 3, 3, 4, 3, 4, 4, 5, 3, 4, 4, 5, 4, 5, 5, 6, 3, 4, 4, 5, 4, 5, 5, 6, 4, 5, 5, 6, 5, 6, 6, 7, 2, 3, 3, 4, 3, 4, 4, 5, 3, 4, 4, 5, 4, 5, 5, 6, 3, 4, 4, 5, 4, 5, 5, 6, 4, 5, 5, 6, 5, 6, 6, 7, 3, 4, 4, 5, 4, 5, 5, 6, 4, 5, 5, 6, 5, 6, 6, 7, 4, 5, 5, 6, 5, 6, 6, 7, 5, 6, 6, 7, 6, 7, 7, 8]⟩ : ByteArray) (b : Int) = (((List.range 8).countP b.testBit : Nat) : Int) := by
  revert hb; revert b; decide +kernel

theorem count8 (S i : Nat) : (List.range 8).countP (S / 2 ^ i % 256).testBit = (List.range 8).countP (fun j => S.testBit (j + i)) := by
  apply List.countP_congr
  intro j hj
  rw [show (256 : Nat) = 2 ^ 8 from rfl, Nat.testBit_mod_two_pow, Nat.testBit_div_two_pow, decide_eq_true (List.mem_range.mp hj), Bool.true_and]
theorem range32 : List.range 32 = List.range 8 ++ (List.range 8).map (· + 8) ++ (List.range 8).map (· + 16) ++ (List.range 8).map (· + 24) := by decide
theorem count8_le (p : Nat → Bool) : (List.range 8).countP p ≤ 8 := Nat.le_trans List.countP_le_length (by simp)
theorem ones_f (S : Nat) (hS : S < 2 ^ 32) : bits_OnesCount32.f (S : Int) = some ((((List.range 32).filter S.testBit).length : Nat) : Int) := by
  have h32 : (2 : Nat) ^ 32 = 4294967296 := by decide
  have a255 : ∀ a : Nat, a < 2 ^ 32 → Go.bits .and .u32 (a : Int) 255 = ((a % 256 : Nat) : Int) := fun a ha => by
    have := and32 a 255 ha (by decide)
    rw [show ((255 : Nat) : Int) = 255 from rfl] at this
    rw [this, show (255 : Nat) = 2 ^ 8 - 1 from rfl, Nat.and_two_pow_sub_one_eq_mod]
  have e1 : (S : Int) / 16777216 = ((S / 16777216 % 256 : Nat) : Int) := by omega
  have e2 : (S : Int) / 65536 = ((S / 65536 : Nat) : Int) := by omega
  have e3 : (S : Int) / 256 = ((S / 256 : Nat) : Int) := by omega
  unfold bits_OnesCount32.f
  rw [e1, e2, e3, a255 _ (by omega), a255 _ (by omega), a255 _ (by omega)]
  rw [if_pos (by omega), if_pos (by omega), if_pos (by omega), if_pos (by omega), if_pos (by omega), if_pos (by omega), if_pos (by omega), if_pos (by omega)]
  rw [pop8 _ (by omega), pop8 _ (by omega), pop8 _ (by omega), pop8 _ (by omega)]
  have c1 := count8 S 24
  have c2 := count8 S 16
  have c3 := count8 S 8
  have c4 := count8 S 0
  rw [show (2 : Nat) ^ 24 = 16777216 from rfl] at c1
  rw [show (2 : Nat) ^ 16 = 65536 from rfl] at c2
  rw [show (2 : Nat) ^ 8 = 256 from rfl] at c3
  rw [show (2 : Nat) ^ 0 = 1 from rfl, Nat.div_one] at c4
  have l1 := count8_le (fun j => S.testBit (j + 24))
  have l2 := count8_le (fun j => S.testBit (j + 16))
  have l3 := count8_le (fun j => S.testBit (j + 8))
  have l4 := count8_le (fun j => S.testBit (j + 0))
  have h : ((List.range 32).filter S.testBit).length = (List.range 8).countP (fun j => S.testBit (j + 0)) + (List.range 8).countP (fun j => S.testBit (j + 8)) + (List.range 8).countP (fun j => S.testBit (j + 16)) + (List.range 8).countP (fun j => S.testBit (j + 24)) := by
    rw [← List.countP_eq_length_filter, range32, List.countP_append, List.countP_append, List.countP_append, List.countP_map, List.countP_map, List.countP_map]
    rfl
  rw [h, c1, c2, c3, c4]
  congr 1
  omega
theorem of_l (L : List Int) (hl : L.length < 1000) (d : Nat) : ∀ (k i S : Nat), L.length - i = d → i ≤ L.length → d < k → S < 2 ^ 32 →
    (∀ j, S.testBit j = decide (j < 32 ∧ (j : Int) ∈ L.take i)) →
    ∃ T : Nat, reg_Of.l0 k S L (L.length : Int) i = some (T : Int) ∧ T < 2 ^ 32 ∧ ∀ j, T.testBit j = decide (j < 32 ∧ (j : Int) ∈ L) := by
  induction d with
  | zero =>
    intro k i S hd hi hk hS hb
    obtain ⟨k, rfl⟩ : ∃ m, k = m + 1 := ⟨k - 1, by omega⟩
    simp only [reg_Of.l0]
    rw [if_neg (by omega)]
    rw [List.take_of_length_le (by omega)] at hb
    exact ⟨S, rfl, hS, hb⟩
  | succ d ih =>
    intro k i S hd hi hk hS hb
    obtain ⟨k, rfl⟩ : ∃ m, k = m + 1 := ⟨k - 1, by omega⟩
    simp only [reg_Of.l0]
    have e : rd L (i : Int) = L[i] := by unfold rd; simp [show i < L.length by omega]
    rw [if_pos (by omega), if_pos (by omega), if_pos (by omega), e, rbit_f]
    simp only [Option.bind_some]
    rw [w64n (x := (i : Int) + 1) (i + 1) (by omega) (by omega)]
    have ht : L.take (i + 1) = L.take i ++ [L[i]] := by rw [List.take_succ_eq_append_getElem (by omega)]
    by_cases h : 0 ≤ L[i] ∧ L[i] < 32
    · rw [if_pos h, or32 S _ hS (two_lt (by omega))]
      refine ih k (i + 1) _ (by omega) (by omega) (by omega) (Nat.or_lt_two_pow hS (two_lt (by omega))) fun j => ?_
      rw [Nat.testBit_or, Nat.testBit_two_pow, hb, ht, ← Bool.decide_or, decide_eq_decide, List.mem_append, List.mem_singleton]
      constructor
      · rintro (⟨h1, h2⟩ | h1)
        · exact ⟨h1, .inl h2⟩
        · exact ⟨by omega, .inr (by omega)⟩
      · rintro ⟨h1, h2 | h2⟩
        · exact .inl ⟨h1, h2⟩
        · exact .inr (by omega)
    · have e0 := or32 S 0 hS (by decide)
      rw [show ((0 : Nat) : Int) = 0 from rfl] at e0
      rw [if_neg h, e0, Nat.or_zero]
      refine ih k (i + 1) _ (by omega) (by omega) (by omega) hS fun j => ?_
      rw [hb, ht, decide_eq_decide, List.mem_append, List.mem_singleton]
      constructor
      · rintro ⟨h1, h2⟩; exact ⟨h1, .inl h2⟩
      · rintro ⟨h1, h2 | h2⟩
        · exact ⟨h1, h2⟩
        · exact absurd ⟨by omega, by omega⟩ h
theorem of_set (k : Nat) (L : List Int) (hl : L.length < 1000) (hk : L.length < k) : ∃ T : Nat, reg_Of.f k L = some (T : Int) ∧ T < 2 ^ 32 ∧ ∀ j, T.testBit j = decide (j < 32 ∧ (j : Int) ∈ L) := by
  unfold reg_Of.f
  exact of_l L hl L.length k 0 0 (by omega) (by omega) hk (by decide) fun j => by simp
theorem ref_list_l (L : List Int) (hl : L.length < 1000) (p : Nat → Bool) (hp : ∀ j, j < 32 → p j = decide ((j : Int) ∈ L)) (d : Nat) : ∀ (k i : Nat) (X : List Int), i + d = 32 → 1000 + d < k →
    X = ((List.range i).filter p).map (fun n : Nat => (n : Int)) → spinnakerref02_List.l0 k L X i = some (((List.range 32).filter p).map (fun n : Nat => (n : Int))) := by
  induction d with
  | zero =>
    intro k i X hi hk hX
    obtain ⟨k, rfl⟩ : ∃ m, k = m + 1 := ⟨k - 1, by omega⟩
    simp only [spinnakerref02_List.l0]
    rw [if_neg (by omega), hX, show i = 32 from by omega]
  | succ d ih =>
    intro k i X hi hk hX
    obtain ⟨k, rfl⟩ : ∃ m, k = m + 1 := ⟨k - 1, by omega⟩
    have hlen : X.length ≤ 32 := by
      rw [hX, List.length_map]
      exact Nat.le_trans (List.length_filter_le _ _) (by simp; omega)
    simp only [spinnakerref02_List.l0]
    rw [if_pos (by omega), ref_in k L i hl (by omega), w64n (x := (i : Int) + 1) (i + 1) (by omega) (by omega)]
    simp only [Option.bind_some]
    rw [← hp i (by omega)]
    cases hb : p i
    · rw [if_neg (by decide)]
      refine ih k (i + 1) X (by omega) (by omega) ?_
      rw [hX, List.range_succ, List.filter_append]; simp [hb]
    · rw [if_pos rfl, if_pos (by omega)]
      refine ih k (i + 1) _ (by omega) (by omega) ?_
      rw [hX, List.range_succ, List.filter_append]; simp [hb]
theorem ints_l (X : List Int) (hl : X.length < 1000) (d : Nat) : ∀ (k i : Nat), X.length - i = d → i ≤ X.length → d < k → spinnakerref01_Ints.l0 k X X i = some true := by
  induction d with
  | zero =>
    intro k i hd hi hk
    obtain ⟨k, rfl⟩ : ∃ m, k = m + 1 := ⟨k - 1, by omega⟩
    simp only [spinnakerref01_Ints.l0]
    rw [if_neg (by omega)]
  | succ d ih =>
    intro k i hd hi hk
    obtain ⟨k, rfl⟩ : ∃ m, k = m + 1 := ⟨k - 1, by omega⟩
    simp only [spinnakerref01_Ints.l0]
    rw [if_pos (by omega), if_pos (by omega), if_pos (by omega), if_pos trivial, w64n (x := (i : Int) + 1) (i + 1) (by omega) (by omega)]
    exact ih k (i + 1) (by omega) (by omega) (by omega)
theorem ints_same (k : Nat) (X : List Int) (hl : X.length < 1000) (hk : X.length < k) : spinnakerref01_Ints.f k X X = some true := by
  unfold spinnakerref01_Ints.f
  rw [if_pos rfl]
  exact ints_l X hl X.length k 0 (by omega) (by omega) hk
theorem RegSets : spinnakerlaw02_RegSets.Pure := by
  intro L r h1 h2 h3 h4
  clear h1 h2 h3 h4
  refine ⟨2000, ?_⟩
  unfold spinnakerlaw02_RegSets.f
  by_cases hl : (L.length : Int) > 100
  · rw [if_pos hl, awake02 _ (by decide)]; rfl
  rw [if_neg hl]
  obtain ⟨T, hT, hT32, hTb⟩ := of_set 2000 L (by omega) (by omega)
  have hp : ∀ j, j < 32 → T.testBit j = decide ((j : Int) ∈ L) := fun j hj => by rw [hTb, decide_eq_decide]; exact ⟨fun h => h.2, fun h => ⟨hj, h⟩⟩
  have hr : spinnakerref02_List.f 2000 L = some (((List.range 32).filter T.testBit).map (fun n : Nat => (n : Int))) := by
    unfold spinnakerref02_List.f
    exact ref_list_l L (by omega) T.testBit hp 32 2000 0 [] rfl (by omega) rfl
  have hlen : (((List.range 32).filter T.testBit).map (fun n : Nat => (n : Int))).length ≤ 32 := by
    rw [List.length_map]
    exact Nat.le_trans (List.length_filter_le _ _) (by simp)
  have hin : decide (r ∈ ((List.range 32).filter T.testBit).map (fun n : Nat => (n : Int))) = (decide (0 ≤ r ∧ r < 32) && T.testBit r.toNat) := by
    rw [Bool.eq_iff_iff, decide_eq_true_iff, Bool.and_eq_true, decide_eq_true_iff]
    by_cases hr : 0 ≤ r ∧ r < 32
    · have := mem_set T.testBit r.toNat (by omega)
      rw [show ((r.toNat : Nat) : Int) = r from by omega] at this
      rw [this]
      exact ⟨fun h => ⟨hr, h⟩, fun h => h.2⟩
    · refine ⟨fun h => ?_, fun h => absurd h.1 hr⟩
      exfalso
      simp only [List.mem_map, List.mem_filter, List.mem_range] at h
      obtain ⟨n, ⟨h1, _⟩, h2⟩ := h
      exact hr (by omega)
  obtain ⟨U, hU, hU32, hUb⟩ := of_set 1999 (((List.range 32).filter T.testBit).map (fun n : Nat => (n : Int))) (by omega) (by omega)
  have hUT : U = T := by
    apply Nat.eq_of_testBit_eq
    intro j
    rw [hUb]
    by_cases hj : j < 32
    · rw [Bool.eq_iff_iff, decide_eq_true_iff, mem_set _ j hj]
      exact ⟨fun h => h.2, fun h => ⟨hj, h⟩⟩
    · rw [decide_eq_false (fun h => hj h.1), Nat.testBit_lt_two_pow (Nat.lt_of_lt_of_le hT32 (Nat.pow_le_pow_right (by decide) (by omega)))]
  subst hUT
  have hlm : ((((List.range 32).filter U.testBit).map (fun n : Nat => (n : Int))).length : Int) = ((((List.range 32).filter U.testBit).length : Nat) : Int) := by rw [List.length_map]
  rw [hT, hr]
  simp only [Option.bind_some]
  have hfirst : ∃ v s, reg_Set_First.f (U : Int) = some (v, s) ∧ ((s = true ∧ 0 < ((((List.range 32).filter U.testBit).map (fun n : Nat => (n : Int))).length : Int) ∧ v = rd (((List.range 32).filter U.testBit).map (fun n : Nat => (n : Int))) 0) ∨ (s = false ∧ v = 0 ∧ ((List.range 32).filter U.testBit) = [])) := by
    by_cases h0 : U = 0
    · subst h0
      exact ⟨0, false, rfl, .inr ⟨rfl, rfl, by decide⟩⟩
    · obtain ⟨v, m, hv⟩ := least_bit U h0
      have hv32 := least_lt hv hT32
      obtain ⟨hl1, hl2⟩ := least_is hv
      refine ⟨_, _, first_some U v m hv hT32, .inl ⟨rfl, ?_⟩⟩
      have e : ∃ t, (List.range 32).filter U.testBit = v :: t := by
        have e1 := filter_next U.testBit (Nat.zero_le v) (fun j _ h => hl2 j h) hl1
        have e2 : List.range 32 = List.range (v + 1) ++ (List.range (32 - (v + 1))).map (v + 1 + ·) := by
          rw [← List.range_add]; congr 1; omega
        rw [e2, List.filter_append, e1]
        exact ⟨_, rfl⟩
      obtain ⟨t, e⟩ := e
      rw [e]
      refine ⟨by simp, ?_⟩
      rfl
  obtain ⟨v, s, hf, hc⟩ := hfirst
  rw [hf]
  simp only [Option.bind_some]
  rw [list_set 2000 U hT32 (by decide)]
  simp only [Option.bind_some]
  rw [ints_same 2000 _ (by omega) (by omega)]
  simp only [Option.bind_some]
  rw [if_pos trivial]
  unfold reg_Set_Len.f
  rw [ones_f U hT32]
  simp only [Option.bind_some]
  rw [if_pos hlm.symm, has_set U hT32]
  simp only [Option.bind_some]
  rw [ref_in 2000 _ r (by omega) (by omega)]
  simp only [Option.bind_some]
  rw [hin, if_neg (by simp)]
  rcases hc with ⟨rfl, hc1, rfl⟩ | ⟨rfl, rfl, hc⟩
  · rw [decide_eq_true hc1]
    simp only [spinnakerlaw02_RegSets.j0]
    rw [if_neg (by decide), if_pos trivial, if_pos hc1, if_pos trivial, hU]
    simp only [Option.bind_some]
    rw [if_pos trivial, awake02 _ (by decide)]; rfl
  · rw [hc] at hU ⊢
    simp only [spinnakerlaw02_RegSets.j0]
    rw [if_neg (by decide), if_neg (by decide), if_pos trivial, hU]
    simp only [Option.bind_some]
    rw [if_pos trivial, awake02 _ (by decide)]; rfl

end Go.Proofs.YtbmjbidekmkboaaDoor.Pure
