/- Every list of bytes is decoded as its words; the listed table isa.names is tied to the program's text; no other condition. -/
import Derived.Test.YtffehgfjjagibaaDoorGDecListsx12
namespace Go.Proofs.YtffehgfjjagibaaDoor.Pure
open Go.RowKit Go.Proofs.YtffehgfjjagibaaDoor.GDecLists Go.Proofs.YtffehgfjjagibaaDoorW.PrintWords Go.Proofs.YtffehgfjjagibaaDoorW.PrintLast Go.Proofs.YtffehgfjjagibaaDoorW.PrintMore
set_option linter.unusedVariables false
set_option linter.unusedSimpArgs false
attribute [local irreducible] shl shr

/-- Numbers that need no wrapping, and two's complement by its lowest bits. -/
theorem w64 {x : Int} (h0 : -9223372036854775808 ≤ x) (h1 : x < 9223372036854775808) : wrap64 x = x := by
  unfold wrap64; omega
theorem w64n {x : Int} (n : Nat) (h : x = n) (hn : n < 9223372036854775808) : wrap64 x = (n : Int) := by
  rw [w64 (by omega) (by omega), h]
theorem wu64 (x : Int) : IntKind.u64.wrap x = x % 18446744073709551616 := by
  simp [IntKind.wrap, IntKind.bits, IntKind.signed]
theorem wf_u8 {x : Int} (h : (Lit.int .u8 x).wf = true) : 0 ≤ x ∧ x < 256 := by
  simp [Lit.wf, IntKind.min, IntKind.max, IntKind.bits, IntKind.signed] at h; omega
theorem p64 : (2 : Int) ^ 64 = 18446744073709551616 := by decide
theorem p63 : (2 : Int) ^ 63 = 9223372036854775808 := by decide
theorem p_pos (n : Nat) : (0 : Int) < 2 ^ n := Int.pow_pos (by decide)
theorem p_add (a b : Nat) : (2 : Int) ^ (a + b) = 2 ^ a * 2 ^ b := Int.pow_add 2 a b
theorem p_le {a b : Nat} (h : a ≤ b) : (2 : Int) ^ a ≤ 2 ^ b := by
  obtain ⟨c, rfl⟩ := Nat.exists_eq_add_of_le h
  rw [p_add]
  have h1 : (2 : Int) ^ a * 1 ≤ 2 ^ a * 2 ^ c := Int.mul_le_mul_of_nonneg_left (by have := p_pos c; omega) (Int.le_of_lt (p_pos a))
  omega
theorem b64 {i : Nat} (h : i ≤ 64) : (2 : Int) ^ i ≤ 18446744073709551616 := by have := p_le h; rw [p64] at this; exact this
theorem p_succ (n : Nat) : (2 : Int) ^ (n + 1) = 2 * 2 ^ n := by rw [p_add]; omega

/-- The number with a sign that the lowest n bits are. -/
def sgn (v : Int) (n : Nat) : Int := if v % 2 ^ n < 2 ^ (n - 1) then v % 2 ^ n else v % 2 ^ n - 2 ^ n

theorem mod_mod {v : Int} {a b : Nat} (h : a ≤ b) : v % 2 ^ b % 2 ^ a = v % 2 ^ a := by
  obtain ⟨c, rfl⟩ := Nat.exists_eq_add_of_le h
  exact Int.emod_emod_of_dvd v ⟨2 ^ c, p_add a c⟩
theorem sgn_range (v : Int) (n : Nat) (h : 1 ≤ n) : -2 ^ (n - 1) ≤ sgn v n ∧ sgn v n < 2 ^ (n - 1) := by
  have h0 := Int.emod_nonneg v (Int.ne_of_gt (p_pos n))
  have h1 := Int.emod_lt_of_pos v (p_pos n)
  have h2 : (2 : Int) ^ n = 2 * 2 ^ (n - 1) := by rw [← p_succ]; congr 1; omega
  unfold sgn
  split <;> omega
/-- Which number has the same lowest bits and fits is the one. -/
theorem sgn_self {v : Int} {n : Nat} (h : 1 ≤ n) (h0 : -2 ^ (n - 1) ≤ v) (h1 : v < 2 ^ (n - 1)) : sgn v n = v := by
  have h2 : (2 : Int) ^ n = 2 * 2 ^ (n - 1) := by rw [← p_succ]; congr 1; omega
  have hp := p_pos (n - 1)
  unfold sgn
  by_cases hv : 0 ≤ v
  · have e : v % 2 ^ n = v := Int.emod_eq_of_lt hv (by omega)
    rw [e, if_pos h1]
  · have e : v % 2 ^ n = v + 2 ^ n := by
      rw [← Int.add_emod_right]; exact Int.emod_eq_of_lt (by omega) (by omega)
    rw [e, if_neg (by omega)]; omega
theorem shl_shr (v : Int) (n : Nat) (h1 : 1 ≤ n) (h64 : n ≤ 64) :
    shr .i64 (wrap64 (shl .u64 (v % 18446744073709551616) (64 - (n : Int)))) (64 - (n : Int)) = sgn v n := by
  have hy : (64 - (n : Int)).toNat = 64 - n := by omega
  have hm : min (64 - n) 64 = 64 - n := by omega
  unfold shl shr
  rw [hy, show IntKind.u64.bits = 64 from rfl, show IntKind.i64.bits = 64 from rfl, hm, wu64]
  have hP := p_pos (64 - n)
  have hR := p_pos (n - 1)
  have hQ : (2 : Int) ^ n = 2 * 2 ^ (n - 1) := by rw [← p_succ]; congr 1; omega
  have hPQ : (2 : Int) ^ n * 2 ^ (64 - n) = 18446744073709551616 := by
    rw [← p_add, show n + (64 - n) = 64 from by omega]; exact p64
  have hRP : (2 : Int) ^ (n - 1) * 2 ^ (64 - n) = 9223372036854775808 := by
    rw [← p_add, show n - 1 + (64 - n) = 63 from by omega]; exact p63
  have e1 : v % 18446744073709551616 * 2 ^ (64 - n) % 18446744073709551616 = (v % 2 ^ n) * 2 ^ (64 - n) := by
    have e2 : (v % 18446744073709551616) % 2 ^ n = v % 2 ^ n := by rw [← p64]; exact mod_mod h64
    rw [← e2, Int.mul_comm (v % 18446744073709551616 % 2 ^ n), ← Int.mul_emod_mul_of_pos _ _ hP, Int.mul_comm (2 ^ (64 - n)) (2 ^ n), hPQ, Int.mul_comm (2 ^ (64 - n))]
  rw [e1]
  have h0 := Int.emod_nonneg v (Int.ne_of_gt (p_pos n))
  have h3 := Int.emod_lt_of_pos v (p_pos n)
  unfold sgn
  generalize v % 2 ^ n = m at h0 h3 ⊢
  generalize (2 : Int) ^ (64 - n) = P at hP hPQ hRP ⊢
  generalize (2 : Int) ^ (n - 1) = R at hR hQ hRP ⊢
  rw [hQ] at h3 hPQ ⊢
  split
  · rename_i hlt
    have a1 : 0 ≤ m * P := Int.mul_nonneg h0 (Int.le_of_lt hP)
    have a2 : m * P < R * P := Int.mul_lt_mul_of_pos_right hlt hP
    rw [w64 (by omega) (by omega), Int.mul_ediv_cancel _ (Int.ne_of_gt hP)]
  · rename_i hge
    have a1 : R * P ≤ m * P := Int.mul_le_mul_of_nonneg_right (by omega) (Int.le_of_lt hP)
    have a2 : m * P < 2 * R * P := Int.mul_lt_mul_of_pos_right h3 hP
    have e3 : wrap64 (m * P) = (m - 2 * R) * P := by
      rw [Int.sub_mul]; unfold wrap64; omega
    rw [e3, Int.mul_ediv_cancel _ (Int.ne_of_gt hP)]

theorem wrap32n (n : Int) (h0 : 0 ≤ n) (h1 : n < 2 ^ 32) : IntKind.u32.wrap n = n := by
  rw [Go.IntKind.wrap_u32]; rw [show (2 : Int) ^ 32 = 4294967296 from by decide] at h1; omega
theorem and32 (a b : Nat) (ha : a < 2 ^ 32) (hb : b < 2 ^ 32) : Go.bits .and .u32 (a : Int) (b : Int) = ((a &&& b : Nat) : Int) :=
  (Go.bits_nat .u32 32 (by decide) wrap32n a b ha hb).1
theorem or32 (a b : Nat) (ha : a < 2 ^ 32) (hb : b < 2 ^ 32) : Go.bits .or .u32 (a : Int) (b : Int) = ((a ||| b : Nat) : Int) :=
  (Go.bits_nat .u32 32 (by decide) wrap32n a b ha hb).2
theorem andnot32 (a b : Nat) (ha : a < 2 ^ 32) (hb : b < 2 ^ 32) : ∃ c : Nat, Go.bits .andNot .u32 (a : Int) (b : Int) = (c : Int) ∧ c < 2 ^ 32 ∧ ∀ i, c.testBit i = (a.testBit i && !b.testBit i) := by
  have e : Go.bits .andNot .u32 (a : Int) (b : Int) = IntKind.u32.wrap ((BitVec.ofInt 32 (a : Int) &&& ~~~ BitVec.ofInt 32 (b : Int)).toNat : Int) := rfl
  refine ⟨(BitVec.ofInt 32 (a : Int) &&& ~~~ BitVec.ofInt 32 (b : Int)).toNat, ?_, BitVec.isLt _, fun i => ?_⟩
  · rw [e]
    refine wrap32n _ (Int.natCast_nonneg _) ?_
    have := (BitVec.ofInt 32 (a : Int) &&& ~~~ BitVec.ofInt 32 (b : Int)).isLt
    exact_mod_cast this
  · rw [BitVec.testBit_toNat, BitVec.getLsbD_and, BitVec.getLsbD_not]
    have h1 : (BitVec.ofInt 32 (a : Int)).getLsbD i = a.testBit i := by
      rw [BitVec.ofInt_natCast, ← BitVec.testBit_toNat, BitVec.toNat_ofNat, Nat.mod_eq_of_lt ha]
    have h2 : (BitVec.ofInt 32 (b : Int)).getLsbD i = b.testBit i := by
      rw [BitVec.ofInt_natCast, ← BitVec.testBit_toNat, BitVec.toNat_ofNat, Nat.mod_eq_of_lt hb]
    rw [h1, h2]
    by_cases hi : i < 32
    · simp [hi]
    · have : a.testBit i = false := Nat.testBit_lt_two_pow (Nat.lt_of_lt_of_le ha (Nat.pow_le_pow_right (by decide) (by omega)))
      simp [hi, this]
theorem shl32 (a n : Nat) (hn : n ≤ 32) : shl .u32 (a : Int) (n : Int) = ((a * 2 ^ n % 2 ^ 32 : Nat) : Int) := by
  unfold shl
  rw [show IntKind.u32.bits = 32 from rfl, show ((n : Int)).toNat = n from by omega, Nat.min_eq_left hn, Go.IntKind.wrap_u32]
  simp
theorem shr32 (a n : Nat) (hn : n ≤ 32) : shr .u32 (a : Int) (n : Int) = ((a / 2 ^ n : Nat) : Int) := by
  unfold shr
  rw [show IntKind.u32.bits = 32 from rfl, show ((n : Int)).toNat = n from by omega, Nat.min_eq_left hn]
  simp

theorem toList_d (s : ByteArray) : s.toList = s.data.toList := ByteArray.toList_eq s
theorem name_in {a : Int} (h : 1 ≤ a ∧ a ≤ 87) : isa_Name.f a = some (rdOf ByteArray.empty isaNames a) := by
  unfold isa_Name.f; rw [if_pos h]
theorem name_out {a : Int} (h : ¬ (1 ≤ a ∧ a ≤ 87)) : isa_Name.f a = some (⟨#[]⟩ : ByteArray) := by
  unfold isa_Name.f; rw [if_neg h]
theorem name_ne {a : Int} (h : 1 ≤ a ∧ a ≤ 87) : ¬ (rdOf ByteArray.empty isaNames a).toList = ([] : List UInt8) := by
  rw [toList_d]
  obtain ⟨n, rfl⟩ := Int.eq_ofNat_of_zero_le (show 0 ≤ a by omega)
  have hn : n < 88 := by omega
  have h1 := h.1
  clear h
  revert h1; revert hn; revert n
  decide +kernel
theorem nil_d : (⟨#[]⟩ : ByteArray).toList = ([] : List UInt8) := by rw [toList_d]
/-- An operation's form, plainly. -/
def formOf (a : Int) : Int :=
  if ¬ (1 ≤ a ∧ a ≤ 87) then -1 else if a ≤ 2 then 1 else if a = 3 then 2 else if 5 ≤ a ∧ a ≤ 10 then 4 else if 18 ≤ a ∧ a ≤ 21 then 5
  else if 35 ≤ a ∧ a ≤ 62 then 6 else if 28 ≤ a ∧ a ≤ 30 then 7 else if 32 ≤ a ∧ a ≤ 34 then 8 else if a = 63 then 9 else if a = 64 ∨ a = 65 then 0
  else if a = 66 ∨ a = 77 then 10 else if a > 66 then 11 else 3
theorem form_f {a : Int} (k : Nat) (hk : 10 ≤ k) : isa_Form.f k a = some (formOf a) := by
  by_cases h : 1 ≤ a ∧ a ≤ 87
  · refine at_rounds (fun k => isa_Form.mono a k) hk ?_
    unfold isa_Form.f
    rw [name_in h]
    simp only [Option.bind_some]
    rw [if_neg (name_ne h)]
    obtain ⟨n, rfl⟩ := Int.eq_ofNat_of_zero_le (show 0 ≤ a by omega)
    have hn : n < 88 := by omega
    have h1 := h.1
    clear h hk
    revert h1; revert hn; revert n
    decide +kernel
  · unfold isa_Form.f formOf
    rw [name_out h, if_pos h]
    simp only [Option.bind_some]
    rw [if_pos nil_d]

theorem in_f (a x y : Int) : isa_in.f a x y = some (decide (x ≤ a ∧ a ≤ y)) := by
  unfold isa_in.f
  by_cases h : a ≥ x
  · rw [if_pos h]; congr 1; rw [decide_eq_decide]; omega
  · rw [if_neg h]; congr 1; symm; rw [decide_eq_false_iff_not]; omega

theorem fits_f (v n : Int) (h0 : -9223372036854775808 ≤ v) (h1 : v < 9223372036854775808) (h : -9223372036854775808 ≤ n) (h' : n < 9223372036854775808) :
    word_Fits.f v n = some (decide (1 ≤ n ∧ n ≤ 64 ∧ -2 ^ (n.toNat - 1) ≤ v ∧ v < 2 ^ (n.toNat - 1))) := by
  unfold word_Fits.f
  by_cases hn1 : n < 1
  · rw [if_pos hn1]; congr 1; symm; simp; omega
  · rw [if_neg hn1]
    by_cases hn2 : n > 64
    · rw [if_pos hn2]; congr 1; symm; simp; omega
    · rw [if_neg hn2, w64 (by omega) (by omega), if_pos (by omega), wu64]
      have e := shl_shr v n.toNat (by omega) (by omega)
      rw [show ((n.toNat : Nat) : Int) = n from by omega] at e
      rw [e]
      congr 1
      rw [Bool.eq_iff_iff]
      simp only [beq_iff_eq, decide_eq_true_eq]
      constructor
      · intro hh
        have := sgn_range v n.toNat (by omega)
        rw [hh] at this
        exact ⟨by omega, by omega, this⟩
      · intro hh
        exact sgn_self (by omega) hh.2.2.1 hh.2.2.2

theorem form_cases (a : Int) : formOf a = -1 ∨ formOf a = 0 ∨ formOf a = 1 ∨ formOf a = 2 ∨ formOf a = 3 ∨ formOf a = 4 ∨ formOf a = 5 ∨ formOf a = 6 ∨ formOf a = 7 ∨ formOf a = 8 ∨ formOf a = 9 ∨ formOf a = 10 ∨ formOf a = 11 := by
  by_cases h : 1 ≤ a ∧ a ≤ 87
  · obtain ⟨n, rfl⟩ := Int.eq_ofNat_of_zero_le (show 0 ≤ a by omega)
    have hn : n < 88 := by omega
    have h1 := h.1
    clear h
    revert h1; revert hn; revert n
    decide +kernel
  · left; unfold formOf; rw [if_pos h]
theorem form_neg (a : Int) : formOf a = -1 ↔ ¬ (1 ≤ a ∧ a ≤ 87) := by
  constructor
  · intro h hc
    revert h
    obtain ⟨n, rfl⟩ := Int.eq_ofNat_of_zero_le (show 0 ≤ a by omega)
    have hn : n < 88 := by omega
    have h1 := hc.1
    clear hc
    revert h1; revert hn; revert n
    decide +kernel
  · intro h; unfold formOf; rw [if_pos h]
/-- Which fields a form has, which immediates it may have. -/
def hasRd (f : Int) : Bool := f == 1 || f == 2 || f == 3 || f == 6 || f == 7 || f == 8 || f == 10 || f == 11
def hasA (f : Int) : Bool := f == 3 || f == 4 || f == 5 || f == 6 || f == 7 || f == 8 || f == 10 || f == 11
def hasB (f : Int) : Bool := f == 4 || f == 5 || f == 6 || f == 11
def regOk (r : Int) (has : Bool) : Bool := decide (0 ≤ r ∧ r < 32) && (has || r == 0)
def immOk (f n : Int) : Bool :=
  if f = 1 then decide (-524288 ≤ n ∧ n ≤ 524287) else if f = 2 then decide (-1048576 ≤ n ∧ n ≤ 1048575) && (Int.tmod n 2 == 0)
  else if f = 4 then decide (-4096 ≤ n ∧ n ≤ 4095) && (Int.tmod n 2 == 0) else if f = 3 ∨ f = 5 then decide (-2048 ≤ n ∧ n ≤ 2047)
  else if f = 7 then decide (0 ≤ n ∧ n ≤ 63) else if f = 8 then decide (0 ≤ n ∧ n ≤ 31) else if f = 9 then decide (0 ≤ n ∧ n ≤ 255) else n == 0
def mayF (f rd a b n : Int) (aq rl : Bool) : Bool :=
  decide (0 ≤ f) && regOk rd (hasRd f) && regOk a (hasA f) && regOk b (hasB f) && immOk f n && (f == 10 || f == 11 || (!aq && !rl))
theorem reg_f (r : Int) (has : Bool) : isa_register.f r has = some (regOk r has) := by
  unfold isa_register.f regOk
  by_cases h0 : r ≥ 0
  · rw [if_pos h0]
    by_cases h1 : r < 32
    · rw [if_pos h1, decide_eq_true (show 0 ≤ r ∧ r < 32 from ⟨h0, h1⟩)]
      cases has <;> simp
    · rw [if_neg h1, decide_eq_false (show ¬ (0 ≤ r ∧ r < 32) by omega)]; rfl
  · rw [if_neg h0, decide_eq_false (show ¬ (0 ≤ r ∧ r < 32) by omega)]; rfl
theorem fits_n (v : Int) (hv : -9223372036854775808 ≤ v ∧ v < 9223372036854775808) :
    word_Fits.f v 20 = some (decide (-524288 ≤ v ∧ v ≤ 524287)) ∧ word_Fits.f v 21 = some (decide (-1048576 ≤ v ∧ v ≤ 1048575)) ∧
    word_Fits.f v 13 = some (decide (-4096 ≤ v ∧ v ≤ 4095)) ∧ word_Fits.f v 12 = some (decide (-2048 ≤ v ∧ v ≤ 2047)) := by
  refine ⟨?_, ?_, ?_, ?_⟩
  · rw [fits_f v 20 hv.1 hv.2 (by decide) (by decide), show (2 : Int) ^ ((20 : Int).toNat - 1) = 524288 from by decide]
    congr 1; rw [decide_eq_decide]; omega
  · rw [fits_f v 21 hv.1 hv.2 (by decide) (by decide), show (2 : Int) ^ ((21 : Int).toNat - 1) = 1048576 from by decide]
    congr 1; rw [decide_eq_decide]; omega
  · rw [fits_f v 13 hv.1 hv.2 (by decide) (by decide), show (2 : Int) ^ ((13 : Int).toNat - 1) = 4096 from by decide]
    congr 1; rw [decide_eq_decide]; omega
  · rw [fits_f v 12 hv.1 hv.2 (by decide) (by decide), show (2 : Int) ^ ((12 : Int).toNat - 1) = 2048 from by decide]
    congr 1; rw [decide_eq_decide]; omega
theorem if_true_some {b c : Bool} : (if b = true then some c else some false) = some (b && c) := by cases b <;> rfl
theorem imm_f (k : Nat) (f n : Int) (hk : 2 ≤ k) (hn : -9223372036854775808 ≤ n ∧ n < 9223372036854775808) (hf : f = 0 ∨ f = 1 ∨ f = 2 ∨ f = 3 ∨ f = 4 ∨ f = 5 ∨ f = 6 ∨ f = 7 ∨ f = 8 ∨ f = 9 ∨ f = 10 ∨ f = 11) :
    isa_immediate.f k f n = some (immOk f n) := by
  obtain ⟨k, rfl⟩ : ∃ m, k = m + 1 := ⟨k - 1, by omega⟩
  obtain ⟨h20, h21, h13, h12⟩ := fits_n n hn
  unfold isa_immediate.f
  simp only [isa_immediate.j0]
  rw [h20, h21, h13, h12, in_f, in_f, in_f]
  rcases hf with rfl | rfl | rfl | rfl | rfl | rfl | rfl | rfl | rfl | rfl | rfl | rfl <;> simp [immOk, if_true_some]
theorem fields_f (k : Nat) (f : Int) (hk : 5 ≤ k) (hf : f = 0 ∨ f = 1 ∨ f = 2 ∨ f = 3 ∨ f = 4 ∨ f = 5 ∨ f = 6 ∨ f = 7 ∨ f = 8 ∨ f = 9 ∨ f = 10 ∨ f = 11) :
    isa_fields.f k f = some (hasRd f, hasA f, hasB f) := by
  refine at_rounds (fun k => isa_fields.mono f k) hk ?_
  rcases hf with rfl | rfl | rfl | rfl | rfl | rfl | rfl | rfl | rfl | rfl | rfl | rfl <;> decide +kernel
theorem may_f3 (k : Nat) (op rd a b n : Int) (aq rl : Bool) (hk : 20 ≤ k) (hn : -9223372036854775808 ≤ n ∧ n < 9223372036854775808) :
    isa_May.f k op rd a b n aq rl = some (mayF (formOf op) rd a b n aq rl) := by
  unfold isa_May.f
  rw [form_f k (by omega)]
  simp only [Option.bind_some]
  by_cases hf : formOf op = -1
  · rw [hf, if_pos (by decide)]; simp [mayF]
  · have hf' : formOf op = 0 ∨ formOf op = 1 ∨ formOf op = 2 ∨ formOf op = 3 ∨ formOf op = 4 ∨ formOf op = 5 ∨ formOf op = 6 ∨ formOf op = 7 ∨ formOf op = 8 ∨ formOf op = 9 ∨ formOf op = 10 ∨ formOf op = 11 := by
      rcases form_cases op with h | h
      · exact absurd h hf
      · exact h
    have h0 : ¬ formOf op < 0 := by omega
    rw [if_neg h0, fields_f k _ (by omega) hf']
    simp only [Option.bind_some]
    have hj : ∀ ord : Bool, isa_May.j0 k (formOf op) (hasRd (formOf op)) (hasA (formOf op)) (hasB (formOf op)) ord op rd a b n aq rl =
        some (regOk rd (hasRd (formOf op)) && regOk a (hasA (formOf op)) && regOk b (hasB (formOf op)) && immOk (formOf op) n && (ord || (!aq && !rl))) := by
      intro ord
      obtain ⟨k, rfl⟩ : ∃ m, k = m + 1 := ⟨k - 1, by omega⟩
      simp only [isa_May.j0]
      rw [reg_f, reg_f, reg_f, imm_f k _ n (by omega) hn hf']
      simp only [Option.bind_some]
      cases regOk rd (hasRd (formOf op)) <;> cases regOk a (hasA (formOf op)) <;> cases regOk b (hasB (formOf op)) <;> cases immOk (formOf op) n <;> cases ord <;> cases aq <;> simp
    rw [hj, hj]
    unfold mayF
    rw [decide_eq_true (show 0 ≤ formOf op by omega)]
    by_cases h10 : formOf op = 10
    · rw [if_pos h10, h10]; simp
    · rw [if_neg h10, show (formOf op == 10) = false from by simpa using h10]; simp

theorem may_f (a n : Int) (h : -9223372036854775808 ≤ n) (h' : n < 9223372036854775808) : word_may.f a n = some (decide (0 ≤ a ∧ 1 ≤ n ∧ n ≤ 32 ∧ a ≤ 32 - n)) := by
  unfold word_may.f
  by_cases h0 : a ≥ 0
  · rw [if_pos h0]
    by_cases h1 : n ≥ 1
    · rw [if_pos h1]
      by_cases h2 : n ≤ 32
      · rw [if_pos h2, w64 (by omega) (by omega)]
        congr 1; simp only [decide_eq_decide]; omega
      · rw [if_neg h2]; congr 1; symm; simp; omega
    · rw [if_neg h1]; congr 1; symm; simp; omega
  · rw [if_neg h0]; congr 1; symm; simp; omega

theorem mask_f (n : Nat) (h1 : 1 ≤ n) (h : n ≤ 32) : word_mask.f (n : Int) = some ((2 ^ n - 1 : Nat) : Int) := by
  unfold word_mask.f
  rw [if_pos (by omega)]
  congr 1
  unfold shl
  rw [show IntKind.u64.bits = 64 from rfl, show ((n : Int)).toNat = n from by omega, Nat.min_eq_left (by omega), wu64, wu64, Int.one_mul]
  have hp := p_pos n
  have hb : (2 : Int) ^ n ≤ 4294967296 := by have := p_le h; rw [show (2 : Int) ^ 32 = 4294967296 from by decide] at this; exact this
  have hc : ((2 ^ n - 1 : Nat) : Int) = 2 ^ n - 1 := by
    have : 0 < 2 ^ n := Nat.two_pow_pos n
    rw [Int.natCast_sub (by omega)]; simp
  rw [hc]
  generalize (2 : Int) ^ n = P at *
  omega
theorem put_f (W A N V : Nat) (hW : W < 2 ^ 32) (hV : V < 2 ^ 32) (h1 : 1 ≤ N) (hN : A + N ≤ 32) :
    ∃ Y : Nat, word_Put.f (W : Int) (A : Int) (N : Int) (V : Int) = some ((Y : Int), 0) ∧ Y < 2 ^ 32 ∧ ∀ i, Y.testBit i = if A ≤ i ∧ i < A + N then V.testBit (i - A) else W.testBit i := by
  have hm : 2 ^ N - 1 < 2 ^ 32 := by
    have := Nat.pow_le_pow_right (show 0 < 2 by decide) (show N ≤ 32 by omega)
    have := Nat.two_pow_pos N
    omega
  obtain ⟨c, hc, hc32, hcb⟩ := andnot32 W ((2 ^ N - 1) * 2 ^ A % 2 ^ 32) hW (Nat.mod_lt _ (by decide))
  refine ⟨c ||| (V * 2 ^ A % 2 ^ 32 &&& (2 ^ N - 1) * 2 ^ A % 2 ^ 32), ?_, Nat.or_lt_two_pow hc32 (Nat.and_lt_two_pow _ (Nat.mod_lt _ (by decide))), fun i => ?_⟩
  · unfold word_Put.f
    rw [may_f _ _ (by omega) (by omega), decide_eq_true (by omega)]
    simp only [Option.bind_some, if_true]
    rw [mask_f N h1 (by omega)]
    simp only [Option.bind_some]
    rw [if_pos (by omega), shl32 _ A (by omega), shl32 _ A (by omega), hc, and32 _ _ (Nat.mod_lt _ (by decide)) (Nat.mod_lt _ (by decide)), or32 _ _ hc32 (Nat.and_lt_two_pow _ (Nat.mod_lt _ (by decide)))]
  · rw [Nat.testBit_or, hcb, Nat.testBit_and, Nat.testBit_mod_two_pow, Nat.testBit_mod_two_pow, Nat.testBit_mul_two_pow, Nat.testBit_mul_two_pow, Nat.testBit_two_pow_sub_one]
    by_cases hi : A ≤ i ∧ i < A + N
    · rw [if_pos hi, decide_eq_true hi.1, decide_eq_true (show i - A < N by omega), decide_eq_true (show i < 32 by omega)]
      simp
    · rw [if_neg hi]
      by_cases h0 : A ≤ i
      · rw [decide_eq_false (show ¬ i - A < N by omega)]; simp
      · rw [decide_eq_false h0]; simp

/-- A number's 64 bits. -/
def u64N (N : Int) : Nat := (N % 18446744073709551616).toNat
theorem u64N_eq (N : Int) : IntKind.u64.wrap N = (u64N N : Int) := by rw [wu64]; unfold u64N; omega
/-- A field of a word. -/
theorem get_f (W A N : Nat) (hW : W < 2 ^ 32) (h1 : 1 ≤ N) (hN : A + N ≤ 32) : word_Get.f (W : Int) (A : Int) (N : Int) = some (((W / 2 ^ A % 2 ^ N : Nat) : Int), 0) := by
  unfold word_Get.f
  rw [may_f _ _ (by omega) (by omega), decide_eq_true (by omega)]
  simp only [Option.bind_some, if_true]
  rw [if_pos (by omega), mask_f N h1 (by omega)]
  simp only [Option.bind_some]
  have hlt : W / 2 ^ A < 2 ^ 32 := Nat.lt_of_le_of_lt (Nat.div_le_self _ _) hW
  have hm : 2 ^ N - 1 < 2 ^ 32 := by
    have := Nat.pow_le_pow_right (show 0 < 2 by decide) (show N ≤ 32 by omega)
    have := Nat.two_pow_pos N
    omega
  rw [shr32 W A (by omega), and32 _ _ hlt hm, Nat.and_two_pow_sub_one_eq_mod]

theorem sign_f (v n : Int) (h0 : 0 ≤ v) (h1 : v < 18446744073709551616) (h : -9223372036854775808 ≤ n) (h' : n < 9223372036854775808) :
    word_Sign.f v n = some (if 1 ≤ n ∧ n ≤ 32 then (sgn v n.toNat, 0) else (0, 2)) := by
  unfold word_Sign.f
  rw [may_f 0 n h h']
  simp only [Option.bind_some]
  by_cases hn : 1 ≤ n ∧ n ≤ 32
  · rw [if_pos (by simp; omega), if_pos hn, w64 (by omega) (by omega), if_pos (by omega), wu64]
    have e := shl_shr v n.toNat (by omega) (by omega)
    rw [show ((n.toNat : Nat) : Int) = n from by omega] at e
    rw [e]
  · rw [if_neg (by simp; omega), if_neg hn]

/-- The bytes of a number, and the number of bytes, the lowest one first. -/
def dig (v : Int) (n : Nat) : List Int := (List.range n).map fun j => v / 2 ^ (8 * j) % 256
def lev : List Int → Int
  | [] => 0
  | b :: t => b + 256 * lev t
theorem dig_succ (v : Int) (n : Nat) : dig v (n + 1) = v % 256 :: dig (v / 256) n := by
  unfold dig
  rw [List.range_succ_eq_map, List.map_cons, List.map_map]
  congr 1
  · simp
  · apply List.map_congr_left
    intro j _
    simp only [Function.comp_apply]
    rw [show 8 * Nat.succ j = 8 + 8 * j from by omega, p_add, ← Int.ediv_ediv_of_nonneg (Int.le_of_lt (p_pos 8))]
    rfl
theorem lev_range : ∀ l : List Int, (∀ x ∈ l, 0 ≤ x ∧ x < 256) → 0 ≤ lev l ∧ lev l < 2 ^ (8 * l.length)
  | [], _ => by simp [lev]
  | b :: t, h => by
    have ih := lev_range t fun x hx => h x (List.mem_cons_of_mem _ hx)
    have hb := h b List.mem_cons_self
    simp only [lev, List.length_cons]
    rw [show 8 * (t.length + 1) = 8 + 8 * t.length from by omega, p_add, show (2 : Int) ^ 8 = 256 from by decide]
    omega
theorem dig_lev : ∀ l : List Int, (∀ x ∈ l, 0 ≤ x ∧ x < 256) → dig (lev l) l.length = l
  | [], _ => rfl
  | b :: t, h => by
    have hb := h b List.mem_cons_self
    rw [List.length_cons, dig_succ]
    simp only [lev]
    rw [show (b + 256 * lev t) % 256 = b from by omega, show (b + 256 * lev t) / 256 = lev t from by omega, dig_lev t fun x hx => h x (List.mem_cons_of_mem _ hx)]
theorem lev_snoc : ∀ (l : List Int) (b : Int), lev (l ++ [b]) = lev l + b * 2 ^ (8 * l.length)
  | [], b => by simp [lev]
  | c :: t, b => by
    rw [List.cons_append]
    simp only [lev, List.length_cons]
    rw [lev_snoc t b, show 8 * (t.length + 1) = 8 + 8 * t.length from by omega, p_add, show (2 : Int) ^ 8 = 256 from by decide, Int.mul_add,
      show b * (256 * 2 ^ (8 * t.length)) = 256 * (b * 2 ^ (8 * t.length)) from by rw [Int.mul_left_comm]]
    omega
attribute [local irreducible] lev dig

theorem rd_get (l : List Int) (i : Nat) (h : i < l.length) : rd l (i : Int) = l[i] := by
  unfold rd; simp [h]
theorem or64 {x y : Int} {i : Nat} (hx0 : 0 ≤ x) (hx : x < 2 ^ i) (hy0 : 0 ≤ y) (hy : y * 2 ^ i < 18446744073709551616) (hi : i ≤ 64) :
    Go.bits .or .u64 x (y * 2 ^ i) = x + y * 2 ^ i := by
  have hw : ∀ n : Int, 0 ≤ n → n < 2 ^ 64 → IntKind.u64.wrap n = n := by
    intro n h0 h1; rw [wu64]; rw [p64] at h1; omega
  have hp := p_pos i
  have hyp : 0 ≤ y * 2 ^ i := Int.mul_nonneg hy0 (Int.le_of_lt hp)
  have hb := Go.bits_join .u64 64 (by decide) hw i (y * 2 ^ i) x hyp (Int.mul_emod_left _ _) (by rw [p64]; exact hy) hx0 hx (by rw [p64]; have := b64 hi; omega)
  obtain ⟨a, ha⟩ := Int.eq_ofNat_of_zero_le hx0
  obtain ⟨b, hb'⟩ := Int.eq_ofNat_of_zero_le hyp
  have hp64 := b64 hi
  have ha2 : a < 2 ^ 64 := by have h1 : (a : Int) < 18446744073709551616 := by omega
                              have h2 : a < 18446744073709551616 := by omega
                              exact Nat.lt_of_lt_of_le h2 (by decide)
  have hb2 : b < 2 ^ 64 := by have h1 : (b : Int) < 18446744073709551616 := by omega
                              have h2 : b < 18446744073709551616 := by omega
                              exact Nat.lt_of_lt_of_le h2 (by decide)
  rw [hb', ha] at hb ⊢
  have c1 := (Go.bits_nat .u64 64 (by decide) hw a b ha2 hb2).2
  have c2 := (Go.bits_nat .u64 64 (by decide) hw b a hb2 ha2).2
  rw [c1, Nat.or_comm, ← c2, hb]; omega
theorem take_snoc (l : List Int) (a i : Nat) (h : a + i < l.length) : (l.drop a).take (i + 1) = (l.drop a).take i ++ [l[a + i]] := by
  rw [List.take_succ_eq_append_getElem (by simp; omega)]
  simp
theorem join_l (l : List Int) (a n : Nat) (hb : ∀ x ∈ l, 0 ≤ x ∧ x < 256) (hn : n ≤ 8) (hl : a + n ≤ l.length) (hs : l.length < 4611686018427387904) (d : Nat) :
    ∀ (k : Nat) (v : Int) (i : Nat), n - i = d → i ≤ n → v = lev ((l.drop a).take i) → d < k →
    word_join.l0 k l a v n i = some (lev ((l.drop a).take n), 0) := by
  induction d with
  | zero =>
    intro k v i hd hi hv hk
    obtain ⟨k, rfl⟩ : ∃ m, k = m + 1 := ⟨k - 1, by omega⟩
    simp only [word_join.l0]
    rw [if_neg (by omega), hv, show i = n from by omega]
  | succ d ih =>
    intro k v i hd hi hv hk
    have HV := Aside0.mk hv
    clear hv
    obtain ⟨k, rfl⟩ : ∃ m, k = m + 1 := ⟨k - 1, by omega⟩
    simp only [word_join.l0]
    rw [w64n (x := (a : Int) + i) (a + i) (by omega) (by omega), w64n (x := 8 * (i : Int)) (8 * i) (by omega) (by omega), w64n (x := (i : Int) + 1) (i + 1) (by omega) (by omega), if_pos (by omega), if_pos (by omega), if_pos (by omega), if_pos (by omega), rd_get l (a + i) (by omega)]
    have hbi := hb l[a + i] (List.getElem_mem _)
    have hlen : ((l.drop a).take i).length = i := by simp; omega
    have hr := lev_range ((l.drop a).take i) fun x hx => hb x (List.mem_of_mem_drop (List.mem_of_mem_take hx))
    rw [hlen] at hr
    have hp := p_pos (8 * i)
    have hle : l[a + i] * (2 : Int) ^ (8 * i) < 18446744073709551616 := by
      have h1 : l[a + i] * (2 : Int) ^ (8 * i) < 256 * 2 ^ (8 * i) := Int.mul_lt_mul_of_pos_right hbi.2 hp
      have h2 : 256 * (2 : Int) ^ (8 * i) = 2 ^ (8 + 8 * i) := by rw [p_add]; rfl
      have h3 : (2 : Int) ^ (8 + 8 * i) ≤ 18446744073709551616 := b64 (by omega)
      omega
    have e3 : shl .u64 (IntKind.u64.wrap l[a + i]) ((8 * i : Nat) : Int) = l[a + i] * 2 ^ (8 * i) := by
      unfold shl
      rw [show IntKind.u64.bits = 64 from rfl, show (((8 * i : Nat) : Int)).toNat = 8 * i from by omega, Nat.min_eq_left (by omega), wu64, wu64,
        Int.emod_eq_of_lt hbi.1 (by omega), Int.emod_eq_of_lt (Int.mul_nonneg hbi.1 (Int.le_of_lt hp)) hle]
    rw [e3, HV.out, or64 hr.1 hr.2 hbi.1 hle (by omega)]
    refine ih k _ (i + 1) (by omega) (by omega) ?_ (by omega)
    rw [take_snoc l a i (by omega), lev_snoc, hlen]
theorem join_f (k : Nat) (l : List Int) (a n : Int) (hb : ∀ x ∈ l, 0 ≤ x ∧ x < 256) (hn0 : 0 ≤ n) (hn : n ≤ 8) (hs : l.length < 4611686018427387904) (hk : 20 < k) :
    word_join.f k l a n = some (if 0 ≤ a ∧ a + n ≤ l.length then (lev ((l.drop a.toNat).take n.toNat), 0) else (0, 4)) := by
  obtain ⟨k, rfl⟩ : ∃ m, k = m + 1 := ⟨k - 1, by omega⟩
  unfold word_join.f
  by_cases ha : a < 0
  · rw [if_pos ha, if_neg (by omega)]; simp only [word_join.j0]; simp
  · rw [if_neg ha, w64 (by omega) (by omega)]
    simp only [word_join.j0]
    by_cases hal : a > (l.length : Int) - n
    · rw [if_pos (by simpa using hal), if_neg (by omega)]
    · rw [if_neg (by simpa using hal), if_pos (by omega)]
      have := join_l l a.toNat n.toNat hb (by omega) (by omega) hs n.toNat k 0 0 (by omega) (by omega) (by simp [lev]) (by omega)
      rw [show ((a.toNat : Nat) : Int) = a from by omega, show ((n.toNat : Nat) : Int) = n from by omega] at this
      exact this
theorem ref_bytes_l (d : Nat) : ∀ (k : Nat) (v n : Int) (l : List Int) (i : Int), 0 ≤ v → v < 18446744073709551616 → n ≤ 1000 → 0 ≤ i → n - i = d → d < k → l.length ≤ i →
    spinnakerref01_Bytes.l0 k v n l i = some (l ++ dig v d) := by
  induction d with
  | zero =>
    intro k v n l i h0 h1 hn hi hd hk hl
    obtain ⟨k, rfl⟩ : ∃ m, k = m + 1 := ⟨k - 1, by omega⟩
    simp only [spinnakerref01_Bytes.l0]
    rw [if_neg (by omega)]; simp [dig]
  | succ d ih =>
    intro k v n l i h0 h1 hn hi hd hk hl
    obtain ⟨k, rfl⟩ : ∃ m, k = m + 1 := ⟨k - 1, by omega⟩
    simp only [spinnakerref01_Bytes.l0]
    rw [if_pos (by omega), if_pos (by omega), Int.tdiv_eq_ediv_of_nonneg h0, Int.tmod_eq_emod_of_nonneg h0, wu64, w64 (x := i + 1) (by omega) (by omega)]
    rw [show v / 256 % 18446744073709551616 = v / 256 from by omega, show v % 256 % 256 = v % 256 from by omega]
    rw [ih k (v / 256) n _ (i + 1) (by omega) (by omega) hn (by omega) (by omega) (by omega) (by simp; omega), dig_succ, List.append_assoc]
    rfl
theorem ref_bytes (k : Nat) (v n : Int) (h0 : 0 ≤ v) (h1 : v < 18446744073709551616) (hn0 : 0 ≤ n) (hn : n ≤ 1000) (hk : n.toNat < k) :
    spinnakerref01_Bytes.f k v n = some (dig v n.toNat) := by
  unfold spinnakerref01_Bytes.f
  have := ref_bytes_l n.toNat k v n [] 0 h0 h1 hn (by omega) (by omega) hk (by simp)
  simpa using this

theorem ref_same_l (a b : List Int) (hab : a.length = b.length) (hn : a.length < 4611686018427387904) (d : Nat) : ∀ (k i : Nat), i ≤ a.length → a.length - i = d → d < k →
    spinnakerref01_Same.l0 k a b i = some (decide (a.drop i = b.drop i)) := by
  induction d with
  | zero =>
    intro k i hi hd hk
    obtain ⟨k, rfl⟩ : ∃ m, k = m + 1 := ⟨k - 1, by omega⟩
    simp only [spinnakerref01_Same.l0]
    rw [if_neg (by omega), List.drop_of_length_le (by omega), List.drop_of_length_le (by omega)]
    simp
  | succ d ih =>
    intro k i hi hd hk
    obtain ⟨k, rfl⟩ : ∃ m, k = m + 1 := ⟨k - 1, by omega⟩
    simp only [spinnakerref01_Same.l0]
    rw [if_pos (by omega), if_pos (by omega), if_pos (by omega)]
    have e : ∀ l : List Int, ∀ h : i < l.length, rd l (i : Int) = l[i] := by
      intro l h; unfold rd; simp [h]
    rw [e a (by omega), e b (by omega), List.drop_eq_getElem_cons (show i < a.length by omega), List.drop_eq_getElem_cons (show i < b.length by omega)]
    by_cases h : a[i] = b[i]
    · rw [if_pos h, w64n (x := (i : Int) + 1) (i + 1) (by omega) (by omega), ih k (i + 1) (by omega) (by omega) (by omega)]
      congr 1; rw [decide_eq_decide]
      exact ⟨fun hh => by rw [h, hh], fun hh => (List.cons.inj hh).2⟩
    · rw [if_neg h]; congr 1; symm; rw [decide_eq_false_iff_not]; intro hc; exact h (List.cons.inj hc).1
theorem ref_same (k : Nat) (a b : List Int) (hn : a.length < 4611686018427387904) (hk : a.length < k) :
    spinnakerref01_Same.f k a b = some (decide (a = b)) := by
  unfold spinnakerref01_Same.f
  by_cases h : a.length = b.length
  · rw [if_pos (by omega)]
    have := ref_same_l a b h hn a.length k 0 (by omega) (by omega) hk
    simpa using this
  · rw [if_neg (by omega)]
    have : a ≠ b := fun e => h (by rw [e])
    simp [this]

/-- A word's bit behind pieces (value, place, width) put one after the other. -/
def cov : List (Nat × Nat × Nat) → Nat → Bool → Bool
  | [], _, acc => acc
  | p :: l, i, acc => cov l i (if p.2.1 ≤ i ∧ i < p.2.1 + p.2.2 then p.1.testBit (i - p.2.1) else acc)
def pc (p : Nat × Nat × Nat) : S65 := ⟨p.1, p.2.1, p.2.2⟩
theorem pack_l (l : List (Nat × Nat × Nat)) (hl : l.length < 1000) (hp : ∀ p ∈ l, p.1 < 2 ^ 32 ∧ 1 ≤ p.2.2 ∧ p.2.1 + p.2.2 ≤ 32) (d : Nat) : ∀ (k i W : Nat), l.length - i = d → i ≤ l.length → d < k → W < 2 ^ 32 →
    ∃ T : Nat, enc_pack.l0 k W (l.map pc) ((l.map pc).length : Int) i = some (T : Int) ∧ T < 2 ^ 32 ∧ ∀ j, T.testBit j = cov (l.drop i) j (W.testBit j) := by
  induction d with
  | zero =>
    intro k i W hd hi hk hW
    obtain ⟨k, rfl⟩ : ∃ m, k = m + 1 := ⟨k - 1, by omega⟩
    simp only [enc_pack.l0]
    rw [List.length_map, if_neg (by omega), List.drop_of_length_le (by omega)]
    exact ⟨W, rfl, hW, fun j => rfl⟩
  | succ d ih =>
    intro k i W hd hi hk hW
    obtain ⟨k, rfl⟩ : ∃ m, k = m + 1 := ⟨k - 1, by omega⟩
    have hil : i < l.length := by omega
    simp only [enc_pack.l0]
    have e : rd_T65 (l.map pc) (i : Int) = pc l[i] := by unfold rd_T65; simp [hil]
    obtain ⟨p1, p2, p3⟩ := hp l[i] (List.getElem_mem hil)
    obtain ⟨Y, hY, hY32, hYb⟩ := put_f W l[i].2.1 l[i].2.2 l[i].1 hW p1 p2 p3
    have hY' : word_Put.f (W : Int) (pc l[i]).f1 (pc l[i]).f2 (pc l[i]).f0 = some ((Y : Int), 0) := hY
    rw [e, hY']
    simp only [Option.bind_some]
    rw [if_pos (by rw [List.length_map]; omega), if_pos (by omega), if_pos (by rw [List.length_map]; omega), w64n (x := (i : Int) + 1) (i + 1) (by omega) (by omega)]
    obtain ⟨T, hT, hT32, hTb⟩ := ih k (i + 1) Y (by omega) (by omega) (by omega) hY32
    refine ⟨T, hT, hT32, fun j => ?_⟩
    rw [hTb, hYb, List.drop_eq_getElem_cons hil]; rfl
theorem pack_f (k : Nat) (l : List (Nat × Nat × Nat)) (hl : l.length < 1000) (hp : ∀ p ∈ l, p.1 < 2 ^ 32 ∧ 1 ≤ p.2.2 ∧ p.2.1 + p.2.2 ≤ 32) (hk : l.length < k) :
    ∃ T : Nat, enc_pack.f k (l.map pc) = some (T : Int) ∧ T < 2 ^ 32 ∧ ∀ j, T.testBit j = cov l j false := by
  unfold enc_pack.f
  obtain ⟨T, h1, h2, h3⟩ := pack_l l hl hp l.length k 0 0 (by omega) (by omega) hk (by decide)
  exact ⟨T, h1, h2, fun j => by rw [h3, Nat.zero_testBit, List.drop_zero]⟩

/-- An operation's word without fields. -/
def wordL : List Nat := [55, 23, 111, 103, 99, 4195, 16483, 20579, 24675, 28771, 3, 4099, 8195, 12291, 16387, 20483, 24579, 35, 4131, 8227, 12323, 19, 8211, 12307, 16403, 24595, 28691, 4115, 20499, 1073762323, 27, 4123, 20507, 1073762331, 51, 1073741875, 4147, 8243, 12339, 16435, 20531, 1073762355, 24627, 28723, 59, 1073741883, 4155, 20539, 1073762363, 33554483, 33558579, 33562675, 33566771, 33570867, 33574963, 33579059, 33583155, 33554491, 33570875, 33574971, 33579067, 33583163, 15, 115, 1048691, 268443695, 402661423, 134225967, 8239, 536879151, 1610620975, 1073750063, 2147491887, 2684362799, 3221233711, 3758104623]
def w2 (o : Nat) : Nat := if o < 77 then wordL.getD (o - 1) 0 else wordL.getD (o - 12) 0 + 4096
def w1 (o : Nat) : Nat := if o = 65 then 115 else w2 o
theorem w2_tab (o : Nat) (h1 : 1 ≤ o) (h2 : o < 88) : True ∧ w2 o < 2 ^ 32 ∧ w1 o < 2 ^ 32 ∧ (o = 65 → w2 o = 1048691) := by
  revert h1; revert h2; revert o; decide +kernel

theorem w1_tab (o : Nat) (h1 : 1 ≤ o) (h2 : o < 88) : (enc_of.f (o : Int)).bind (fun c => enc_pack.f 20 [(⟨c.1, 0, 7⟩ : S65), (⟨c.2.1, 12, 3⟩ : S65), (⟨c.2.2, 25, 7⟩ : S65)]) = some (w1 o : Int) := by
  revert h1; revert h2; revert o; decide +kernel
theorem w1_u (o : Nat) (h1 : 1 ≤ o) (h2 : o < 88) : (formOf o = 1 ∨ formOf o = 2) → (enc_of.f (o : Int)).map (fun c => c.1) = some (w1 o : Int) := by
  revert h1; revert h2; revert o; decide +kernel
def regsOf (f : Int) (R A B : Nat) : List (Nat × Nat × Nat) := (if hasA f then [(A, 15, 5)] else []) ++ (if hasB f then [(B, 20, 5)] else []) ++ (if R = 0 then [] else [(R, 7, 5)])
def vs (V s : Nat) : Nat := V / 2 ^ s
def immsOf (f : Int) (o : Nat) (V : Nat) (aq rl : Bool) : List (Nat × Nat × Nat) :=
  if f = 1 then [(V, 12, 20)] else if f = 2 then [(vs V 20, 31, 1), (vs V 1, 21, 10), (vs V 11, 20, 1), (vs V 12, 12, 8)]
  else if f = 3 then [(V, 20, 12)] else if f = 4 then [(vs V 12, 31, 1), (vs V 5, 25, 6), (vs V 1, 8, 4), (vs V 11, 7, 1)]
  else if f = 5 then [(vs V 5, 25, 7), (V, 7, 5)] else if f = 7 then [(V, 20, 6)] else if f = 8 then [(V, 20, 5)] else if f = 9 then [(V, 20, 8)]
  else if f = 10 ∨ f = 11 then [(aq.toNat, 26, 1), (rl.toNat, 25, 1)] else if o = 65 then [(1, 20, 1)] else []
theorem form_some {op rd a b n : Int} {aq rl : Bool} (hm : mayF (formOf op) rd a b n aq rl = true) :
    (formOf op = 0 ∨ formOf op = 1 ∨ formOf op = 2 ∨ formOf op = 3 ∨ formOf op = 4 ∨ formOf op = 5 ∨ formOf op = 6 ∨ formOf op = 7 ∨ formOf op = 8 ∨ formOf op = 9 ∨ formOf op = 10 ∨ formOf op = 11) ∧ 1 ≤ op ∧ op ≤ 87 := by
  have h0 : ¬ formOf op = -1 := fun h => by rw [h] at hm; simp [mayF] at hm
  refine ⟨?_, ?_⟩
  · rcases form_cases op with h | h
    · exact absurd h h0
    · exact h
  · by_cases h : 1 ≤ op ∧ op ≤ 87
    · exact h
    · exact absurd ((form_neg op).2 h) h0
theorem registers_f (k : Nat) (hk : 30 ≤ k) (op : Int) (R A B : Nat) (n : Int) (aq rl : Bool) (hn : -9223372036854775808 ≤ n ∧ n < 9223372036854775808) (hR : R < 32) (hA : A < 32) (hB : B < 32)
    (hm : mayF (formOf op) R A B n aq rl = true) : enc_registers.f k op R A B n aq rl = some ((regsOf (formOf op) R A B).map pc) := by
  obtain ⟨hf, _⟩ := form_some hm
  have hw : ∀ k, 20 ≤ k → isa_Writes.f k op R A B n aq rl = some (if R = 0 then ((0 : Int), false) else ((R : Int), true)) := by
    intro k hk
    unfold isa_Writes.f
    rw [may_f3 k op R A B n aq rl hk hn, hm]
    simp only [Option.bind_some, if_true]
    by_cases h : R = 0
    · subst h; rfl
    · rw [if_neg (by omega), if_neg h]
  have e : ∀ X : Nat, X < 32 → (X : Int) % 4294967296 = (X : Int) := fun X h => by omega
  obtain ⟨k, rfl⟩ : ∃ m, k = m + 1 := ⟨k - 1, by omega⟩
  unfold enc_registers.f isa_Reads.f
  rw [may_f3 (k + 1) op R A B n aq rl (by omega) hn, hm, form_f (k + 1) (by omega)]
  simp only [Option.bind_some, if_true]
  rw [fields_f (k + 1) _ (by omega) hf]
  simp only [Option.bind_some, enc_registers.j0]
  rw [hw k (by omega), e A hA, e B hB]
  unfold regsOf
  by_cases h : R = 0
  · subst h
    cases hasA (formOf op) <;> cases hasB (formOf op) <;> simp [pc]
  · rw [if_neg h, if_neg h]
    cases hasA (formOf op) <;> cases hasB (formOf op) <;> simp [pc, e R hR]
theorem immediate_f (k : Nat) (hk : 30 ≤ k) (o : Nat) (rd a b n : Int) (aq rl : Bool) (hm : mayF (formOf o) rd a b n aq rl = true) :
    enc_immediate.f k o rd a b n aq rl = some ((immsOf (formOf o) o (u64N n % 2 ^ 32) aq rl).map pc) := by
  obtain ⟨hf, _⟩ := form_some hm
  obtain ⟨k, rfl⟩ : ∃ m, k = m + 1 := ⟨k - 1, by omega⟩
  have e : ((u64N n : Nat) : Int) % 4294967296 = ((u64N n % 2 ^ 32 : Nat) : Int) := by
    rw [show (2 : Nat) ^ 32 = 4294967296 from by decide]; omega
  unfold enc_immediate.f
  rw [form_f (k + 1) (by omega), u64N_eq, e]
  generalize u64N n % 2 ^ 32 = V
  simp only [Option.bind_some, enc_immediate.j0, enc_bit.f]
  by_cases h65 : o = 65
  · subst h65
    cases aq <;> cases rl <;> rcases hf with h | h | h | h | h | h | h | h | h | h | h | h <;> rw [h] <;> simp [immsOf, pc, vs]
  · have h65' : ¬ (o : Int) = 65 := by omega
    cases aq <;> cases rl <;> rcases hf with h | h | h | h | h | h | h | h | h | h | h | h <;> rw [h] <;> simp [immsOf, pc, vs, h65, h65']
theorem regsOf_ok (f : Int) (R A B : Nat) (hR : R < 32) (hA : A < 32) (hB : B < 32) : ∀ p ∈ regsOf f R A B, p.1 < 2 ^ 32 ∧ 1 ≤ p.2.2 ∧ p.2.1 + p.2.2 ≤ 32 := by
  intro p hp
  unfold regsOf at hp
  have h32 : (2 : Nat) ^ 32 = 4294967296 := by decide
  rw [List.mem_append, List.mem_append] at hp
  rcases hp with (hp | hp) | hp
  · split at hp
    · obtain rfl := List.mem_singleton.mp hp; exact ⟨by omega, Nat.le_of_ble_eq_true rfl, Nat.le_of_ble_eq_true rfl⟩
    · exact absurd hp (by simp)
  · split at hp
    · obtain rfl := List.mem_singleton.mp hp; exact ⟨by omega, Nat.le_of_ble_eq_true rfl, Nat.le_of_ble_eq_true rfl⟩
    · exact absurd hp (by simp)
  · split at hp
    · exact absurd hp (by simp)
    · obtain rfl := List.mem_singleton.mp hp; exact ⟨by omega, Nat.le_of_ble_eq_true rfl, Nat.le_of_ble_eq_true rfl⟩
theorem immsOf_ok (f : Int) (o V : Nat) (aq rl : Bool) (hV : V < 2 ^ 32) : ∀ p ∈ immsOf f o V aq rl, p.1 < 2 ^ 32 ∧ 1 ≤ p.2.2 ∧ p.2.1 + p.2.2 ≤ 32 := by
  have hd : ∀ s, vs V s < 2 ^ 32 := fun s => Nat.lt_of_le_of_lt (Nat.div_le_self _ _) hV
  have hb : ∀ x : Bool, x.toNat < 2 ^ 32 := fun x => by cases x <;> decide
  intro p hp
  unfold immsOf at hp
  repeat' (split at hp)
  all_goals simp only [List.mem_cons, List.not_mem_nil, or_false] at hp
  all_goals first | exact hp.elim | (rcases hp with rfl | rfl | rfl | rfl <;> exact ⟨by first | exact hd _ | exact hV | exact hb _ | decide, Nat.le_of_ble_eq_true rfl, Nat.le_of_ble_eq_true rfl⟩) | (rcases hp with rfl | rfl <;> exact ⟨by first | exact hd _ | exact hV | exact hb _ | decide, Nat.le_of_ble_eq_true rfl, Nat.le_of_ble_eq_true rfl⟩) | (obtain rfl := hp; exact ⟨by first | exact hV | decide, Nat.le_of_ble_eq_true rfl, Nat.le_of_ble_eq_true rfl⟩)
theorem regs_len (f : Int) (R A B : Nat) : (regsOf f R A B).length ≤ 3 := by
  unfold regsOf
  repeat' split
  all_goals simp
theorem imms_len (f : Int) (o V : Nat) (aq rl : Bool) : (immsOf f o V aq rl).length ≤ 4 := by
  unfold immsOf
  repeat' split
  all_goals simp
/-- The code's word of an instruction, by its bits. -/
theorem encode_f (k : Nat) (hk : 400 ≤ k) (o R A B : Nat) (n : Int) (aq rl : Bool) (hn : -9223372036854775808 ≤ n ∧ n < 9223372036854775808) (hR : R < 32) (hA : A < 32) (hB : B < 32)
    (hm : mayF (formOf o) R A B n aq rl = true) :
    ∃ W : Nat, enc_Encode.f k o R A B n aq rl = some ((W : Int), 0) ∧ W < 2 ^ 32 ∧ ∀ j, W.testBit j = ((w1 o).testBit j || cov (regsOf (formOf o) R A B ++ immsOf (formOf o) o (u64N n % 2 ^ 32) aq rl) j false) := by
  obtain ⟨hf, h1, h2⟩ := form_some hm
  have ht := w1_tab o (by omega) (by omega)
  have hu := w1_u o (by omega) (by omega)
  obtain ⟨_, _, hw32, _⟩ := w2_tab o (by omega) (by omega)
  obtain ⟨c, hc, hp⟩ := Option.bind_eq_some_iff.mp ht
  have hp' : enc_pack.f k [(⟨c.1, 0, 7⟩ : S65), (⟨c.2.1, 12, 3⟩ : S65), (⟨c.2.2, 25, 7⟩ : S65)] = some (w1 o : Int) := at_rounds (fun k => enc_pack.mono _ k) (by omega) hp
  have hl1 := regs_len (formOf o) R A B
  have hl2 := imms_len (formOf o) o (u64N n % 2 ^ 32) aq rl
  have hv : u64N n % 2 ^ 32 < 2 ^ 32 := Nat.mod_lt _ (by decide)
  obtain ⟨k, rfl⟩ : ∃ m, k = m + 1 := ⟨k - 1, by omega⟩
  obtain ⟨T, hT, hT32, hTb⟩ := pack_f k (regsOf (formOf o) R A B ++ immsOf (formOf o) o (u64N n % 2 ^ 32) aq rl) (by rw [List.length_append]; omega)
    (fun p hp => (List.mem_append.mp hp).elim (regsOf_ok _ R A B hR hA hB p) (immsOf_ok _ o _ aq rl hv p)) (by rw [List.length_append]; omega)
  rw [List.map_append] at hT
  refine ⟨w1 o ||| T, ?_, Nat.or_lt_two_pow hw32 hT32, fun j => by rw [Nat.testBit_or, hTb]⟩
  unfold enc_Encode.f
  rw [may_f3 (k + 1) o R A B n aq rl (by omega) hn, hm, hc]
  simp only [Option.bind_some, if_true]
  rw [hp', form_f (k + 1) (by omega)]
  simp only [Option.bind_some]
  have hj : ∀ is : Bool, (is = true → c.1 = (w1 o : Int)) → enc_Encode.j0 (k + 1) (w1 o) is o R A B n aq rl c.1 c.2.1 c.2.2 = some (((w1 o ||| T : Nat) : Int), 0) := by
    intro is his
    simp only [enc_Encode.j0]
    have hlt : ((regsOf (formOf o) R A B).map pc).length + ((immsOf (formOf o) o (u64N n % 2 ^ 32) aq rl).map pc).length < 5864062014805 := by rw [List.length_map, List.length_map]; omega
    rw [registers_f k (by omega) o R A B n aq rl hn hR hA hB hm, immediate_f k (by omega) o R A B n aq rl hm]
    simp only [Option.bind_some]
    rw [if_pos hlt, hT]
    simp only [Option.bind_some]
    cases is
    · rw [if_neg (by decide), or32 _ _ hw32 hT32, if_pos hlt]
    · rw [if_pos rfl, his rfl, or32 _ _ hw32 hT32]
  have hcu : (formOf o = 1 ∨ formOf o = 2) → c.1 = (w1 o : Int) := fun h => by
    have := hu h
    rw [hc] at this
    exact Option.some.inj this
  by_cases hf1 : formOf o = 1
  · rw [if_pos hf1]; exact hj true fun _ => hcu (.inl hf1)
  · rw [if_neg hf1]; exact hj _ fun h => hcu (.inr (by simpa using h))
theorem encode_no (k : Nat) (hk : 400 ≤ k) (op rd a b n : Int) (aq rl : Bool) (hn : -9223372036854775808 ≤ n ∧ n < 9223372036854775808)
    (hm : mayF (formOf op) rd a b n aq rl = false) : enc_Encode.f k op rd a b n aq rl = some (0, 1) := by
  unfold enc_Encode.f
  rw [may_f3 k op rd a b n aq rl (by omega) hn, hm]; rfl
/-- A field of a word, plainly. -/
def fld (W at_ n : Int) : Int := ((W.toNat / 2 ^ at_.toNat % 2 ^ n.toNat : Nat) : Int)
theorem fld_lt (W at_ n : Int) : 0 ≤ fld W at_ n ∧ fld W at_ n < 2 ^ n.toNat := by
  unfold fld
  refine ⟨Int.natCast_nonneg _, ?_⟩
  have h := Nat.mod_lt (W.toNat / 2 ^ at_.toNat) (Nat.two_pow_pos n.toNat)
  have e : ((2 ^ n.toNat : Nat) : Int) = 2 ^ n.toNat := by push_cast; rfl
  rw [← e]; omega
theorem field_f (W at_ n : Int) (h0 : 0 ≤ W) (h1 : W < 4294967296) (ha : 0 ≤ at_) (hn : 1 ≤ n) (hs : at_ + n ≤ 32) : dec_field.f W at_ n = some (fld W at_ n) := by
  obtain ⟨X, rfl⟩ := Int.eq_ofNat_of_zero_le h0
  obtain ⟨A, rfl⟩ := Int.eq_ofNat_of_zero_le ha
  obtain ⟨N, rfl⟩ := Int.eq_ofNat_of_zero_le (show 0 ≤ n by omega)
  unfold dec_field.f
  rw [get_f X A N (by omega) (by omega) (by omega)]
  have hl := Nat.lt_of_le_of_lt (Nat.mod_le (X / 2 ^ A) (2 ^ N)) (Nat.lt_of_le_of_lt (Nat.div_le_self X (2 ^ A)) (show X < 2 ^ 32 by omega))
  simp only [Option.bind_some]
  unfold fld
  simp only [Int.toNat_natCast]
  rw [w64 (by omega) (by omega)]
theorem sgn_bound (v : Int) (n : Nat) (hn : n ≤ 32) : -4294967296 ≤ sgn v n ∧ sgn v n < 4294967296 := by
  have h1 : (2 : Int) ^ n ≤ 4294967296 := by
    have : (2 : Nat) ^ n ≤ 2 ^ 32 := Nat.pow_le_pow_right (by decide) hn
    have e : ((2 ^ n : Nat) : Int) = 2 ^ n := by push_cast; rfl
    rw [← e]; omega
  have h0 : (0 : Int) < 2 ^ n := Int.pow_pos (by decide)
  have h2 := Int.emod_nonneg v (show (2 : Int) ^ n ≠ 0 by omega)
  have h3 := Int.emod_lt_of_pos v h0
  unfold sgn
  split <;> omega
theorem signed_ok (v n : Int) (h1 : 1 ≤ n) (h2 : n ≤ 32) : ∃ r, dec_signed.f v n = some r ∧ -4294967296 ≤ r ∧ r < 4294967296 := by
  have a0 := Int.emod_nonneg v (show (4294967296 : Int) ≠ 0 by decide)
  have a1 := Int.emod_lt_of_pos v (show (0 : Int) < 4294967296 by decide)
  refine ⟨sgn (v % 4294967296) n.toNat, ?_, sgn_bound _ _ (by omega)⟩
  unfold dec_signed.f
  rw [sign_f (v % 4294967296) n (by omega) (by omega) (by omega) (by omega), if_pos ⟨h1, h2⟩]
  rfl
theorem fld_small (W at_ n : Int) (hn : 0 ≤ n) (h : n ≤ 32) : 0 ≤ fld W at_ n ∧ fld W at_ n < 4294967296 := by
  refine ⟨(fld_lt W at_ n).1, Int.lt_of_lt_of_le (fld_lt W at_ n).2 ?_⟩
  have : (2 : Nat) ^ n.toNat ≤ 2 ^ 32 := Nat.pow_le_pow_right (by decide) (by omega)
  have e : ((2 ^ n.toNat : Nat) : Int) = 2 ^ n.toNat := by push_cast; rfl
  rw [← e]; omega
theorem immediate_ok (W f : Int) (h0 : 0 ≤ W) (h1 : W < 4294967296) : ∃ r, dec_immediate.f W f = some r ∧ -4294967296 ≤ r ∧ r < 4294967296 := by
  unfold dec_immediate.f
  have hu : ∀ a, ∃ r, (some (wrap64 (fld W 20 a))) = some r ∧ (0 ≤ a → a ≤ 32 → -4294967296 ≤ r ∧ r < 4294967296) := fun a => ⟨_, rfl, fun ha hb => by
    have h := fld_small W 20 a ha hb
    rw [w64 (by omega) (by omega)]; omega⟩
  rw [field_f W 12 20 h0 h1 (by decide) (by decide) (by decide), field_f W 31 1 h0 h1 (by decide) (by decide) (by decide), field_f W 21 10 h0 h1 (by decide) (by decide) (by decide), field_f W 20 1 h0 h1 (by decide) (by decide) (by decide),
    field_f W 12 8 h0 h1 (by decide) (by decide) (by decide), field_f W 20 12 h0 h1 (by decide) (by decide) (by decide), field_f W 25 6 h0 h1 (by decide) (by decide) (by decide), field_f W 8 4 h0 h1 (by decide) (by decide) (by decide),
    field_f W 7 1 h0 h1 (by decide) (by decide) (by decide), field_f W 25 7 h0 h1 (by decide) (by decide) (by decide), field_f W 7 5 h0 h1 (by decide) (by decide) (by decide), field_f W 20 6 h0 h1 (by decide) (by decide) (by decide),
    field_f W 20 5 h0 h1 (by decide) (by decide) (by decide), field_f W 20 8 h0 h1 (by decide) (by decide) (by decide)]
  simp only [Option.bind_some]
  repeat' split
  · exact signed_ok _ _ (by decide) (by decide)
  · exact signed_ok _ _ (by decide) (by decide)
  · exact signed_ok _ _ (by decide) (by decide)
  · exact signed_ok _ _ (by decide) (by decide)
  · exact signed_ok _ _ (by decide) (by decide)
  · obtain ⟨r, e, h⟩ := hu 6; exact ⟨r, e, h (by decide) (by decide)⟩
  · obtain ⟨r, e, h⟩ := hu 5; exact ⟨r, e, h (by decide) (by decide)⟩
  · obtain ⟨r, e, h⟩ := hu 8; exact ⟨r, e, h (by decide) (by decide)⟩
  · exact ⟨0, rfl, by decide, by decide⟩
/-- What the parts of a word are. -/
def OkP (op : Int) (o : Option (Int × Int × Int × Int × Int × Bool × Bool)) : Prop :=
  ∃ rd a b n aq rl, o = some (op, rd, a, b, n, aq, rl) ∧ (0 ≤ rd ∧ rd < 32) ∧ (0 ≤ a ∧ a < 32) ∧ (0 ≤ b ∧ b < 32) ∧ -4294967296 ≤ n ∧ n < 4294967296
theorem j4_ok (k : Nat) (W : Int) (h0 : 0 ≤ W) (h1 : W < 4294967296) (t : Bool) (op rd a b n : Int) (aq rl : Bool) (hr : 0 ≤ rd ∧ rd < 32) (ha : 0 ≤ a ∧ a < 32) (hb : 0 ≤ b ∧ b < 32) (hn : -4294967296 ≤ n ∧ n < 4294967296) :
    OkP op (dec_parts.j4 (k + 1) W t op rd a b n aq rl) := by
  simp only [dec_parts.j4]
  rw [field_f W 26 1 h0 h1 (by decide) (by decide) (by decide), field_f W 25 1 h0 h1 (by decide) (by decide) (by decide)]
  simp only [Option.bind_some]
  split
  · exact ⟨rd, a, b, n, _, _, rfl, hr, ha, hb, hn⟩
  · exact ⟨rd, a, b, n, _, _, rfl, hr, ha, hb, hn⟩
theorem j3_ok (k : Nat) (W f : Int) (h0 : 0 ≤ W) (h1 : W < 4294967296) (op rd a b n : Int) (aq rl : Bool) (hr : 0 ≤ rd ∧ rd < 32) (ha : 0 ≤ a ∧ a < 32) (hb : 0 ≤ b ∧ b < 32) (hn : -4294967296 ≤ n ∧ n < 4294967296) :
    OkP op (dec_parts.j3 (k + 2) W f op rd a b n aq rl) := by
  simp only [dec_parts.j3]
  split
  · exact j4_ok k W h0 h1 _ op rd a b n aq rl hr ha hb hn
  · exact j4_ok k W h0 h1 _ op rd a b n aq rl hr ha hb hn
theorem j2_ok (k : Nat) (W f : Int) (h0 : 0 ≤ W) (h1 : W < 4294967296) (r1 a1 b1 f' : Int) (t : Bool) (op rd a b n : Int) (aq rl : Bool) (hr1 : 0 ≤ r1 ∧ r1 < 32) (ha1 : 0 ≤ a1 ∧ a1 < 32) (hb1 : 0 ≤ b1 ∧ b1 < 32)
    (hr : 0 ≤ rd ∧ rd < 32) (ha : 0 ≤ a ∧ a < 32) (hb : 0 ≤ b ∧ b < 32) (hn : -4294967296 ≤ n ∧ n < 4294967296) :
    OkP op (dec_parts.j2 (k + 3) W f r1 a1 b1 f' t op rd a b n aq rl) := by
  simp only [dec_parts.j2]
  repeat' split
  all_goals exact j3_ok k W f h0 h1 op _ _ _ n aq rl (by first | exact hr1 | exact hr) (by first | exact ha1 | exact ha) (by first | exact hb1 | exact hb) hn
theorem j1_ok (k : Nat) (W f : Int) (h0 : 0 ≤ W) (h1 : W < 4294967296) (r1 a1 b1 f' : Int) (t : Bool) (op rd a b n : Int) (aq rl : Bool) (hr1 : 0 ≤ r1 ∧ r1 < 32) (ha1 : 0 ≤ a1 ∧ a1 < 32) (hb1 : 0 ≤ b1 ∧ b1 < 32)
    (hr : 0 ≤ rd ∧ rd < 32) (ha : 0 ≤ a ∧ a < 32) (hb : 0 ≤ b ∧ b < 32) (hn : -4294967296 ≤ n ∧ n < 4294967296) :
    OkP op (dec_parts.j1 (k + 4) W f r1 a1 b1 f' t op rd a b n aq rl) := by
  simp only [dec_parts.j1]
  split
  · exact j3_ok (k + 1) W f h0 h1 op rd a1 b1 n aq rl hr ha1 hb1 hn
  · split
    · exact j2_ok k W f h0 h1 r1 a1 b1 _ _ op rd a b n aq rl hr1 ha1 hb1 hr ha hb hn
    · exact j2_ok k W f h0 h1 r1 a1 b1 _ _ op rd a b n aq rl hr1 ha1 hb1 hr ha hb hn
theorem j0_ok (k : Nat) (W f : Int) (h0 : 0 ≤ W) (h1 : W < 4294967296) (r1 a1 b1 f' : Int) (t : Bool) (op rd a b n : Int) (aq rl : Bool) (hr1 : 0 ≤ r1 ∧ r1 < 32) (ha1 : 0 ≤ a1 ∧ a1 < 32) (hb1 : 0 ≤ b1 ∧ b1 < 32)
    (hr : 0 ≤ rd ∧ rd < 32) (ha : 0 ≤ a ∧ a < 32) (hb : 0 ≤ b ∧ b < 32) (hn : -4294967296 ≤ n ∧ n < 4294967296) :
    OkP op (dec_parts.j0 (k + 5) W f r1 a1 b1 f' t op rd a b n aq rl) := by
  simp only [dec_parts.j0]
  split
  · exact j3_ok (k + 2) W f h0 h1 op r1 a b n aq rl hr1 ha hb hn
  · split
    · exact j1_ok k W f h0 h1 r1 a1 b1 _ _ op rd a b n aq rl hr1 ha1 hb1 hr ha hb hn
    · exact j1_ok k W f h0 h1 r1 a1 b1 _ _ op rd a b n aq rl hr1 ha1 hb1 hr ha hb hn
theorem parts_ok (k : Nat) (hk : 20 ≤ k) (W op : Int) (h0 : 0 ≤ W) (h1 : W < 4294967296) : OkP op (dec_parts.f k W op) := by
  obtain ⟨k, rfl⟩ : ∃ m, k = m + 5 := ⟨k - 5, by omega⟩
  unfold dec_parts.f
  obtain ⟨n, en, hn⟩ := immediate_ok W (formOf op) h0 h1
  rw [form_f (k + 5) (by omega)]
  simp only [Option.bind_some]
  rw [en, field_f W 7 5 h0 h1 (by decide) (by decide) (by decide), field_f W 15 5 h0 h1 (by decide) (by decide) (by decide), field_f W 20 5 h0 h1 (by decide) (by decide) (by decide)]
  simp only [Option.bind_some]
  have z : (0 : Int) ≤ 0 ∧ (0 : Int) < 32 := by decide
  split
  · exact j0_ok k W _ h0 h1 _ _ _ _ _ op 0 0 0 n false false (fld_lt W 7 5) (fld_lt W 15 5) (fld_lt W 20 5) z z z hn
  · exact j0_ok k W _ h0 h1 _ _ _ _ _ op 0 0 0 n false false (fld_lt W 7 5) (fld_lt W 15 5) (fld_lt W 20 5) z z z hn
theorem pick_l (x0 x1 : Int) (l : List Int) (hl : l.length < 1000) (d : Nat) : ∀ (k i : Nat), i ≤ l.length → l.length - i = d → d < k → ∃ v, dec_pick.l0 k x0 x1 l (l.length : Int) (i : Int) = some v := by
  induction d with
  | zero =>
    intro k i hi hd hk
    obtain ⟨k, rfl⟩ : ∃ m, k = m + 1 := ⟨k - 1, by omega⟩
    simp only [dec_pick.l0]
    rw [if_neg (by omega)]
    exact ⟨_, rfl⟩
  | succ d ih =>
    intro k i hi hd hk
    obtain ⟨k, rfl⟩ : ∃ m, k = m + 1 := ⟨k - 1, by omega⟩
    simp only [dec_pick.l0]
    rw [if_pos (by omega), if_pos (by omega), if_pos (by omega)]
    split
    · exact ⟨_, rfl⟩
    · rw [w64n (x := (i : Int) + 1) (i + 1) (by omega) (by omega)]
      exact ih k (i + 1) (by omega) (by omega) (by omega)
theorem pick_ok (k : Nat) (x0 x1 : Int) (l : List Int) (hl : l.length < 1000) (hk : l.length < k) : ∃ v, dec_pick.f k x0 x1 l = some v := pick_l x0 x1 l hl l.length k 0 (by omega) (by omega) hk
theorem arith_ok (a : Int) (h0 : 0 ≤ a) (h1 : a < 8) (x0 x1 x2 x3 x4 x5 x6 x7 y0 y1 y2 y3 y4 y5 y6 y7 : Int) (t : Bool) : ∃ v, dec_arith.f a x0 x1 x2 x3 x4 x5 x6 x7 y0 y1 y2 y3 y4 y5 y6 y7 t = some v := by
  unfold dec_arith.f
  rw [if_pos ⟨h0, h1⟩]
  exact ⟨_, rfl⟩
theorem some_ok {α β : Type} {o : Option α} (h : ∃ v, o = some v) {g : α → Option β} (hg : ∀ v, ∃ r, g v = some r) : ∃ r, o.bind g = some r := by
  obtain ⟨v, rfl⟩ := h
  exact hg v
theorem ite_ok {α : Type} {c : Prop} [Decidable c] {x y : Option α} (hx : ∃ r, x = some r) (hy : ∃ r, y = some r) : ∃ r, (if c then x else y) = some r := by
  by_cases h : c
  · rw [if_pos h]; exact hx
  · rw [if_neg h]; exact hy
theorem operation_ok (k : Nat) (hk : 40 ≤ k) (W : Int) (h0 : 0 ≤ W) (h1 : W < 4294967296) : ∃ r, dec_operation.f k W = some r := by
  obtain ⟨k, rfl⟩ : ∃ m, k = m + 1 := ⟨k - 1, by omega⟩
  unfold dec_operation.f
  rw [field_f W 12 3 h0 h1 (by decide) (by decide) (by decide), field_f W 25 7 h0 h1 (by decide) (by decide) (by decide), field_f W 0 7 h0 h1 (by decide) (by decide) (by decide)]
  simp only [Option.bind_some]
  have h3 : 0 ≤ fld W 12 3 ∧ fld W 12 3 < 8 := fld_lt W 12 3
  have hi : ∀ v : Int, ∃ r, some v = some r := fun v => ⟨v, rfl⟩
  have hp : ∀ x l, l.length < 30 → ∃ v, dec_pick.f (k + 1) x (fld W 12 3) l = some v := fun x l hl => pick_ok _ _ _ _ (by omega) (by omega)
  repeat' refine ite_ok ?_ ?_
  all_goals first | exact hi _ | exact some_ok (hp _ _ (by decide)) hi | skip
  · refine some_ok ?_ hi
    unfold dec_immediates.f
    rw [field_f W 26 6 h0 h1 (by decide) (by decide) (by decide)]
    simp only [Option.bind_some]
    rw [if_pos h3]
    split
    · exact hi _
    · split
      · exact arith_ok _ h3.1 h3.2 _ _ _ _ _ _ _ _ _ _ _ _ _ _ _ _ _
      · exact hi _
  · refine some_ok ?_ hi
    unfold dec_small.f
    split
    · exact hi _
    · split
      · exact some_ok (arith_ok _ h3.1 h3.2 _ _ _ _ _ _ _ _ _ _ _ _ _ _ _ _ _) hi
      · split
        · exact some_ok (arith_ok _ h3.1 h3.2 _ _ _ _ _ _ _ _ _ _ _ _ _ _ _ _ _) hi
        · exact hi _
  · refine some_ok ?_ hi
    unfold dec_whole.f
    simp only [dec_whole.j0]
    repeat' refine ite_ok ?_ ?_
    all_goals first | exact hi _ | exact some_ok (arith_ok _ h3.1 h3.2 _ _ _ _ _ _ _ _ _ _ _ _ _ _ _ _ _) hi
  · refine some_ok ?_ hi
    unfold dec_half.f
    simp only [dec_half.j0]
    have hq : ∃ v, dec_pick.f k 58 (fld W 12 3) ([0, 4, 5, 6, 7] : List Int) = some v := pick_ok _ _ _ _ (by decide) (by simp; omega)
    repeat' refine ite_ok ?_ ?_
    all_goals first | exact hi _ | exact some_ok (arith_ok _ h3.1 h3.2 _ _ _ _ _ _ _ _ _ _ _ _ _ _ _ _ _) hi | exact some_ok hq hi
  · refine some_ok ?_ hi
    unfold dec_atomic.f
    rw [field_f W 27 5 h0 h1 (by decide) (by decide) (by decide)]
    simp only [Option.bind_some]
    refine some_ok (pick_ok _ _ _ _ (by decide) (by simp; omega)) fun v => ?_
    simp only [dec_atomic.j0]
    repeat' refine ite_ok ?_ ?_
    all_goals exact hi _
  · refine some_ok ?_ hi
    unfold dec_system.f
    exact some_ok (pick_ok _ _ _ _ (by decide) (by simp; omega)) hi
/-- What a decoded word is: nothing, with the word itself; or an instruction that may be and whose word it is. -/
theorem decode_ok (k : Nat) (hk : 600 ≤ k) (W : Int) (h0 : 0 ≤ W) (h1 : W < 4294967296) :
    dec_Decode.f k W = some (0, 0, 0, 0, W, false, false) ∨ ∃ op rd a b n aq rl, dec_Decode.f k W = some (op, rd, a, b, n, aq, rl) ∧ op ≠ 0 ∧ enc_Encode.f k op rd a b n aq rl = some (W, 0) := by
  obtain ⟨op, eo⟩ := operation_ok k (by omega) W h0 h1
  obtain ⟨rd, a, b, n, aq, rl, ep, hr, ha, hb, hn⟩ := parts_ok k (by omega) W op h0 h1
  unfold dec_Decode.f
  rw [eo]
  simp only [Option.bind_some]
  rw [ep]
  simp only [Option.bind_some]
  rw [w64 (by omega) (by omega)]
  cases hm : mayF (formOf op) rd a b n aq rl
  · rw [encode_no k (by omega) op rd a b n aq rl (by omega) hm]
    simp only [Option.bind_some]
    rw [if_neg (by decide)]
    exact Or.inl rfl
  · obtain ⟨hf, o1, o2⟩ := form_some hm
    obtain ⟨o, rfl⟩ := Int.eq_ofNat_of_zero_le (show 0 ≤ op by omega)
    obtain ⟨R, rfl⟩ := Int.eq_ofNat_of_zero_le hr.1
    obtain ⟨A, rfl⟩ := Int.eq_ofNat_of_zero_le ha.1
    obtain ⟨B, rfl⟩ := Int.eq_ofNat_of_zero_le hb.1
    obtain ⟨X, eX, hX, _⟩ := encode_f k (by omega) o R A B n aq rl (by omega) (by omega) (by omega) (by omega) hm
    rw [eX]
    simp only [Option.bind_some, if_true]
    by_cases hw : (X : Int) = W
    · rw [if_pos hw]
      exact Or.inr ⟨_, _, _, _, _, _, _, rfl, by omega, hw ▸ eX⟩
    · rw [if_neg hw]
      exact Or.inl rfl
theorem awake05 (k : Nat) (hk : 600 ≤ k) : spinnakerlaw05_awake.f k = some true := by
  have h : spinnakerlaw05_awake.f 60 = some true := by decide +kernel
  exact at_rounds (fun k => spinnakerlaw05_awake.mono k) (show 60 ≤ k by omega) h

/-- The instruction that a word is. -/
def decS (w : Int) : S24 := let o := (dec_Decode.f 1000 w).getD (0, 0, 0, 0, 0, false, false); ⟨o.1, o.2.1, o.2.2.1, o.2.2.2.1, o.2.2.2.2.1, o.2.2.2.2.2.1, o.2.2.2.2.2.2⟩
theorem dec_at (k : Nat) (hk : 1000 ≤ k) (w : Int) (h0 : 0 ≤ w) (h1 : w < 4294967296) :
    dec_Decode.f k w = some ((decS w).f0, (decS w).f1, (decS w).f2, (decS w).f3, (decS w).f4, (decS w).f5, (decS w).f6) := by
  have h : ∃ v, dec_Decode.f 1000 w = some v := by
    rcases decode_ok 1000 (by decide) w h0 h1 with e | ⟨_, _, _, _, _, _, _, e, _⟩
    · exact ⟨_, e⟩
    · exact ⟨_, e⟩
  obtain ⟨v, e⟩ := h
  refine at_rounds (fun k => dec_Decode.mono _ k) hk ?_
  unfold decS
  rw [e]
  rfl
/-- A word of a list of bytes. -/
def wd (L : List Int) (j : Nat) : Int := lev ((L.drop (4 * j)).take 4)
theorem wd_def (L : List Int) (j : Nat) : wd L j = lev ((L.drop (4 * j)).take 4) := rfl
theorem four (L : List Int) (j : Nat) (h : 4 * j + 4 ≤ L.length) : (L.drop (4 * j)).take 4 = [L[4 * j], L[4 * j + 1], L[4 * j + 2], L[4 * j + 3]] := by
  rw [List.drop_eq_getElem_cons (show 4 * j < L.length by omega), List.drop_eq_getElem_cons (show 4 * j + 1 < L.length by omega), List.drop_eq_getElem_cons (show 4 * j + 1 + 1 < L.length by omega),
    List.drop_eq_getElem_cons (show 4 * j + 1 + 1 + 1 < L.length by omega)]
  rfl
theorem wd_lt (L : List Int) (hb : ∀ x ∈ L, 0 ≤ x ∧ x < 256) (j : Nat) (h : 4 * j + 4 ≤ L.length) : 0 ≤ wd L j ∧ wd L j < 4294967296 := by
  have h2 := lev_range ((L.drop (4 * j)).take 4) fun x hx => hb x (List.mem_of_mem_drop (List.mem_of_mem_take hx))
  have hl : ((L.drop (4 * j)).take 4).length = 4 := by simp; omega
  rw [hl] at h2
  exact h2
theorem word_at (k : Nat) (hk : 30 ≤ k) (L : List Int) (hb : ∀ x ∈ L, 0 ≤ x ∧ x < 256) (hs : L.length ≤ 4000) (j : Nat) (h : 4 * j + 4 ≤ L.length) : word_Word.f k L ((4 * j : Nat) : Int) = some (wd L j, 0) := by
  have h2 := wd_lt L hb j h
  unfold word_Word.f
  rw [join_f k L _ 4 hb (by decide) (by decide) (by omega) (by omega), if_pos ⟨by omega, by omega⟩]
  simp only [Option.bind_some, Int.toNat_natCast]
  have e : lev ((L.drop (4 * j)).take (4 : Int).toNat) = wd L j := rfl
  rw [e, Int.emod_eq_of_lt h2.1 h2.2]
attribute [local irreducible] wd
theorem bind_at {α β : Type} {o : Option α} {v : α} (h : o = some v) {g : α → Option β} {r : Option β} (hg : g v = r) : o.bind g = r := by
  rw [h]; exact hg
def items (D : Int → S24) (L : List Int) (m : Nat) : List S24 := (List.range m).map fun j => D (wd L j)
def Decs (D : Int → S24) : Prop := ∀ (k : Nat) (w : Int), 1000 ≤ k → 0 ≤ w → w < 4294967296 → dec_Decode.f k w = some ((D w).f0, (D w).f1, (D w).f2, (D w).f3, (D w).f4, (D w).f5, (D w).f6)
theorem items_len (D : Int → S24) (L : List Int) (m : Nat) : (items D L m).length = m := by simp [items]
theorem items_succ (D : Int → S24) (L : List Int) (j : Nat) : items D L (j + 1) = items D L j ++ [D (wd L j)] := by simp [items, List.range_succ]
theorem all_l (D : Int → S24) (hD : Decs D) (L : List Int) (hb : ∀ x ∈ L, 0 ≤ x ∧ x < 256) (hs : L.length ≤ 4000) (m : Nat) (hm : L.length = 4 * m) (d : Nat) : ∀ (k j : Nat), m - j = d → j ≤ m → 1500 + d < k → dec_All.l0 k L (items D L j) ((4 * j : Nat) : Int) = some (items D L m, 0) := by
  induction d with
  | zero =>
    intro k j hd hj hk
    obtain ⟨k, rfl⟩ : ∃ m, k = m + 1 := ⟨k - 1, by omega⟩
    simp only [dec_All.l0]
    rw [if_neg (by omega), show j = m from by omega]
  | succ d ih =>
    intro k j hd hj hk
    obtain ⟨k, rfl⟩ : ∃ m, k = m + 1 := ⟨k - 1, by omega⟩
    have H2 := Aside0.mk (wd_lt L hb j (by omega))
    have hl := items_len D L j
    simp only [dec_All.l0]
    rw [if_pos (by omega)]
    refine bind_at (word_at k (by omega) L hb hs j (by omega)) ?_
    refine bind_at (hD k (wd L j) (by omega) H2.out.1 H2.out.2) ?_
    refine (if_pos (show (items D L j).length < 2932031007402 by omega)).trans ?_
    rw [w64n (x := ((4 * j : Nat) : Int) + 4) (4 * (j + 1)) (by omega) (by omega)]
    have q := ih k (j + 1) (by omega) (by omega) (by omega)
    rw [items_succ D L j] at q
    exact q
theorem l1_step (k : Nat) (L : List Int) (Y : List S24) (i t : Nat) (x6 x7 y : Int) (e : x7 = t) (hy : y = x7 - 1) (h : 4 * i + t < L.length) (hs : L.length ≤ 4000) :
    spinnakerlaw05_DecLists.l1 (k + 1) L Y i x6 x7 = spinnakerlaw05_DecLists.l1 k L Y i (((256 * x6) % 4294967296 + L[4 * i + t] % 4294967296) % 4294967296) y := by
  subst hy
  subst e
  simp only [spinnakerlaw05_DecLists.l1]
  rw [if_pos (by omega), w64n (x := 4 * (i : Int)) (4 * i) (by omega) (by omega), w64n (x := ((4 * i : Nat) : Int) + t) (4 * i + t) (by omega) (by omega), if_pos (by omega), if_pos (by omega), rd_get L (4 * i + t) h,
    w64 (x := (t : Int) - 1) (by omega) (by omega)]
theorem rd_S (L : List S24) (i : Nat) (h : i < L.length) : rd_T24 L (i : Int) = L[i] := by unfold rd_T24; simp [h]
theorem item_at (D : Int → S24) (L : List Int) (m i : Nat) (h : i < m) : rd_T24 (items D L m) (i : Int) = D (wd L i) := by
  rw [rd_S _ _ (by rw [items_len]; exact h)]
  simp [items]
theorem lists_l (D : Int → S24) (hD : Decs D) (L : List Int) (hb : ∀ x ∈ L, 0 ≤ x ∧ x < 256) (hs : L.length ≤ 4000) (m : Nat) (hm : L.length = 4 * m) (d : Nat) : ∀ (k i : Nat), m - i = d → i ≤ m → 2000 + 10 * d < k → spinnakerlaw05_DecLists.l0 k L (items D L m) (i : Int) = some true := by
  induction d with
  | zero =>
    intro k i hd hj hk
    obtain ⟨k, rfl⟩ : ∃ m, k = m + 1 := ⟨k - 1, by omega⟩
    have hl := items_len D L m
    simp only [spinnakerlaw05_DecLists.l0]
    rw [if_neg (by omega), awake05 k (by omega)]
    rfl
  | succ d ih =>
    intro k i hd hj hk
    obtain ⟨k, rfl⟩ : ∃ m, k = m + 6 := ⟨k - 6, by omega⟩
    have hl := items_len D L m
    have H2 := Aside0.mk (wd_lt L hb i (by omega))
    simp only [spinnakerlaw05_DecLists.l0]
    rw [if_pos (by omega)]
    rw [l1_step (k + 4) L _ i 3 0 3 2 rfl (by decide) (by omega) hs, l1_step (k + 3) L _ i 2 _ 2 1 rfl (by decide) (by omega) hs, l1_step (k + 2) L _ i 1 _ 1 0 rfl (by decide) (by omega) hs, l1_step (k + 1) L _ i 0 _ 0 (-1) rfl (by decide) (by omega) hs]
    have b0 := hb L[4 * i] (List.getElem_mem (by omega))
    have b1 := hb L[4 * i + 1] (List.getElem_mem (by omega))
    have b2 := hb L[4 * i + 2] (List.getElem_mem (by omega))
    have b3 := hb L[4 * i + 3] (List.getElem_mem (by omega))
    have ew : ∀ x : Int, x = ((256 * (((256 * (((256 * (((256 * 0) % 4294967296 + L[4 * i + 3] % 4294967296) % 4294967296)) % 4294967296 + L[4 * i + 2] % 4294967296) % 4294967296)) % 4294967296 + L[4 * i + 1] % 4294967296) % 4294967296)) % 4294967296 + L[4 * i] % 4294967296) % 4294967296 → x = wd L i := by
      intro x hx
      rw [wd_def]
      rw [four L i (by omega)]
      simp only [lev]
      rw [hx]
      clear hx ih
      omega
    have ez := ew _ rfl
    simp only [Nat.add_zero] at ez ⊢
    rw [ez]
    clear ez ew b0 b1 b2 b3
    simp only [spinnakerlaw05_DecLists.l1]
    rw [if_neg (by decide), if_pos (by omega), if_pos (by omega), item_at D L m i (by omega)]
    refine bind_at (hD k (wd L i) (by omega) H2.out.1 H2.out.2) ?_
    refine (if_neg (by simp)).trans ?_
    rw [wu64, Int.emod_eq_of_lt H2.out.1 (Int.lt_trans H2.out.2 (by decide))]
    refine bind_at (ref_bytes k (wd L i) 4 H2.out.1 (Int.lt_trans H2.out.2 (by decide)) (by decide) (by decide) (by simp; omega)) ?_
    rw [w64n (x := 4 * (i : Int)) (4 * i) (by omega) (by omega), w64n (x := ((4 * i : Nat) : Int) + 4) (4 * i + 4) (by omega) (by omega), w64n (x := (i : Int) + 1) (i + 1) (by omega) (by omega), if_pos (by omega), if_pos (by omega), if_pos (by omega)]
    have es : (L.take ((4 * i + 4 : Nat) : Int).toNat).drop ((4 * i : Nat) : Int).toNat = (L.drop (4 * i)).take 4 := by
      simp only [Int.toNat_natCast]
      rw [List.drop_take]
      congr 1
      omega
    have hl4 : ((L.drop (4 * i)).take 4).length = 4 := by simp; omega
    have ed : dig (wd L i) (4 : Int).toNat = (L.drop (4 * i)).take 4 := by
      have h := dig_lev ((L.drop (4 * i)).take 4) fun x hx => hb x (List.mem_of_mem_drop (List.mem_of_mem_take hx))
      rw [hl4] at h
      rw [wd_def]
      exact h
    rw [es, ed]
    refine bind_at ((ref_same k _ _ (by omega) (by omega)).trans (by rw [decide_eq_true rfl])) ?_
    refine (if_pos rfl).trans ?_
    exact ih k (i + 1) (by omega) (by omega) (by omega)
theorem DecLists : spinnakerlaw05_DecLists.Pure := by
  intro L hl hl2 hb
  have hb : ∀ x ∈ L, 0 ≤ x ∧ x < 256 := fun x hx => wf_u8 (hb x hx)
  clear hl hl2
  obtain ⟨D, hD⟩ : ∃ D, Decs D := ⟨decS, fun k w hk h0 h1 => dec_at k hk w h0 h1⟩
  refine ⟨20000, ?_⟩
  unfold spinnakerlaw05_DecLists.f
  by_cases hs : (L.length : Int) > 4000
  · rw [if_pos hs, awake05 _ (by decide)]; rfl
  rw [if_neg hs]
  unfold dec_All.f
  by_cases h4 : (L.length : Int) % 4 = 0
  · obtain ⟨m, hm⟩ : ∃ m, L.length = 4 * m := ⟨L.length / 4, by omega⟩
    have ha := all_l D hD L hb (by omega) m hm m 20000 0 (by omega) (by omega) (by omega)
    have hz : items D L 0 = [] := rfl
    have hi := items_len D L m
    rw [hz] at ha
    rw [if_pos h4]
    refine bind_at ha ?_
    rw [if_pos h4, w64n (x := (L.length : Int) / 4) m (by omega) (by omega)]
    refine (if_pos (show ((items D L m).length : Int) = m by omega)).trans ?_
    have hj : spinnakerlaw05_DecLists.j0 (19999 + 1) L (items D L m) ((0 : Int) != 0) = some true := by
      simp only [spinnakerlaw05_DecLists.j0]
      rw [if_neg (by decide)]
      exact lists_l D hD L hb (by omega) m hm m 19999 0 (by omega) (by omega) (by omega)
    exact hj
  · rw [if_neg h4]
    refine bind_at rfl ?_
    rw [if_neg h4]
    refine (if_pos rfl).trans ?_
    refine (if_pos rfl).trans ?_
    exact bind_at (awake05 _ (by decide)) rfl

end Go.Proofs.YtffehgfjjagibaaDoor.Pure
