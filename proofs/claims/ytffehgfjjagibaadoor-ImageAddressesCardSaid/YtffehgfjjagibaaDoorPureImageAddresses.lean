/- PC and Addr are inverted by Fetch and Place; the listed table isa.names is tied to the program's text; no other condition. -/
import Derived.Test.YtffehgfjjagibaaDoorGImageAddressesx11
import Derived.Test.YtffehgfjjagibaaDoorOpenImageAddresses
namespace Go.Proofs.YtffehgfjjagibaaDoor.Pure
open Go.RowKit Go.Proofs.YtffehgfjjagibaaDoor.GImageAddresses Go.Proofs.YtffehgfjjagibaaDoorW.PrintWords Go.Proofs.YtffehgfjjagibaaDoorW.PrintLast Go.Proofs.YtffehgfjjagibaaDoorW.PrintMore
set_option linter.unusedVariables false
set_option linter.unusedSimpArgs false
attribute [local irreducible] shl shr

/-- Numbers that need no wrapping, and two's complement by its lowest bits. -/
theorem w64 {x : Int} (h0 : -9223372036854775808 ≤ x) (h1 : x < 9223372036854775808) : wrap64 x = x := by
  unfold wrap64; omega
theorem w64n {x : Int} (n : Nat) (h : x = n) (hn : n < 9223372036854775808) : wrap64 x = (n : Int) := by
  rw [w64 (by omega) (by omega), h]
theorem wu64 (x : Int) : IntKind.u64.wrap x = x % 18446744073709551616 := by
  simp [IntKind.wrap, IntKind.bits, IntKind.signed]
theorem wf_i64 {x : Int} (h : (Lit.int .i64 x).wf = true) : -9223372036854775808 ≤ x ∧ x < 9223372036854775808 := by
  simp [Lit.wf, IntKind.min, IntKind.max, IntKind.bits, IntKind.signed] at h; omega
theorem wf_u32 {x : Int} (h : (Lit.int .u32 x).wf = true) : 0 ≤ x ∧ x < 4294967296 := by
  simp [Lit.wf, IntKind.min, IntKind.max, IntKind.bits, IntKind.signed] at h; omega
theorem p64 : (2 : Int) ^ 64 = 18446744073709551616 := by decide
theorem p63 : (2 : Int) ^ 63 = 9223372036854775808 := by decide
theorem p_pos (n : Nat) : (0 : Int) < 2 ^ n := Int.pow_pos (by decide)
theorem p_add (a b : Nat) : (2 : Int) ^ (a + b) = 2 ^ a * 2 ^ b := Int.pow_add 2 a b
theorem p_le {a b : Nat} (h : a ≤ b) : (2 : Int) ^ a ≤ 2 ^ b := by
  obtain ⟨c, rfl⟩ := Nat.exists_eq_add_of_le h
  rw [p_add]
  have h1 : (2 : Int) ^ a * 1 ≤ 2 ^ a * 2 ^ c := Int.mul_le_mul_of_nonneg_left (by have := p_pos c; omega) (Int.le_of_lt (p_pos a))
  omega
theorem p_succ (n : Nat) : (2 : Int) ^ (n + 1) = 2 * 2 ^ n := by rw [p_add]; omega

/-- The number with a sign that the lowest n bits are. -/
def sgn (v : Int) (n : Nat) : Int := if v % 2 ^ n < 2 ^ (n - 1) then v % 2 ^ n else v % 2 ^ n - 2 ^ n

theorem mod_mod {v : Int} {a b : Nat} (h : a ≤ b) : v % 2 ^ b % 2 ^ a = v % 2 ^ a := by
  obtain ⟨c, rfl⟩ := Nat.exists_eq_add_of_le h
  exact Int.emod_emod_of_dvd v ⟨2 ^ c, p_add a c⟩
theorem sgn_range (v : Int) (n : Nat) (h : 1 ≤ n) : -2 ^ (n - 1) ≤ sgn v n ∧ sgn v n < 2 ^ (n - 1) := by
  have h0 := Int.emod_nonneg v (Int.ne_of_gt (p_pos n))
  have h1 := Int.emod_lt_of_pos v (p_pos n)
  have h2 : (2 : Int) ^ n = 2 * 2 ^ (n - 1) := by rw [← p_succ]; congr 1; omega
  unfold sgn
  split <;> omega
/-- Which number has the same lowest bits and fits is the one. -/
theorem sgn_self {v : Int} {n : Nat} (h : 1 ≤ n) (h0 : -2 ^ (n - 1) ≤ v) (h1 : v < 2 ^ (n - 1)) : sgn v n = v := by
  have h2 : (2 : Int) ^ n = 2 * 2 ^ (n - 1) := by rw [← p_succ]; congr 1; omega
  have hp := p_pos (n - 1)
  unfold sgn
  by_cases hv : 0 ≤ v
  · have e : v % 2 ^ n = v := Int.emod_eq_of_lt hv (by omega)
    rw [e, if_pos h1]
  · have e : v % 2 ^ n = v + 2 ^ n := by
      rw [← Int.add_emod_right]; exact Int.emod_eq_of_lt (by omega) (by omega)
    rw [e, if_neg (by omega)]; omega
theorem shl_shr (v : Int) (n : Nat) (h1 : 1 ≤ n) (h64 : n ≤ 64) :
    shr .i64 (wrap64 (shl .u64 (v % 18446744073709551616) (64 - (n : Int)))) (64 - (n : Int)) = sgn v n := by
  have hy : (64 - (n : Int)).toNat = 64 - n := by omega
  have hm : min (64 - n) 64 = 64 - n := by omega
  unfold shl shr
  rw [hy, show IntKind.u64.bits = 64 from rfl, show IntKind.i64.bits = 64 from rfl, hm, wu64]
  have hP := p_pos (64 - n)
  have hR := p_pos (n - 1)
  have hQ : (2 : Int) ^ n = 2 * 2 ^ (n - 1) := by rw [← p_succ]; congr 1; omega
  have hPQ : (2 : Int) ^ n * 2 ^ (64 - n) = 18446744073709551616 := by
    rw [← p_add, show n + (64 - n) = 64 from by omega]; exact p64
  have hRP : (2 : Int) ^ (n - 1) * 2 ^ (64 - n) = 9223372036854775808 := by
    rw [← p_add, show n - 1 + (64 - n) = 63 from by omega]; exact p63
  have e1 : v % 18446744073709551616 * 2 ^ (64 - n) % 18446744073709551616 = (v % 2 ^ n) * 2 ^ (64 - n) := by
    have e2 : (v % 18446744073709551616) % 2 ^ n = v % 2 ^ n := by rw [← p64]; exact mod_mod h64
    rw [← e2, Int.mul_comm (v % 18446744073709551616 % 2 ^ n), ← Int.mul_emod_mul_of_pos _ _ hP, Int.mul_comm (2 ^ (64 - n)) (2 ^ n), hPQ, Int.mul_comm (2 ^ (64 - n))]
  rw [e1]
  have h0 := Int.emod_nonneg v (Int.ne_of_gt (p_pos n))
  have h3 := Int.emod_lt_of_pos v (p_pos n)
  unfold sgn
  generalize v % 2 ^ n = m at h0 h3 ⊢
  generalize (2 : Int) ^ (64 - n) = P at hP hPQ hRP ⊢
  generalize (2 : Int) ^ (n - 1) = R at hR hQ hRP ⊢
  rw [hQ] at h3 hPQ ⊢
  split
  · rename_i hlt
    have a1 : 0 ≤ m * P := Int.mul_nonneg h0 (Int.le_of_lt hP)
    have a2 : m * P < R * P := Int.mul_lt_mul_of_pos_right hlt hP
    rw [w64 (by omega) (by omega), Int.mul_ediv_cancel _ (Int.ne_of_gt hP)]
  · rename_i hge
    have a1 : R * P ≤ m * P := Int.mul_le_mul_of_nonneg_right (by omega) (Int.le_of_lt hP)
    have a2 : m * P < 2 * R * P := Int.mul_lt_mul_of_pos_right h3 hP
    have e3 : wrap64 (m * P) = (m - 2 * R) * P := by
      rw [Int.sub_mul]; unfold wrap64; omega
    rw [e3, Int.mul_ediv_cancel _ (Int.ne_of_gt hP)]

theorem wrap32n (n : Int) (h0 : 0 ≤ n) (h1 : n < 2 ^ 32) : IntKind.u32.wrap n = n := by
  rw [Go.IntKind.wrap_u32]; rw [show (2 : Int) ^ 32 = 4294967296 from by decide] at h1; omega
theorem and32 (a b : Nat) (ha : a < 2 ^ 32) (hb : b < 2 ^ 32) : Go.bits .and .u32 (a : Int) (b : Int) = ((a &&& b : Nat) : Int) :=
  (Go.bits_nat .u32 32 (by decide) wrap32n a b ha hb).1
theorem or32 (a b : Nat) (ha : a < 2 ^ 32) (hb : b < 2 ^ 32) : Go.bits .or .u32 (a : Int) (b : Int) = ((a ||| b : Nat) : Int) :=
  (Go.bits_nat .u32 32 (by decide) wrap32n a b ha hb).2
theorem andnot32 (a b : Nat) (ha : a < 2 ^ 32) (hb : b < 2 ^ 32) : ∃ c : Nat, Go.bits .andNot .u32 (a : Int) (b : Int) = (c : Int) ∧ c < 2 ^ 32 ∧ ∀ i, c.testBit i = (a.testBit i && !b.testBit i) := by
  have e : Go.bits .andNot .u32 (a : Int) (b : Int) = IntKind.u32.wrap ((BitVec.ofInt 32 (a : Int) &&& ~~~ BitVec.ofInt 32 (b : Int)).toNat : Int) := rfl
  refine ⟨(BitVec.ofInt 32 (a : Int) &&& ~~~ BitVec.ofInt 32 (b : Int)).toNat, ?_, BitVec.isLt _, fun i => ?_⟩
  · rw [e]
    refine wrap32n _ (Int.natCast_nonneg _) ?_
    have := (BitVec.ofInt 32 (a : Int) &&& ~~~ BitVec.ofInt 32 (b : Int)).isLt
    exact_mod_cast this
  · rw [BitVec.testBit_toNat, BitVec.getLsbD_and, BitVec.getLsbD_not]
    have h1 : (BitVec.ofInt 32 (a : Int)).getLsbD i = a.testBit i := by
      rw [BitVec.ofInt_natCast, ← BitVec.testBit_toNat, BitVec.toNat_ofNat, Nat.mod_eq_of_lt ha]
    have h2 : (BitVec.ofInt 32 (b : Int)).getLsbD i = b.testBit i := by
      rw [BitVec.ofInt_natCast, ← BitVec.testBit_toNat, BitVec.toNat_ofNat, Nat.mod_eq_of_lt hb]
    rw [h1, h2]
    by_cases hi : i < 32
    · simp [hi]
    · have : a.testBit i = false := Nat.testBit_lt_two_pow (Nat.lt_of_lt_of_le ha (Nat.pow_le_pow_right (by decide) (by omega)))
      simp [hi, this]
theorem shl32 (a n : Nat) (hn : n ≤ 32) : shl .u32 (a : Int) (n : Int) = ((a * 2 ^ n % 2 ^ 32 : Nat) : Int) := by
  unfold shl
  rw [show IntKind.u32.bits = 32 from rfl, show ((n : Int)).toNat = n from by omega, Nat.min_eq_left hn, Go.IntKind.wrap_u32]
  simp
theorem shr32 (a n : Nat) (hn : n ≤ 32) : shr .u32 (a : Int) (n : Int) = ((a / 2 ^ n : Nat) : Int) := by
  unfold shr
  rw [show IntKind.u32.bits = 32 from rfl, show ((n : Int)).toNat = n from by omega, Nat.min_eq_left hn]
  simp

theorem toList_d (s : ByteArray) : s.toList = s.data.toList := ByteArray.toList_eq s
theorem name_in {a : Int} (h : 1 ≤ a ∧ a ≤ 87) : isa_Name.f a = some (rdOf ByteArray.empty isaNames a) := by
  unfold isa_Name.f; rw [if_pos h]
theorem name_out {a : Int} (h : ¬ (1 ≤ a ∧ a ≤ 87)) : isa_Name.f a = some (⟨#[]⟩ : ByteArray) := by
  unfold isa_Name.f; rw [if_neg h]
theorem name_ne {a : Int} (h : 1 ≤ a ∧ a ≤ 87) : ¬ (rdOf ByteArray.empty isaNames a).toList = ([] : List UInt8) := by
  rw [toList_d]
  obtain ⟨n, rfl⟩ := Int.eq_ofNat_of_zero_le (show 0 ≤ a by omega)
  have hn : n < 88 := by omega
  have h1 := h.1
  clear h
  revert h1; revert hn; revert n
  decide +kernel
theorem nil_d : (⟨#[]⟩ : ByteArray).toList = ([] : List UInt8) := by rw [toList_d]
/-- An operation's form, plainly. -/
def formOf (a : Int) : Int :=
  if ¬ (1 ≤ a ∧ a ≤ 87) then -1 else if a ≤ 2 then 1 else if a = 3 then 2 else if 5 ≤ a ∧ a ≤ 10 then 4 else if 18 ≤ a ∧ a ≤ 21 then 5
  else if 35 ≤ a ∧ a ≤ 62 then 6 else if 28 ≤ a ∧ a ≤ 30 then 7 else if 32 ≤ a ∧ a ≤ 34 then 8 else if a = 63 then 9 else if a = 64 ∨ a = 65 then 0
  else if a = 66 ∨ a = 77 then 10 else if a > 66 then 11 else 3
theorem form_f {a : Int} (k : Nat) (hk : 10 ≤ k) : isa_Form.f k a = some (formOf a) := by
  by_cases h : 1 ≤ a ∧ a ≤ 87
  · refine at_rounds (fun k => isa_Form.mono a k) hk ?_
    unfold isa_Form.f
    rw [name_in h]
    simp only [Option.bind_some]
    rw [if_neg (name_ne h)]
    obtain ⟨n, rfl⟩ := Int.eq_ofNat_of_zero_le (show 0 ≤ a by omega)
    have hn : n < 88 := by omega
    have h1 := h.1
    clear h hk
    revert h1; revert hn; revert n
    decide +kernel
  · unfold isa_Form.f formOf
    rw [name_out h, if_pos h]
    simp only [Option.bind_some]
    rw [if_pos nil_d]

theorem in_f (a x y : Int) : isa_in.f a x y = some (decide (x ≤ a ∧ a ≤ y)) := by
  unfold isa_in.f
  by_cases h : a ≥ x
  · rw [if_pos h]; congr 1; rw [decide_eq_decide]; omega
  · rw [if_neg h]; congr 1; symm; rw [decide_eq_false_iff_not]; omega

theorem fits_f (v n : Int) (h0 : -9223372036854775808 ≤ v) (h1 : v < 9223372036854775808) (h : -9223372036854775808 ≤ n) (h' : n < 9223372036854775808) :
    word_Fits.f v n = some (decide (1 ≤ n ∧ n ≤ 64 ∧ -2 ^ (n.toNat - 1) ≤ v ∧ v < 2 ^ (n.toNat - 1))) := by
  unfold word_Fits.f
  by_cases hn1 : n < 1
  · rw [if_pos hn1]; congr 1; symm; simp; omega
  · rw [if_neg hn1]
    by_cases hn2 : n > 64
    · rw [if_pos hn2]; congr 1; symm; simp; omega
    · rw [if_neg hn2, w64 (by omega) (by omega), if_pos (by omega), wu64]
      have e := shl_shr v n.toNat (by omega) (by omega)
      rw [show ((n.toNat : Nat) : Int) = n from by omega] at e
      rw [e]
      congr 1
      rw [Bool.eq_iff_iff]
      simp only [beq_iff_eq, decide_eq_true_eq]
      constructor
      · intro hh
        have := sgn_range v n.toNat (by omega)
        rw [hh] at this
        exact ⟨by omega, by omega, this⟩
      · intro hh
        exact sgn_self (by omega) hh.2.2.1 hh.2.2.2

theorem form_cases (a : Int) : formOf a = -1 ∨ formOf a = 0 ∨ formOf a = 1 ∨ formOf a = 2 ∨ formOf a = 3 ∨ formOf a = 4 ∨ formOf a = 5 ∨ formOf a = 6 ∨ formOf a = 7 ∨ formOf a = 8 ∨ formOf a = 9 ∨ formOf a = 10 ∨ formOf a = 11 := by
  by_cases h : 1 ≤ a ∧ a ≤ 87
  · obtain ⟨n, rfl⟩ := Int.eq_ofNat_of_zero_le (show 0 ≤ a by omega)
    have hn : n < 88 := by omega
    have h1 := h.1
    clear h
    revert h1; revert hn; revert n
    decide +kernel
  · left; unfold formOf; rw [if_pos h]
theorem form_neg (a : Int) : formOf a = -1 ↔ ¬ (1 ≤ a ∧ a ≤ 87) := by
  constructor
  · intro h hc
    revert h
    obtain ⟨n, rfl⟩ := Int.eq_ofNat_of_zero_le (show 0 ≤ a by omega)
    have hn : n < 88 := by omega
    have h1 := hc.1
    clear hc
    revert h1; revert hn; revert n
    decide +kernel
  · intro h; unfold formOf; rw [if_pos h]
/-- Which fields a form has, which immediates it may have. -/
def hasRd (f : Int) : Bool := f == 1 || f == 2 || f == 3 || f == 6 || f == 7 || f == 8 || f == 10 || f == 11
def hasA (f : Int) : Bool := f == 3 || f == 4 || f == 5 || f == 6 || f == 7 || f == 8 || f == 10 || f == 11
def hasB (f : Int) : Bool := f == 4 || f == 5 || f == 6 || f == 11
def regOk (r : Int) (has : Bool) : Bool := decide (0 ≤ r ∧ r < 32) && (has || r == 0)
def immOk (f n : Int) : Bool :=
  if f = 1 then decide (-524288 ≤ n ∧ n ≤ 524287) else if f = 2 then decide (-1048576 ≤ n ∧ n ≤ 1048575) && (Int.tmod n 2 == 0)
  else if f = 4 then decide (-4096 ≤ n ∧ n ≤ 4095) && (Int.tmod n 2 == 0) else if f = 3 ∨ f = 5 then decide (-2048 ≤ n ∧ n ≤ 2047)
  else if f = 7 then decide (0 ≤ n ∧ n ≤ 63) else if f = 8 then decide (0 ≤ n ∧ n ≤ 31) else if f = 9 then decide (0 ≤ n ∧ n ≤ 255) else n == 0
def mayF (f rd a b n : Int) (aq rl : Bool) : Bool :=
  decide (0 ≤ f) && regOk rd (hasRd f) && regOk a (hasA f) && regOk b (hasB f) && immOk f n && (f == 10 || f == 11 || (!aq && !rl))
theorem reg_f (r : Int) (has : Bool) : isa_register.f r has = some (regOk r has) := by
  unfold isa_register.f regOk
  by_cases h0 : r ≥ 0
  · rw [if_pos h0]
    by_cases h1 : r < 32
    · rw [if_pos h1, decide_eq_true (show 0 ≤ r ∧ r < 32 from ⟨h0, h1⟩)]
      cases has <;> simp
    · rw [if_neg h1, decide_eq_false (show ¬ (0 ≤ r ∧ r < 32) by omega)]; rfl
  · rw [if_neg h0, decide_eq_false (show ¬ (0 ≤ r ∧ r < 32) by omega)]; rfl
theorem fits_n (v : Int) (hv : -9223372036854775808 ≤ v ∧ v < 9223372036854775808) :
    word_Fits.f v 20 = some (decide (-524288 ≤ v ∧ v ≤ 524287)) ∧ word_Fits.f v 21 = some (decide (-1048576 ≤ v ∧ v ≤ 1048575)) ∧
    word_Fits.f v 13 = some (decide (-4096 ≤ v ∧ v ≤ 4095)) ∧ word_Fits.f v 12 = some (decide (-2048 ≤ v ∧ v ≤ 2047)) := by
  refine ⟨?_, ?_, ?_, ?_⟩
  · rw [fits_f v 20 hv.1 hv.2 (by decide) (by decide), show (2 : Int) ^ ((20 : Int).toNat - 1) = 524288 from by decide]
    congr 1; rw [decide_eq_decide]; omega
  · rw [fits_f v 21 hv.1 hv.2 (by decide) (by decide), show (2 : Int) ^ ((21 : Int).toNat - 1) = 1048576 from by decide]
    congr 1; rw [decide_eq_decide]; omega
  · rw [fits_f v 13 hv.1 hv.2 (by decide) (by decide), show (2 : Int) ^ ((13 : Int).toNat - 1) = 4096 from by decide]
    congr 1; rw [decide_eq_decide]; omega
  · rw [fits_f v 12 hv.1 hv.2 (by decide) (by decide), show (2 : Int) ^ ((12 : Int).toNat - 1) = 2048 from by decide]
    congr 1; rw [decide_eq_decide]; omega
theorem if_true_some {b c : Bool} : (if b = true then some c else some false) = some (b && c) := by cases b <;> rfl
theorem imm_f (k : Nat) (f n : Int) (hk : 2 ≤ k) (hn : -9223372036854775808 ≤ n ∧ n < 9223372036854775808) (hf : f = 0 ∨ f = 1 ∨ f = 2 ∨ f = 3 ∨ f = 4 ∨ f = 5 ∨ f = 6 ∨ f = 7 ∨ f = 8 ∨ f = 9 ∨ f = 10 ∨ f = 11) :
    isa_immediate.f k f n = some (immOk f n) := by
  obtain ⟨k, rfl⟩ : ∃ m, k = m + 1 := ⟨k - 1, by omega⟩
  obtain ⟨h20, h21, h13, h12⟩ := fits_n n hn
  unfold isa_immediate.f
  simp only [isa_immediate.j0]
  rw [h20, h21, h13, h12, in_f, in_f, in_f]
  rcases hf with rfl | rfl | rfl | rfl | rfl | rfl | rfl | rfl | rfl | rfl | rfl | rfl <;> simp [immOk, if_true_some]
theorem fields_f (k : Nat) (f : Int) (hk : 5 ≤ k) (hf : f = 0 ∨ f = 1 ∨ f = 2 ∨ f = 3 ∨ f = 4 ∨ f = 5 ∨ f = 6 ∨ f = 7 ∨ f = 8 ∨ f = 9 ∨ f = 10 ∨ f = 11) :
    isa_fields.f k f = some (hasRd f, hasA f, hasB f) := by
  refine at_rounds (fun k => isa_fields.mono f k) hk ?_
  rcases hf with rfl | rfl | rfl | rfl | rfl | rfl | rfl | rfl | rfl | rfl | rfl | rfl <;> decide +kernel
theorem may_f3 (k : Nat) (op rd a b n : Int) (aq rl : Bool) (hk : 20 ≤ k) (hn : -9223372036854775808 ≤ n ∧ n < 9223372036854775808) :
    isa_May.f k op rd a b n aq rl = some (mayF (formOf op) rd a b n aq rl) := by
  unfold isa_May.f
  rw [form_f k (by omega)]
  simp only [Option.bind_some]
  by_cases hf : formOf op = -1
  · rw [hf, if_pos (by decide)]; simp [mayF]
  · have hf' : formOf op = 0 ∨ formOf op = 1 ∨ formOf op = 2 ∨ formOf op = 3 ∨ formOf op = 4 ∨ formOf op = 5 ∨ formOf op = 6 ∨ formOf op = 7 ∨ formOf op = 8 ∨ formOf op = 9 ∨ formOf op = 10 ∨ formOf op = 11 := by
      rcases form_cases op with h | h
      · exact absurd h hf
      · exact h
    have h0 : ¬ formOf op < 0 := by omega
    rw [if_neg h0, fields_f k _ (by omega) hf']
    simp only [Option.bind_some]
    have hj : ∀ ord : Bool, isa_May.j0 k (formOf op) (hasRd (formOf op)) (hasA (formOf op)) (hasB (formOf op)) ord op rd a b n aq rl =
        some (regOk rd (hasRd (formOf op)) && regOk a (hasA (formOf op)) && regOk b (hasB (formOf op)) && immOk (formOf op) n && (ord || (!aq && !rl))) := by
      intro ord
      obtain ⟨k, rfl⟩ : ∃ m, k = m + 1 := ⟨k - 1, by omega⟩
      simp only [isa_May.j0]
      rw [reg_f, reg_f, reg_f, imm_f k _ n (by omega) hn hf']
      simp only [Option.bind_some]
      cases regOk rd (hasRd (formOf op)) <;> cases regOk a (hasA (formOf op)) <;> cases regOk b (hasB (formOf op)) <;> cases immOk (formOf op) n <;> cases ord <;> cases aq <;> simp
    rw [hj, hj]
    unfold mayF
    rw [decide_eq_true (show 0 ≤ formOf op by omega)]
    by_cases h10 : formOf op = 10
    · rw [if_pos h10, h10]; simp
    · rw [if_neg h10, show (formOf op == 10) = false from by simpa using h10]; simp

theorem may_f (a n : Int) (h : -9223372036854775808 ≤ n) (h' : n < 9223372036854775808) : word_may.f a n = some (decide (0 ≤ a ∧ 1 ≤ n ∧ n ≤ 32 ∧ a ≤ 32 - n)) := by
  unfold word_may.f
  by_cases h0 : a ≥ 0
  · rw [if_pos h0]
    by_cases h1 : n ≥ 1
    · rw [if_pos h1]
      by_cases h2 : n ≤ 32
      · rw [if_pos h2, w64 (by omega) (by omega)]
        congr 1; simp only [decide_eq_decide]; omega
      · rw [if_neg h2]; congr 1; symm; simp; omega
    · rw [if_neg h1]; congr 1; symm; simp; omega
  · rw [if_neg h0]; congr 1; symm; simp; omega

theorem mask_f (n : Nat) (h1 : 1 ≤ n) (h : n ≤ 32) : word_mask.f (n : Int) = some ((2 ^ n - 1 : Nat) : Int) := by
  unfold word_mask.f
  rw [if_pos (by omega)]
  congr 1
  unfold shl
  rw [show IntKind.u64.bits = 64 from rfl, show ((n : Int)).toNat = n from by omega, Nat.min_eq_left (by omega), wu64, wu64, Int.one_mul]
  have hp := p_pos n
  have hb : (2 : Int) ^ n ≤ 4294967296 := by have := p_le h; rw [show (2 : Int) ^ 32 = 4294967296 from by decide] at this; exact this
  have hc : ((2 ^ n - 1 : Nat) : Int) = 2 ^ n - 1 := by
    have : 0 < 2 ^ n := Nat.two_pow_pos n
    rw [Int.natCast_sub (by omega)]; simp
  rw [hc]
  generalize (2 : Int) ^ n = P at *
  omega
theorem put_f (W A N V : Nat) (hW : W < 2 ^ 32) (hV : V < 2 ^ 32) (h1 : 1 ≤ N) (hN : A + N ≤ 32) :
    ∃ Y : Nat, word_Put.f (W : Int) (A : Int) (N : Int) (V : Int) = some ((Y : Int), 0) ∧ Y < 2 ^ 32 ∧ ∀ i, Y.testBit i = if A ≤ i ∧ i < A + N then V.testBit (i - A) else W.testBit i := by
  have hm : 2 ^ N - 1 < 2 ^ 32 := by
    have := Nat.pow_le_pow_right (show 0 < 2 by decide) (show N ≤ 32 by omega)
    have := Nat.two_pow_pos N
    omega
  obtain ⟨c, hc, hc32, hcb⟩ := andnot32 W ((2 ^ N - 1) * 2 ^ A % 2 ^ 32) hW (Nat.mod_lt _ (by decide))
  refine ⟨c ||| (V * 2 ^ A % 2 ^ 32 &&& (2 ^ N - 1) * 2 ^ A % 2 ^ 32), ?_, Nat.or_lt_two_pow hc32 (Nat.and_lt_two_pow _ (Nat.mod_lt _ (by decide))), fun i => ?_⟩
  · unfold word_Put.f
    rw [may_f _ _ (by omega) (by omega), decide_eq_true (by omega)]
    simp only [Option.bind_some, if_true]
    rw [mask_f N h1 (by omega)]
    simp only [Option.bind_some]
    rw [if_pos (by omega), shl32 _ A (by omega), shl32 _ A (by omega), hc, and32 _ _ (Nat.mod_lt _ (by decide)) (Nat.mod_lt _ (by decide)), or32 _ _ hc32 (Nat.and_lt_two_pow _ (Nat.mod_lt _ (by decide)))]
  · rw [Nat.testBit_or, hcb, Nat.testBit_and, Nat.testBit_mod_two_pow, Nat.testBit_mod_two_pow, Nat.testBit_mul_two_pow, Nat.testBit_mul_two_pow, Nat.testBit_two_pow_sub_one]
    by_cases hi : A ≤ i ∧ i < A + N
    · rw [if_pos hi, decide_eq_true hi.1, decide_eq_true (show i - A < N by omega), decide_eq_true (show i < 32 by omega)]
      simp
    · rw [if_neg hi]
      by_cases h0 : A ≤ i
      · rw [decide_eq_false (show ¬ i - A < N by omega)]; simp
      · rw [decide_eq_false h0]; simp

/-- A number's 64 bits. -/
def u64N (N : Int) : Nat := (N % 18446744073709551616).toNat
theorem u64N_eq (N : Int) : IntKind.u64.wrap N = (u64N N : Int) := by rw [wu64]; unfold u64N; omega
/-- A field of a word. -/
theorem get_f (W A N : Nat) (hW : W < 2 ^ 32) (h1 : 1 ≤ N) (hN : A + N ≤ 32) : word_Get.f (W : Int) (A : Int) (N : Int) = some (((W / 2 ^ A % 2 ^ N : Nat) : Int), 0) := by
  unfold word_Get.f
  rw [may_f _ _ (by omega) (by omega), decide_eq_true (by omega)]
  simp only [Option.bind_some, if_true]
  rw [if_pos (by omega), mask_f N h1 (by omega)]
  simp only [Option.bind_some]
  have hlt : W / 2 ^ A < 2 ^ 32 := Nat.lt_of_le_of_lt (Nat.div_le_self _ _) hW
  have hm : 2 ^ N - 1 < 2 ^ 32 := by
    have := Nat.pow_le_pow_right (show 0 < 2 by decide) (show N ≤ 32 by omega)
    have := Nat.two_pow_pos N
    omega
  rw [shr32 W A (by omega), and32 _ _ hlt hm, Nat.and_two_pow_sub_one_eq_mod]

theorem sign_f (v n : Int) (h0 : 0 ≤ v) (h1 : v < 18446744073709551616) (h : -9223372036854775808 ≤ n) (h' : n < 9223372036854775808) :
    word_Sign.f v n = some (if 1 ≤ n ∧ n ≤ 32 then (sgn v n.toNat, 0) else (0, 2)) := by
  unfold word_Sign.f
  rw [may_f 0 n h h']
  simp only [Option.bind_some]
  by_cases hn : 1 ≤ n ∧ n ≤ 32
  · rw [if_pos (by simp; omega), if_pos hn, w64 (by omega) (by omega), if_pos (by omega), wu64]
    have e := shl_shr v n.toNat (by omega) (by omega)
    rw [show ((n.toNat : Nat) : Int) = n from by omega] at e
    rw [e]
  · rw [if_neg (by simp; omega), if_neg hn]

/-- A word's bit behind pieces (value, place, width) put one after the other. -/
def cov : List (Nat × Nat × Nat) → Nat → Bool → Bool
  | [], _, acc => acc
  | p :: l, i, acc => cov l i (if p.2.1 ≤ i ∧ i < p.2.1 + p.2.2 then p.1.testBit (i - p.2.1) else acc)
def pc (p : Nat × Nat × Nat) : S65 := ⟨p.1, p.2.1, p.2.2⟩
theorem pack_l (l : List (Nat × Nat × Nat)) (hl : l.length < 1000) (hp : ∀ p ∈ l, p.1 < 2 ^ 32 ∧ 1 ≤ p.2.2 ∧ p.2.1 + p.2.2 ≤ 32) (d : Nat) : ∀ (k i W : Nat), l.length - i = d → i ≤ l.length → d < k → W < 2 ^ 32 →
    ∃ T : Nat, enc_pack.l0 k W (l.map pc) ((l.map pc).length : Int) i = some (T : Int) ∧ T < 2 ^ 32 ∧ ∀ j, T.testBit j = cov (l.drop i) j (W.testBit j) := by
  induction d with
  | zero =>
    intro k i W hd hi hk hW
    obtain ⟨k, rfl⟩ : ∃ m, k = m + 1 := ⟨k - 1, by omega⟩
    simp only [enc_pack.l0]
    rw [List.length_map, if_neg (by omega), List.drop_of_length_le (by omega)]
    exact ⟨W, rfl, hW, fun j => rfl⟩
  | succ d ih =>
    intro k i W hd hi hk hW
    obtain ⟨k, rfl⟩ : ∃ m, k = m + 1 := ⟨k - 1, by omega⟩
    have hil : i < l.length := by omega
    simp only [enc_pack.l0]
    have e : rd_T65 (l.map pc) (i : Int) = pc l[i] := by unfold rd_T65; simp [hil]
    obtain ⟨p1, p2, p3⟩ := hp l[i] (List.getElem_mem hil)
    obtain ⟨Y, hY, hY32, hYb⟩ := put_f W l[i].2.1 l[i].2.2 l[i].1 hW p1 p2 p3
    have hY' : word_Put.f (W : Int) (pc l[i]).f1 (pc l[i]).f2 (pc l[i]).f0 = some ((Y : Int), 0) := hY
    rw [e, hY']
    simp only [Option.bind_some]
    rw [if_pos (by rw [List.length_map]; omega), if_pos (by omega), if_pos (by rw [List.length_map]; omega), w64n (x := (i : Int) + 1) (i + 1) (by omega) (by omega)]
    obtain ⟨T, hT, hT32, hTb⟩ := ih k (i + 1) Y (by omega) (by omega) (by omega) hY32
    refine ⟨T, hT, hT32, fun j => ?_⟩
    rw [hTb, hYb, List.drop_eq_getElem_cons hil]; rfl
theorem pack_f (k : Nat) (l : List (Nat × Nat × Nat)) (hl : l.length < 1000) (hp : ∀ p ∈ l, p.1 < 2 ^ 32 ∧ 1 ≤ p.2.2 ∧ p.2.1 + p.2.2 ≤ 32) (hk : l.length < k) :
    ∃ T : Nat, enc_pack.f k (l.map pc) = some (T : Int) ∧ T < 2 ^ 32 ∧ ∀ j, T.testBit j = cov l j false := by
  unfold enc_pack.f
  obtain ⟨T, h1, h2, h3⟩ := pack_l l hl hp l.length k 0 0 (by omega) (by omega) hk (by decide)
  exact ⟨T, h1, h2, fun j => by rw [h3, Nat.zero_testBit, List.drop_zero]⟩

/-- An operation's word without fields. -/
def wordL : List Nat := [55, 23, 111, 103, 99, 4195, 16483, 20579, 24675, 28771, 3, 4099, 8195, 12291, 16387, 20483, 24579, 35, 4131, 8227, 12323, 19, 8211, 12307, 16403, 24595, 28691, 4115, 20499, 1073762323, 27, 4123, 20507, 1073762331, 51, 1073741875, 4147, 8243, 12339, 16435, 20531, 1073762355, 24627, 28723, 59, 1073741883, 4155, 20539, 1073762363, 33554483, 33558579, 33562675, 33566771, 33570867, 33574963, 33579059, 33583155, 33554491, 33570875, 33574971, 33579067, 33583163, 15, 115, 1048691, 268443695, 402661423, 134225967, 8239, 536879151, 1610620975, 1073750063, 2147491887, 2684362799, 3221233711, 3758104623]
def w2 (o : Nat) : Nat := if o < 77 then wordL.getD (o - 1) 0 else wordL.getD (o - 12) 0 + 4096
def w1 (o : Nat) : Nat := if o = 65 then 115 else w2 o
theorem w2_tab (o : Nat) (h1 : 1 ≤ o) (h2 : o < 88) : True ∧ w2 o < 2 ^ 32 ∧ w1 o < 2 ^ 32 ∧ (o = 65 → w2 o = 1048691) := by
  revert h1; revert h2; revert o; decide +kernel

theorem w1_tab (o : Nat) (h1 : 1 ≤ o) (h2 : o < 88) : (enc_of.f (o : Int)).bind (fun c => enc_pack.f 20 [(⟨c.1, 0, 7⟩ : S65), (⟨c.2.1, 12, 3⟩ : S65), (⟨c.2.2, 25, 7⟩ : S65)]) = some (w1 o : Int) := by
  revert h1; revert h2; revert o; decide +kernel
theorem w1_u (o : Nat) (h1 : 1 ≤ o) (h2 : o < 88) : (formOf o = 1 ∨ formOf o = 2) → (enc_of.f (o : Int)).map (fun c => c.1) = some (w1 o : Int) := by
  revert h1; revert h2; revert o; decide +kernel
def regsOf (f : Int) (R A B : Nat) : List (Nat × Nat × Nat) := (if hasA f then [(A, 15, 5)] else []) ++ (if hasB f then [(B, 20, 5)] else []) ++ (if R = 0 then [] else [(R, 7, 5)])
def vs (V s : Nat) : Nat := V / 2 ^ s
def immsOf (f : Int) (o : Nat) (V : Nat) (aq rl : Bool) : List (Nat × Nat × Nat) :=
  if f = 1 then [(V, 12, 20)] else if f = 2 then [(vs V 20, 31, 1), (vs V 1, 21, 10), (vs V 11, 20, 1), (vs V 12, 12, 8)]
  else if f = 3 then [(V, 20, 12)] else if f = 4 then [(vs V 12, 31, 1), (vs V 5, 25, 6), (vs V 1, 8, 4), (vs V 11, 7, 1)]
  else if f = 5 then [(vs V 5, 25, 7), (V, 7, 5)] else if f = 7 then [(V, 20, 6)] else if f = 8 then [(V, 20, 5)] else if f = 9 then [(V, 20, 8)]
  else if f = 10 ∨ f = 11 then [(aq.toNat, 26, 1), (rl.toNat, 25, 1)] else if o = 65 then [(1, 20, 1)] else []
theorem form_some {op rd a b n : Int} {aq rl : Bool} (hm : mayF (formOf op) rd a b n aq rl = true) :
    (formOf op = 0 ∨ formOf op = 1 ∨ formOf op = 2 ∨ formOf op = 3 ∨ formOf op = 4 ∨ formOf op = 5 ∨ formOf op = 6 ∨ formOf op = 7 ∨ formOf op = 8 ∨ formOf op = 9 ∨ formOf op = 10 ∨ formOf op = 11) ∧ 1 ≤ op ∧ op ≤ 87 := by
  have h0 : ¬ formOf op = -1 := fun h => by rw [h] at hm; simp [mayF] at hm
  refine ⟨?_, ?_⟩
  · rcases form_cases op with h | h
    · exact absurd h h0
    · exact h
  · by_cases h : 1 ≤ op ∧ op ≤ 87
    · exact h
    · exact absurd ((form_neg op).2 h) h0
theorem registers_f (k : Nat) (hk : 30 ≤ k) (op : Int) (R A B : Nat) (n : Int) (aq rl : Bool) (hn : -9223372036854775808 ≤ n ∧ n < 9223372036854775808) (hR : R < 32) (hA : A < 32) (hB : B < 32)
    (hm : mayF (formOf op) R A B n aq rl = true) : enc_registers.f k op R A B n aq rl = some ((regsOf (formOf op) R A B).map pc) := by
  obtain ⟨hf, _⟩ := form_some hm
  have hw : ∀ k, 20 ≤ k → isa_Writes.f k op R A B n aq rl = some (if R = 0 then ((0 : Int), false) else ((R : Int), true)) := by
    intro k hk
    unfold isa_Writes.f
    rw [may_f3 k op R A B n aq rl hk hn, hm]
    simp only [Option.bind_some, if_true]
    by_cases h : R = 0
    · subst h; rfl
    · rw [if_neg (by omega), if_neg h]
  have e : ∀ X : Nat, X < 32 → (X : Int) % 4294967296 = (X : Int) := fun X h => by omega
  obtain ⟨k, rfl⟩ : ∃ m, k = m + 1 := ⟨k - 1, by omega⟩
  unfold enc_registers.f isa_Reads.f
  rw [may_f3 (k + 1) op R A B n aq rl (by omega) hn, hm, form_f (k + 1) (by omega)]
  simp only [Option.bind_some, if_true]
  rw [fields_f (k + 1) _ (by omega) hf]
  simp only [Option.bind_some, enc_registers.j0]
  rw [hw k (by omega), e A hA, e B hB]
  unfold regsOf
  by_cases h : R = 0
  · subst h
    cases hasA (formOf op) <;> cases hasB (formOf op) <;> simp [pc]
  · rw [if_neg h, if_neg h]
    cases hasA (formOf op) <;> cases hasB (formOf op) <;> simp [pc, e R hR]
theorem immediate_f (k : Nat) (hk : 30 ≤ k) (o : Nat) (rd a b n : Int) (aq rl : Bool) (hm : mayF (formOf o) rd a b n aq rl = true) :
    enc_immediate.f k o rd a b n aq rl = some ((immsOf (formOf o) o (u64N n % 2 ^ 32) aq rl).map pc) := by
  obtain ⟨hf, _⟩ := form_some hm
  obtain ⟨k, rfl⟩ : ∃ m, k = m + 1 := ⟨k - 1, by omega⟩
  have e : ((u64N n : Nat) : Int) % 4294967296 = ((u64N n % 2 ^ 32 : Nat) : Int) := by
    rw [show (2 : Nat) ^ 32 = 4294967296 from by decide]; omega
  unfold enc_immediate.f
  rw [form_f (k + 1) (by omega), u64N_eq, e]
  generalize u64N n % 2 ^ 32 = V
  simp only [Option.bind_some, enc_immediate.j0, enc_bit.f]
  by_cases h65 : o = 65
  · subst h65
    cases aq <;> cases rl <;> rcases hf with h | h | h | h | h | h | h | h | h | h | h | h <;> rw [h] <;> simp [immsOf, pc, vs]
  · have h65' : ¬ (o : Int) = 65 := by omega
    cases aq <;> cases rl <;> rcases hf with h | h | h | h | h | h | h | h | h | h | h | h <;> rw [h] <;> simp [immsOf, pc, vs, h65, h65']
theorem regsOf_ok (f : Int) (R A B : Nat) (hR : R < 32) (hA : A < 32) (hB : B < 32) : ∀ p ∈ regsOf f R A B, p.1 < 2 ^ 32 ∧ 1 ≤ p.2.2 ∧ p.2.1 + p.2.2 ≤ 32 := by
  intro p hp
  unfold regsOf at hp
  have h32 : (2 : Nat) ^ 32 = 4294967296 := by decide
  rw [List.mem_append, List.mem_append] at hp
  rcases hp with (hp | hp) | hp
  · split at hp
    · obtain rfl := List.mem_singleton.mp hp; exact ⟨by omega, Nat.le_of_ble_eq_true rfl, Nat.le_of_ble_eq_true rfl⟩
    · exact absurd hp (by simp)
  · split at hp
    · obtain rfl := List.mem_singleton.mp hp; exact ⟨by omega, Nat.le_of_ble_eq_true rfl, Nat.le_of_ble_eq_true rfl⟩
    · exact absurd hp (by simp)
  · split at hp
    · exact absurd hp (by simp)
    · obtain rfl := List.mem_singleton.mp hp; exact ⟨by omega, Nat.le_of_ble_eq_true rfl, Nat.le_of_ble_eq_true rfl⟩
theorem immsOf_ok (f : Int) (o V : Nat) (aq rl : Bool) (hV : V < 2 ^ 32) : ∀ p ∈ immsOf f o V aq rl, p.1 < 2 ^ 32 ∧ 1 ≤ p.2.2 ∧ p.2.1 + p.2.2 ≤ 32 := by
  have hd : ∀ s, vs V s < 2 ^ 32 := fun s => Nat.lt_of_le_of_lt (Nat.div_le_self _ _) hV
  have hb : ∀ x : Bool, x.toNat < 2 ^ 32 := fun x => by cases x <;> decide
  intro p hp
  unfold immsOf at hp
  repeat' (split at hp)
  all_goals simp only [List.mem_cons, List.not_mem_nil, or_false] at hp
  all_goals first | exact hp.elim | (rcases hp with rfl | rfl | rfl | rfl <;> exact ⟨by first | exact hd _ | exact hV | exact hb _ | decide, Nat.le_of_ble_eq_true rfl, Nat.le_of_ble_eq_true rfl⟩) | (rcases hp with rfl | rfl <;> exact ⟨by first | exact hd _ | exact hV | exact hb _ | decide, Nat.le_of_ble_eq_true rfl, Nat.le_of_ble_eq_true rfl⟩) | (obtain rfl := hp; exact ⟨by first | exact hV | decide, Nat.le_of_ble_eq_true rfl, Nat.le_of_ble_eq_true rfl⟩)
theorem regs_len (f : Int) (R A B : Nat) : (regsOf f R A B).length ≤ 3 := by
  unfold regsOf
  repeat' split
  all_goals simp
theorem imms_len (f : Int) (o V : Nat) (aq rl : Bool) : (immsOf f o V aq rl).length ≤ 4 := by
  unfold immsOf
  repeat' split
  all_goals simp
/-- The code's word of an instruction, by its bits. -/
theorem encode_f (k : Nat) (hk : 400 ≤ k) (o R A B : Nat) (n : Int) (aq rl : Bool) (hn : -9223372036854775808 ≤ n ∧ n < 9223372036854775808) (hR : R < 32) (hA : A < 32) (hB : B < 32)
    (hm : mayF (formOf o) R A B n aq rl = true) :
    ∃ W : Nat, enc_Encode.f k o R A B n aq rl = some ((W : Int), 0) ∧ W < 2 ^ 32 ∧ ∀ j, W.testBit j = ((w1 o).testBit j || cov (regsOf (formOf o) R A B ++ immsOf (formOf o) o (u64N n % 2 ^ 32) aq rl) j false) := by
  obtain ⟨hf, h1, h2⟩ := form_some hm
  have ht := w1_tab o (by omega) (by omega)
  have hu := w1_u o (by omega) (by omega)
  obtain ⟨_, _, hw32, _⟩ := w2_tab o (by omega) (by omega)
  obtain ⟨c, hc, hp⟩ := Option.bind_eq_some_iff.mp ht
  have hp' : enc_pack.f k [(⟨c.1, 0, 7⟩ : S65), (⟨c.2.1, 12, 3⟩ : S65), (⟨c.2.2, 25, 7⟩ : S65)] = some (w1 o : Int) := at_rounds (fun k => enc_pack.mono _ k) (by omega) hp
  have hl1 := regs_len (formOf o) R A B
  have hl2 := imms_len (formOf o) o (u64N n % 2 ^ 32) aq rl
  have hv : u64N n % 2 ^ 32 < 2 ^ 32 := Nat.mod_lt _ (by decide)
  obtain ⟨k, rfl⟩ : ∃ m, k = m + 1 := ⟨k - 1, by omega⟩
  obtain ⟨T, hT, hT32, hTb⟩ := pack_f k (regsOf (formOf o) R A B ++ immsOf (formOf o) o (u64N n % 2 ^ 32) aq rl) (by rw [List.length_append]; omega)
    (fun p hp => (List.mem_append.mp hp).elim (regsOf_ok _ R A B hR hA hB p) (immsOf_ok _ o _ aq rl hv p)) (by rw [List.length_append]; omega)
  rw [List.map_append] at hT
  refine ⟨w1 o ||| T, ?_, Nat.or_lt_two_pow hw32 hT32, fun j => by rw [Nat.testBit_or, hTb]⟩
  unfold enc_Encode.f
  rw [may_f3 (k + 1) o R A B n aq rl (by omega) hn, hm, hc]
  simp only [Option.bind_some, if_true]
  rw [hp', form_f (k + 1) (by omega)]
  simp only [Option.bind_some]
  have hj : ∀ is : Bool, (is = true → c.1 = (w1 o : Int)) → enc_Encode.j0 (k + 1) (w1 o) is o R A B n aq rl c.1 c.2.1 c.2.2 = some (((w1 o ||| T : Nat) : Int), 0) := by
    intro is his
    simp only [enc_Encode.j0]
    have hlt : ((regsOf (formOf o) R A B).map pc).length + ((immsOf (formOf o) o (u64N n % 2 ^ 32) aq rl).map pc).length < 5864062014805 := by rw [List.length_map, List.length_map]; omega
    rw [registers_f k (by omega) o R A B n aq rl hn hR hA hB hm, immediate_f k (by omega) o R A B n aq rl hm]
    simp only [Option.bind_some]
    rw [if_pos hlt, hT]
    simp only [Option.bind_some]
    cases is
    · rw [if_neg (by decide), or32 _ _ hw32 hT32, if_pos hlt]
    · rw [if_pos rfl, his rfl, or32 _ _ hw32 hT32]
  have hcu : (formOf o = 1 ∨ formOf o = 2) → c.1 = (w1 o : Int) := fun h => by
    have := hu h
    rw [hc] at this
    exact Option.some.inj this
  by_cases hf1 : formOf o = 1
  · rw [if_pos hf1]; exact hj true fun _ => hcu (.inl hf1)
  · rw [if_neg hf1]; exact hj _ fun h => hcu (.inr (by simpa using h))
theorem encode_no (k : Nat) (hk : 400 ≤ k) (op rd a b n : Int) (aq rl : Bool) (hn : -9223372036854775808 ≤ n ∧ n < 9223372036854775808)
    (hm : mayF (formOf op) rd a b n aq rl = false) : enc_Encode.f k op rd a b n aq rl = some (0, 1) := by
  unfold enc_Encode.f
  rw [may_f3 k op rd a b n aq rl (by omega) hn, hm]; rfl
/-- A field of a word, plainly. -/
def fld (W at_ n : Int) : Int := ((W.toNat / 2 ^ at_.toNat % 2 ^ n.toNat : Nat) : Int)
theorem fld_lt (W at_ n : Int) : 0 ≤ fld W at_ n ∧ fld W at_ n < 2 ^ n.toNat := by
  unfold fld
  refine ⟨Int.natCast_nonneg _, ?_⟩
  have h := Nat.mod_lt (W.toNat / 2 ^ at_.toNat) (Nat.two_pow_pos n.toNat)
  have e : ((2 ^ n.toNat : Nat) : Int) = 2 ^ n.toNat := by push_cast; rfl
  rw [← e]; omega
theorem field_f (W at_ n : Int) (h0 : 0 ≤ W) (h1 : W < 4294967296) (ha : 0 ≤ at_) (hn : 1 ≤ n) (hs : at_ + n ≤ 32) : dec_field.f W at_ n = some (fld W at_ n) := by
  obtain ⟨X, rfl⟩ := Int.eq_ofNat_of_zero_le h0
  obtain ⟨A, rfl⟩ := Int.eq_ofNat_of_zero_le ha
  obtain ⟨N, rfl⟩ := Int.eq_ofNat_of_zero_le (show 0 ≤ n by omega)
  unfold dec_field.f
  rw [get_f X A N (by omega) (by omega) (by omega)]
  have hl := Nat.lt_of_le_of_lt (Nat.mod_le (X / 2 ^ A) (2 ^ N)) (Nat.lt_of_le_of_lt (Nat.div_le_self X (2 ^ A)) (show X < 2 ^ 32 by omega))
  simp only [Option.bind_some]
  unfold fld
  simp only [Int.toNat_natCast]
  rw [w64 (by omega) (by omega)]
theorem sgn_bound (v : Int) (n : Nat) (hn : n ≤ 32) : -4294967296 ≤ sgn v n ∧ sgn v n < 4294967296 := by
  have h1 : (2 : Int) ^ n ≤ 4294967296 := by
    have : (2 : Nat) ^ n ≤ 2 ^ 32 := Nat.pow_le_pow_right (by decide) hn
    have e : ((2 ^ n : Nat) : Int) = 2 ^ n := by push_cast; rfl
    rw [← e]; omega
  have h0 : (0 : Int) < 2 ^ n := Int.pow_pos (by decide)
  have h2 := Int.emod_nonneg v (show (2 : Int) ^ n ≠ 0 by omega)
  have h3 := Int.emod_lt_of_pos v h0
  unfold sgn
  split <;> omega
theorem signed_ok (v n : Int) (h1 : 1 ≤ n) (h2 : n ≤ 32) : ∃ r, dec_signed.f v n = some r ∧ -4294967296 ≤ r ∧ r < 4294967296 := by
  have a0 := Int.emod_nonneg v (show (4294967296 : Int) ≠ 0 by decide)
  have a1 := Int.emod_lt_of_pos v (show (0 : Int) < 4294967296 by decide)
  refine ⟨sgn (v % 4294967296) n.toNat, ?_, sgn_bound _ _ (by omega)⟩
  unfold dec_signed.f
  rw [sign_f (v % 4294967296) n (by omega) (by omega) (by omega) (by omega), if_pos ⟨h1, h2⟩]
  rfl
theorem fld_small (W at_ n : Int) (hn : 0 ≤ n) (h : n ≤ 32) : 0 ≤ fld W at_ n ∧ fld W at_ n < 4294967296 := by
  refine ⟨(fld_lt W at_ n).1, Int.lt_of_lt_of_le (fld_lt W at_ n).2 ?_⟩
  have : (2 : Nat) ^ n.toNat ≤ 2 ^ 32 := Nat.pow_le_pow_right (by decide) (by omega)
  have e : ((2 ^ n.toNat : Nat) : Int) = 2 ^ n.toNat := by push_cast; rfl
  rw [← e]; omega
theorem immediate_ok (W f : Int) (h0 : 0 ≤ W) (h1 : W < 4294967296) : ∃ r, dec_immediate.f W f = some r ∧ -4294967296 ≤ r ∧ r < 4294967296 := by
  unfold dec_immediate.f
  have hu : ∀ a, ∃ r, (some (wrap64 (fld W 20 a))) = some r ∧ (0 ≤ a → a ≤ 32 → -4294967296 ≤ r ∧ r < 4294967296) := fun a => ⟨_, rfl, fun ha hb => by
    have h := fld_small W 20 a ha hb
    rw [w64 (by omega) (by omega)]; omega⟩
  rw [field_f W 12 20 h0 h1 (by decide) (by decide) (by decide), field_f W 31 1 h0 h1 (by decide) (by decide) (by decide), field_f W 21 10 h0 h1 (by decide) (by decide) (by decide), field_f W 20 1 h0 h1 (by decide) (by decide) (by decide),
    field_f W 12 8 h0 h1 (by decide) (by decide) (by decide), field_f W 20 12 h0 h1 (by decide) (by decide) (by decide), field_f W 25 6 h0 h1 (by decide) (by decide) (by decide), field_f W 8 4 h0 h1 (by decide) (by decide) (by decide),
    field_f W 7 1 h0 h1 (by decide) (by decide) (by decide), field_f W 25 7 h0 h1 (by decide) (by decide) (by decide), field_f W 7 5 h0 h1 (by decide) (by decide) (by decide), field_f W 20 6 h0 h1 (by decide) (by decide) (by decide),
    field_f W 20 5 h0 h1 (by decide) (by decide) (by decide), field_f W 20 8 h0 h1 (by decide) (by decide) (by decide)]
  simp only [Option.bind_some]
  repeat' split
  · exact signed_ok _ _ (by decide) (by decide)
  · exact signed_ok _ _ (by decide) (by decide)
  · exact signed_ok _ _ (by decide) (by decide)
  · exact signed_ok _ _ (by decide) (by decide)
  · exact signed_ok _ _ (by decide) (by decide)
  · obtain ⟨r, e, h⟩ := hu 6; exact ⟨r, e, h (by decide) (by decide)⟩
  · obtain ⟨r, e, h⟩ := hu 5; exact ⟨r, e, h (by decide) (by decide)⟩
  · obtain ⟨r, e, h⟩ := hu 8; exact ⟨r, e, h (by decide) (by decide)⟩
  · exact ⟨0, rfl, by decide, by decide⟩
/-- What the parts of a word are. -/
def OkP (op : Int) (o : Option (Int × Int × Int × Int × Int × Bool × Bool)) : Prop :=
  ∃ rd a b n aq rl, o = some (op, rd, a, b, n, aq, rl) ∧ (0 ≤ rd ∧ rd < 32) ∧ (0 ≤ a ∧ a < 32) ∧ (0 ≤ b ∧ b < 32) ∧ -4294967296 ≤ n ∧ n < 4294967296
theorem j4_ok (k : Nat) (W : Int) (h0 : 0 ≤ W) (h1 : W < 4294967296) (t : Bool) (op rd a b n : Int) (aq rl : Bool) (hr : 0 ≤ rd ∧ rd < 32) (ha : 0 ≤ a ∧ a < 32) (hb : 0 ≤ b ∧ b < 32) (hn : -4294967296 ≤ n ∧ n < 4294967296) :
    OkP op (dec_parts.j4 (k + 1) W t op rd a b n aq rl) := by
  simp only [dec_parts.j4]
  rw [field_f W 26 1 h0 h1 (by decide) (by decide) (by decide), field_f W 25 1 h0 h1 (by decide) (by decide) (by decide)]
  simp only [Option.bind_some]
  split
  · exact ⟨rd, a, b, n, _, _, rfl, hr, ha, hb, hn⟩
  · exact ⟨rd, a, b, n, _, _, rfl, hr, ha, hb, hn⟩
theorem j3_ok (k : Nat) (W f : Int) (h0 : 0 ≤ W) (h1 : W < 4294967296) (op rd a b n : Int) (aq rl : Bool) (hr : 0 ≤ rd ∧ rd < 32) (ha : 0 ≤ a ∧ a < 32) (hb : 0 ≤ b ∧ b < 32) (hn : -4294967296 ≤ n ∧ n < 4294967296) :
    OkP op (dec_parts.j3 (k + 2) W f op rd a b n aq rl) := by
  simp only [dec_parts.j3]
  split
  · exact j4_ok k W h0 h1 _ op rd a b n aq rl hr ha hb hn
  · exact j4_ok k W h0 h1 _ op rd a b n aq rl hr ha hb hn
theorem j2_ok (k : Nat) (W f : Int) (h0 : 0 ≤ W) (h1 : W < 4294967296) (r1 a1 b1 f' : Int) (t : Bool) (op rd a b n : Int) (aq rl : Bool) (hr1 : 0 ≤ r1 ∧ r1 < 32) (ha1 : 0 ≤ a1 ∧ a1 < 32) (hb1 : 0 ≤ b1 ∧ b1 < 32)
    (hr : 0 ≤ rd ∧ rd < 32) (ha : 0 ≤ a ∧ a < 32) (hb : 0 ≤ b ∧ b < 32) (hn : -4294967296 ≤ n ∧ n < 4294967296) :
    OkP op (dec_parts.j2 (k + 3) W f r1 a1 b1 f' t op rd a b n aq rl) := by
  simp only [dec_parts.j2]
  repeat' split
  all_goals exact j3_ok k W f h0 h1 op _ _ _ n aq rl (by first | exact hr1 | exact hr) (by first | exact ha1 | exact ha) (by first | exact hb1 | exact hb) hn
theorem j1_ok (k : Nat) (W f : Int) (h0 : 0 ≤ W) (h1 : W < 4294967296) (r1 a1 b1 f' : Int) (t : Bool) (op rd a b n : Int) (aq rl : Bool) (hr1 : 0 ≤ r1 ∧ r1 < 32) (ha1 : 0 ≤ a1 ∧ a1 < 32) (hb1 : 0 ≤ b1 ∧ b1 < 32)
    (hr : 0 ≤ rd ∧ rd < 32) (ha : 0 ≤ a ∧ a < 32) (hb : 0 ≤ b ∧ b < 32) (hn : -4294967296 ≤ n ∧ n < 4294967296) :
    OkP op (dec_parts.j1 (k + 4) W f r1 a1 b1 f' t op rd a b n aq rl) := by
  simp only [dec_parts.j1]
  split
  · exact j3_ok (k + 1) W f h0 h1 op rd a1 b1 n aq rl hr ha1 hb1 hn
  · split
    · exact j2_ok k W f h0 h1 r1 a1 b1 _ _ op rd a b n aq rl hr1 ha1 hb1 hr ha hb hn
    · exact j2_ok k W f h0 h1 r1 a1 b1 _ _ op rd a b n aq rl hr1 ha1 hb1 hr ha hb hn
theorem j0_ok (k : Nat) (W f : Int) (h0 : 0 ≤ W) (h1 : W < 4294967296) (r1 a1 b1 f' : Int) (t : Bool) (op rd a b n : Int) (aq rl : Bool) (hr1 : 0 ≤ r1 ∧ r1 < 32) (ha1 : 0 ≤ a1 ∧ a1 < 32) (hb1 : 0 ≤ b1 ∧ b1 < 32)
    (hr : 0 ≤ rd ∧ rd < 32) (ha : 0 ≤ a ∧ a < 32) (hb : 0 ≤ b ∧ b < 32) (hn : -4294967296 ≤ n ∧ n < 4294967296) :
    OkP op (dec_parts.j0 (k + 5) W f r1 a1 b1 f' t op rd a b n aq rl) := by
  simp only [dec_parts.j0]
  split
  · exact j3_ok (k + 2) W f h0 h1 op r1 a b n aq rl hr1 ha hb hn
  · split
    · exact j1_ok k W f h0 h1 r1 a1 b1 _ _ op rd a b n aq rl hr1 ha1 hb1 hr ha hb hn
    · exact j1_ok k W f h0 h1 r1 a1 b1 _ _ op rd a b n aq rl hr1 ha1 hb1 hr ha hb hn
theorem parts_ok (k : Nat) (hk : 20 ≤ k) (W op : Int) (h0 : 0 ≤ W) (h1 : W < 4294967296) : OkP op (dec_parts.f k W op) := by
  obtain ⟨k, rfl⟩ : ∃ m, k = m + 5 := ⟨k - 5, by omega⟩
  unfold dec_parts.f
  obtain ⟨n, en, hn⟩ := immediate_ok W (formOf op) h0 h1
  rw [form_f (k + 5) (by omega)]
  simp only [Option.bind_some]
  rw [en, field_f W 7 5 h0 h1 (by decide) (by decide) (by decide), field_f W 15 5 h0 h1 (by decide) (by decide) (by decide), field_f W 20 5 h0 h1 (by decide) (by decide) (by decide)]
  simp only [Option.bind_some]
  have z : (0 : Int) ≤ 0 ∧ (0 : Int) < 32 := by decide
  split
  · exact j0_ok k W _ h0 h1 _ _ _ _ _ op 0 0 0 n false false (fld_lt W 7 5) (fld_lt W 15 5) (fld_lt W 20 5) z z z hn
  · exact j0_ok k W _ h0 h1 _ _ _ _ _ op 0 0 0 n false false (fld_lt W 7 5) (fld_lt W 15 5) (fld_lt W 20 5) z z z hn
theorem pick_l (x0 x1 : Int) (l : List Int) (hl : l.length < 1000) (d : Nat) : ∀ (k i : Nat), i ≤ l.length → l.length - i = d → d < k → ∃ v, dec_pick.l0 k x0 x1 l (l.length : Int) (i : Int) = some v := by
  induction d with
  | zero =>
    intro k i hi hd hk
    obtain ⟨k, rfl⟩ : ∃ m, k = m + 1 := ⟨k - 1, by omega⟩
    simp only [dec_pick.l0]
    rw [if_neg (by omega)]
    exact ⟨_, rfl⟩
  | succ d ih =>
    intro k i hi hd hk
    obtain ⟨k, rfl⟩ : ∃ m, k = m + 1 := ⟨k - 1, by omega⟩
    simp only [dec_pick.l0]
    rw [if_pos (by omega), if_pos (by omega), if_pos (by omega)]
    split
    · exact ⟨_, rfl⟩
    · rw [w64n (x := (i : Int) + 1) (i + 1) (by omega) (by omega)]
      exact ih k (i + 1) (by omega) (by omega) (by omega)
theorem pick_ok (k : Nat) (x0 x1 : Int) (l : List Int) (hl : l.length < 1000) (hk : l.length < k) : ∃ v, dec_pick.f k x0 x1 l = some v := pick_l x0 x1 l hl l.length k 0 (by omega) (by omega) hk
theorem arith_ok (a : Int) (h0 : 0 ≤ a) (h1 : a < 8) (x0 x1 x2 x3 x4 x5 x6 x7 y0 y1 y2 y3 y4 y5 y6 y7 : Int) (t : Bool) : ∃ v, dec_arith.f a x0 x1 x2 x3 x4 x5 x6 x7 y0 y1 y2 y3 y4 y5 y6 y7 t = some v := by
  unfold dec_arith.f
  rw [if_pos ⟨h0, h1⟩]
  exact ⟨_, rfl⟩
theorem some_ok {α β : Type} {o : Option α} (h : ∃ v, o = some v) {g : α → Option β} (hg : ∀ v, ∃ r, g v = some r) : ∃ r, o.bind g = some r := by
  obtain ⟨v, rfl⟩ := h
  exact hg v
theorem ite_ok {α : Type} {c : Prop} [Decidable c] {x y : Option α} (hx : ∃ r, x = some r) (hy : ∃ r, y = some r) : ∃ r, (if c then x else y) = some r := by
  by_cases h : c
  · rw [if_pos h]; exact hx
  · rw [if_neg h]; exact hy
theorem operation_ok (k : Nat) (hk : 40 ≤ k) (W : Int) (h0 : 0 ≤ W) (h1 : W < 4294967296) : ∃ r, dec_operation.f k W = some r := by
  obtain ⟨k, rfl⟩ : ∃ m, k = m + 1 := ⟨k - 1, by omega⟩
  unfold dec_operation.f
  rw [field_f W 12 3 h0 h1 (by decide) (by decide) (by decide), field_f W 25 7 h0 h1 (by decide) (by decide) (by decide), field_f W 0 7 h0 h1 (by decide) (by decide) (by decide)]
  simp only [Option.bind_some]
  have h3 : 0 ≤ fld W 12 3 ∧ fld W 12 3 < 8 := fld_lt W 12 3
  have hi : ∀ v : Int, ∃ r, some v = some r := fun v => ⟨v, rfl⟩
  have hp : ∀ x l, l.length < 30 → ∃ v, dec_pick.f (k + 1) x (fld W 12 3) l = some v := fun x l hl => pick_ok _ _ _ _ (by omega) (by omega)
  repeat' refine ite_ok ?_ ?_
  all_goals first | exact hi _ | exact some_ok (hp _ _ (by decide)) hi | skip
  · refine some_ok ?_ hi
    unfold dec_immediates.f
    rw [field_f W 26 6 h0 h1 (by decide) (by decide) (by decide)]
    simp only [Option.bind_some]
    rw [if_pos h3]
    split
    · exact hi _
    · split
      · exact arith_ok _ h3.1 h3.2 _ _ _ _ _ _ _ _ _ _ _ _ _ _ _ _ _
      · exact hi _
  · refine some_ok ?_ hi
    unfold dec_small.f
    split
    · exact hi _
    · split
      · exact some_ok (arith_ok _ h3.1 h3.2 _ _ _ _ _ _ _ _ _ _ _ _ _ _ _ _ _) hi
      · split
        · exact some_ok (arith_ok _ h3.1 h3.2 _ _ _ _ _ _ _ _ _ _ _ _ _ _ _ _ _) hi
        · exact hi _
  · refine some_ok ?_ hi
    unfold dec_whole.f
    simp only [dec_whole.j0]
    repeat' refine ite_ok ?_ ?_
    all_goals first | exact hi _ | exact some_ok (arith_ok _ h3.1 h3.2 _ _ _ _ _ _ _ _ _ _ _ _ _ _ _ _ _) hi
  · refine some_ok ?_ hi
    unfold dec_half.f
    simp only [dec_half.j0]
    have hq : ∃ v, dec_pick.f k 58 (fld W 12 3) ([0, 4, 5, 6, 7] : List Int) = some v := pick_ok _ _ _ _ (by decide) (by simp; omega)
    repeat' refine ite_ok ?_ ?_
    all_goals first | exact hi _ | exact some_ok (arith_ok _ h3.1 h3.2 _ _ _ _ _ _ _ _ _ _ _ _ _ _ _ _ _) hi | exact some_ok hq hi
  · refine some_ok ?_ hi
    unfold dec_atomic.f
    rw [field_f W 27 5 h0 h1 (by decide) (by decide) (by decide)]
    simp only [Option.bind_some]
    refine some_ok (pick_ok _ _ _ _ (by decide) (by simp; omega)) fun v => ?_
    simp only [dec_atomic.j0]
    repeat' refine ite_ok ?_ ?_
    all_goals exact hi _
  · refine some_ok ?_ hi
    unfold dec_system.f
    exact some_ok (pick_ok _ _ _ _ (by decide) (by simp; omega)) hi
/-- What a decoded word is: nothing, with the word itself; or an instruction that may be and whose word it is. -/
theorem decode_ok (k : Nat) (hk : 600 ≤ k) (W : Int) (h0 : 0 ≤ W) (h1 : W < 4294967296) :
    dec_Decode.f k W = some (0, 0, 0, 0, W, false, false) ∨ ∃ op rd a b n aq rl, dec_Decode.f k W = some (op, rd, a, b, n, aq, rl) ∧ op ≠ 0 ∧ enc_Encode.f k op rd a b n aq rl = some (W, 0) := by
  obtain ⟨op, eo⟩ := operation_ok k (by omega) W h0 h1
  obtain ⟨rd, a, b, n, aq, rl, ep, hr, ha, hb, hn⟩ := parts_ok k (by omega) W op h0 h1
  unfold dec_Decode.f
  rw [eo]
  simp only [Option.bind_some]
  rw [ep]
  simp only [Option.bind_some]
  rw [w64 (by omega) (by omega)]
  cases hm : mayF (formOf op) rd a b n aq rl
  · rw [encode_no k (by omega) op rd a b n aq rl (by omega) hm]
    simp only [Option.bind_some]
    rw [if_neg (by decide)]
    exact Or.inl rfl
  · obtain ⟨hf, o1, o2⟩ := form_some hm
    obtain ⟨o, rfl⟩ := Int.eq_ofNat_of_zero_le (show 0 ≤ op by omega)
    obtain ⟨R, rfl⟩ := Int.eq_ofNat_of_zero_le hr.1
    obtain ⟨A, rfl⟩ := Int.eq_ofNat_of_zero_le ha.1
    obtain ⟨B, rfl⟩ := Int.eq_ofNat_of_zero_le hb.1
    obtain ⟨X, eX, hX, _⟩ := encode_f k (by omega) o R A B n aq rl (by omega) (by omega) (by omega) (by omega) hm
    rw [eX]
    simp only [Option.bind_some, if_true]
    by_cases hw : (X : Int) = W
    · rw [if_pos hw]
      exact Or.inr ⟨_, _, _, _, _, _, _, rfl, by omega, hw ▸ eX⟩
    · rw [if_neg hw]
      exact Or.inl rfl
theorem bind_at {α β : Type} {o : Option α} {v : α} (h : o = some v) {g : α → Option β} {r : Option β} (hg : g v = r) : o.bind g = r := by
  rw [h]; exact hg

theorem place4 (n a : Int) (hn : 0 ≤ n ∧ n ≤ 300000) (ha : -9223372036854775808 ≤ a ∧ a < 9223372036854775808) :
    image_place.f a 65536 4 n = some (if 65536 ≤ a ∧ a < 65536 + 4 * n ∧ (a - 65536) % 4 = 0 then ((a - 65536) / 4, true) else (0, false)) := by
  unfold image_place.f
  rw [w64 (x := 4 * n) (by omega) (by omega), w64 (x := 65536 + 4 * n) (by omega) (by omega)]
  by_cases h1 : a < 65536
  · rw [if_pos h1, if_neg (by omega)]
  rw [if_neg h1]
  by_cases h2 : a ≥ 65536 + 4 * n
  · rw [if_pos h2, if_neg (by omega)]
  rw [if_neg h2, if_neg (by decide), Int.tmod_eq_emod_of_nonneg (by omega)]
  by_cases h3 : a % 4 = 0
  · rw [if_pos h3, if_pos (by omega), w64 (x := a - 65536) (by omega) (by omega), Int.tdiv_eq_ediv_of_nonneg (by omega), w64 (by omega) (by omega)]
  · rw [if_neg h3, if_neg (by omega)]
theorem place8 (n a : Int) (hn : 0 ≤ n ∧ n ≤ 5000) (ha : -9223372036854775808 ≤ a ∧ a < 9223372036854775808) :
    image_place.f a 16777216 8 n = some (if 16777216 ≤ a ∧ a < 16777216 + 8 * n ∧ (a - 16777216) % 8 = 0 then ((a - 16777216) / 8, true) else (0, false)) := by
  unfold image_place.f
  rw [w64 (x := 8 * n) (by omega) (by omega), w64 (x := 16777216 + 8 * n) (by omega) (by omega)]
  by_cases h1 : a < 16777216
  · rw [if_pos h1, if_neg (by omega)]
  rw [if_neg h1]
  by_cases h2 : a ≥ 16777216 + 8 * n
  · rw [if_pos h2, if_neg (by omega)]
  rw [if_neg h2, if_neg (by decide), Int.tmod_eq_emod_of_nonneg (by omega)]
  by_cases h3 : a % 8 = 0
  · rw [if_pos h3, if_pos (by omega), w64 (x := a - 16777216) (by omega) (by omega), Int.tdiv_eq_ediv_of_nonneg (by omega), w64 (by omega) (by omega)]
  · rw [if_neg h3, if_neg (by omega)]
theorem rd_in (l : List Int) (i : Int) (h0 : 0 ≤ i) (h : i < l.length) : rd l i ∈ l := by
  obtain ⟨n, rfl⟩ := Int.eq_ofNat_of_zero_le h0
  have hn : n < l.length := by omega
  have e : rd l (n : Int) = l[n] := by unfold rd; simp [hn]
  rw [e]
  exact List.getElem_mem hn
theorem fetch_ok (k : Nat) (hk : 1000 ≤ k) (X Y Z : List Int) (hl : (X.length : Int) ≤ 300000) (hx : ∀ y ∈ X, 0 ≤ y ∧ y < 4294967296) (a : Int) (ha : -9223372036854775808 ≤ a ∧ a < 9223372036854775808) :
    ∃ r, image_Fetch.f k X Y Z a = some r ∧ r.2.2.2.2.2.2.2 = decide (65536 ≤ a ∧ a < 65536 + 4 * (X.length : Int) ∧ (a - 65536) % 4 = 0) := by
  unfold image_Fetch.f
  rw [place4 _ a ⟨by omega, hl⟩ ha]
  simp only [Option.bind_some]
  by_cases hc : 65536 ≤ a ∧ a < 65536 + 4 * (X.length : Int) ∧ (a - 65536) % 4 = 0
  · rw [if_pos hc]
    have e0 : 0 ≤ (a - 65536) / 4 := by omega
    have e1 : (a - 65536) / 4 < X.length := by omega
    have hw := hx _ (rd_in X _ e0 e1)
    have hd : ∃ v, dec_Decode.f k (rd X ((a - 65536) / 4)) = some v := by
      rcases decode_ok k (by omega) _ hw.1 hw.2 with e | ⟨_, _, _, _, _, _, _, e, _⟩
      · exact ⟨_, e⟩
      · exact ⟨_, e⟩
    obtain ⟨v, hv⟩ := hd
    refine ⟨(v.1, v.2.1, v.2.2.1, v.2.2.2.1, v.2.2.2.2.1, v.2.2.2.2.2.1, v.2.2.2.2.2.2, true), ?_, (decide_eq_true hc).symm⟩
    refine (if_pos rfl).trans ((if_pos e0).trans ((if_pos e1).trans ?_))
    exact bind_at hv rfl
  · rw [if_neg hc]
    exact ⟨_, rfl, (decide_eq_false hc).symm⟩

theorem awake08 (k : Nat) (hk : 600 ≤ k) : spinnakerlaw08_awake.f k = some true := by
  have h : spinnakerlaw08_awake.f 60 = some true := by decide +kernel
  exact at_rounds (fun k => spinnakerlaw08_awake.mono k) (show 60 ≤ k by omega) h
theorem w64_range (x : Int) : -9223372036854775808 ≤ wrap64 x ∧ wrap64 x < 9223372036854775808 := by unfold wrap64; omega
theorem ImageAddresses (x0 : (List Int) × (List Int) × (List Int)) (q0 : Q43 x0) (a1 : Int) (w1 : (Lit.int .i64 a1).wf = true) : ∃ k, spinnakerlaw08_ImageAddresses.f k x0.1 x0.2.1 x0.2.2 a1 = some true := by
  obtain ⟨X, Y, Z⟩ := x0
  have hx : ∀ y ∈ X, 0 ≤ y ∧ y < 4294967296 := fun y hy => wf_u32 (q0.1.2 y hy)
  have ha := wf_i64 w1
  clear q0 w1
  refine ⟨2001, ?_⟩
  have aw : (spinnakerlaw08_awake.f 2000).bind (fun t => some t) = some true := bind_at (awake08 2000 (by decide)) rfl
  have hlg : ∃ b, spinnakerlaw08_large.f X Y Z = some b ∧ (b = false → (X.length : Int) ≤ 2000 ∧ (Y.length : Int) ≤ 5000) := by
    unfold spinnakerlaw08_large.f
    by_cases h1 : (X.length : Int) > 2000
    · rw [if_pos h1]; exact ⟨_, rfl, fun h => by cases h⟩
    rw [if_neg h1]
    by_cases h2 : (Y.length : Int) > 5000
    · rw [if_pos h2]; exact ⟨_, rfl, fun h => by cases h⟩
    rw [if_neg h2]
    exact ⟨_, rfl, fun _ => ⟨by omega, by omega⟩⟩
  obtain ⟨b, hb, hs⟩ := hlg
  unfold spinnakerlaw08_ImageAddresses.f
  refine bind_at hb ?_
  cases b
  · obtain ⟨hs1, hs2⟩ := hs rfl
    refine (if_neg (by decide)).trans ?_
    refine bind_at (show image_PC.f a1 = some (wrap64 (65536 + wrap64 (4 * a1))) from rfl) ?_
    refine (if_pos rfl).trans ?_
    refine bind_at (show image_Addr.f a1 = some (wrap64 (16777216 + wrap64 (8 * a1))) from rfl) ?_
    have hne : (wrap64 (16777216 + wrap64 (8 * a1)) != wrap64 (16777216 + wrap64 (8 * a1))) = false := by simp
    rw [hne]
    simp only [spinnakerlaw08_ImageAddresses.j0]
    refine (if_neg (by decide)).trans ?_
    refine bind_at (show image_PC.f a1 = some (wrap64 (65536 + wrap64 (4 * a1))) from rfl) ?_
    obtain ⟨r, er, hr⟩ := fetch_ok 2000 (by decide) X Y Z (by omega) hx (wrap64 (65536 + wrap64 (4 * a1))) (w64_range _)
    refine bind_at er ?_
    refine bind_at (show image_Addr.f a1 = some (wrap64 (16777216 + wrap64 (8 * a1))) from rfl) ?_
    have ep := place8 (Y.length : Int) (wrap64 (16777216 + wrap64 (8 * a1))) ⟨by omega, hs2⟩ (w64_range _)
    have ep2 : ∃ p, image_Place.f X Y Z (wrap64 (16777216 + wrap64 (8 * a1))) = some p ∧ p = (if 16777216 ≤ wrap64 (16777216 + wrap64 (8 * a1)) ∧ wrap64 (16777216 + wrap64 (8 * a1)) < 16777216 + 8 * (Y.length : Int) ∧ (wrap64 (16777216 + wrap64 (8 * a1)) - 16777216) % 8 = 0 then ((wrap64 (16777216 + wrap64 (8 * a1)) - 16777216) / 8, true) else (0, false)) := by
      unfold image_Place.f
      exact ⟨_, bind_at ep rfl, rfl⟩
    obtain ⟨p, hp, hpe⟩ := ep2
    refine bind_at hp ?_
    by_cases c1 : a1 > -1099511627776
    · refine (if_pos c1).trans ?_
      by_cases c2 : a1 < 1099511627776
      · refine (if_pos c2).trans ?_
        rw [w64 (x := 4 * a1) (by omega) (by omega), w64 (x := 65536 + 4 * a1) (by omega) (by omega)] at hr
        rw [w64 (x := 8 * a1) (by omega) (by omega), w64 (x := 16777216 + 8 * a1) (by omega) (by omega)] at hpe
        by_cases c3 : a1 ≥ 0
        · refine (if_pos c3).trans ?_
          refine (if_pos (by rw [hr, beq_iff_eq, decide_eq_decide]; omega)).trans ?_
          by_cases c4 : a1 < (Y.length : Int)
          · rw [if_pos (by omega)] at hpe
            subst hpe
            refine (if_pos (by rw [decide_eq_true c4]; rfl)).trans ?_
            refine (if_pos rfl).trans ?_
            refine (if_pos (show (16777216 + 8 * a1 - 16777216) / 8 = a1 by omega)).trans ?_
            exact aw
          · rw [if_neg (by omega)] at hpe
            subst hpe
            refine (if_pos (by rw [decide_eq_false c4]; rfl)).trans ?_
            refine (if_neg (by decide)).trans ?_
            exact aw
        · refine (if_neg c3).trans ?_
          refine (if_pos (by rw [hr, beq_iff_eq, decide_eq_false_iff_not]; omega)).trans ?_
          rw [if_neg (by omega)] at hpe
          subst hpe
          refine (if_pos rfl).trans ?_
          refine (if_neg (by decide)).trans ?_
          exact aw
      · refine (if_neg c2).trans ?_
        by_cases hq : p.2 = true
        · exact (if_pos hq).trans aw
        · exact (if_neg hq).trans aw
    · refine (if_neg c1).trans ?_
      by_cases hq : p.2 = true
      · exact (if_pos hq).trans aw
      · exact (if_neg hq).trans aw
  · refine (if_pos rfl).trans ?_
    simp only [spinnakerlaw08_ImageAddresses.j0]
    refine (if_pos trivial).trans ?_
    refine bind_at hb ?_
    exact (if_pos rfl).trans aw

end Go.Proofs.YtffehgfjjagibaaDoor.Pure
