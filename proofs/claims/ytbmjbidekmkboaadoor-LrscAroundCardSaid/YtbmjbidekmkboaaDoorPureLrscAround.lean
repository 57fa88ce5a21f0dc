/- What stands ahead of a constrained loop and behind it does not change its length, of any code of at most 60 instructions with at most 60 ahead and behind, and the chapter's example holds; for every three lists. -/
import Derived.Test.YtbmjbidekmkboaaDoorGLrscAroundx7
import Derived.Test.YtbmjbidekmkboaaDoorOpenLrscAround
namespace Go.Proofs.YtbmjbidekmkboaaDoor.Pure
open Go.RowKit Go.Proofs.YtbmjbidekmkboaaDoor.GLrscAround Go.Proofs.YtbmjbidekmkboaaDoorW.PrintWords Go.Proofs.YtbmjbidekmkboaaDoorW.PrintLast Go.Proofs.YtbmjbidekmkboaaDoorW.PrintMore
set_option linter.unusedVariables false
set_option linter.unusedSimpArgs false
attribute [local irreducible] shl shr

/-- Numbers that need no wrapping, and two's complement by its lowest bits. -/
theorem w64 {x : Int} (h0 : -9223372036854775808 ≤ x) (h1 : x < 9223372036854775808) : wrap64 x = x := by
  unfold wrap64; omega
theorem w64n {x : Int} (n : Nat) (h : x = n) (hn : n < 9223372036854775808) : wrap64 x = (n : Int) := by
  rw [w64 (by omega) (by omega), h]
theorem wu64 (x : Int) : IntKind.u64.wrap x = x % 18446744073709551616 := by
  simp [IntKind.wrap, IntKind.bits, IntKind.signed]
theorem wf_i64 {x : Int} (h : (Lit.int .i64 x).wf = true) : -9223372036854775808 ≤ x ∧ x < 9223372036854775808 := by
  simp [Lit.wf, IntKind.min, IntKind.max, IntKind.bits, IntKind.signed] at h; omega
theorem wf_u32 {x : Int} (h : (Lit.int .u32 x).wf = true) : 0 ≤ x ∧ x < 4294967296 := by
  simp [Lit.wf, IntKind.min, IntKind.max, IntKind.bits, IntKind.signed] at h; omega
theorem wf_u8 {x : Int} (h : (Lit.int .u8 x).wf = true) : 0 ≤ x ∧ x < 256 := by
  simp [Lit.wf, IntKind.min, IntKind.max, IntKind.bits, IntKind.signed] at h; omega
theorem p64 : (2 : Int) ^ 64 = 18446744073709551616 := by decide
theorem p63 : (2 : Int) ^ 63 = 9223372036854775808 := by decide
theorem p_pos (n : Nat) : (0 : Int) < 2 ^ n := Int.pow_pos (by decide)
theorem p_add (a b : Nat) : (2 : Int) ^ (a + b) = 2 ^ a * 2 ^ b := Int.pow_add 2 a b
theorem p_le {a b : Nat} (h : a ≤ b) : (2 : Int) ^ a ≤ 2 ^ b := by
  obtain ⟨c, rfl⟩ := Nat.exists_eq_add_of_le h
  rw [p_add]
  have h1 : (2 : Int) ^ a * 1 ≤ 2 ^ a * 2 ^ c := Int.mul_le_mul_of_nonneg_left (by have := p_pos c; omega) (Int.le_of_lt (p_pos a))
  omega
theorem b64 {i : Nat} (h : i ≤ 64) : (2 : Int) ^ i ≤ 18446744073709551616 := by have := p_le h; rw [p64] at this; exact this
theorem b63 {i : Nat} (h : i ≤ 63) : (2 : Int) ^ i ≤ 9223372036854775808 := by have := p_le h; rw [p63] at this; exact this
theorem b62 {i : Nat} (h : i ≤ 62) : (2 : Int) ^ i ≤ 4611686018427387904 := by have := p_le h; rw [show (2 : Int) ^ 62 = 4611686018427387904 from by decide] at this; exact this
theorem b60 {i : Nat} (h : i ≤ 60) : (2 : Int) ^ i ≤ 1152921504606846976 := by have := p_le h; rw [show (2 : Int) ^ 60 = 1152921504606846976 from by decide] at this; exact this
theorem p_succ (n : Nat) : (2 : Int) ^ (n + 1) = 2 * 2 ^ n := by rw [p_add]; omega

/-- The number with a sign that the lowest n bits are. -/
def sgn (v : Int) (n : Nat) : Int := if v % 2 ^ n < 2 ^ (n - 1) then v % 2 ^ n else v % 2 ^ n - 2 ^ n

theorem mod_mod {v : Int} {a b : Nat} (h : a ≤ b) : v % 2 ^ b % 2 ^ a = v % 2 ^ a := by
  obtain ⟨c, rfl⟩ := Nat.exists_eq_add_of_le h
  exact Int.emod_emod_of_dvd v ⟨2 ^ c, p_add a c⟩
theorem sgn_mod {v : Int} {a b : Nat} (h : a ≤ b) : sgn (v % 2 ^ b) a = sgn v a := by
  unfold sgn; rw [mod_mod h]
theorem sgn_range (v : Int) (n : Nat) (h : 1 ≤ n) : -2 ^ (n - 1) ≤ sgn v n ∧ sgn v n < 2 ^ (n - 1) := by
  have h0 := Int.emod_nonneg v (Int.ne_of_gt (p_pos n))
  have h1 := Int.emod_lt_of_pos v (p_pos n)
  have h2 : (2 : Int) ^ n = 2 * 2 ^ (n - 1) := by rw [← p_succ]; congr 1; omega
  unfold sgn
  split <;> omega
/-- Which number has the same lowest bits and fits is the one. -/
theorem sgn_self {v : Int} {n : Nat} (h : 1 ≤ n) (h0 : -2 ^ (n - 1) ≤ v) (h1 : v < 2 ^ (n - 1)) : sgn v n = v := by
  have h2 : (2 : Int) ^ n = 2 * 2 ^ (n - 1) := by rw [← p_succ]; congr 1; omega
  have hp := p_pos (n - 1)
  unfold sgn
  by_cases hv : 0 ≤ v
  · have e : v % 2 ^ n = v := Int.emod_eq_of_lt hv (by omega)
    rw [e, if_pos h1]
  · have e : v % 2 ^ n = v + 2 ^ n := by
      rw [← Int.add_emod_right]; exact Int.emod_eq_of_lt (by omega) (by omega)
    rw [e, if_neg (by omega)]; omega
theorem shl_shr (v : Int) (n : Nat) (h1 : 1 ≤ n) (h64 : n ≤ 64) :
    shr .i64 (wrap64 (shl .u64 (v % 18446744073709551616) (64 - (n : Int)))) (64 - (n : Int)) = sgn v n := by
  have hy : (64 - (n : Int)).toNat = 64 - n := by omega
  have hm : min (64 - n) 64 = 64 - n := by omega
  unfold shl shr
  rw [hy, show IntKind.u64.bits = 64 from rfl, show IntKind.i64.bits = 64 from rfl, hm, wu64]
  have hP := p_pos (64 - n)
  have hR := p_pos (n - 1)
  have hQ : (2 : Int) ^ n = 2 * 2 ^ (n - 1) := by rw [← p_succ]; congr 1; omega
  have hPQ : (2 : Int) ^ n * 2 ^ (64 - n) = 18446744073709551616 := by
    rw [← p_add, show n + (64 - n) = 64 from by omega]; exact p64
  have hRP : (2 : Int) ^ (n - 1) * 2 ^ (64 - n) = 9223372036854775808 := by
    rw [← p_add, show n - 1 + (64 - n) = 63 from by omega]; exact p63
  have e1 : v % 18446744073709551616 * 2 ^ (64 - n) % 18446744073709551616 = (v % 2 ^ n) * 2 ^ (64 - n) := by
    have e2 : (v % 18446744073709551616) % 2 ^ n = v % 2 ^ n := by rw [← p64]; exact mod_mod h64
    rw [← e2, Int.mul_comm (v % 18446744073709551616 % 2 ^ n), ← Int.mul_emod_mul_of_pos _ _ hP, Int.mul_comm (2 ^ (64 - n)) (2 ^ n), hPQ, Int.mul_comm (2 ^ (64 - n))]
  rw [e1]
  have h0 := Int.emod_nonneg v (Int.ne_of_gt (p_pos n))
  have h3 := Int.emod_lt_of_pos v (p_pos n)
  unfold sgn
  generalize v % 2 ^ n = m at h0 h3 ⊢
  generalize (2 : Int) ^ (64 - n) = P at hP hPQ hRP ⊢
  generalize (2 : Int) ^ (n - 1) = R at hR hQ hRP ⊢
  rw [hQ] at h3 hPQ ⊢
  split
  · rename_i hlt
    have a1 : 0 ≤ m * P := Int.mul_nonneg h0 (Int.le_of_lt hP)
    have a2 : m * P < R * P := Int.mul_lt_mul_of_pos_right hlt hP
    rw [w64 (by omega) (by omega), Int.mul_ediv_cancel _ (Int.ne_of_gt hP)]
  · rename_i hge
    have a1 : R * P ≤ m * P := Int.mul_le_mul_of_nonneg_right (by omega) (Int.le_of_lt hP)
    have a2 : m * P < 2 * R * P := Int.mul_lt_mul_of_pos_right h3 hP
    have e3 : wrap64 (m * P) = (m - 2 * R) * P := by
      rw [Int.sub_mul]; unfold wrap64; omega
    rw [e3, Int.mul_ediv_cancel _ (Int.ne_of_gt hP)]

theorem toList_d (s : ByteArray) : s.toList = s.data.toList := ByteArray.toList_eq s
theorem name_in {a : Int} (h : 1 ≤ a ∧ a ≤ 87) : isa_Name.f a = some (rdOf ByteArray.empty isaNames a) := by
  unfold isa_Name.f; rw [if_pos h]
theorem name_out {a : Int} (h : ¬ (1 ≤ a ∧ a ≤ 87)) : isa_Name.f a = some (⟨#[]⟩ : ByteArray) := by
  unfold isa_Name.f; rw [if_neg h]
theorem name_ne {a : Int} (h : 1 ≤ a ∧ a ≤ 87) : ¬ (rdOf ByteArray.empty isaNames a).toList = ([] : List UInt8) := by
  rw [toList_d]
  obtain ⟨n, rfl⟩ := Int.eq_ofNat_of_zero_le (show 0 ≤ a by omega)
  have hn : n < 88 := by omega
  have h1 := h.1
  clear h
  revert h1; revert hn; revert n
  decide +kernel
theorem nil_d : (⟨#[]⟩ : ByteArray).toList = ([] : List UInt8) := by rw [toList_d]
/-- An operation's form, plainly. -/
def formOf (a : Int) : Int :=
  if ¬ (1 ≤ a ∧ a ≤ 87) then -1 else if a ≤ 2 then 1 else if a = 3 then 2 else if 5 ≤ a ∧ a ≤ 10 then 4 else if 18 ≤ a ∧ a ≤ 21 then 5
  else if 35 ≤ a ∧ a ≤ 62 then 6 else if 28 ≤ a ∧ a ≤ 30 then 7 else if 32 ≤ a ∧ a ≤ 34 then 8 else if a = 63 then 9 else if a = 64 ∨ a = 65 then 0
  else if a = 66 ∨ a = 77 then 10 else if a > 66 then 11 else 3
theorem form_f {a : Int} (k : Nat) (hk : 10 ≤ k) : isa_Form.f k a = some (formOf a) := by
  by_cases h : 1 ≤ a ∧ a ≤ 87
  · refine at_rounds (fun k => isa_Form.mono a k) hk ?_
    unfold isa_Form.f
    rw [name_in h]
    simp only [Option.bind_some]
    rw [if_neg (name_ne h)]
    obtain ⟨n, rfl⟩ := Int.eq_ofNat_of_zero_le (show 0 ≤ a by omega)
    have hn : n < 88 := by omega
    have h1 := h.1
    clear h hk
    revert h1; revert hn; revert n
    decide +kernel
  · unfold isa_Form.f formOf
    rw [name_out h, if_pos h]
    simp only [Option.bind_some]
    rw [if_pos nil_d]

theorem in_f (a x y : Int) : isa_in.f a x y = some (decide (x ≤ a ∧ a ≤ y)) := by
  unfold isa_in.f
  by_cases h : a ≥ x
  · rw [if_pos h]; congr 1; rw [decide_eq_decide]; omega
  · rw [if_neg h]; congr 1; symm; rw [decide_eq_false_iff_not]; omega

theorem fits_f (v n : Int) (h0 : -9223372036854775808 ≤ v) (h1 : v < 9223372036854775808) (h : -9223372036854775808 ≤ n) (h' : n < 9223372036854775808) :
    word_Fits.f v n = some (decide (1 ≤ n ∧ n ≤ 64 ∧ -2 ^ (n.toNat - 1) ≤ v ∧ v < 2 ^ (n.toNat - 1))) := by
  unfold word_Fits.f
  by_cases hn1 : n < 1
  · rw [if_pos hn1]; congr 1; symm; simp; omega
  · rw [if_neg hn1]
    by_cases hn2 : n > 64
    · rw [if_pos hn2]; congr 1; symm; simp; omega
    · rw [if_neg hn2, w64 (by omega) (by omega), if_pos (by omega), wu64]
      have e := shl_shr v n.toNat (by omega) (by omega)
      rw [show ((n.toNat : Nat) : Int) = n from by omega] at e
      rw [e]
      congr 1
      rw [Bool.eq_iff_iff]
      simp only [beq_iff_eq, decide_eq_true_eq]
      constructor
      · intro hh
        have := sgn_range v n.toNat (by omega)
        rw [hh] at this
        exact ⟨by omega, by omega, this⟩
      · intro hh
        exact sgn_self (by omega) hh.2.2.1 hh.2.2.2

theorem and_some {p q : Prop} [Decidable p] [Decidable q] : (if p then some (decide q) else some false) = some (decide (p ∧ q)) := by
  by_cases h : p <;> simp [h]
theorem form_cases (a : Int) : formOf a = -1 ∨ formOf a = 0 ∨ formOf a = 1 ∨ formOf a = 2 ∨ formOf a = 3 ∨ formOf a = 4 ∨ formOf a = 5 ∨ formOf a = 6 ∨ formOf a = 7 ∨ formOf a = 8 ∨ formOf a = 9 ∨ formOf a = 10 ∨ formOf a = 11 := by
  by_cases h : 1 ≤ a ∧ a ≤ 87
  · obtain ⟨n, rfl⟩ := Int.eq_ofNat_of_zero_le (show 0 ≤ a by omega)
    have hn : n < 88 := by omega
    have h1 := h.1
    clear h
    revert h1; revert hn; revert n
    decide +kernel
  · left; unfold formOf; rw [if_pos h]
theorem form_neg (a : Int) : formOf a = -1 ↔ ¬ (1 ≤ a ∧ a ≤ 87) := by
  constructor
  · intro h hc
    revert h
    obtain ⟨n, rfl⟩ := Int.eq_ofNat_of_zero_le (show 0 ≤ a by omega)
    have hn : n < 88 := by omega
    have h1 := hc.1
    clear hc
    revert h1; revert hn; revert n
    decide +kernel
  · intro h; unfold formOf; rw [if_pos h]
/-- Which fields a form has, which immediates it may have. -/
def hasRd (f : Int) : Bool := f == 1 || f == 2 || f == 3 || f == 6 || f == 7 || f == 8 || f == 10 || f == 11
def hasA (f : Int) : Bool := f == 3 || f == 4 || f == 5 || f == 6 || f == 7 || f == 8 || f == 10 || f == 11
def hasB (f : Int) : Bool := f == 4 || f == 5 || f == 6 || f == 11
def regOk (r : Int) (has : Bool) : Bool := decide (0 ≤ r ∧ r < 32) && (has || r == 0)
def immOk (f n : Int) : Bool :=
  if f = 1 then decide (-524288 ≤ n ∧ n ≤ 524287) else if f = 2 then decide (-1048576 ≤ n ∧ n ≤ 1048575) && (Int.tmod n 2 == 0)
  else if f = 4 then decide (-4096 ≤ n ∧ n ≤ 4095) && (Int.tmod n 2 == 0) else if f = 3 ∨ f = 5 then decide (-2048 ≤ n ∧ n ≤ 2047)
  else if f = 7 then decide (0 ≤ n ∧ n ≤ 63) else if f = 8 then decide (0 ≤ n ∧ n ≤ 31) else if f = 9 then decide (0 ≤ n ∧ n ≤ 255) else n == 0
def mayF (f rd a b n : Int) (aq rl : Bool) : Bool :=
  decide (0 ≤ f) && regOk rd (hasRd f) && regOk a (hasA f) && regOk b (hasB f) && immOk f n && (f == 10 || f == 11 || (!aq && !rl))
theorem reg_f (r : Int) (has : Bool) : isa_register.f r has = some (regOk r has) := by
  unfold isa_register.f regOk
  by_cases h0 : r ≥ 0
  · rw [if_pos h0]
    by_cases h1 : r < 32
    · rw [if_pos h1, decide_eq_true (show 0 ≤ r ∧ r < 32 from ⟨h0, h1⟩)]
      cases has <;> simp
    · rw [if_neg h1, decide_eq_false (show ¬ (0 ≤ r ∧ r < 32) by omega)]; rfl
  · rw [if_neg h0, decide_eq_false (show ¬ (0 ≤ r ∧ r < 32) by omega)]; rfl
theorem fits_n (v : Int) (hv : -9223372036854775808 ≤ v ∧ v < 9223372036854775808) :
    word_Fits.f v 20 = some (decide (-524288 ≤ v ∧ v ≤ 524287)) ∧ word_Fits.f v 21 = some (decide (-1048576 ≤ v ∧ v ≤ 1048575)) ∧
    word_Fits.f v 13 = some (decide (-4096 ≤ v ∧ v ≤ 4095)) ∧ word_Fits.f v 12 = some (decide (-2048 ≤ v ∧ v ≤ 2047)) := by
  refine ⟨?_, ?_, ?_, ?_⟩
  · rw [fits_f v 20 hv.1 hv.2 (by decide) (by decide), show (2 : Int) ^ ((20 : Int).toNat - 1) = 524288 from by decide]
    congr 1; rw [decide_eq_decide]; omega
  · rw [fits_f v 21 hv.1 hv.2 (by decide) (by decide), show (2 : Int) ^ ((21 : Int).toNat - 1) = 1048576 from by decide]
    congr 1; rw [decide_eq_decide]; omega
  · rw [fits_f v 13 hv.1 hv.2 (by decide) (by decide), show (2 : Int) ^ ((13 : Int).toNat - 1) = 4096 from by decide]
    congr 1; rw [decide_eq_decide]; omega
  · rw [fits_f v 12 hv.1 hv.2 (by decide) (by decide), show (2 : Int) ^ ((12 : Int).toNat - 1) = 2048 from by decide]
    congr 1; rw [decide_eq_decide]; omega
theorem if_true_some {b c : Bool} : (if b = true then some c else some false) = some (b && c) := by cases b <;> rfl
theorem imm_f (k : Nat) (f n : Int) (hk : 2 ≤ k) (hn : -9223372036854775808 ≤ n ∧ n < 9223372036854775808) (hf : f = 0 ∨ f = 1 ∨ f = 2 ∨ f = 3 ∨ f = 4 ∨ f = 5 ∨ f = 6 ∨ f = 7 ∨ f = 8 ∨ f = 9 ∨ f = 10 ∨ f = 11) :
    isa_immediate.f k f n = some (immOk f n) := by
  obtain ⟨k, rfl⟩ : ∃ m, k = m + 1 := ⟨k - 1, by omega⟩
  obtain ⟨h20, h21, h13, h12⟩ := fits_n n hn
  unfold isa_immediate.f
  simp only [isa_immediate.j0]
  rw [h20, h21, h13, h12, in_f, in_f, in_f]
  rcases hf with rfl | rfl | rfl | rfl | rfl | rfl | rfl | rfl | rfl | rfl | rfl | rfl <;> simp [immOk, if_true_some]
theorem fields_f (k : Nat) (f : Int) (hk : 5 ≤ k) (hf : f = 0 ∨ f = 1 ∨ f = 2 ∨ f = 3 ∨ f = 4 ∨ f = 5 ∨ f = 6 ∨ f = 7 ∨ f = 8 ∨ f = 9 ∨ f = 10 ∨ f = 11) :
    isa_fields.f k f = some (hasRd f, hasA f, hasB f) := by
  refine at_rounds (fun k => isa_fields.mono f k) hk ?_
  rcases hf with rfl | rfl | rfl | rfl | rfl | rfl | rfl | rfl | rfl | rfl | rfl | rfl <;> decide +kernel
theorem may_f3 (k : Nat) (op rd a b n : Int) (aq rl : Bool) (hk : 20 ≤ k) (hn : -9223372036854775808 ≤ n ∧ n < 9223372036854775808) :
    isa_May.f k op rd a b n aq rl = some (mayF (formOf op) rd a b n aq rl) := by
  unfold isa_May.f
  rw [form_f k (by omega)]
  simp only [Option.bind_some]
  by_cases hf : formOf op = -1
  · rw [hf, if_pos (by decide)]; simp [mayF]
  · have hf' : formOf op = 0 ∨ formOf op = 1 ∨ formOf op = 2 ∨ formOf op = 3 ∨ formOf op = 4 ∨ formOf op = 5 ∨ formOf op = 6 ∨ formOf op = 7 ∨ formOf op = 8 ∨ formOf op = 9 ∨ formOf op = 10 ∨ formOf op = 11 := by
      rcases form_cases op with h | h
      · exact absurd h hf
      · exact h
    have h0 : ¬ formOf op < 0 := by omega
    rw [if_neg h0, fields_f k _ (by omega) hf']
    simp only [Option.bind_some]
    have hj : ∀ ord : Bool, isa_May.j0 k (formOf op) (hasRd (formOf op)) (hasA (formOf op)) (hasB (formOf op)) ord op rd a b n aq rl =
        some (regOk rd (hasRd (formOf op)) && regOk a (hasA (formOf op)) && regOk b (hasB (formOf op)) && immOk (formOf op) n && (ord || (!aq && !rl))) := by
      intro ord
      obtain ⟨k, rfl⟩ : ∃ m, k = m + 1 := ⟨k - 1, by omega⟩
      simp only [isa_May.j0]
      rw [reg_f, reg_f, reg_f, imm_f k _ n (by omega) hn hf']
      simp only [Option.bind_some]
      cases regOk rd (hasRd (formOf op)) <;> cases regOk a (hasA (formOf op)) <;> cases regOk b (hasB (formOf op)) <;> cases immOk (formOf op) n <;> cases ord <;> cases aq <;> simp
    rw [hj, hj]
    unfold mayF
    rw [decide_eq_true (show 0 ≤ formOf op by omega)]
    by_cases h10 : formOf op = 10
    · rw [if_pos h10, h10]; simp
    · rw [if_neg h10, show (formOf op == 10) = false from by simpa using h10]; simp

/-- Loops of reserving loads and conditional stores, plainly. -/
def may7 (x : S51) : Bool := mayF (formOf x.f0) x.f1 x.f2 x.f3 x.f4 x.f5 x.f6
def plain7 (x : S51) : Bool := x.f0 == 1 || x.f0 == 2 || (decide (22 ≤ x.f0) && decide (x.f0 ≤ 49))
def turn7 (x : S51) : Bool := (decide (5 ≤ x.f0) && decide (x.f0 ≤ 10)) || (x.f0 == 3 && x.f1 == 0)
def on7 (x : S51) : Bool := plain7 x || (turn7 x && decide (0 < x.f4))
def wr7 (x : S51) (r : Int) : Bool := hasRd (formOf x.f0) && !(x.f1 == 0) && x.f1 == r
def Fine (x : S51) : Prop := -9223372036854775808 ≤ x.f4 ∧ x.f4 < 9223372036854775808
theorem may7_f (k : Nat) (x : S51) (hk : 20 ≤ k) (h : Fine x) : isa_May.f k x.f0 x.f1 x.f2 x.f3 x.f4 x.f5 x.f6 = some (may7 x) := may_f3 k _ _ _ _ _ _ _ hk h
theorem plain7_f (x : S51) : lrsc_plain.f x.f0 x.f1 x.f2 x.f3 x.f4 x.f5 x.f6 = some (plain7 x) := by
  unfold lrsc_plain.f plain7
  by_cases h1 : x.f0 = 1
  · rw [if_pos h1]; simp [h1]
  · by_cases h2 : x.f0 = 2
    · rw [if_neg h1, if_pos h2]; simp [h2]
    · rw [if_neg h1, if_neg h2, beq_eq_false_iff_ne.mpr h1, beq_eq_false_iff_ne.mpr h2]
      by_cases h3 : x.f0 ≥ 22
      · rw [if_pos h3, decide_eq_true (show 22 ≤ x.f0 from h3)]; simp
      · rw [if_neg h3, decide_eq_false (show ¬ 22 ≤ x.f0 from h3)]; simp
theorem turn7_f (x : S51) : lrsc_leads.f x.f0 x.f1 x.f2 x.f3 x.f4 x.f5 x.f6 = some (turn7 x) := by
  unfold lrsc_leads.f isa_Branch.f turn7
  rw [in_f]
  simp only [Option.bind_some]
  by_cases h1 : 5 ≤ x.f0 <;> by_cases h2 : x.f0 ≤ 10 <;> by_cases h3 : x.f0 = 3 <;> simp [h1, h2, h3] <;> omega
theorem may_rd {x : S51} (h : may7 x = true) : hasRd (formOf x.f0) = true ∨ x.f1 = 0 := by
  unfold may7 mayF at h
  simp only [Bool.and_eq_true] at h
  have h1 := h.1.1.1.1.2
  unfold regOk at h1
  simp only [Bool.and_eq_true, Bool.or_eq_true, beq_iff_eq] at h1
  exact h1.2
theorem spoils_f (k : Nat) (x : S51) (r : Int) (hk : 20 ≤ k) (h : Fine x) : lrsc_spoils.f k x.f0 x.f1 x.f2 x.f3 x.f4 x.f5 x.f6 r = some (may7 x && wr7 x r) := by
  unfold lrsc_spoils.f isa_Writes.f
  rw [may7_f k x hk h]
  simp only [Option.bind_some]
  cases hm : may7 x
  · simp
  · by_cases h1 : x.f1 = 0
    · simp [h1, wr7]
    · rcases may_rd hm with h2 | h2
      · simp [h1, h2, wr7]
      · exact absurd h2 h1
theorem storeF_f (k : Nat) (x : S51) (r : Int) (hk : 20 ≤ k) (h : Fine x) :
    lrsc_storeF1.f k x.f0 x.f1 x.f2 x.f3 x.f4 x.f5 x.f6 r = some (may7 x && on7 x && !(wr7 x r)) := by
  unfold lrsc_storeF1.f on7
  rw [may7_f k x hk h, plain7_f, turn7_f, spoils_f k x r hk h]
  simp only [Option.bind_some]
  cases may7 x <;> cases plain7 x <;> cases turn7 x <;> cases wr7 x r <;> by_cases hp : x.f4 > 0 <;> simp [hp]
theorem lengthF_f (k : Nat) (x : S51) (hk : 20 ≤ k) (h : Fine x) :
    lrsc_LengthF1.f k x.f0 x.f1 x.f2 x.f3 x.f4 x.f5 x.f6 = some (may7 x && on7 x) := by
  unfold lrsc_LengthF1.f on7
  rw [may7_f k x hk h, plain7_f, turn7_f]
  simp only [Option.bind_some]
  cases may7 x <;> cases plain7 x <;> cases turn7 x <;> by_cases hp : x.f4 > 0 <;> simp [hp]
theorem run_gen (L : Nat → Int → Option Int) (l : List S51) (a : Int) (P : S51 → Bool)
    (hs : ∀ (k n : Nat), 100 ≤ k → n ≤ 16 → L (k + 1) (n : Int) = if n < 16 ∧ a + n < l.length ∧ P (rd_T51 l (a + n)) = true then L k ((n + 1 : Nat) : Int) else some (n : Int)) :
    ∀ d n k : Nat, n + d = 16 → 101 + d < k → ∃ m : Nat, n ≤ m ∧ m ≤ 16 ∧ L k (n : Int) = some (m : Int) ∧ (∀ j : Nat, n ≤ j → j < m → a + j < l.length ∧ P (rd_T51 l (a + j)) = true) ∧
      (m < 16 → a + m < l.length → P (rd_T51 l (a + m)) = false) := by
  intro d
  induction d with
  | zero =>
    intro n k hn hk
    obtain ⟨k, rfl⟩ : ∃ m, k = m + 1 := ⟨k - 1, by omega⟩
    refine ⟨n, Nat.le_refl _, by omega, ?_, fun j h1 h2 => absurd h2 (by omega), fun h => absurd h (by omega)⟩
    rw [hs k n (by omega) (by omega), if_neg (by omega)]
  | succ d ih =>
    intro n k hn hk
    obtain ⟨k, rfl⟩ : ∃ m, k = m + 1 := ⟨k - 1, by omega⟩
    rw [hs k n (by omega) (by omega)]
    by_cases hc : n < 16 ∧ a + n < l.length ∧ P (rd_T51 l (a + n)) = true
    · rw [if_pos hc]
      obtain ⟨m, h1, h2, h3, h4, h5⟩ := ih (n + 1) k (by omega) (by omega)
      refine ⟨m, by omega, h2, h3, fun j g1 g2 => ?_, h5⟩
      by_cases he : j = n
      · subst he; exact hc.2
      · exact h4 j (by omega) g2
    · rw [if_neg hc]
      refine ⟨n, Nat.le_refl _, by omega, rfl, fun j h1 h2 => absurd h2 (by omega), fun h1 h2 => ?_⟩
      cases hP : P (rd_T51 l (a + n))
      · rfl
      · exact absurd ⟨h1, h2, hP⟩ hc
/-- All immediates of a code are numbers of 64 bits. -/
def Fines (l : List S51) : Prop := ∀ i : Int, 0 ≤ i → i < l.length → Fine (rd_T51 l i)
theorem runS_f (k : Nat) (l : List S51) (a r : Int) (hk : 200 ≤ k) (hl : l.length ≤ 1000) (hf : Fines l) (h0 : 0 ≤ a) (h1 : a ≤ l.length) :
    ∃ m : Nat, m ≤ 16 ∧ lrsc_runStore.f k l a r = some (m : Int) ∧ (∀ j : Nat, j < m → a + j < l.length ∧ (may7 (rd_T51 l (a + j)) && on7 (rd_T51 l (a + j)) && !(wr7 (rd_T51 l (a + j)) r)) = true) ∧
      (m < 16 → a + m < l.length → (may7 (rd_T51 l (a + m)) && on7 (rd_T51 l (a + m)) && !(wr7 (rd_T51 l (a + m)) r)) = false) := by
  obtain ⟨m, _, h2, h3, h4, h5⟩ := run_gen (fun k n => lrsc_runStore.l0 k l a r n) l a (fun x => may7 x && on7 x && !(wr7 x r)) (by
    intro k n hk hn
    show lrsc_runStore.l0 (k + 1) l a r (n : Int) = if n < 16 ∧ a + n < l.length ∧ (may7 (rd_T51 l (a + n)) && on7 (rd_T51 l (a + n)) && !(wr7 (rd_T51 l (a + n)) r)) = true then lrsc_runStore.l0 k l a r ((n + 1 : Nat) : Int) else some (n : Int)
    simp only [lrsc_runStore.l0]
    have e1 : wrap64 (a + (n : Int)) = a + n := by unfold wrap64; omega
    have e2 : wrap64 ((n : Int) + 1) = ((n + 1 : Nat) : Int) := by unfold wrap64; omega
    rw [e1, e2]
    by_cases c1 : n < 16
    · rw [if_pos (show (n : Int) < 16 by omega)]
      by_cases c2 : a + (n : Int) < l.length
      · rw [if_pos c2, if_pos (show 0 ≤ a + (n : Int) by omega), storeF_f k _ r (by omega) (hf _ (by omega) c2)]
        simp only [Option.bind_some]
        by_cases c3 : (may7 (rd_T51 l (a + n)) && on7 (rd_T51 l (a + n)) && !(wr7 (rd_T51 l (a + n)) r)) = true
        · rw [if_pos c3, if_pos ⟨c1, c2, c3⟩]
        · rw [if_neg c3, if_neg (fun h => c3 h.2.2)]
      · rw [if_neg c2, if_neg (fun h => c2 h.2.1)]
    · rw [if_neg (show ¬ (n : Int) < 16 by omega), if_neg (fun h => c1 h.1)]) 16 0 k (by omega) (by omega)
  exact ⟨m, h2, h3, fun j hj => h4 j (Nat.zero_le _) hj, h5⟩
theorem runL_f (k : Nat) (l : List S51) (a : Int) (hk : 200 ≤ k) (hl : l.length ≤ 1000) (hf : Fines l) (h0 : 0 ≤ a) (h1 : a ≤ l.length) :
    ∃ m : Nat, m ≤ 16 ∧ lrsc_runLength.f k l a = some (m : Int) ∧ (∀ j : Nat, j < m → a + j < l.length ∧ (may7 (rd_T51 l (a + j)) && on7 (rd_T51 l (a + j))) = true) ∧
      (m < 16 → a + m < l.length → (may7 (rd_T51 l (a + m)) && on7 (rd_T51 l (a + m))) = false) := by
  obtain ⟨m, _, h2, h3, h4, h5⟩ := run_gen (fun k n => lrsc_runLength.l0 k l a n) l a (fun x => may7 x && on7 x) (by
    intro k n hk hn
    show lrsc_runLength.l0 (k + 1) l a (n : Int) = if n < 16 ∧ a + n < l.length ∧ (may7 (rd_T51 l (a + n)) && on7 (rd_T51 l (a + n))) = true then lrsc_runLength.l0 k l a ((n + 1 : Nat) : Int) else some (n : Int)
    simp only [lrsc_runLength.l0]
    have e1 : wrap64 (a + (n : Int)) = a + n := by unfold wrap64; omega
    have e2 : wrap64 ((n : Int) + 1) = ((n + 1 : Nat) : Int) := by unfold wrap64; omega
    rw [e1, e2]
    by_cases c1 : n < 16
    · rw [if_pos (show (n : Int) < 16 by omega)]
      by_cases c2 : a + (n : Int) < l.length
      · rw [if_pos c2, if_pos (show 0 ≤ a + (n : Int) by omega), lengthF_f k _ (by omega) (hf _ (by omega) c2)]
        simp only [Option.bind_some]
        by_cases c3 : (may7 (rd_T51 l (a + n)) && on7 (rd_T51 l (a + n))) = true
        · rw [if_pos c3, if_pos ⟨c1, c2, c3⟩]
        · rw [if_neg c3, if_neg (fun h => c3 h.2.2)]
      · rw [if_neg c2, if_neg (fun h => c2 h.2.1)]
    · rw [if_neg (show ¬ (n : Int) < 16 by omega), if_neg (fun h => c1 h.1)]) 16 0 k (by omega) (by omega)
  exact ⟨m, h2, h3, fun j hj => h4 j (Nat.zero_le _) hj, h5⟩
/-- A constrained loop from p to en, whose store stands at sc. -/
structure Loop (l : List S51) (p sc en : Int) : Prop where
  p0 : 0 ≤ p
  ps : p < sc
  se : sc < en
  el : en < l.length
  sh : en - p < 16
  mp : may7 (rd_T51 l p) = true
  op : (rd_T51 l p).f0 = 66 ∨ (rd_T51 l p).f0 = 77
  wp : wr7 (rd_T51 l p) (rd_T51 l p).f2 = false
  mid : ∀ j, p < j → j < sc → (may7 (rd_T51 l j) && on7 (rd_T51 l j) && !(wr7 (rd_T51 l j) (rd_T51 l p).f2)) = true
  ms : may7 (rd_T51 l sc) = true
  os : (rd_T51 l sc).f0 = (rd_T51 l p).f0 + 1
  ra : (rd_T51 l sc).f2 = (rd_T51 l p).f2
  tail : ∀ j, sc < j → j < en → (may7 (rd_T51 l j) && on7 (rd_T51 l j)) = true
  me : may7 (rd_T51 l en) = true
  te : turn7 (rd_T51 l en) = true
  ie : (rd_T51 l en).f4 = 4 * (p - en)
theorem off_store {x : S51} (h : x.f0 = 67 ∨ x.f0 = 78) : on7 x = false := by
  unfold on7 plain7 turn7
  rcases h with h | h <;> rw [h] <;> simp
theorem off_end {x : S51} (h : turn7 x = true) (hn : x.f4 ≤ 0) : on7 x = false := by
  unfold on7 plain7
  rw [decide_eq_false (show ¬ 0 < x.f4 by omega)]
  unfold turn7 at h
  simp only [Bool.or_eq_true, Bool.and_eq_true, decide_eq_true_eq, beq_iff_eq] at h
  simp only [Bool.and_false, Bool.or_false, Bool.or_eq_false_iff, beq_eq_false_iff_ne, Bool.and_eq_false_iff, decide_eq_false_iff_not]
  omega
theorem Loop.offS {l : List S51} {p sc en : Int} (h : Loop l p sc en) : on7 (rd_T51 l sc) = false := off_store (by have := h.os; have := h.op; omega)
theorem Loop.offE {l : List S51} {p sc en : Int} (h : Loop l p sc en) : on7 (rd_T51 l en) = false := off_end h.te (by have := h.ie; have := h.ps; have := h.se; omega)
theorem Loop.one {l : List S51} {p sc en sc' en' : Int} (h : Loop l p sc en) (h' : Loop l p sc' en') : sc = sc' ∧ en = en' := by
  have e : sc = sc' := by
    rcases Int.lt_trichotomy sc sc' with c | c | c
    · have := h'.mid sc h.ps c; rw [h.offS] at this; simp at this
    · exact c
    · have := h.mid sc' h'.ps c; rw [h'.offS] at this; simp at this
  subst e
  refine ⟨rfl, ?_⟩
  rcases Int.lt_trichotomy en en' with c | c | c
  · have := h'.tail en h.se c; rw [h.offE] at this; simp at this
  · exact c
  · have := h.tail en' h'.se c; rw [h'.offE] at this; simp at this
/-- What a length tells. -/
def Ans (l : List S51) (p r : Int) : Prop := (∃ sc en, Loop l p sc en ∧ r = en - p + 1) ∨ (r = 0 ∧ ∀ sc en, ¬ Loop l p sc en)
theorem Ans.one {l : List S51} {p r r' : Int} (h : Ans l p r) (h' : Ans l p r') : r = r' := by
  rcases h with ⟨sc, en, h, e⟩ | ⟨e, h⟩
  · rcases h' with ⟨sc', en', h', e'⟩ | ⟨e', h'⟩
    · have := (h.one h').2; omega
    · exact absurd h (h' _ _)
  · rcases h' with ⟨sc', en', h', e'⟩ | ⟨e', h'⟩
    · exact absurd h' (h _ _)
    · omega
theorem store_f (k : Nat) (l : List S51) (p : Int) (hk : 200 ≤ k) (hl : l.length ≤ 1000) (hf : Fines l) (h0 : 0 ≤ p) (h1 : p < l.length) (hm : may7 (rd_T51 l p) = true)
    (ho : (rd_T51 l p).f0 = 66 ∨ (rd_T51 l p).f0 = 77) :
    (lrsc_store.f k l p = some (0, false) ∧ ∀ sc en, ¬ Loop l p sc en) ∨
    ∃ sc : Int, lrsc_store.f k l p = some (sc, true) ∧ p < sc ∧ sc ≤ p + 17 ∧ sc < l.length ∧ wr7 (rd_T51 l p) (rd_T51 l p).f2 = false ∧
      (∀ j, p < j → j < sc → (may7 (rd_T51 l j) && on7 (rd_T51 l j) && !(wr7 (rd_T51 l j) (rd_T51 l p).f2)) = true) ∧
      may7 (rd_T51 l sc) = true ∧ (rd_T51 l sc).f0 = (rd_T51 l p).f0 + 1 ∧ (rd_T51 l sc).f2 = (rd_T51 l p).f2 ∧ ∀ sc' en, Loop l p sc' en → sc' = sc := by
  unfold lrsc_store.f
  have e1 : wrap64 (p + 1) = p + 1 := by unfold wrap64; omega
  rw [if_pos h0, if_pos h1, spoils_f k _ _ (by omega) (hf p h0 h1), hm, e1]
  simp only [Option.bind_some, Bool.true_and]
  cases hw : wr7 (rd_T51 l p) (rd_T51 l p).f2
  · obtain ⟨m, m1, m2, m3, m4⟩ := runS_f k l (p + 1) (rd_T51 l p).f2 hk hl hf (by omega) (by omega)
    rw [m2]
    simp only [Option.bind_some, Bool.false_eq_true, if_false]
    have e2 : wrap64 (p + 1 + (m : Int)) = p + 1 + m := by unfold wrap64; omega
    rw [e2]
    have hsc : ∀ sc en, Loop l p sc en → sc = p + 1 + m := by
      intro sc en h
      have g1 := h.ps
      have g2 := h.se
      have g3 := h.el
      have g4 := h.sh
      rcases Int.lt_trichotomy sc (p + 1 + m) with c | c | c
      · have := (m3 (sc - p - 1).toNat (by omega)).2
        rw [show p + 1 + ((sc - p - 1).toNat : Int) = sc by omega, h.offS] at this
        simp at this
      · exact c
      · have := m4 (by omega) (by omega)
        rw [h.mid (p + 1 + m) (by omega) c] at this
        cases this
    by_cases c1 : p + 1 + (m : Int) ≥ l.length
    · rw [if_pos c1]
      refine .inl ⟨rfl, fun sc en h => ?_⟩
      have := hsc sc en h
      have g2 := h.se
      have g3 := h.el
      omega
    · rw [if_neg c1, if_pos (by omega), if_pos (by omega)]
      have hp : lrsc_pair.f (rd_T51 l p).f0 = some ((rd_T51 l p).f0 + 1) := by
        unfold lrsc_pair.f
        rcases ho with h | h <;> rw [h] <;> rfl
      rw [hp]
      simp only [Option.bind_some]
      by_cases c2 : (rd_T51 l (p + 1 + m)).f0 = (rd_T51 l p).f0 + 1
      · rw [if_pos c2]
        by_cases c3 : (rd_T51 l (p + 1 + m)).f2 = (rd_T51 l p).f2
        · rw [if_pos c3, may7_f k _ (by omega) (hf _ (by omega) (by omega))]
          simp only [Option.bind_some]
          cases c4 : may7 (rd_T51 l (p + 1 + m))
          · refine .inl ⟨rfl, fun sc en h => ?_⟩
            have := hsc sc en h
            subst this
            rw [h.ms] at c4
            cases c4
          · refine .inr ⟨p + 1 + m, rfl, by omega, by omega, by omega, by first | rfl | trivial, fun j j1 j2 => ?_, c4, c2, c3, hsc⟩
            have := (m3 (j - p - 1).toNat (by omega)).2
            rwa [show p + 1 + ((j - p - 1).toNat : Int) = j by omega] at this
        · rw [if_neg c3]
          refine .inl ⟨rfl, fun sc en h => ?_⟩
          have := hsc sc en h
          subst this
          exact c3 h.ra
      · rw [if_neg c2]
        refine .inl ⟨rfl, fun sc en h => ?_⟩
        have := hsc sc en h
        subst this
        exact c2 h.os
  · rw [if_pos rfl]
    refine .inl ⟨rfl, fun sc en h => ?_⟩
    rw [h.wp] at hw
    cases hw
theorem length_f (k : Nat) (l : List S51) (p : Int) (hk : 300 ≤ k) (hl : l.length ≤ 1000) (hf : Fines l) : ∃ r, lrsc_Length.f k l p = some r ∧ Ans l p r := by
  obtain ⟨k, rfl⟩ : ∃ m, k = m + 1 := ⟨k - 1, by omega⟩
  unfold lrsc_Length.f
  have hj : lrsc_Length.j0 (k + 1) l p true = some 0 := by simp only [lrsc_Length.j0, if_true]
  by_cases h0 : p < 0
  · rw [if_pos h0, hj]
    exact ⟨0, rfl, .inr ⟨rfl, fun sc en h => by have := h.p0; omega⟩⟩
  rw [if_neg h0]
  by_cases h1 : p ≥ l.length
  · rw [if_pos h1, hj]
    exact ⟨0, rfl, .inr ⟨rfl, fun sc en h => by have := h.ps; have := h.se; have := h.el; omega⟩⟩
  rw [if_neg h1, if_pos (by omega), if_pos (by omega), may7_f (k + 1) _ (by omega) (hf p (by omega) (by omega))]
  simp only [Option.bind_some]
  cases hm : may7 (rd_T51 l p)
  · rw [if_neg (by simp), hj]
    exact ⟨0, rfl, .inr ⟨rfl, fun sc en h => by rw [h.mp] at hm; cases hm⟩⟩
  rw [if_pos rfl]
  by_cases ho : (rd_T51 l p).f0 = 66 ∨ (rd_T51 l p).f0 = 77
  · have hp : lrsc_pair.f (rd_T51 l p).f0 = some ((rd_T51 l p).f0 + 1) := by
      unfold lrsc_pair.f
      rcases ho with h | h <;> rw [h] <;> rfl
    rw [hp]
    simp only [Option.bind_some]
    rw [show ((rd_T51 l p).f0 + 1 == 0) = false from beq_eq_false_iff_ne.mpr (by omega)]
    simp only [lrsc_Length.j0]
    rw [if_neg (by simp)]
    rcases store_f k l p (by omega) hl hf (by omega) (by omega) hm ho with ⟨e, hn⟩ | ⟨sc, e, s1, s2, s3, s4, s5, s6, s7, s8, s9⟩
    · rw [e]
      simp only [Option.bind_some]
      exact ⟨0, rfl, .inr ⟨rfl, hn⟩⟩
    · rw [e]
      simp only [Option.bind_some, if_true]
      have e1 : wrap64 (sc + 1) = sc + 1 := by unfold wrap64; omega
      rw [e1]
      obtain ⟨m, m1, m2, m3, m4⟩ := runL_f k l (sc + 1) (by omega) hl hf (by omega) (by omega)
      rw [m2]
      simp only [Option.bind_some]
      have e2 : wrap64 (sc + 1 + (m : Int)) = sc + 1 + m := by unfold wrap64; omega
      rw [e2]
      have hen : ∀ sc' en, Loop l p sc' en → sc' = sc ∧ en = sc + 1 + m := by
        intro sc' en h
        have hs := s9 sc' en h
        subst hs
        have g1 := h.ps
        have g2 := h.se
        have g3 := h.el
        have g4 := h.sh
        refine ⟨rfl, ?_⟩
        rcases Int.lt_trichotomy en (sc' + 1 + m) with c | c | c
        · have := (m3 (en - sc' - 1).toNat (by omega)).2
          rw [show sc' + 1 + ((en - sc' - 1).toNat : Int) = en by omega, h.offE] at this
          simp at this
        · exact c
        · have := m4 (by omega) (by omega)
          rw [h.tail (sc' + 1 + m) (by omega) c] at this
          cases this
      by_cases c1 : sc + 1 + (m : Int) ≥ l.length
      · rw [if_pos c1]
        refine ⟨0, rfl, .inr ⟨rfl, fun sc' en h => ?_⟩⟩
        have := (hen sc' en h).2
        have g3 := h.el
        omega
      · rw [if_neg c1, if_pos (by omega), if_pos (by omega), may7_f k _ (by omega) (hf _ (by omega) (by omega)), turn7_f]
        simp only [Option.bind_some]
        cases c2 : may7 (rd_T51 l (sc + 1 + m))
        · refine ⟨0, rfl, .inr ⟨rfl, fun sc' en h => ?_⟩⟩
          obtain ⟨rfl, rfl⟩ := hen sc' en h
          rw [h.me] at c2; cases c2
        · cases c3 : turn7 (rd_T51 l (sc + 1 + m))
          · refine ⟨0, rfl, .inr ⟨rfl, fun sc' en h => ?_⟩⟩
            obtain ⟨rfl, rfl⟩ := hen sc' en h
            rw [h.te] at c3; cases c3
          · simp only [if_true]
            have e3 : wrap64 (p - (sc + 1 + (m : Int))) = p - (sc + 1 + m) := by unfold wrap64; omega
            have e4 : wrap64 (4 * (p - (sc + 1 + (m : Int)))) = 4 * (p - (sc + 1 + m)) := by unfold wrap64; omega
            have e5 : wrap64 (sc + 1 + (m : Int) - p) = sc + 1 + m - p := by unfold wrap64; omega
            have e6 : wrap64 (sc + 1 + (m : Int) - p + 1) = sc + 1 + m - p + 1 := by unfold wrap64; omega
            rw [e3, e4, e5, e6]
            by_cases c4 : (rd_T51 l (sc + 1 + m)).f4 = 4 * (p - (sc + 1 + m))
            · rw [if_pos c4]
              by_cases c5 : sc + 1 + (m : Int) - p ≥ 16
              · rw [if_pos c5]
                refine ⟨0, rfl, .inr ⟨rfl, fun sc' en h => ?_⟩⟩
                obtain ⟨rfl, rfl⟩ := hen sc' en h
                have := h.sh
                omega
              · rw [if_neg c5]
                refine ⟨_, rfl, .inl ⟨sc, sc + 1 + m, ⟨by omega, s1, by omega, by omega, by omega, hm, ho, s4, s5, s6, s7, s8, fun j j1 j2 => ?_, c2, c3, c4⟩, rfl⟩⟩
                have := (m3 (j - sc - 1).toNat (by omega)).2
                rwa [show sc + 1 + ((j - sc - 1).toNat : Int) = j by omega] at this
            · rw [if_neg c4]
              refine ⟨0, rfl, .inr ⟨rfl, fun sc' en h => ?_⟩⟩
              obtain ⟨rfl, rfl⟩ := hen sc' en h
              exact c4 h.ie
  · have hp : lrsc_pair.f (rd_T51 l p).f0 = some 0 := by
      unfold lrsc_pair.f
      rw [if_neg (fun h => ho (.inl h)), if_neg (fun h => ho (.inr h))]
    rw [hp]
    simp only [Option.bind_some]
    rw [show ((0 : Int) == 0) = true from rfl, hj]
    exact ⟨0, rfl, .inr ⟨rfl, fun sc en h => ho h.op⟩⟩
theorem fines_of {l : List S51} (q : ∀ y ∈ l, Q51 y) : Fines l := by
  intro i h0 h1
  have h : i.toNat < l.length := by omega
  have e : rd_T51 l i = l[i.toNat] := by unfold rd_T51; simp [h]
  rw [e]
  exact wf_i64 (q _ (List.getElem_mem h)).2.2.2.2.1
theorem awake12 (k : Nat) (hk : 400 ≤ k) : spinnakerlaw12_awake.f k = some true := by
  refine at_rounds (fun k => spinnakerlaw12_awake.mono k) hk ?_
  decide +kernel

theorem Loop.move {l l' : List S51} {p sc en : Int} (s : Int) (h : Loop l p sc en) (p0 : 0 ≤ p + s) (el : en + s < l'.length) (hs : ∀ j, p ≤ j → j ≤ en → rd_T51 l' (j + s) = rd_T51 l j) : Loop l' (p + s) (sc + s) (en + s) := by
  have g1 := h.ps
  have g2 := h.se
  have ep := hs p (by omega) (by omega)
  have es := hs sc (by omega) (by omega)
  have ee := hs en (by omega) (by omega)
  refine ⟨p0, by omega, by omega, el, by have := h.sh; omega, by rw [ep]; exact h.mp, by rw [ep]; exact h.op, by rw [ep]; exact h.wp, fun j j1 j2 => ?_, by rw [es]; exact h.ms, by rw [es, ep]; exact h.os, by rw [es, ep]; exact h.ra, fun j j1 j2 => ?_,
    by rw [ee]; exact h.me, by rw [ee]; exact h.te, by rw [ee, h.ie]; omega⟩
  · have e := hs (j - s) (by omega) (by omega)
    rw [show j - s + s = j by omega] at e
    rw [e, ep]
    exact h.mid (j - s) (by omega) (by omega)
  · have e := hs (j - s) (by omega) (by omega)
    rw [show j - s + s = j by omega] at e
    rw [e]
    exact h.tail (j - s) (by omega) (by omega)
theorem rd_mid (a l b : List S51) (j : Int) (h0 : 0 ≤ j) (h1 : j < l.length) : rd_T51 (a ++ l ++ b) (j + a.length) = rd_T51 l j := by
  unfold rd_T51
  have e : (j + (a.length : Int)).toNat = a.length + j.toNat := by omega
  have h : j.toNat < l.length := by omega
  rw [e, List.getD_eq_getElem?_getD, List.getD_eq_getElem?_getD, List.append_assoc, List.getElem?_append_right (by omega), Nat.add_sub_cancel_left, List.getElem?_append_left h]
theorem rd_take (l : List S51) (n : Nat) (j : Int) (h0 : 0 ≤ j) (h1 : j < n) : rd_T51 (l.take n) j = rd_T51 l j := by
  unfold rd_T51
  rw [List.getD_eq_getElem?_getD, List.getD_eq_getElem?_getD, List.getElem?_take_of_lt (by omega)]
theorem LrscAround (l : List S51) (hm : l.length ≤ maxLen) (q : ∀ y ∈ l, Q51 y) (a : List S51) (ha : a.length ≤ maxLen) (qa : ∀ y ∈ a, Q51 y) (b : List S51) (hb : b.length ≤ maxLen) (qb : ∀ y ∈ b, Q51 y) :
    ∃ k, spinnakerlaw12_LrscAround.f k l a b = some true := by
  refine ⟨1000, ?_⟩
  unfold spinnakerlaw12_LrscAround.f
  have hw : spinnakerlaw12_LrscAround.j0 1000 l a b true = some true := by
    simp only [spinnakerlaw12_LrscAround.j0]
    rw [awake12 999 (by decide)]; rfl
  by_cases h1 : (l.length : Int) > 60
  · rw [if_pos h1, hw]
  · rw [if_neg h1]
    by_cases h2 : (a.length : Int) > 60
    · rw [if_pos h2, hw]
    · rw [if_neg h2]
      by_cases h3 : (b.length : Int) > 60
      · rw [decide_eq_true h3, hw]
      · rw [decide_eq_false h3]
        simp only [spinnakerlaw12_LrscAround.j0]
        obtain ⟨n, en, hn⟩ := length_f 999 l 0 (by decide) (by omega) (fines_of q)
        rw [if_neg (by simp), en]
        simp only [Option.bind_some]
        have hq : ∀ y ∈ a ++ l ++ b, Q51 y := by
          intro y hy
          rcases List.mem_append.1 hy with hy | hy
          · rcases List.mem_append.1 hy with hy | hy
            · exact qa y hy
            · exact q y hy
          · exact qb y hy
        have hlen : (a ++ l ++ b).length = a.length + l.length + b.length := by simp; omega
        have hbd : 0 ≤ n ∧ n ≤ l.length ∧ n ≤ 16 := by
          rcases hn with ⟨sc, e, h, rfl⟩ | ⟨rfl, _⟩
          · have := h.ps
            have := h.se
            have := h.el
            have := h.sh
            omega
          · omega
        have hj : spinnakerlaw12_LrscAround.j1 999 l a b n false = some true := by
          simp only [spinnakerlaw12_LrscAround.j1]
          rw [if_neg (by simp)]
          simp only [Option.bind_some, List.nil_append, List.length_nil]
          have c1 : 0 + a.length < 2932031007402 := by omega
          have c2 : a.length + l.length < 2932031007402 := by omega
          have c3 : (a ++ l).length + b.length < 2932031007402 := by rw [List.length_append]; omega
          rw [if_pos c1, if_pos c2, if_pos c3, awake12 998 (by decide)]
          by_cases h0 : n = 0
          · rw [if_pos h0]; rfl
          · rw [if_neg h0]
            rcases hn with ⟨sc, e, h, hr⟩ | ⟨hz, _⟩
            · have g1 := h.ps
              have g2 := h.se
              have g3 := h.el
              obtain ⟨r1, e1, a1⟩ := length_f 998 (a ++ l ++ b) a.length (by decide) (by rw [hlen]; omega) (fines_of hq)
              have m1 : Loop (a ++ l ++ b) (0 + a.length) (sc + a.length) (e + a.length) := h.move a.length (by omega) (by rw [hlen]; omega) fun j j1 j2 => rd_mid a l b j j1 (by omega)
              have f1 : r1 = n := a1.one (.inl ⟨_, _, by rw [Int.zero_add] at m1; exact m1, by omega⟩)
              obtain ⟨r2, e2, a2⟩ := length_f 998 (l.take n.toNat) 0 (by decide) (by rw [List.length_take]; omega) (fines_of fun y hy => q y (List.mem_of_mem_take hy))
              have m2 : Loop (l.take n.toNat) (0 + 0) (sc + 0) (e + 0) := h.move 0 (by omega) (by rw [List.length_take]; omega) fun j j1 j2 => by rw [Int.add_zero]; exact rd_take l _ j j1 (by omega)
              have f2 : r2 = n := a2.one (.inl ⟨_, _, m2, by omega⟩)
              subst f1
              rw [e1]
              simp only [Option.bind_some, if_true]
              rw [if_pos hbd.1, if_pos hbd.2.1, e2, f2]
              simp
            · exact absurd hz h0
        rw [if_neg (by omega), if_neg (by omega), decide_eq_false (show ¬ n > 16 by omega), hj]

end Go.Proofs.YtbmjbidekmkboaaDoor.Pure
