/- Check names the first error of any unit of at most 300 items, and its place, as the reference does, and the chapter's example holds; for every list of items. -/
import Derived.Test.YtbmjbidekmkboaaDoorGUnitChecksx13
import Derived.Test.YtbmjbidekmkboaaDoorOpenUnitChecks
namespace Go.Proofs.YtbmjbidekmkboaaDoor.Pure
open Go.RowKit Go.Proofs.YtbmjbidekmkboaaDoor.GUnitChecks Go.Proofs.YtbmjbidekmkboaaDoorW.PrintWords Go.Proofs.YtbmjbidekmkboaaDoorW.PrintLast Go.Proofs.YtbmjbidekmkboaaDoorW.PrintMore
set_option linter.unusedVariables false
set_option linter.unusedSimpArgs false
attribute [local irreducible] shl shr

/-- Numbers that need no wrapping, and two's complement by its lowest bits. -/
theorem w64 {x : Int} (h0 : -9223372036854775808 ≤ x) (h1 : x < 9223372036854775808) : wrap64 x = x := by
  unfold wrap64; omega
theorem w64n {x : Int} (n : Nat) (h : x = n) (hn : n < 9223372036854775808) : wrap64 x = (n : Int) := by
  rw [w64 (by omega) (by omega), h]
theorem wu64 (x : Int) : IntKind.u64.wrap x = x % 18446744073709551616 := by
  simp [IntKind.wrap, IntKind.bits, IntKind.signed]
theorem wf_i64 {x : Int} (h : (Lit.int .i64 x).wf = true) : -9223372036854775808 ≤ x ∧ x < 9223372036854775808 := by
  simp [Lit.wf, IntKind.min, IntKind.max, IntKind.bits, IntKind.signed] at h; omega
theorem wf_u32 {x : Int} (h : (Lit.int .u32 x).wf = true) : 0 ≤ x ∧ x < 4294967296 := by
  simp [Lit.wf, IntKind.min, IntKind.max, IntKind.bits, IntKind.signed] at h; omega
theorem wf_u8 {x : Int} (h : (Lit.int .u8 x).wf = true) : 0 ≤ x ∧ x < 256 := by
  simp [Lit.wf, IntKind.min, IntKind.max, IntKind.bits, IntKind.signed] at h; omega
theorem p64 : (2 : Int) ^ 64 = 18446744073709551616 := by decide
theorem p63 : (2 : Int) ^ 63 = 9223372036854775808 := by decide
theorem p_pos (n : Nat) : (0 : Int) < 2 ^ n := Int.pow_pos (by decide)
theorem p_add (a b : Nat) : (2 : Int) ^ (a + b) = 2 ^ a * 2 ^ b := Int.pow_add 2 a b
theorem p_le {a b : Nat} (h : a ≤ b) : (2 : Int) ^ a ≤ 2 ^ b := by
  obtain ⟨c, rfl⟩ := Nat.exists_eq_add_of_le h
  rw [p_add]
  have h1 : (2 : Int) ^ a * 1 ≤ 2 ^ a * 2 ^ c := Int.mul_le_mul_of_nonneg_left (by have := p_pos c; omega) (Int.le_of_lt (p_pos a))
  omega
theorem b64 {i : Nat} (h : i ≤ 64) : (2 : Int) ^ i ≤ 18446744073709551616 := by have := p_le h; rw [p64] at this; exact this
theorem b63 {i : Nat} (h : i ≤ 63) : (2 : Int) ^ i ≤ 9223372036854775808 := by have := p_le h; rw [p63] at this; exact this
theorem b62 {i : Nat} (h : i ≤ 62) : (2 : Int) ^ i ≤ 4611686018427387904 := by have := p_le h; rw [show (2 : Int) ^ 62 = 4611686018427387904 from by decide] at this; exact this
theorem b60 {i : Nat} (h : i ≤ 60) : (2 : Int) ^ i ≤ 1152921504606846976 := by have := p_le h; rw [show (2 : Int) ^ 60 = 1152921504606846976 from by decide] at this; exact this
theorem p_succ (n : Nat) : (2 : Int) ^ (n + 1) = 2 * 2 ^ n := by rw [p_add]; omega

/-- The number with a sign that the lowest n bits are. -/
def sgn (v : Int) (n : Nat) : Int := if v % 2 ^ n < 2 ^ (n - 1) then v % 2 ^ n else v % 2 ^ n - 2 ^ n

theorem mod_mod {v : Int} {a b : Nat} (h : a ≤ b) : v % 2 ^ b % 2 ^ a = v % 2 ^ a := by
  obtain ⟨c, rfl⟩ := Nat.exists_eq_add_of_le h
  exact Int.emod_emod_of_dvd v ⟨2 ^ c, p_add a c⟩
theorem sgn_mod {v : Int} {a b : Nat} (h : a ≤ b) : sgn (v % 2 ^ b) a = sgn v a := by
  unfold sgn; rw [mod_mod h]
theorem sgn_range (v : Int) (n : Nat) (h : 1 ≤ n) : -2 ^ (n - 1) ≤ sgn v n ∧ sgn v n < 2 ^ (n - 1) := by
  have h0 := Int.emod_nonneg v (Int.ne_of_gt (p_pos n))
  have h1 := Int.emod_lt_of_pos v (p_pos n)
  have h2 : (2 : Int) ^ n = 2 * 2 ^ (n - 1) := by rw [← p_succ]; congr 1; omega
  unfold sgn
  split <;> omega
/-- Which number has the same lowest bits and fits is the one. -/
theorem sgn_self {v : Int} {n : Nat} (h : 1 ≤ n) (h0 : -2 ^ (n - 1) ≤ v) (h1 : v < 2 ^ (n - 1)) : sgn v n = v := by
  have h2 : (2 : Int) ^ n = 2 * 2 ^ (n - 1) := by rw [← p_succ]; congr 1; omega
  have hp := p_pos (n - 1)
  unfold sgn
  by_cases hv : 0 ≤ v
  · have e : v % 2 ^ n = v := Int.emod_eq_of_lt hv (by omega)
    rw [e, if_pos h1]
  · have e : v % 2 ^ n = v + 2 ^ n := by
      rw [← Int.add_emod_right]; exact Int.emod_eq_of_lt (by omega) (by omega)
    rw [e, if_neg (by omega)]; omega
theorem shl_shr (v : Int) (n : Nat) (h1 : 1 ≤ n) (h64 : n ≤ 64) :
    shr .i64 (wrap64 (shl .u64 (v % 18446744073709551616) (64 - (n : Int)))) (64 - (n : Int)) = sgn v n := by
  have hy : (64 - (n : Int)).toNat = 64 - n := by omega
  have hm : min (64 - n) 64 = 64 - n := by omega
  unfold shl shr
  rw [hy, show IntKind.u64.bits = 64 from rfl, show IntKind.i64.bits = 64 from rfl, hm, wu64]
  have hP := p_pos (64 - n)
  have hR := p_pos (n - 1)
  have hQ : (2 : Int) ^ n = 2 * 2 ^ (n - 1) := by rw [← p_succ]; congr 1; omega
  have hPQ : (2 : Int) ^ n * 2 ^ (64 - n) = 18446744073709551616 := by
    rw [← p_add, show n + (64 - n) = 64 from by omega]; exact p64
  have hRP : (2 : Int) ^ (n - 1) * 2 ^ (64 - n) = 9223372036854775808 := by
    rw [← p_add, show n - 1 + (64 - n) = 63 from by omega]; exact p63
  have e1 : v % 18446744073709551616 * 2 ^ (64 - n) % 18446744073709551616 = (v % 2 ^ n) * 2 ^ (64 - n) := by
    have e2 : (v % 18446744073709551616) % 2 ^ n = v % 2 ^ n := by rw [← p64]; exact mod_mod h64
    rw [← e2, Int.mul_comm (v % 18446744073709551616 % 2 ^ n), ← Int.mul_emod_mul_of_pos _ _ hP, Int.mul_comm (2 ^ (64 - n)) (2 ^ n), hPQ, Int.mul_comm (2 ^ (64 - n))]
  rw [e1]
  have h0 := Int.emod_nonneg v (Int.ne_of_gt (p_pos n))
  have h3 := Int.emod_lt_of_pos v (p_pos n)
  unfold sgn
  generalize v % 2 ^ n = m at h0 h3 ⊢
  generalize (2 : Int) ^ (64 - n) = P at hP hPQ hRP ⊢
  generalize (2 : Int) ^ (n - 1) = R at hR hQ hRP ⊢
  rw [hQ] at h3 hPQ ⊢
  split
  · rename_i hlt
    have a1 : 0 ≤ m * P := Int.mul_nonneg h0 (Int.le_of_lt hP)
    have a2 : m * P < R * P := Int.mul_lt_mul_of_pos_right hlt hP
    rw [w64 (by omega) (by omega), Int.mul_ediv_cancel _ (Int.ne_of_gt hP)]
  · rename_i hge
    have a1 : R * P ≤ m * P := Int.mul_le_mul_of_nonneg_right (by omega) (Int.le_of_lt hP)
    have a2 : m * P < 2 * R * P := Int.mul_lt_mul_of_pos_right h3 hP
    have e3 : wrap64 (m * P) = (m - 2 * R) * P := by
      rw [Int.sub_mul]; unfold wrap64; omega
    rw [e3, Int.mul_ediv_cancel _ (Int.ne_of_gt hP)]

theorem toList_d (s : ByteArray) : s.toList = s.data.toList := ByteArray.toList_eq s
theorem name_in {a : Int} (h : 1 ≤ a ∧ a ≤ 87) : isa_Name.f a = some (rdOf ByteArray.empty isaNames a) := by
  unfold isa_Name.f; rw [if_pos h]
theorem name_out {a : Int} (h : ¬ (1 ≤ a ∧ a ≤ 87)) : isa_Name.f a = some (⟨#[]⟩ : ByteArray) := by
  unfold isa_Name.f; rw [if_neg h]
theorem name_ne {a : Int} (h : 1 ≤ a ∧ a ≤ 87) : ¬ (rdOf ByteArray.empty isaNames a).toList = ([] : List UInt8) := by
  rw [toList_d]
  obtain ⟨n, rfl⟩ := Int.eq_ofNat_of_zero_le (show 0 ≤ a by omega)
  have hn : n < 88 := by omega
  have h1 := h.1
  clear h
  revert h1; revert hn; revert n
  decide +kernel
theorem nil_d : (⟨#[]⟩ : ByteArray).toList = ([] : List UInt8) := by rw [toList_d]
/-- An operation's form, plainly. -/
def formOf (a : Int) : Int :=
  if ¬ (1 ≤ a ∧ a ≤ 87) then -1 else if a ≤ 2 then 1 else if a = 3 then 2 else if 5 ≤ a ∧ a ≤ 10 then 4 else if 18 ≤ a ∧ a ≤ 21 then 5
  else if 35 ≤ a ∧ a ≤ 62 then 6 else if 28 ≤ a ∧ a ≤ 30 then 7 else if 32 ≤ a ∧ a ≤ 34 then 8 else if a = 63 then 9 else if a = 64 ∨ a = 65 then 0
  else if a = 66 ∨ a = 77 then 10 else if a > 66 then 11 else 3
theorem form_f {a : Int} (k : Nat) (hk : 10 ≤ k) : isa_Form.f k a = some (formOf a) := by
  by_cases h : 1 ≤ a ∧ a ≤ 87
  · refine at_rounds (fun k => isa_Form.mono a k) hk ?_
    unfold isa_Form.f
    rw [name_in h]
    simp only [Option.bind_some]
    rw [if_neg (name_ne h)]
    obtain ⟨n, rfl⟩ := Int.eq_ofNat_of_zero_le (show 0 ≤ a by omega)
    have hn : n < 88 := by omega
    have h1 := h.1
    clear h hk
    revert h1; revert hn; revert n
    decide +kernel
  · unfold isa_Form.f formOf
    rw [name_out h, if_pos h]
    simp only [Option.bind_some]
    rw [if_pos nil_d]

theorem letter_out {a : Int} (h : ¬ (1 ≤ a ∧ a ≤ 87)) : spinnakerref03_letter.f a = some 0 := by
  unfold spinnakerref03_letter.f
  by_cases h1 : a < 1
  · rw [if_pos h1]
  · rw [if_neg h1, if_pos (by omega)]

theorem bt_get (s : ByteArray) (i : Nat) (h : i < s.data.toList.length) : bt s (i : Int) = (s.data.toList[i].toNat : Int) := by
  have h' : i < s.size := by simpa using h
  unfold bt
  rw [dif_pos (show ((i : Int)).toNat < s.size by simpa using h')]
  rfl
theorem has_l (a : Int) (s : ByteArray) (v : Int) (hv : spinnakerref03_letter.f a = some v) (hs : s.size < 1000) (d : Nat) : ∀ (k i : Nat), s.size - i = d → i ≤ s.size → d < k →
    spinnakerref03_has.l0 k a s i = some ((s.data.toList.drop i).any fun c => v == (c.toNat : Int)) := by
  have hz : s.data.toList.length = s.size := by simp
  induction d with
  | zero =>
    intro k i hd hi hk
    obtain ⟨k, rfl⟩ : ∃ m, k = m + 1 := ⟨k - 1, by omega⟩
    simp only [spinnakerref03_has.l0]
    rw [if_neg (by omega), List.drop_of_length_le (by omega)]; rfl
  | succ d ih =>
    intro k i hd hi hk
    obtain ⟨k, rfl⟩ : ∃ m, k = m + 1 := ⟨k - 1, by omega⟩
    simp only [spinnakerref03_has.l0]
    have hi' : i < s.data.toList.length := by omega
    rw [if_pos (by omega), hv]
    simp only [Option.bind_some]
    rw [if_pos (by omega), bt_get s i hi', List.drop_eq_getElem_cons hi', List.any_cons]
    by_cases he : v = (s.data.toList[i].toNat : Int)
    · rw [if_pos he]; simp [he]
    · rw [if_neg he, show wrap64 ((i : Int) + 1) = ((i + 1 : Nat) : Int) from by unfold wrap64; omega, ih k (i + 1) (by omega) (by omega) (by omega), beq_eq_false_iff_ne.mpr he, Bool.false_or]
theorem has_f (k : Nat) (a : Int) (s : ByteArray) (v : Int) (hv : spinnakerref03_letter.f a = some v) (hs : s.size < k) (hk : s.size < 1000) :
    spinnakerref03_has.f k a s = some (s.data.toList.any fun c => v == (c.toNat : Int)) := by
  unfold spinnakerref03_has.f
  exact has_l a s v hv hk s.size k 0 (by omega) (by omega) hs

theorem in_f (a x y : Int) : isa_in.f a x y = some (decide (x ≤ a ∧ a ≤ y)) := by
  unfold isa_in.f
  by_cases h : a ≥ x
  · rw [if_pos h]; congr 1; rw [decide_eq_decide]; omega
  · rw [if_neg h]; congr 1; symm; rw [decide_eq_false_iff_not]; omega

theorem fits_f (v n : Int) (h0 : -9223372036854775808 ≤ v) (h1 : v < 9223372036854775808) (h : -9223372036854775808 ≤ n) (h' : n < 9223372036854775808) :
    word_Fits.f v n = some (decide (1 ≤ n ∧ n ≤ 64 ∧ -2 ^ (n.toNat - 1) ≤ v ∧ v < 2 ^ (n.toNat - 1))) := by
  unfold word_Fits.f
  by_cases hn1 : n < 1
  · rw [if_pos hn1]; congr 1; symm; simp; omega
  · rw [if_neg hn1]
    by_cases hn2 : n > 64
    · rw [if_pos hn2]; congr 1; symm; simp; omega
    · rw [if_neg hn2, w64 (by omega) (by omega), if_pos (by omega), wu64]
      have e := shl_shr v n.toNat (by omega) (by omega)
      rw [show ((n.toNat : Nat) : Int) = n from by omega] at e
      rw [e]
      congr 1
      rw [Bool.eq_iff_iff]
      simp only [beq_iff_eq, decide_eq_true_eq]
      constructor
      · intro hh
        have := sgn_range v n.toNat (by omega)
        rw [hh] at this
        exact ⟨by omega, by omega, this⟩
      · intro hh
        exact sgn_self (by omega) hh.2.2.1 hh.2.2.2

theorem power_l (d : Nat) : ∀ (k : Nat) (n p : Int) (i : Nat), n ≤ 63 → p = 2 ^ i → n - i = d → d < k →
    spinnakerref01_Power.l0 k n p i = some (2 ^ n.toNat) := by
  induction d with
  | zero =>
    intro k n p i hn hp hd hk
    obtain ⟨k, rfl⟩ : ∃ m, k = m + 1 := ⟨k - 1, by omega⟩
    simp only [spinnakerref01_Power.l0]
    rw [if_neg (by omega), hp, show n.toNat = i from by omega]
  | succ d ih =>
    intro k n p i hn hp hd hk
    obtain ⟨k, rfl⟩ : ∃ m, k = m + 1 := ⟨k - 1, by omega⟩
    simp only [spinnakerref01_Power.l0]
    have h62 : (2 : Int) ^ i ≤ 4611686018427387904 := b62 (by omega)
    have hpi := p_pos i
    have e1 : 2 * p % 18446744073709551616 = 2 ^ (i + 1) := by
      rw [hp, p_succ]; omega
    have e2 : wrap64 ((i : Int) + 1) = ((i + 1 : Nat) : Int) := by rw [w64 (by omega) (by omega)]; simp
    rw [if_pos (by omega), wu64, e1, e2]
    exact ih k n _ (i + 1) hn rfl (by omega) (by omega)
theorem power_f (k : Nat) (n : Int) (h0 : 0 ≤ n) (hn : n ≤ 63) (hk : 64 < k) : spinnakerref01_Power.f k n = some (2 ^ n.toNat) := by
  unfold spinnakerref01_Power.f
  exact power_l n.toNat k n 1 0 hn (by simp) (by omega) (by omega)
theorem ref_fits (k : Nat) (v n : Int) (h0 : -9223372036854775808 ≤ v) (h1 : v < 9223372036854775808) (hk : 66 < k) :
    spinnakerref01_Fits.f k v n = some (decide (1 ≤ n ∧ n ≤ 64 ∧ -2 ^ (n.toNat - 1) ≤ v ∧ v < 2 ^ (n.toNat - 1))) := by
  obtain ⟨k, rfl⟩ : ∃ m, k = m + 1 := ⟨k - 1, by omega⟩
  have e : ∀ b, b = true → ¬ (1 ≤ n ∧ n ≤ 64) → spinnakerref01_Fits.j0 (k + 1) v n b = some (decide (1 ≤ n ∧ n ≤ 64 ∧ -2 ^ (n.toNat - 1) ≤ v ∧ v < 2 ^ (n.toNat - 1))) := by
    rintro b rfl hn
    simp only [spinnakerref01_Fits.j0]
    rw [if_true]; congr 1; symm; simp only [decide_eq_false_iff_not]; omega
  unfold spinnakerref01_Fits.f
  by_cases hn1 : n < 1
  · rw [if_pos hn1]; exact e _ rfl (by omega)
  · rw [if_neg hn1]
    by_cases hn2 : n > 64
    · exact e _ (by simpa using hn2) (by omega)
    · simp only [spinnakerref01_Fits.j0]
      rw [if_neg (by simp; omega)]
      by_cases hn3 : n = 64
      · rw [if_pos hn3]; subst hn3
        congr 1; symm; simp only [decide_eq_true_eq]
        have h63 : (2 : Int) ^ ((64 : Int).toNat - 1) = 9223372036854775808 := by decide
        rw [h63]; omega
      · rw [if_neg hn3, w64 (x := n - 1) (by omega) (by omega), power_f k (n - 1) (by omega) (by omega) (by omega)]
        simp only [Option.bind_some]
        have hb : (2 : Int) ^ (n.toNat - 1) ≤ 4611686018427387904 := b62 (by omega)
        have hp := p_pos (n.toNat - 1)
        rw [show (n - 1).toNat = n.toNat - 1 from by omega]
        generalize (2 : Int) ^ (n.toNat - 1) = p at *
        rw [w64 (x := p) (by omega) (by omega), w64 (x := -p) (by omega) (by omega), w64 (x := p - 1) (by omega) (by omega)]
        by_cases hv : v ≥ -p
        · rw [if_pos hv]; congr 1; simp only [decide_eq_decide]; omega
        · rw [if_neg hv]; congr 1; symm; simp only [decide_eq_false_iff_not]; omega

theorem and_some {p q : Prop} [Decidable p] [Decidable q] : (if p then some (decide q) else some false) = some (decide (p ∧ q)) := by
  by_cases h : p <;> simp [h]
theorem form_cases (a : Int) : formOf a = -1 ∨ formOf a = 0 ∨ formOf a = 1 ∨ formOf a = 2 ∨ formOf a = 3 ∨ formOf a = 4 ∨ formOf a = 5 ∨ formOf a = 6 ∨ formOf a = 7 ∨ formOf a = 8 ∨ formOf a = 9 ∨ formOf a = 10 ∨ formOf a = 11 := by
  by_cases h : 1 ≤ a ∧ a ≤ 87
  · obtain ⟨n, rfl⟩ := Int.eq_ofNat_of_zero_le (show 0 ≤ a by omega)
    have hn : n < 88 := by omega
    have h1 := h.1
    clear h
    revert h1; revert hn; revert n
    decide +kernel
  · left; unfold formOf; rw [if_pos h]
theorem form_neg (a : Int) : formOf a = -1 ↔ ¬ (1 ≤ a ∧ a ≤ 87) := by
  constructor
  · intro h hc
    revert h
    obtain ⟨n, rfl⟩ := Int.eq_ofNat_of_zero_le (show 0 ≤ a by omega)
    have hn : n < 88 := by omega
    have h1 := hc.1
    clear hc
    revert h1; revert hn; revert n
    decide +kernel
  · intro h; unfold formOf; rw [if_pos h]
/-- Which fields a form has, which immediates it may have. -/
def hasRd (f : Int) : Bool := f == 1 || f == 2 || f == 3 || f == 6 || f == 7 || f == 8 || f == 10 || f == 11
def hasA (f : Int) : Bool := f == 3 || f == 4 || f == 5 || f == 6 || f == 7 || f == 8 || f == 10 || f == 11
def hasB (f : Int) : Bool := f == 4 || f == 5 || f == 6 || f == 11
def regOk (r : Int) (has : Bool) : Bool := decide (0 ≤ r ∧ r < 32) && (has || r == 0)
def immOk (f n : Int) : Bool :=
  if f = 1 then decide (-524288 ≤ n ∧ n ≤ 524287) else if f = 2 then decide (-1048576 ≤ n ∧ n ≤ 1048575) && (Int.tmod n 2 == 0)
  else if f = 4 then decide (-4096 ≤ n ∧ n ≤ 4095) && (Int.tmod n 2 == 0) else if f = 3 ∨ f = 5 then decide (-2048 ≤ n ∧ n ≤ 2047)
  else if f = 7 then decide (0 ≤ n ∧ n ≤ 63) else if f = 8 then decide (0 ≤ n ∧ n ≤ 31) else if f = 9 then decide (0 ≤ n ∧ n ≤ 255) else n == 0
def mayF (f rd a b n : Int) (aq rl : Bool) : Bool :=
  decide (0 ≤ f) && regOk rd (hasRd f) && regOk a (hasA f) && regOk b (hasB f) && immOk f n && (f == 10 || f == 11 || (!aq && !rl))
theorem reg_f (r : Int) (has : Bool) : isa_register.f r has = some (regOk r has) := by
  unfold isa_register.f regOk
  by_cases h0 : r ≥ 0
  · rw [if_pos h0]
    by_cases h1 : r < 32
    · rw [if_pos h1, decide_eq_true (show 0 ≤ r ∧ r < 32 from ⟨h0, h1⟩)]
      cases has <;> simp
    · rw [if_neg h1, decide_eq_false (show ¬ (0 ≤ r ∧ r < 32) by omega)]; rfl
  · rw [if_neg h0, decide_eq_false (show ¬ (0 ≤ r ∧ r < 32) by omega)]; rfl
theorem fits_n (v : Int) (hv : -9223372036854775808 ≤ v ∧ v < 9223372036854775808) :
    word_Fits.f v 20 = some (decide (-524288 ≤ v ∧ v ≤ 524287)) ∧ word_Fits.f v 21 = some (decide (-1048576 ≤ v ∧ v ≤ 1048575)) ∧
    word_Fits.f v 13 = some (decide (-4096 ≤ v ∧ v ≤ 4095)) ∧ word_Fits.f v 12 = some (decide (-2048 ≤ v ∧ v ≤ 2047)) := by
  refine ⟨?_, ?_, ?_, ?_⟩
  · rw [fits_f v 20 hv.1 hv.2 (by decide) (by decide), show (2 : Int) ^ ((20 : Int).toNat - 1) = 524288 from by decide]
    congr 1; rw [decide_eq_decide]; omega
  · rw [fits_f v 21 hv.1 hv.2 (by decide) (by decide), show (2 : Int) ^ ((21 : Int).toNat - 1) = 1048576 from by decide]
    congr 1; rw [decide_eq_decide]; omega
  · rw [fits_f v 13 hv.1 hv.2 (by decide) (by decide), show (2 : Int) ^ ((13 : Int).toNat - 1) = 4096 from by decide]
    congr 1; rw [decide_eq_decide]; omega
  · rw [fits_f v 12 hv.1 hv.2 (by decide) (by decide), show (2 : Int) ^ ((12 : Int).toNat - 1) = 2048 from by decide]
    congr 1; rw [decide_eq_decide]; omega
theorem if_true_some {b c : Bool} : (if b = true then some c else some false) = some (b && c) := by cases b <;> rfl
theorem imm_f (k : Nat) (f n : Int) (hk : 2 ≤ k) (hn : -9223372036854775808 ≤ n ∧ n < 9223372036854775808) (hf : f = 0 ∨ f = 1 ∨ f = 2 ∨ f = 3 ∨ f = 4 ∨ f = 5 ∨ f = 6 ∨ f = 7 ∨ f = 8 ∨ f = 9 ∨ f = 10 ∨ f = 11) :
    isa_immediate.f k f n = some (immOk f n) := by
  obtain ⟨k, rfl⟩ : ∃ m, k = m + 1 := ⟨k - 1, by omega⟩
  obtain ⟨h20, h21, h13, h12⟩ := fits_n n hn
  unfold isa_immediate.f
  simp only [isa_immediate.j0]
  rw [h20, h21, h13, h12, in_f, in_f, in_f]
  rcases hf with rfl | rfl | rfl | rfl | rfl | rfl | rfl | rfl | rfl | rfl | rfl | rfl <;> simp [immOk, if_true_some]
theorem fields_f (k : Nat) (f : Int) (hk : 5 ≤ k) (hf : f = 0 ∨ f = 1 ∨ f = 2 ∨ f = 3 ∨ f = 4 ∨ f = 5 ∨ f = 6 ∨ f = 7 ∨ f = 8 ∨ f = 9 ∨ f = 10 ∨ f = 11) :
    isa_fields.f k f = some (hasRd f, hasA f, hasB f) := by
  refine at_rounds (fun k => isa_fields.mono f k) hk ?_
  rcases hf with rfl | rfl | rfl | rfl | rfl | rfl | rfl | rfl | rfl | rfl | rfl | rfl <;> decide +kernel
theorem may_f3 (k : Nat) (op rd a b n : Int) (aq rl : Bool) (hk : 20 ≤ k) (hn : -9223372036854775808 ≤ n ∧ n < 9223372036854775808) :
    isa_May.f k op rd a b n aq rl = some (mayF (formOf op) rd a b n aq rl) := by
  unfold isa_May.f
  rw [form_f k (by omega)]
  simp only [Option.bind_some]
  by_cases hf : formOf op = -1
  · rw [hf, if_pos (by decide)]; simp [mayF]
  · have hf' : formOf op = 0 ∨ formOf op = 1 ∨ formOf op = 2 ∨ formOf op = 3 ∨ formOf op = 4 ∨ formOf op = 5 ∨ formOf op = 6 ∨ formOf op = 7 ∨ formOf op = 8 ∨ formOf op = 9 ∨ formOf op = 10 ∨ formOf op = 11 := by
      rcases form_cases op with h | h
      · exact absurd h hf
      · exact h
    have h0 : ¬ formOf op < 0 := by omega
    rw [if_neg h0, fields_f k _ (by omega) hf']
    simp only [Option.bind_some]
    have hj : ∀ ord : Bool, isa_May.j0 k (formOf op) (hasRd (formOf op)) (hasA (formOf op)) (hasB (formOf op)) ord op rd a b n aq rl =
        some (regOk rd (hasRd (formOf op)) && regOk a (hasA (formOf op)) && regOk b (hasB (formOf op)) && immOk (formOf op) n && (ord || (!aq && !rl))) := by
      intro ord
      obtain ⟨k, rfl⟩ : ∃ m, k = m + 1 := ⟨k - 1, by omega⟩
      simp only [isa_May.j0]
      rw [reg_f, reg_f, reg_f, imm_f k _ n (by omega) hn hf']
      simp only [Option.bind_some]
      cases regOk rd (hasRd (formOf op)) <;> cases regOk a (hasA (formOf op)) <;> cases regOk b (hasB (formOf op)) <;> cases immOk (formOf op) n <;> cases ord <;> cases aq <;> simp
    rw [hj, hj]
    unfold mayF
    rw [decide_eq_true (show 0 ≤ formOf op by omega)]
    by_cases h10 : formOf op = 10
    · rw [if_pos h10, h10]; simp
    · rw [if_neg h10, show (formOf op == 10) = false from by simpa using h10]; simp

/-- The letter of a form. -/
def letOf (f : Int) : Int :=
  if f = 1 then 85 else if f = 2 then 74 else if f = 3 then 73 else if f = 4 then 66 else if f = 5 then 83 else if f = 6 then 82 else if f = 7 then 72
  else if f = 8 then 87 else if f = 9 then 70 else if f = 0 then 78 else if f = 10 then 76 else if f = 11 then 65 else 0
theorem letter_of (a : Int) : spinnakerref03_letter.f a = some (letOf (formOf a)) := by
  by_cases h : 1 ≤ a ∧ a ≤ 87
  · unfold spinnakerref03_letter.f
    obtain ⟨n, rfl⟩ := Int.eq_ofNat_of_zero_le (show 0 ≤ a by omega)
    have hn : n < 88 := by omega
    have h1 := h.1
    clear h
    revert h1; revert hn; revert n
    decide +kernel
  · rw [letter_out h, (form_neg a).2 h]; rfl
theorem ref_has (k : Nat) (a : Int) (s : ByteArray) (hs : s.size < k) (hk : s.size < 1000) :
    spinnakerref03_has.f k a s = some (s.data.toList.any fun c => letOf (formOf a) == (c.toNat : Int)) := has_f k a s _ (letter_of a) hs hk
theorem ref_reg (r : Int) (has : Bool) : spinnakerref03_register.f r has = some (regOk r has) := by
  unfold spinnakerref03_register.f regOk
  cases has
  · simp; omega
  · simp only [if_true, Bool.true_or, Bool.and_true]
    by_cases h0 : r ≥ 0
    · rw [if_pos h0]; congr 1; rw [decide_eq_decide]; omega
    · rw [if_neg h0]; congr 1; symm; rw [decide_eq_false_iff_not]; omega
theorem even_max {n : Int} (h : (Int.tmod n 2 == 0) = true) : n ≠ 4095 := by
  rintro rfl; revert h; decide
theorem if_and_some {p q : Prop} [Decidable p] [Decidable q] {b : Bool} : (if p ∧ q then some b else some false) = some (decide p && decide q && b) := by
  by_cases hp : p <;> by_cases hq : q <;> simp [hp, hq]
theorem ref_imm (k : Nat) (a n : Int) (hk : 80 ≤ k) (hn : -9223372036854775808 ≤ n ∧ n < 9223372036854775808) :
    spinnakerref03_immediate.f k a n = some (immOk (formOf a) n) := by
  obtain ⟨k, rfl⟩ : ∃ m, k = m + 1 := ⟨k - 1, by omega⟩
  unfold spinnakerref03_immediate.f
  rw [letter_of, ref_fits (k + 1) n 21 hn.1 hn.2 (by omega), show (2 : Int) ^ ((21 : Int).toNat - 1) = 1048576 from by decide]
  simp only [Option.bind_some, spinnakerref03_immediate.j0]
  have eJ : decide ((1 : Int) ≤ 21 ∧ (21 : Int) ≤ 64 ∧ -1048576 ≤ n ∧ n < 1048576) = decide (-1048576 ≤ n ∧ n ≤ 1048575) := by rw [decide_eq_decide]; omega
  rw [eJ]
  have eB : (if n ≥ -4096 then (if n ≤ 4094 then some (Int.tmod n 2 == 0) else some false) else some false) = some (decide (-4096 ≤ n ∧ n ≤ 4095) && (Int.tmod n 2 == 0)) := by
    cases he : (Int.tmod n 2 == 0)
    · simp
    · have := even_max he
      by_cases h1 : n ≥ -4096
      · by_cases h2 : n ≤ 4094
        · rw [if_pos h1, if_pos h2, decide_eq_true (show -4096 ≤ n ∧ n ≤ 4095 by omega)]; rfl
        · rw [if_pos h1, if_neg h2, decide_eq_false (show ¬ (-4096 ≤ n ∧ n ≤ 4095) by omega)]; rfl
      · rw [if_neg h1, decide_eq_false (show ¬ (-4096 ≤ n ∧ n ≤ 4095) by omega)]; rfl
  rcases form_cases a with h | h | h | h | h | h | h | h | h | h | h | h | h <;> rw [h] <;> simp [letOf, immOk, if_true_some, and_some, if_and_some, eB]
theorem may_tail (x y z i o aq rl : Bool) : (if x = true then (if y = true then (if z = true then (if i = true then (if o = true then some true else (if aq = true then some false else some (!rl))) else some false) else some false) else some false) else some false) =
    some (x && y && z && i && (o || (!aq && !rl))) := by
  cases x <;> cases y <;> cases z <;> cases i <;> cases o <;> cases aq <;> rfl
theorem ref_may (k : Nat) (op rd a b n : Int) (aq rl : Bool) (hk : 100 ≤ k) (hn : -9223372036854775808 ≤ n ∧ n < 9223372036854775808) :
    spinnakerref03_May.f k op rd a b n aq rl = some (mayF (formOf op) rd a b n aq rl) := by
  unfold spinnakerref03_May.f spinnakerref03_HasRd.f spinnakerref03_HasA.f spinnakerref03_HasB.f
  have z8 : ∀ x0 x1 x2 x3 x4 x5 x6 x7 : UInt8, (⟨#[x0, x1, x2, x3, x4, x5, x6, x7]⟩ : ByteArray).size = 8 := fun _ _ _ _ _ _ _ _ => rfl
  rw [letter_of, ref_has k op _ (by rw [z8]; omega) (by rw [z8]; decide), ref_has k op _ (by rw [z8]; omega) (by rw [z8]; decide),
    ref_has k op (⟨#[66, 83, 82, 65]⟩ : ByteArray) (Nat.lt_of_lt_of_le (by decide) hk) (by decide), ref_has k op (⟨#[76, 65]⟩ : ByteArray) (Nat.lt_of_lt_of_le (by decide) hk) (by decide), ref_imm k op n (by omega) hn]
  simp only [Option.bind_some, ref_reg]
  rw [may_tail]
  have e1 : ((⟨#[85, 74, 73, 82, 72, 87, 76, 65]⟩ : ByteArray).data.toList.any fun c => letOf (formOf op) == (c.toNat : Int)) = hasRd (formOf op) := by
    rcases form_cases op with h | h | h | h | h | h | h | h | h | h | h | h | h <;> rw [h] <;> decide
  have e2 : ((⟨#[73, 66, 83, 82, 72, 87, 76, 65]⟩ : ByteArray).data.toList.any fun c => letOf (formOf op) == (c.toNat : Int)) = hasA (formOf op) := by
    rcases form_cases op with h | h | h | h | h | h | h | h | h | h | h | h | h <;> rw [h] <;> decide
  have e3 : ((⟨#[66, 83, 82, 65]⟩ : ByteArray).data.toList.any fun c => letOf (formOf op) == (c.toNat : Int)) = hasB (formOf op) := by
    rcases form_cases op with h | h | h | h | h | h | h | h | h | h | h | h | h <;> rw [h] <;> decide
  have e4 : ((⟨#[76, 65]⟩ : ByteArray).data.toList.any fun c => letOf (formOf op) == (c.toNat : Int)) = (formOf op == 10 || formOf op == 11) := by
    rcases form_cases op with h | h | h | h | h | h | h | h | h | h | h | h | h <;> rw [h] <;> decide
  rw [e1, e2, e3, e4]
  unfold mayF
  by_cases hf : formOf op = -1
  · rw [hf, if_pos (by decide), show decide ((0 : Int) ≤ -1) = false from by decide]; rfl
  · have hl : ¬ letOf (formOf op) = 0 := by
      rcases form_cases op with h | h | h | h | h | h | h | h | h | h | h | h | h
      · exact absurd h hf
      all_goals rw [h]; decide
    have h0 : 0 ≤ formOf op := by
      have := form_cases op
      omega
    rw [if_neg hl, decide_eq_true h0, Bool.true_and, Bool.or_assoc]

theorem ref_form {a : Int} : spinnakerref03_Form.f a = some (formOf a) := by
  unfold spinnakerref03_Form.f
  by_cases h : 1 ≤ a ∧ a ≤ 87
  · unfold spinnakerref03_letter.f
    obtain ⟨n, rfl⟩ := Int.eq_ofNat_of_zero_le (show 0 ≤ a by omega)
    have hn : n < 88 := by omega
    have h1 := h.1
    clear h
    revert h1; revert hn; revert n
    decide +kernel
  · rw [letter_out h]; unfold formOf; rw [if_pos h]; rfl

/-- Units, plainly. -/
theorem name_nil (r : Int) : ∃ t : ByteArray, reg_Name.f r = some t ∧ (t.toList = ([] : List UInt8) ↔ ¬ (0 ≤ r ∧ r < 32)) := by
  by_cases h : 0 ≤ r ∧ r < 32
  · have hb : ∀ n : Nat, n < 32 → (reg_Name.f (n : Int)).map (fun t => t.data.toList.isEmpty) = some false := by decide +kernel
    have e := hb r.toNat (by omega)
    rw [show ((r.toNat : Nat) : Int) = r from by omega] at e
    obtain ⟨t, h1, h2⟩ := Option.map_eq_some_iff.1 e
    refine ⟨t, h1, fun c => ?_, fun c => absurd h c⟩
    rw [toList_d] at c
    rw [c] at h2
    cases h2
  · refine ⟨(⟨#[]⟩ : ByteArray), ?_, fun _ => h, fun _ => nil_d⟩
    unfold reg_Name.f
    rw [if_neg h]
theorem form4 (a : Int) : formOf a = 4 ↔ 5 ≤ a ∧ a ≤ 10 := by
  by_cases h : 1 ≤ a ∧ a ≤ 87
  · obtain ⟨n, rfl⟩ := Int.eq_ofNat_of_zero_le (show 0 ≤ a by omega)
    have hn : n < 88 := by omega
    have h1 := h.1
    clear h
    revert h1; revert hn; revert n
    decide +kernel
  · rw [(form_neg a).2 h]
    constructor
    · intro c; exact absurd c (by decide)
    · intro c; omega
def mayI (x : S51) : Bool := mayF (formOf x.f0) x.f1 x.f2 x.f3 x.f4 x.f5 x.f6
def bareI (x : S51) : Bool := x.f0 == 0 && (x.f1 == 0 && (x.f2 == 0 && (x.f3 == 0 && (x.f4 == 0 && (!x.f5 && (!x.f6))))))
def rightI (x : S70) : Bool :=
  decide (0 ≤ x.f3) && (if x.f0 = 0 then mayI x.f1 && x.f2 == 0 else if x.f0 = 1 ∨ x.f0 = 2 then bareI x.f1 && decide (0 ≤ x.f2)
    else if x.f0 = 3 then decide (5 ≤ x.f1.f0 ∧ x.f1.f0 ≤ 10) && (mayI x.f1 && (x.f1.f4 == 0 && decide (0 ≤ x.f2)))
    else if x.f0 = 4 then decide (0 ≤ x.f1.f1 ∧ x.f1.f1 < 32) && (x.f1.f0 == 0 && (x.f1.f2 == 0 && (x.f1.f3 == 0 && (x.f1.f4 == 0 && (!x.f1.f5 && (!x.f1.f6)))))) else false)
def FineI (x : S70) : Prop := -9223372036854775808 ≤ x.f1.f4 ∧ x.f1.f4 < 9223372036854775808
theorem branch_f (a : Int) : isa_Branch.f a = some (decide (5 ≤ a ∧ a ≤ 10)) := by unfold isa_Branch.f; rw [in_f]; rfl
theorem may_item (k : Nat) (x : S70) (hk : 30 ≤ k) (h : FineI x) : unit_may.f k x.f0 x.f1.f0 x.f1.f1 x.f1.f2 x.f1.f3 x.f1.f4 x.f1.f5 x.f1.f6 x.f2 x.f3 = some (rightI x) := by
  obtain ⟨k, rfl⟩ : ∃ m, k = m + 1 := ⟨k - 1, by omega⟩
  obtain ⟨kind, ⟨op, rd, a, b, n, aq, rl⟩, N, note⟩ := x
  unfold FineI at h
  simp only at h
  unfold unit_may.f rightI mayI bareI
  simp only [unit_may.j0, unit_bare.f]
  rw [may_f3 (k + 1) op rd a b n aq rl (by omega) h, may_f3 k op rd a b n aq rl (by omega) h, branch_f]
  obtain ⟨t, ht, hn⟩ := name_nil rd
  rw [ht]
  simp only [Option.bind_some]
  by_cases c0 : note < 0
  · rw [if_pos c0, decide_eq_false (by omega)]; rfl
  rw [if_neg c0, decide_eq_true (show 0 ≤ note by omega), Bool.true_and]
  by_cases k0 : kind = 0
  · rw [if_pos k0, if_pos k0]
    cases mayF (formOf op) rd a b n aq rl <;> simp
  rw [if_neg k0, if_neg k0]
  by_cases k1 : kind = 1
  · subst k1
    rw [if_pos rfl, if_pos (show ((1 : Int) == 1) = true from rfl), if_pos (show (1 : Int) = 1 ∨ (1 : Int) = 2 from .inl rfl)]
    generalize (op == 0 && (rd == 0 && (a == 0 && (b == 0 && (n == 0 && (!aq && (!rl))))))) = B
    cases B <;> simp
  rw [if_neg k1]
  by_cases k2 : kind = 2
  · subst k2
    rw [if_pos (show ((2 : Int) == 2) = true from rfl), if_pos (show (2 : Int) = 1 ∨ (2 : Int) = 2 from .inr rfl)]
    generalize (op == 0 && (rd == 0 && (a == 0 && (b == 0 && (n == 0 && (!aq && (!rl))))))) = B
    cases B <;> simp
  rw [if_neg (show ¬ (kind = 1 ∨ kind = 2) by omega), beq_eq_false_iff_ne.mpr k2, if_neg (by simp)]
  by_cases k3 : kind = 3
  · rw [if_pos k3, if_pos k3]
    cases decide (5 ≤ op ∧ op ≤ 10) <;> cases mayF (formOf op) rd a b n aq rl <;> by_cases hz : n = 0 <;> simp [hz]
  rw [if_neg k3, if_neg k3]
  by_cases k4 : kind = 4
  · rw [if_pos k4, if_pos k4]
    by_cases hr : 0 ≤ rd ∧ rd < 32
    · rw [if_neg (fun c => hn.1 c hr), decide_eq_true hr, Bool.true_and]
    · rw [if_pos (hn.2 hr), decide_eq_false hr, Bool.false_and]
  rw [if_neg k4, if_neg k4]
theorem right_item (k : Nat) (x : S70) (hk : 110 ≤ k) (h : FineI x) : spinnakerref09_right.f k x.f0 x.f1.f0 x.f1.f1 x.f1.f2 x.f1.f3 x.f1.f4 x.f1.f5 x.f1.f6 x.f2 x.f3 = some (rightI x) := by
  obtain ⟨k, rfl⟩ : ∃ m, k = m + 1 := ⟨k - 1, by omega⟩
  obtain ⟨kind, ⟨op, rd, a, b, n, aq, rl⟩, N, note⟩ := x
  unfold FineI at h
  simp only at h
  unfold spinnakerref09_right.f rightI mayI bareI
  simp only [spinnakerref09_right.j0]
  rw [ref_may (k + 1) op rd a b n aq rl (by omega) h, ref_may k op rd a b n aq rl (by omega) h, ref_form]
  simp only [Option.bind_some]
  have hnote : decide (note ≥ 0) = decide (0 ≤ note) := rfl
  rw [hnote]
  have e0 : ∀ b : Bool, (b == false) = !b := fun b => by cases b <;> rfl
  rw [e0, e0]
  by_cases k0 : kind = 0
  · rw [if_pos k0, if_pos k0]
    cases mayF (formOf op) rd a b n aq rl <;> by_cases hN : N = 0 <;> simp [hN]
  rw [if_neg k0, if_neg k0]
  by_cases k1 : kind = 1
  · subst k1
    rw [if_pos rfl, if_pos (show ((1 : Int) == 1) = true from rfl), if_pos (show (1 : Int) = 1 ∨ (1 : Int) = 2 from .inl rfl)]
    generalize (op == 0 && (rd == 0 && (a == 0 && (b == 0 && (n == 0 && (!aq && (!rl))))))) = B
    cases B <;> by_cases hN : N ≥ 0 <;> simp [hN]
  rw [if_neg k1]
  by_cases k2 : kind = 2
  · subst k2
    rw [if_pos (show ((2 : Int) == 2) = true from rfl), if_pos (show (2 : Int) = 1 ∨ (2 : Int) = 2 from .inr rfl)]
    generalize (op == 0 && (rd == 0 && (a == 0 && (b == 0 && (n == 0 && (!aq && (!rl))))))) = B
    cases B <;> by_cases hN : N ≥ 0 <;> simp [hN]
  rw [if_neg (show ¬ (kind = 1 ∨ kind = 2) by omega), beq_eq_false_iff_ne.mpr k2, if_neg (by simp)]
  by_cases k3 : kind = 3
  · rw [if_pos k3, if_pos k3]
    by_cases hf : 5 ≤ op ∧ op ≤ 10
    · rw [if_pos ((form4 op).2 hf), decide_eq_true hf]
      cases mayF (formOf op) rd a b n aq rl <;> by_cases hz : n = 0 <;> by_cases hN : N ≥ 0 <;> simp [hz, hN]
    · rw [if_neg (fun c => hf ((form4 op).1 c)), decide_eq_false hf]; simp
  rw [if_neg k3, if_neg k3]
  by_cases k4 : kind = 4
  · rw [if_pos k4, if_pos k4]
    generalize (op == 0 && (a == 0 && (b == 0 && (n == 0 && (!aq && (!rl)))))) = B
    by_cases h1 : rd ≥ 0 <;> by_cases h2 : rd ≤ 31
    · rw [if_pos h1, if_pos h2, decide_eq_true (show 0 ≤ rd ∧ rd < 32 by omega)]; cases B <;> simp
    · rw [if_pos h1, if_neg h2, decide_eq_false (show ¬ (0 ≤ rd ∧ rd < 32) by omega)]; simp
    · rw [if_neg h1, decide_eq_false (show ¬ (0 ≤ rd ∧ rd < 32) by omega)]; simp
    · rw [if_neg h1, decide_eq_false (show ¬ (0 ≤ rd ∧ rd < 32) by omega)]; simp
  rw [if_neg k4, if_neg k4]; simp
theorem stood_mono {l : List S70} {n i j : Int} (h : stood l n i = true) (hij : i ≤ j) : stood l n j = true := by
  unfold stood at h ⊢
  rw [List.any_eq_true] at h ⊢
  obtain ⟨x, hx, hp⟩ := h
  refine ⟨x, ?_, hp⟩
  have e : l.take i.toNat = (l.take j.toNat).take i.toNat := by rw [List.take_take, Nat.min_eq_left (by omega)]
  rw [e] at hx
  exact List.mem_of_mem_take hx
theorem stands_l (l : List S70) (hl : l.length < 100000) (n at_ : Int) (ha : at_ ≤ l.length) (d : Nat) : ∀ (k : Nat) (i : Int), at_ - i = d → 0 ≤ i → d < k → stood l n i = false → spinnakerref09_Stands.l0 k l n at_ i = some (stood l n at_) := by
  induction d with
  | zero =>
    intro k i hd hi hk hs
    obtain ⟨k, rfl⟩ : ∃ m, k = m + 1 := ⟨k - 1, by omega⟩
    simp only [spinnakerref09_Stands.l0]
    rw [if_neg (by omega), ← hs, show i = at_ by omega]
  | succ d ih =>
    intro k i hd hi hk hs
    obtain ⟨k, rfl⟩ : ∃ m, k = m + 1 := ⟨k - 1, by omega⟩
    simp only [spinnakerref09_Stands.l0]
    rw [if_pos (by omega), if_pos hi, if_pos (by omega), show wrap64 (i + 1) = i + 1 by unfold wrap64; omega]
    have hn := stood_next hi (show i < l.length by omega) n
    rw [hs, Bool.false_or] at hn
    by_cases h1 : (rd_T70 l i).f0 = 1
    · rw [if_pos h1]
      by_cases h2 : (rd_T70 l i).f2 = n
      · rw [if_pos h2]
        rw [h1, h2] at hn
        rw [stood_mono (show stood l n (i + 1) = true by rw [hn]; simp) (by omega)]
      · rw [if_neg h2]
        refine ih k (i + 1) (by omega) (by omega) (by omega) ?_
        rw [hn, beq_eq_false_iff_ne.mpr h2, Bool.and_false]
    · rw [if_neg h1]
      refine ih k (i + 1) (by omega) (by omega) (by omega) ?_
      rw [hn, beq_eq_false_iff_ne.mpr h1, Bool.false_and]
theorem stands_f (k : Nat) (l : List S70) (hl : l.length < 100000) (n at_ : Int) (h0 : 0 ≤ at_) (ha : at_ ≤ l.length) (hk : l.length + 1 < k) : spinnakerref09_Stands.f k l n at_ = some (stood l n at_) := by
  unfold spinnakerref09_Stands.f
  exact stands_l l hl n at_ ha at_.toNat k 0 (by omega) (by omega) (by omega) (by unfold stood; simp)
/-- All numbers of a unit are numbers of 64 bits. -/
def FineU (l : List S70) : Prop := ∀ i : Int, 0 ≤ i → i < l.length → FineI (rd_T70 l i) ∧ (Lit.int .i64 (rd_T70 l i).f2).wf = true
theorem stood_f (l : List S70) (n at_ : Int) (h : (Lit.int .i64 n).wf = true) : unit_stood.f l n at_ = some (if stood l n at_ = true then 1 else 0) := by unfold unit_stood.f; rw [if_pos h]
theorem check2 (l : List S70) (hl : l.length < 10000) (hf : FineU l) (d : Nat) : ∀ (k : Nat) (i : Int), l.length - i = d → 0 ≤ i → 20000 + d ≤ k →
    ∃ r, unit_Check.l2 k l l.length i = some r ∧ spinnakerref09_Check.l2 k l i = some r := by
  induction d with
  | zero =>
    intro k i hd hi hk
    obtain ⟨k, rfl⟩ : ∃ m, k = m + 1 := ⟨k - 1, by omega⟩
    simp only [unit_Check.l2, spinnakerref09_Check.l2]
    rw [if_neg (by omega), if_neg (by omega)]
    exact ⟨_, rfl, rfl⟩
  | succ d ih =>
    intro k i hd hi hk
    obtain ⟨k, rfl⟩ : ∃ m, k = m + 1 := ⟨k - 1, by omega⟩
    simp only [unit_Check.l2, spinnakerref09_Check.l2]
    have hw := (hf i hi (by omega)).2
    have hil : i < (l.length : Int) := by omega
    rw [if_pos hil, if_pos hi, if_pos hil, if_pos hil, if_pos hi, stood_f l _ _ hw, stands_f k l (by omega) _ _ (by omega) (Int.le_refl _) (by omega), show wrap64 (i + 1) = i + 1 by unfold wrap64; omega]
    simp only [Option.bind_some]
    obtain ⟨r, e1, e2⟩ := ih k (i + 1) (by omega) (by omega) (by omega)
    rw [e1, e2]
    cases stood l (rd_T70 l i).f2 l.length <;> by_cases h2 : (rd_T70 l i).f0 = 2 <;> by_cases h3 : (rd_T70 l i).f0 = 3 <;> simp [h2, h3]
theorem check1 (l : List S70) (hl : l.length < 10000) (hf : FineU l) (d : Nat) : ∀ (k : Nat) (i : Int), l.length - i = d → 0 ≤ i → 20001 + l.length + d ≤ k →
    ∃ r, unit_Check.l1 k l l l.length i = some r ∧ spinnakerref09_Check.l1 k l i = some r := by
  induction d with
  | zero =>
    intro k i hd hi hk
    obtain ⟨k, rfl⟩ : ∃ m, k = m + 1 := ⟨k - 1, by omega⟩
    simp only [unit_Check.l1, spinnakerref09_Check.l1]
    rw [if_neg (by omega), if_neg (by omega)]
    exact check2 l hl hf l.length k 0 (by omega) (by omega) (by omega)
  | succ d ih =>
    intro k i hd hi hk
    obtain ⟨k, rfl⟩ : ∃ m, k = m + 1 := ⟨k - 1, by omega⟩
    simp only [unit_Check.l1, spinnakerref09_Check.l1]
    have hw := (hf i hi (by omega)).2
    have hil : i < (l.length : Int) := by omega
    rw [if_pos hil, if_pos hi, if_pos hil, if_pos hil, if_pos hi, stood_f l _ _ hw, stands_f k l (by omega) _ _ hi (by omega) (by omega), show wrap64 (i + 1) = i + 1 by unfold wrap64; omega]
    simp only [Option.bind_some]
    obtain ⟨r, e1, e2⟩ := ih k (i + 1) (by omega) (by omega) (by omega)
    rw [e1, e2]
    cases stood l (rd_T70 l i).f2 i <;> by_cases h1 : (rd_T70 l i).f0 = 1 <;> simp [h1]
theorem check0 (l : List S70) (hl : l.length < 10000) (hf : FineU l) (d : Nat) : ∀ (k : Nat) (i : Int), l.length - i = d → 0 ≤ i → 20002 + 2 * l.length + d ≤ k →
    ∃ r, unit_Check.l0 k l l l.length i = some r ∧ spinnakerref09_Check.l0 k l i = some r := by
  induction d with
  | zero =>
    intro k i hd hi hk
    obtain ⟨k, rfl⟩ : ∃ m, k = m + 1 := ⟨k - 1, by omega⟩
    simp only [unit_Check.l0, spinnakerref09_Check.l0]
    rw [if_neg (by omega), if_neg (by omega)]
    exact check1 l hl hf l.length k 0 (by omega) (by omega) (by omega)
  | succ d ih =>
    intro k i hd hi hk
    obtain ⟨k, rfl⟩ : ∃ m, k = m + 1 := ⟨k - 1, by omega⟩
    simp only [unit_Check.l0, spinnakerref09_Check.l0]
    have hw := (hf i hi (by omega)).1
    have hil : i < (l.length : Int) := by omega
    rw [if_pos hil, if_pos hi, if_pos hil, if_pos hil, if_pos hi, may_item k _ (by omega) hw, right_item k _ (by omega) hw, show wrap64 (i + 1) = i + 1 by unfold wrap64; omega]
    simp only [Option.bind_some]
    obtain ⟨r, e1, e2⟩ := ih k (i + 1) (by omega) (by omega) (by omega)
    rw [e1, e2]
    cases rightI (rd_T70 l i) <;> simp
theorem check_f (k : Nat) (l : List S70) (hl : l.length < 10000) (hf : FineU l) (hk : 60000 ≤ k) : ∃ r, unit_Check.f k l = some r ∧ spinnakerref09_Check.f k l = some r :=
  check0 l hl hf l.length k 0 (by omega) (by omega) (by omega)
theorem fineU_of {l : List S70} (q : ∀ y ∈ l, Q70 y) : FineU l := by
  intro i h0 h1
  have h : i.toNat < l.length := by omega
  have e : rd_T70 l i = l[i.toNat] := by unfold rd_T70; simp [h]
  rw [e]
  have q1 := q _ (List.getElem_mem h)
  exact ⟨wf_i64 q1.2.1.2.2.2.2.1, q1.2.2.1⟩
theorem awake09 (k : Nat) (hk : 60 ≤ k) : spinnakerlaw09_awake.f k = some true := by
  refine at_rounds (fun k => spinnakerlaw09_awake.mono k) hk ?_
  decide +kernel

theorem UnitChecks (l : List S70) (hm : l.length ≤ maxLen) (q : ∀ y ∈ l, Q70 y) : ∃ k, spinnakerlaw09_UnitChecks.f k l = some true := by
  refine ⟨60000, ?_⟩
  unfold spinnakerlaw09_UnitChecks.f
  rw [awake09 60000 (by decide)]
  by_cases hl : (l.length : Int) > 300
  · rw [if_pos hl]; rfl
  · rw [if_neg hl]
    obtain ⟨r, h1, h2⟩ := check_f 60000 l (by omega) (fineU_of q) (by decide)
    rw [h1, h2]
    simp

end Go.Proofs.YtbmjbidekmkboaaDoor.Pure
