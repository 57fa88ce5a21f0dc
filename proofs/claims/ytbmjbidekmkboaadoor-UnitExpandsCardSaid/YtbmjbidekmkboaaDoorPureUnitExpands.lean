/- A unit with its constants loaded is the specified one, its labels are the same, and it is right, of any unit of at most 300 items; the chapter's example holds; for every list of items. -/
import Derived.Test.YtbmjbidekmkboaaDoorGUnitExpandsx17
import Derived.Test.YtbmjbidekmkboaaDoorOpenUnitExpands
namespace Go.Proofs.YtbmjbidekmkboaaDoor.Pure
open Go.RowKit Go.Proofs.YtbmjbidekmkboaaDoor.GUnitExpands Go.Proofs.YtbmjbidekmkboaaDoorW.PrintWords Go.Proofs.YtbmjbidekmkboaaDoorW.PrintLast Go.Proofs.YtbmjbidekmkboaaDoorW.PrintMore
set_option linter.unusedVariables false
set_option linter.unusedSimpArgs false
attribute [local irreducible] shl shr

/-- Numbers that need no wrapping, and two's complement by its lowest bits. -/
theorem w64 {x : Int} (h0 : -9223372036854775808 ≤ x) (h1 : x < 9223372036854775808) : wrap64 x = x := by
  unfold wrap64; omega
theorem wu64 (x : Int) : IntKind.u64.wrap x = x % 18446744073709551616 := by
  simp [IntKind.wrap, IntKind.bits, IntKind.signed]
theorem wf_i64 {x : Int} (h : (Lit.int .i64 x).wf = true) : -9223372036854775808 ≤ x ∧ x < 9223372036854775808 := by
  simp [Lit.wf, IntKind.min, IntKind.max, IntKind.bits, IntKind.signed] at h; omega
theorem p64 : (2 : Int) ^ 64 = 18446744073709551616 := by decide
theorem p63 : (2 : Int) ^ 63 = 9223372036854775808 := by decide
theorem p_pos (n : Nat) : (0 : Int) < 2 ^ n := Int.pow_pos (by decide)
theorem p_add (a b : Nat) : (2 : Int) ^ (a + b) = 2 ^ a * 2 ^ b := Int.pow_add 2 a b
theorem p_le {a b : Nat} (h : a ≤ b) : (2 : Int) ^ a ≤ 2 ^ b := by
  obtain ⟨c, rfl⟩ := Nat.exists_eq_add_of_le h
  rw [p_add]
  have h1 : (2 : Int) ^ a * 1 ≤ 2 ^ a * 2 ^ c := Int.mul_le_mul_of_nonneg_left (by have := p_pos c; omega) (Int.le_of_lt (p_pos a))
  omega
theorem b62 {i : Nat} (h : i ≤ 62) : (2 : Int) ^ i ≤ 4611686018427387904 := by have := p_le h; rw [show (2 : Int) ^ 62 = 4611686018427387904 from by decide] at this; exact this
theorem b60 {i : Nat} (h : i ≤ 60) : (2 : Int) ^ i ≤ 1152921504606846976 := by have := p_le h; rw [show (2 : Int) ^ 60 = 1152921504606846976 from by decide] at this; exact this
theorem p_succ (n : Nat) : (2 : Int) ^ (n + 1) = 2 * 2 ^ n := by rw [p_add]; omega

/-- The number with a sign that the lowest n bits are. -/
def sgn (v : Int) (n : Nat) : Int := if v % 2 ^ n < 2 ^ (n - 1) then v % 2 ^ n else v % 2 ^ n - 2 ^ n

theorem mod_mod {v : Int} {a b : Nat} (h : a ≤ b) : v % 2 ^ b % 2 ^ a = v % 2 ^ a := by
  obtain ⟨c, rfl⟩ := Nat.exists_eq_add_of_le h
  exact Int.emod_emod_of_dvd v ⟨2 ^ c, p_add a c⟩
theorem sgn_mod {v : Int} {a b : Nat} (h : a ≤ b) : sgn (v % 2 ^ b) a = sgn v a := by
  unfold sgn; rw [mod_mod h]
theorem sgn_range (v : Int) (n : Nat) (h : 1 ≤ n) : -2 ^ (n - 1) ≤ sgn v n ∧ sgn v n < 2 ^ (n - 1) := by
  have h0 := Int.emod_nonneg v (Int.ne_of_gt (p_pos n))
  have h1 := Int.emod_lt_of_pos v (p_pos n)
  have h2 : (2 : Int) ^ n = 2 * 2 ^ (n - 1) := by rw [← p_succ]; congr 1; omega
  unfold sgn
  split <;> omega
/-- Which number has the same lowest bits and fits is the one. -/
theorem sgn_self {v : Int} {n : Nat} (h : 1 ≤ n) (h0 : -2 ^ (n - 1) ≤ v) (h1 : v < 2 ^ (n - 1)) : sgn v n = v := by
  have h2 : (2 : Int) ^ n = 2 * 2 ^ (n - 1) := by rw [← p_succ]; congr 1; omega
  have hp := p_pos (n - 1)
  unfold sgn
  by_cases hv : 0 ≤ v
  · have e : v % 2 ^ n = v := Int.emod_eq_of_lt hv (by omega)
    rw [e, if_pos h1]
  · have e : v % 2 ^ n = v + 2 ^ n := by
      rw [← Int.add_emod_right]; exact Int.emod_eq_of_lt (by omega) (by omega)
    rw [e, if_neg (by omega)]; omega
theorem shl_shr (v : Int) (n : Nat) (h1 : 1 ≤ n) (h64 : n ≤ 64) :
    shr .i64 (wrap64 (shl .u64 (v % 18446744073709551616) (64 - (n : Int)))) (64 - (n : Int)) = sgn v n := by
  have hy : (64 - (n : Int)).toNat = 64 - n := by omega
  have hm : min (64 - n) 64 = 64 - n := by omega
  unfold shl shr
  rw [hy, show IntKind.u64.bits = 64 from rfl, show IntKind.i64.bits = 64 from rfl, hm, wu64]
  have hP := p_pos (64 - n)
  have hR := p_pos (n - 1)
  have hQ : (2 : Int) ^ n = 2 * 2 ^ (n - 1) := by rw [← p_succ]; congr 1; omega
  have hPQ : (2 : Int) ^ n * 2 ^ (64 - n) = 18446744073709551616 := by
    rw [← p_add, show n + (64 - n) = 64 from by omega]; exact p64
  have hRP : (2 : Int) ^ (n - 1) * 2 ^ (64 - n) = 9223372036854775808 := by
    rw [← p_add, show n - 1 + (64 - n) = 63 from by omega]; exact p63
  have e1 : v % 18446744073709551616 * 2 ^ (64 - n) % 18446744073709551616 = (v % 2 ^ n) * 2 ^ (64 - n) := by
    have e2 : (v % 18446744073709551616) % 2 ^ n = v % 2 ^ n := by rw [← p64]; exact mod_mod h64
    rw [← e2, Int.mul_comm (v % 18446744073709551616 % 2 ^ n), ← Int.mul_emod_mul_of_pos _ _ hP, Int.mul_comm (2 ^ (64 - n)) (2 ^ n), hPQ, Int.mul_comm (2 ^ (64 - n))]
  rw [e1]
  have h0 := Int.emod_nonneg v (Int.ne_of_gt (p_pos n))
  have h3 := Int.emod_lt_of_pos v (p_pos n)
  unfold sgn
  generalize v % 2 ^ n = m at h0 h3 ⊢
  generalize (2 : Int) ^ (64 - n) = P at hP hPQ hRP ⊢
  generalize (2 : Int) ^ (n - 1) = R at hR hQ hRP ⊢
  rw [hQ] at h3 hPQ ⊢
  split
  · rename_i hlt
    have a1 : 0 ≤ m * P := Int.mul_nonneg h0 (Int.le_of_lt hP)
    have a2 : m * P < R * P := Int.mul_lt_mul_of_pos_right hlt hP
    rw [w64 (by omega) (by omega), Int.mul_ediv_cancel _ (Int.ne_of_gt hP)]
  · rename_i hge
    have a1 : R * P ≤ m * P := Int.mul_le_mul_of_nonneg_right (by omega) (Int.le_of_lt hP)
    have a2 : m * P < 2 * R * P := Int.mul_lt_mul_of_pos_right h3 hP
    have e3 : wrap64 (m * P) = (m - 2 * R) * P := by
      rw [Int.sub_mul]; unfold wrap64; omega
    rw [e3, Int.mul_ediv_cancel _ (Int.ne_of_gt hP)]

theorem toList_d (s : ByteArray) : s.toList = s.data.toList := ByteArray.toList_eq s
theorem name_in {a : Int} (h : 1 ≤ a ∧ a ≤ 87) : isa_Name.f a = some (rdOf ByteArray.empty isaNames a) := by
  unfold isa_Name.f; rw [if_pos h]
theorem name_out {a : Int} (h : ¬ (1 ≤ a ∧ a ≤ 87)) : isa_Name.f a = some (⟨#[]⟩ : ByteArray) := by
  unfold isa_Name.f; rw [if_neg h]
theorem name_ne {a : Int} (h : 1 ≤ a ∧ a ≤ 87) : ¬ (rdOf ByteArray.empty isaNames a).toList = ([] : List UInt8) := by
  rw [toList_d]
  obtain ⟨n, rfl⟩ := Int.eq_ofNat_of_zero_le (show 0 ≤ a by omega)
  have hn : n < 88 := by omega
  have h1 := h.1
  clear h
  revert h1; revert hn; revert n
  decide +kernel
theorem nil_d : (⟨#[]⟩ : ByteArray).toList = ([] : List UInt8) := by rw [toList_d]
/-- An operation's form, plainly. -/
def formOf (a : Int) : Int :=
  if ¬ (1 ≤ a ∧ a ≤ 87) then -1 else if a ≤ 2 then 1 else if a = 3 then 2 else if 5 ≤ a ∧ a ≤ 10 then 4 else if 18 ≤ a ∧ a ≤ 21 then 5
  else if 35 ≤ a ∧ a ≤ 62 then 6 else if 28 ≤ a ∧ a ≤ 30 then 7 else if 32 ≤ a ∧ a ≤ 34 then 8 else if a = 63 then 9 else if a = 64 ∨ a = 65 then 0
  else if a = 66 ∨ a = 77 then 10 else if a > 66 then 11 else 3
theorem form_f {a : Int} (k : Nat) (hk : 10 ≤ k) : isa_Form.f k a = some (formOf a) := by
  by_cases h : 1 ≤ a ∧ a ≤ 87
  · refine at_rounds (fun k => isa_Form.mono a k) hk ?_
    unfold isa_Form.f
    rw [name_in h]
    simp only [Option.bind_some]
    rw [if_neg (name_ne h)]
    obtain ⟨n, rfl⟩ := Int.eq_ofNat_of_zero_le (show 0 ≤ a by omega)
    have hn : n < 88 := by omega
    have h1 := h.1
    clear h hk
    revert h1; revert hn; revert n
    decide +kernel
  · unfold isa_Form.f formOf
    rw [name_out h, if_pos h]
    simp only [Option.bind_some]
    rw [if_pos nil_d]

theorem letter_out {a : Int} (h : ¬ (1 ≤ a ∧ a ≤ 87)) : spinnakerref03_letter.f a = some 0 := by
  unfold spinnakerref03_letter.f
  by_cases h1 : a < 1
  · rw [if_pos h1]
  · rw [if_neg h1, if_pos (by omega)]

theorem bt_get (s : ByteArray) (i : Nat) (h : i < s.data.toList.length) : bt s (i : Int) = (s.data.toList[i].toNat : Int) := by
  have h' : i < s.size := by simpa using h
  unfold bt
  rw [dif_pos (show ((i : Int)).toNat < s.size by simpa using h')]
  rfl
theorem has_l (a : Int) (s : ByteArray) (v : Int) (hv : spinnakerref03_letter.f a = some v) (hs : s.size < 1000) (d : Nat) : ∀ (k i : Nat), s.size - i = d → i ≤ s.size → d < k →
    spinnakerref03_has.l0 k a s i = some ((s.data.toList.drop i).any fun c => v == (c.toNat : Int)) := by
  have hz : s.data.toList.length = s.size := by simp
  induction d with
  | zero =>
    intro k i hd hi hk
    obtain ⟨k, rfl⟩ : ∃ m, k = m + 1 := ⟨k - 1, by omega⟩
    simp only [spinnakerref03_has.l0]
    rw [if_neg (by omega), List.drop_of_length_le (by omega)]; rfl
  | succ d ih =>
    intro k i hd hi hk
    obtain ⟨k, rfl⟩ : ∃ m, k = m + 1 := ⟨k - 1, by omega⟩
    simp only [spinnakerref03_has.l0]
    have hi' : i < s.data.toList.length := by omega
    rw [if_pos (by omega), hv]
    simp only [Option.bind_some]
    rw [if_pos (by omega), bt_get s i hi', List.drop_eq_getElem_cons hi', List.any_cons]
    by_cases he : v = (s.data.toList[i].toNat : Int)
    · rw [if_pos he]; simp [he]
    · rw [if_neg he, show wrap64 ((i : Int) + 1) = ((i + 1 : Nat) : Int) from by unfold wrap64; omega, ih k (i + 1) (by omega) (by omega) (by omega), beq_eq_false_iff_ne.mpr he, Bool.false_or]
theorem has_f (k : Nat) (a : Int) (s : ByteArray) (v : Int) (hv : spinnakerref03_letter.f a = some v) (hs : s.size < k) (hk : s.size < 1000) :
    spinnakerref03_has.f k a s = some (s.data.toList.any fun c => v == (c.toNat : Int)) := by
  unfold spinnakerref03_has.f
  exact has_l a s v hv hk s.size k 0 (by omega) (by omega) hs

theorem in_f (a x y : Int) : isa_in.f a x y = some (decide (x ≤ a ∧ a ≤ y)) := by
  unfold isa_in.f
  by_cases h : a ≥ x
  · rw [if_pos h]; congr 1; rw [decide_eq_decide]; omega
  · rw [if_neg h]; congr 1; symm; rw [decide_eq_false_iff_not]; omega

theorem fits_f (v n : Int) (h0 : -9223372036854775808 ≤ v) (h1 : v < 9223372036854775808) (h : -9223372036854775808 ≤ n) (h' : n < 9223372036854775808) :
    word_Fits.f v n = some (decide (1 ≤ n ∧ n ≤ 64 ∧ -2 ^ (n.toNat - 1) ≤ v ∧ v < 2 ^ (n.toNat - 1))) := by
  unfold word_Fits.f
  by_cases hn1 : n < 1
  · rw [if_pos hn1]; congr 1; symm; simp; omega
  · rw [if_neg hn1]
    by_cases hn2 : n > 64
    · rw [if_pos hn2]; congr 1; symm; simp; omega
    · rw [if_neg hn2, w64 (by omega) (by omega), if_pos (by omega), wu64]
      have e := shl_shr v n.toNat (by omega) (by omega)
      rw [show ((n.toNat : Nat) : Int) = n from by omega] at e
      rw [e]
      congr 1
      rw [Bool.eq_iff_iff]
      simp only [beq_iff_eq, decide_eq_true_eq]
      constructor
      · intro hh
        have := sgn_range v n.toNat (by omega)
        rw [hh] at this
        exact ⟨by omega, by omega, this⟩
      · intro hh
        exact sgn_self (by omega) hh.2.2.1 hh.2.2.2

theorem power_l (d : Nat) : ∀ (k : Nat) (n p : Int) (i : Nat), n ≤ 63 → p = 2 ^ i → n - i = d → d < k →
    spinnakerref01_Power.l0 k n p i = some (2 ^ n.toNat) := by
  induction d with
  | zero =>
    intro k n p i hn hp hd hk
    obtain ⟨k, rfl⟩ : ∃ m, k = m + 1 := ⟨k - 1, by omega⟩
    simp only [spinnakerref01_Power.l0]
    rw [if_neg (by omega), hp, show n.toNat = i from by omega]
  | succ d ih =>
    intro k n p i hn hp hd hk
    obtain ⟨k, rfl⟩ : ∃ m, k = m + 1 := ⟨k - 1, by omega⟩
    simp only [spinnakerref01_Power.l0]
    have h62 : (2 : Int) ^ i ≤ 4611686018427387904 := b62 (by omega)
    have hpi := p_pos i
    have e1 : 2 * p % 18446744073709551616 = 2 ^ (i + 1) := by
      rw [hp, p_succ]; omega
    have e2 : wrap64 ((i : Int) + 1) = ((i + 1 : Nat) : Int) := by rw [w64 (by omega) (by omega)]; simp
    rw [if_pos (by omega), wu64, e1, e2]
    exact ih k n _ (i + 1) hn rfl (by omega) (by omega)
theorem power_f (k : Nat) (n : Int) (h0 : 0 ≤ n) (hn : n ≤ 63) (hk : 64 < k) : spinnakerref01_Power.f k n = some (2 ^ n.toNat) := by
  unfold spinnakerref01_Power.f
  exact power_l n.toNat k n 1 0 hn (by simp) (by omega) (by omega)
theorem ref_fits (k : Nat) (v n : Int) (h0 : -9223372036854775808 ≤ v) (h1 : v < 9223372036854775808) (hk : 66 < k) :
    spinnakerref01_Fits.f k v n = some (decide (1 ≤ n ∧ n ≤ 64 ∧ -2 ^ (n.toNat - 1) ≤ v ∧ v < 2 ^ (n.toNat - 1))) := by
  obtain ⟨k, rfl⟩ : ∃ m, k = m + 1 := ⟨k - 1, by omega⟩
  have e : ∀ b, b = true → ¬ (1 ≤ n ∧ n ≤ 64) → spinnakerref01_Fits.j0 (k + 1) v n b = some (decide (1 ≤ n ∧ n ≤ 64 ∧ -2 ^ (n.toNat - 1) ≤ v ∧ v < 2 ^ (n.toNat - 1))) := by
    rintro b rfl hn
    simp only [spinnakerref01_Fits.j0]
    rw [if_true]; congr 1; symm; simp only [decide_eq_false_iff_not]; omega
  unfold spinnakerref01_Fits.f
  by_cases hn1 : n < 1
  · rw [if_pos hn1]; exact e _ rfl (by omega)
  · rw [if_neg hn1]
    by_cases hn2 : n > 64
    · exact e _ (by simpa using hn2) (by omega)
    · simp only [spinnakerref01_Fits.j0]
      rw [if_neg (by simp; omega)]
      by_cases hn3 : n = 64
      · rw [if_pos hn3]; subst hn3
        congr 1; symm; simp only [decide_eq_true_eq]
        have h63 : (2 : Int) ^ ((64 : Int).toNat - 1) = 9223372036854775808 := by decide
        rw [h63]; omega
      · rw [if_neg hn3, w64 (x := n - 1) (by omega) (by omega), power_f k (n - 1) (by omega) (by omega) (by omega)]
        simp only [Option.bind_some]
        have hb : (2 : Int) ^ (n.toNat - 1) ≤ 4611686018427387904 := b62 (by omega)
        have hp := p_pos (n.toNat - 1)
        rw [show (n - 1).toNat = n.toNat - 1 from by omega]
        generalize (2 : Int) ^ (n.toNat - 1) = p at *
        rw [w64 (x := p) (by omega) (by omega), w64 (x := -p) (by omega) (by omega), w64 (x := p - 1) (by omega) (by omega)]
        by_cases hv : v ≥ -p
        · rw [if_pos hv]; congr 1; simp only [decide_eq_decide]; omega
        · rw [if_neg hv]; congr 1; symm; simp only [decide_eq_false_iff_not]; omega

theorem and_some {p q : Prop} [Decidable p] [Decidable q] : (if p then some (decide q) else some false) = some (decide (p ∧ q)) := by
  by_cases h : p <;> simp [h]
theorem form_cases (a : Int) : formOf a = -1 ∨ formOf a = 0 ∨ formOf a = 1 ∨ formOf a = 2 ∨ formOf a = 3 ∨ formOf a = 4 ∨ formOf a = 5 ∨ formOf a = 6 ∨ formOf a = 7 ∨ formOf a = 8 ∨ formOf a = 9 ∨ formOf a = 10 ∨ formOf a = 11 := by
  by_cases h : 1 ≤ a ∧ a ≤ 87
  · obtain ⟨n, rfl⟩ := Int.eq_ofNat_of_zero_le (show 0 ≤ a by omega)
    have hn : n < 88 := by omega
    have h1 := h.1
    clear h
    revert h1; revert hn; revert n
    decide +kernel
  · left; unfold formOf; rw [if_pos h]
theorem form_neg (a : Int) : formOf a = -1 ↔ ¬ (1 ≤ a ∧ a ≤ 87) := by
  constructor
  · intro h hc
    revert h
    obtain ⟨n, rfl⟩ := Int.eq_ofNat_of_zero_le (show 0 ≤ a by omega)
    have hn : n < 88 := by omega
    have h1 := hc.1
    clear hc
    revert h1; revert hn; revert n
    decide +kernel
  · intro h; unfold formOf; rw [if_pos h]
/-- Which fields a form has, which immediates it may have. -/
def hasRd (f : Int) : Bool := f == 1 || f == 2 || f == 3 || f == 6 || f == 7 || f == 8 || f == 10 || f == 11
def hasA (f : Int) : Bool := f == 3 || f == 4 || f == 5 || f == 6 || f == 7 || f == 8 || f == 10 || f == 11
def hasB (f : Int) : Bool := f == 4 || f == 5 || f == 6 || f == 11
def regOk (r : Int) (has : Bool) : Bool := decide (0 ≤ r ∧ r < 32) && (has || r == 0)
def immOk (f n : Int) : Bool :=
  if f = 1 then decide (-524288 ≤ n ∧ n ≤ 524287) else if f = 2 then decide (-1048576 ≤ n ∧ n ≤ 1048575) && (Int.tmod n 2 == 0)
  else if f = 4 then decide (-4096 ≤ n ∧ n ≤ 4095) && (Int.tmod n 2 == 0) else if f = 3 ∨ f = 5 then decide (-2048 ≤ n ∧ n ≤ 2047)
  else if f = 7 then decide (0 ≤ n ∧ n ≤ 63) else if f = 8 then decide (0 ≤ n ∧ n ≤ 31) else if f = 9 then decide (0 ≤ n ∧ n ≤ 255) else n == 0
def mayF (f rd a b n : Int) (aq rl : Bool) : Bool :=
  decide (0 ≤ f) && regOk rd (hasRd f) && regOk a (hasA f) && regOk b (hasB f) && immOk f n && (f == 10 || f == 11 || (!aq && !rl))
theorem reg_f (r : Int) (has : Bool) : isa_register.f r has = some (regOk r has) := by
  unfold isa_register.f regOk
  by_cases h0 : r ≥ 0
  · rw [if_pos h0]
    by_cases h1 : r < 32
    · rw [if_pos h1, decide_eq_true (show 0 ≤ r ∧ r < 32 from ⟨h0, h1⟩)]
      cases has <;> simp
    · rw [if_neg h1, decide_eq_false (show ¬ (0 ≤ r ∧ r < 32) by omega)]; rfl
  · rw [if_neg h0, decide_eq_false (show ¬ (0 ≤ r ∧ r < 32) by omega)]; rfl
theorem fits_n (v : Int) (hv : -9223372036854775808 ≤ v ∧ v < 9223372036854775808) :
    word_Fits.f v 20 = some (decide (-524288 ≤ v ∧ v ≤ 524287)) ∧ word_Fits.f v 21 = some (decide (-1048576 ≤ v ∧ v ≤ 1048575)) ∧
    word_Fits.f v 13 = some (decide (-4096 ≤ v ∧ v ≤ 4095)) ∧ word_Fits.f v 12 = some (decide (-2048 ≤ v ∧ v ≤ 2047)) := by
  refine ⟨?_, ?_, ?_, ?_⟩
  · rw [fits_f v 20 hv.1 hv.2 (by decide) (by decide), show (2 : Int) ^ ((20 : Int).toNat - 1) = 524288 from by decide]
    congr 1; rw [decide_eq_decide]; omega
  · rw [fits_f v 21 hv.1 hv.2 (by decide) (by decide), show (2 : Int) ^ ((21 : Int).toNat - 1) = 1048576 from by decide]
    congr 1; rw [decide_eq_decide]; omega
  · rw [fits_f v 13 hv.1 hv.2 (by decide) (by decide), show (2 : Int) ^ ((13 : Int).toNat - 1) = 4096 from by decide]
    congr 1; rw [decide_eq_decide]; omega
  · rw [fits_f v 12 hv.1 hv.2 (by decide) (by decide), show (2 : Int) ^ ((12 : Int).toNat - 1) = 2048 from by decide]
    congr 1; rw [decide_eq_decide]; omega
theorem if_true_some {b c : Bool} : (if b = true then some c else some false) = some (b && c) := by cases b <;> rfl
theorem imm_f (k : Nat) (f n : Int) (hk : 2 ≤ k) (hn : -9223372036854775808 ≤ n ∧ n < 9223372036854775808) (hf : f = 0 ∨ f = 1 ∨ f = 2 ∨ f = 3 ∨ f = 4 ∨ f = 5 ∨ f = 6 ∨ f = 7 ∨ f = 8 ∨ f = 9 ∨ f = 10 ∨ f = 11) :
    isa_immediate.f k f n = some (immOk f n) := by
  obtain ⟨k, rfl⟩ : ∃ m, k = m + 1 := ⟨k - 1, by omega⟩
  obtain ⟨h20, h21, h13, h12⟩ := fits_n n hn
  unfold isa_immediate.f
  simp only [isa_immediate.j0]
  rw [h20, h21, h13, h12, in_f, in_f, in_f]
  rcases hf with rfl | rfl | rfl | rfl | rfl | rfl | rfl | rfl | rfl | rfl | rfl | rfl <;> simp [immOk, if_true_some]
theorem fields_f (k : Nat) (f : Int) (hk : 5 ≤ k) (hf : f = 0 ∨ f = 1 ∨ f = 2 ∨ f = 3 ∨ f = 4 ∨ f = 5 ∨ f = 6 ∨ f = 7 ∨ f = 8 ∨ f = 9 ∨ f = 10 ∨ f = 11) :
    isa_fields.f k f = some (hasRd f, hasA f, hasB f) := by
  refine at_rounds (fun k => isa_fields.mono f k) hk ?_
  rcases hf with rfl | rfl | rfl | rfl | rfl | rfl | rfl | rfl | rfl | rfl | rfl | rfl <;> decide +kernel
theorem may_f3 (k : Nat) (op rd a b n : Int) (aq rl : Bool) (hk : 20 ≤ k) (hn : -9223372036854775808 ≤ n ∧ n < 9223372036854775808) :
    isa_May.f k op rd a b n aq rl = some (mayF (formOf op) rd a b n aq rl) := by
  unfold isa_May.f
  rw [form_f k (by omega)]
  simp only [Option.bind_some]
  by_cases hf : formOf op = -1
  · rw [hf, if_pos (by decide)]; simp [mayF]
  · have hf' : formOf op = 0 ∨ formOf op = 1 ∨ formOf op = 2 ∨ formOf op = 3 ∨ formOf op = 4 ∨ formOf op = 5 ∨ formOf op = 6 ∨ formOf op = 7 ∨ formOf op = 8 ∨ formOf op = 9 ∨ formOf op = 10 ∨ formOf op = 11 := by
      rcases form_cases op with h | h
      · exact absurd h hf
      · exact h
    have h0 : ¬ formOf op < 0 := by omega
    rw [if_neg h0, fields_f k _ (by omega) hf']
    simp only [Option.bind_some]
    have hj : ∀ ord : Bool, isa_May.j0 k (formOf op) (hasRd (formOf op)) (hasA (formOf op)) (hasB (formOf op)) ord op rd a b n aq rl =
        some (regOk rd (hasRd (formOf op)) && regOk a (hasA (formOf op)) && regOk b (hasB (formOf op)) && immOk (formOf op) n && (ord || (!aq && !rl))) := by
      intro ord
      obtain ⟨k, rfl⟩ : ∃ m, k = m + 1 := ⟨k - 1, by omega⟩
      simp only [isa_May.j0]
      rw [reg_f, reg_f, reg_f, imm_f k _ n (by omega) hn hf']
      simp only [Option.bind_some]
      cases regOk rd (hasRd (formOf op)) <;> cases regOk a (hasA (formOf op)) <;> cases regOk b (hasB (formOf op)) <;> cases immOk (formOf op) n <;> cases ord <;> cases aq <;> simp
    rw [hj, hj]
    unfold mayF
    rw [decide_eq_true (show 0 ≤ formOf op by omega)]
    by_cases h10 : formOf op = 10
    · rw [if_pos h10, h10]; simp
    · rw [if_neg h10, show (formOf op == 10) = false from by simpa using h10]; simp

/-- The letter of a form. -/
def letOf (f : Int) : Int :=
  if f = 1 then 85 else if f = 2 then 74 else if f = 3 then 73 else if f = 4 then 66 else if f = 5 then 83 else if f = 6 then 82 else if f = 7 then 72
  else if f = 8 then 87 else if f = 9 then 70 else if f = 0 then 78 else if f = 10 then 76 else if f = 11 then 65 else 0
theorem letter_of (a : Int) : spinnakerref03_letter.f a = some (letOf (formOf a)) := by
  by_cases h : 1 ≤ a ∧ a ≤ 87
  · unfold spinnakerref03_letter.f
    obtain ⟨n, rfl⟩ := Int.eq_ofNat_of_zero_le (show 0 ≤ a by omega)
    have hn : n < 88 := by omega
    have h1 := h.1
    clear h
    revert h1; revert hn; revert n
    decide +kernel
  · rw [letter_out h, (form_neg a).2 h]; rfl
theorem ref_has (k : Nat) (a : Int) (s : ByteArray) (hs : s.size < k) (hk : s.size < 1000) :
    spinnakerref03_has.f k a s = some (s.data.toList.any fun c => letOf (formOf a) == (c.toNat : Int)) := has_f k a s _ (letter_of a) hs hk
theorem ref_reg (r : Int) (has : Bool) : spinnakerref03_register.f r has = some (regOk r has) := by
  unfold spinnakerref03_register.f regOk
  cases has
  · simp; omega
  · simp only [if_true, Bool.true_or, Bool.and_true]
    by_cases h0 : r ≥ 0
    · rw [if_pos h0]; congr 1; rw [decide_eq_decide]; omega
    · rw [if_neg h0]; congr 1; symm; rw [decide_eq_false_iff_not]; omega
theorem even_max {n : Int} (h : (Int.tmod n 2 == 0) = true) : n ≠ 4095 := by
  rintro rfl; revert h; decide
theorem if_and_some {p q : Prop} [Decidable p] [Decidable q] {b : Bool} : (if p ∧ q then some b else some false) = some (decide p && decide q && b) := by
  by_cases hp : p <;> by_cases hq : q <;> simp [hp, hq]
theorem ref_imm (k : Nat) (a n : Int) (hk : 80 ≤ k) (hn : -9223372036854775808 ≤ n ∧ n < 9223372036854775808) :
    spinnakerref03_immediate.f k a n = some (immOk (formOf a) n) := by
  obtain ⟨k, rfl⟩ : ∃ m, k = m + 1 := ⟨k - 1, by omega⟩
  unfold spinnakerref03_immediate.f
  rw [letter_of, ref_fits (k + 1) n 21 hn.1 hn.2 (by omega), show (2 : Int) ^ ((21 : Int).toNat - 1) = 1048576 from by decide]
  simp only [Option.bind_some, spinnakerref03_immediate.j0]
  have eJ : decide ((1 : Int) ≤ 21 ∧ (21 : Int) ≤ 64 ∧ -1048576 ≤ n ∧ n < 1048576) = decide (-1048576 ≤ n ∧ n ≤ 1048575) := by rw [decide_eq_decide]; omega
  rw [eJ]
  have eB : (if n ≥ -4096 then (if n ≤ 4094 then some (Int.tmod n 2 == 0) else some false) else some false) = some (decide (-4096 ≤ n ∧ n ≤ 4095) && (Int.tmod n 2 == 0)) := by
    cases he : (Int.tmod n 2 == 0)
    · simp
    · have := even_max he
      by_cases h1 : n ≥ -4096
      · by_cases h2 : n ≤ 4094
        · rw [if_pos h1, if_pos h2, decide_eq_true (show -4096 ≤ n ∧ n ≤ 4095 by omega)]; rfl
        · rw [if_pos h1, if_neg h2, decide_eq_false (show ¬ (-4096 ≤ n ∧ n ≤ 4095) by omega)]; rfl
      · rw [if_neg h1, decide_eq_false (show ¬ (-4096 ≤ n ∧ n ≤ 4095) by omega)]; rfl
  rcases form_cases a with h | h | h | h | h | h | h | h | h | h | h | h | h <;> rw [h] <;> simp [letOf, immOk, if_true_some, and_some, if_and_some, eB]
theorem may_tail (x y z i o aq rl : Bool) : (if x = true then (if y = true then (if z = true then (if i = true then (if o = true then some true else (if aq = true then some false else some (!rl))) else some false) else some false) else some false) else some false) =
    some (x && y && z && i && (o || (!aq && !rl))) := by
  cases x <;> cases y <;> cases z <;> cases i <;> cases o <;> cases aq <;> rfl
theorem ref_may (k : Nat) (op rd a b n : Int) (aq rl : Bool) (hk : 100 ≤ k) (hn : -9223372036854775808 ≤ n ∧ n < 9223372036854775808) :
    spinnakerref03_May.f k op rd a b n aq rl = some (mayF (formOf op) rd a b n aq rl) := by
  unfold spinnakerref03_May.f spinnakerref03_HasRd.f spinnakerref03_HasA.f spinnakerref03_HasB.f
  have z8 : ∀ x0 x1 x2 x3 x4 x5 x6 x7 : UInt8, (⟨#[x0, x1, x2, x3, x4, x5, x6, x7]⟩ : ByteArray).size = 8 := fun _ _ _ _ _ _ _ _ => rfl
  rw [letter_of, ref_has k op _ (by rw [z8]; omega) (by rw [z8]; decide), ref_has k op _ (by rw [z8]; omega) (by rw [z8]; decide),
    ref_has k op (⟨#[66, 83, 82, 65]⟩ : ByteArray) (Nat.lt_of_lt_of_le (by decide) hk) (by decide), ref_has k op (⟨#[76, 65]⟩ : ByteArray) (Nat.lt_of_lt_of_le (by decide) hk) (by decide), ref_imm k op n (by omega) hn]
  simp only [Option.bind_some, ref_reg]
  rw [may_tail]
  have e1 : ((⟨#[85, 74, 73, 82, 72, 87, 76, 65]⟩ : ByteArray).data.toList.any fun c => letOf (formOf op) == (c.toNat : Int)) = hasRd (formOf op) := by
    rcases form_cases op with h | h | h | h | h | h | h | h | h | h | h | h | h <;> rw [h] <;> decide
  have e2 : ((⟨#[73, 66, 83, 82, 72, 87, 76, 65]⟩ : ByteArray).data.toList.any fun c => letOf (formOf op) == (c.toNat : Int)) = hasA (formOf op) := by
    rcases form_cases op with h | h | h | h | h | h | h | h | h | h | h | h | h <;> rw [h] <;> decide
  have e3 : ((⟨#[66, 83, 82, 65]⟩ : ByteArray).data.toList.any fun c => letOf (formOf op) == (c.toNat : Int)) = hasB (formOf op) := by
    rcases form_cases op with h | h | h | h | h | h | h | h | h | h | h | h | h <;> rw [h] <;> decide
  have e4 : ((⟨#[76, 65]⟩ : ByteArray).data.toList.any fun c => letOf (formOf op) == (c.toNat : Int)) = (formOf op == 10 || formOf op == 11) := by
    rcases form_cases op with h | h | h | h | h | h | h | h | h | h | h | h | h <;> rw [h] <;> decide
  rw [e1, e2, e3, e4]
  unfold mayF
  by_cases hf : formOf op = -1
  · rw [hf, if_pos (by decide), show decide ((0 : Int) ≤ -1) = false from by decide]; rfl
  · have hl : ¬ letOf (formOf op) = 0 := by
      rcases form_cases op with h | h | h | h | h | h | h | h | h | h | h | h | h
      · exact absurd h hf
      all_goals rw [h]; decide
    have h0 : 0 ≤ formOf op := by
      have := form_cases op
      omega
    rw [if_neg hl, decide_eq_true h0, Bool.true_and, Bool.or_assoc]

theorem ref_form {a : Int} : spinnakerref03_Form.f a = some (formOf a) := by
  unfold spinnakerref03_Form.f
  by_cases h : 1 ≤ a ∧ a ≤ 87
  · unfold spinnakerref03_letter.f
    obtain ⟨n, rfl⟩ := Int.eq_ofNat_of_zero_le (show 0 ≤ a by omega)
    have hn : n < 88 := by omega
    have h1 := h.1
    clear h
    revert h1; revert hn; revert n
    decide +kernel
  · rw [letter_out h]; unfold formOf; rw [if_pos h]; rfl

theorem may_f (a n : Int) (h : -9223372036854775808 ≤ n) (h' : n < 9223372036854775808) : word_may.f a n = some (decide (0 ≤ a ∧ 1 ≤ n ∧ n ≤ 32 ∧ a ≤ 32 - n)) := by
  unfold word_may.f
  by_cases h0 : a ≥ 0
  · rw [if_pos h0]
    by_cases h1 : n ≥ 1
    · rw [if_pos h1]
      by_cases h2 : n ≤ 32
      · rw [if_pos h2, w64 (by omega) (by omega)]
        congr 1; simp only [decide_eq_decide]; omega
      · rw [if_neg h2]; congr 1; symm; simp; omega
    · rw [if_neg h1]; congr 1; symm; simp; omega
  · rw [if_neg h0]; congr 1; symm; simp; omega

theorem sign_f (v n : Int) (h0 : 0 ≤ v) (h1 : v < 18446744073709551616) (h : -9223372036854775808 ≤ n) (h' : n < 9223372036854775808) :
    word_Sign.f v n = some (if 1 ≤ n ∧ n ≤ 32 then (sgn v n.toNat, 0) else (0, 2)) := by
  unfold word_Sign.f
  rw [may_f 0 n h h']
  simp only [Option.bind_some]
  by_cases hn : 1 ≤ n ∧ n ≤ 32
  · rw [if_pos (by simp; omega), if_pos hn, w64 (by omega) (by omega), if_pos (by omega), wu64]
    have e := shl_shr v n.toNat (by omega) (by omega)
    rw [show ((n.toNat : Nat) : Int) = n from by omega] at e
    rw [e]
  · rw [if_neg (by simp; omega), if_neg hn]

theorem bit_l (d : Nat) : ∀ (k : Nat) (v i j : Int), 0 ≤ v → v < 18446744073709551616 → 0 ≤ j → j ≤ i → i < 4611686018427387904 → i - j = d → d < k →
    spinnakerref01_Bit.l0 k v i j = some (v / 2 ^ d % 2) := by
  induction d with
  | zero =>
    intro k v i j h0 h1 hj hji hi hd hk
    obtain ⟨k, rfl⟩ : ∃ m, k = m + 1 := ⟨k - 1, by omega⟩
    simp only [spinnakerref01_Bit.l0]
    rw [if_neg (by omega), Int.tmod_eq_emod_of_nonneg h0, w64 (by omega) (by omega)]
    simp
  | succ d ih =>
    intro k v i j h0 h1 hj hji hi hd hk
    obtain ⟨k, rfl⟩ : ∃ m, k = m + 1 := ⟨k - 1, by omega⟩
    simp only [spinnakerref01_Bit.l0]
    rw [if_pos (by omega), Int.tdiv_eq_ediv_of_nonneg h0, wu64, w64 (x := j + 1) (by omega) (by omega)]
    have hv : v / 2 % 18446744073709551616 = v / 2 := by omega
    rw [hv, ih k (v / 2) i (j + 1) (by omega) (by omega) (by omega) (by omega) hi (by omega) (by omega)]
    rw [p_succ, Int.ediv_ediv_of_nonneg (by decide)]
theorem bit_f (k : Nat) (v i : Int) (h0 : 0 ≤ v) (h1 : v < 18446744073709551616) (hi0 : 0 ≤ i) (hi : i < 4611686018427387904) (hk : i.toNat < k) :
    spinnakerref01_Bit.f k v i = some (v / 2 ^ i.toNat % 2) := by
  unfold spinnakerref01_Bit.f
  exact bit_l i.toNat k v i 0 h0 h1 (by omega) hi0 hi (by omega) hk

theorem mod_succ (v : Int) (i : Nat) : v % 2 ^ (i + 1) = v % 2 ^ i + 2 ^ i * (v / 2 ^ i % 2) := by
  have a := Int.mul_ediv_add_emod v (2 ^ i)
  have b := Int.mul_ediv_add_emod (v / 2 ^ i) 2
  have c := Int.mul_ediv_add_emod v (2 ^ (i + 1))
  have e : v / 2 ^ (i + 1) = v / 2 ^ i / 2 := by rw [p_add, Int.ediv_ediv_of_nonneg (Int.le_of_lt (p_pos i))]; rfl
  rw [e, p_succ] at c
  generalize v / 2 ^ i = q at a b c ⊢
  generalize v % 2 ^ i = r at a c ⊢
  rw [p_succ]
  generalize q / 2 = s at b c ⊢
  generalize q % 2 = t at b ⊢
  subst b
  rw [Int.mul_add, ← Int.mul_assoc] at a
  have : 2 * (2 : Int) ^ i * s = 2 ^ i * 2 * s := by rw [Int.mul_comm 2]
  rw [this] at c
  omega
theorem ref_sign_l (d : Nat) : ∀ (k : Nat) (v n x p : Int) (i : Nat), 0 ≤ v → v < 18446744073709551616 → 1 ≤ n → n ≤ 60 →
    x = v % 2 ^ i → p = 2 ^ i → n - 1 - i = d → 128 < k + i →
    spinnakerref01_Sign.l0 k v n x p i = some (sgn v n.toNat) := by
  induction d with
  | zero =>
    intro k v n x p i h0 h1 hn1 hn hx hp hd hk
    obtain ⟨k, rfl⟩ : ∃ m, k = m + 1 := ⟨k - 1, by omega⟩
    simp only [spinnakerref01_Sign.l0]
    rw [w64 (x := n - 1) (by omega) (by omega), if_neg (by omega), bit_f k v (n - 1) h0 h1 (by omega) (by omega) (by omega)]
    simp only [Option.bind_some]
    have hni : n.toNat = i + 1 := by omega
    have hni' : (n - 1).toNat = i := by omega
    have hb0 := Int.emod_nonneg (v / 2 ^ i) (show (2 : Int) ≠ 0 by decide)
    have hb1 := Int.emod_lt_of_pos (v / 2 ^ i) (show (0 : Int) < 2 by decide)
    have hm0 := Int.emod_nonneg v (Int.ne_of_gt (p_pos i))
    have hm1 := Int.emod_lt_of_pos v (p_pos i)
    have hs := mod_succ v i
    have hpi := p_pos i
    have h60 : (2 : Int) ^ i ≤ 1152921504606846976 := b60 (by omega)
    rw [hni', hni, hx, hp]
    unfold sgn
    rw [show i + 1 - 1 = i from rfl, hs, p_succ]
    generalize v / 2 ^ i % 2 = b at *
    have hb : b = 0 ∨ b = 1 := by omega
    rcases hb with rfl | rfl
    · rw [Int.mul_zero, Int.add_zero, if_pos hm1, w64 (x := 0) (by decide) (by decide), Int.sub_zero, w64 (by omega) (by omega)]
    · rw [Int.mul_one, if_neg (by omega), w64 (x := 2 ^ i) (by omega) (by omega), w64 (by omega) (by omega)]
      congr 1; omega
  | succ d ih =>
    intro k v n x p i h0 h1 hn1 hn hx hp hd hk
    obtain ⟨k, rfl⟩ : ∃ m, k = m + 1 := ⟨k - 1, by omega⟩
    simp only [spinnakerref01_Sign.l0]
    rw [w64 (x := n - 1) (by omega) (by omega), if_pos (by omega), bit_f k v i h0 h1 (by omega) (by omega) (by omega)]
    simp only [Option.bind_some]
    have hb0 := Int.emod_nonneg (v / 2 ^ i) (show (2 : Int) ≠ 0 by decide)
    have hb1 := Int.emod_lt_of_pos (v / 2 ^ i) (show (0 : Int) < 2 by decide)
    have hm0 := Int.emod_nonneg v (Int.ne_of_gt (p_pos i))
    have hm1 := Int.emod_lt_of_pos v (p_pos i)
    have hs := mod_succ v i
    have hpi := p_pos i
    have h60 : (2 : Int) ^ i ≤ 1152921504606846976 := b60 (by omega)
    have hi' : ((i : Int)).toNat = i := by omega
    rw [hi']
    have e1 : wrap64 (x + wrap64 (p * (v / 2 ^ i % 2))) = v % 2 ^ (i + 1) := by
      rw [hs, hx, hp]
      generalize v / 2 ^ i % 2 = b at *
      have hb : b = 0 ∨ b = 1 := by omega
      rcases hb with rfl | rfl
      · rw [Int.mul_zero, w64 (x := 0) (by decide) (by decide), Int.add_zero, w64 (by omega) (by omega)]
      · rw [Int.mul_one, w64 (x := 2 ^ i) (by omega) (by omega), w64 (by omega) (by omega)]
    have e2 : wrap64 (2 * p) = 2 ^ (i + 1) := by rw [hp, p_succ, w64 (by omega) (by omega)]
    have e3 : wrap64 ((i : Int) + 1) = ((i + 1 : Nat) : Int) := by rw [w64 (by omega) (by omega)]; simp
    rw [e1, e2, e3]
    clear e1 e2 e3 h60 hs hpi hm0 hm1 hb0 hb1
    exact ih k v n _ _ (i + 1) h0 h1 hn1 hn rfl rfl (by omega) (by omega)
theorem ref_sign (k : Nat) (v n : Int) (h0 : 0 ≤ v) (h1 : v < 18446744073709551616) (hn1 : 1 ≤ n) (hn : n ≤ 60) (hk : 200 < k) :
    spinnakerref01_Sign.f k v n = some (sgn v n.toNat) := by
  unfold spinnakerref01_Sign.f
  exact ref_sign_l (n - 1).toNat k v n 0 1 0 h0 h1 hn1 hn (by simp) (by simp) (by omega) (by omega)

/-- The least bit of a number, and what is left without it. -/
theorem least_bit (S : Nat) : S ≠ 0 → ∃ v m, S = 2 ^ v * (2 * m + 1) := by
  induction S using Nat.strongRecOn with
  | ind S ih =>
    intro h
    by_cases h2 : S % 2 = 0
    · obtain ⟨v, m, hv⟩ := ih (S / 2) (by omega) (by omega)
      exact ⟨v + 1, m, by rw [Nat.pow_succ, Nat.mul_assoc, Nat.mul_comm 2, ← Nat.mul_assoc, ← hv]; omega⟩
    · exact ⟨0, S / 2, by omega⟩
theorem bit_ge {S v m i : Nat} (h : S = 2 ^ v * (2 * m + 1)) : S.testBit i = (decide (i ≥ v) && (2 * m + 1).testBit (i - v)) := by
  rw [h, Nat.testBit_two_pow_mul]
theorem and_neg {S v m n : Nat} (h : S = 2 ^ v * (2 * m + 1)) (hn : S < 2 ^ n) : S &&& (2 ^ n - S) = 2 ^ v := by
  have hp := Nat.two_pow_pos v
  have hS : 1 ≤ S := by rw [h]; exact Nat.mul_pos hp (by omega)
  have hvn : v < n := by
    rcases Nat.lt_or_ge v n with h1 | h1
    · exact h1
    · exfalso
      have h2 : 2 ^ n ≤ 2 ^ v := Nat.pow_le_pow_right (by decide) h1
      have h3 : 2 ^ v ≤ S := by rw [h]; exact Nat.le_mul_of_pos_right _ (by omega)
      omega
  have e1 : 2 ^ n - S = 2 ^ n - ((S - 1) + 1) := by congr 1; omega
  have e2 : S - 1 = 2 ^ v * (2 * m) + (2 ^ v - 1) := by rw [h, Nat.mul_add, Nat.mul_one]; omega
  apply Nat.eq_of_testBit_eq
  intro i
  rw [Nat.testBit_and, bit_ge h, e1, Nat.testBit_two_pow_sub_succ (by omega), e2, Nat.testBit_two_pow_mul_add _ (by omega), Nat.testBit_two_pow]
  by_cases h1 : i < v
  · rw [decide_eq_false (show ¬ i ≥ v by omega), decide_eq_false (show ¬ v = i by omega)]; rfl
  · rw [if_neg h1, decide_eq_true (show i ≥ v by omega)]
    by_cases h2 : i = v
    · subst h2
      rw [Nat.sub_self, decide_eq_true hvn, decide_eq_true rfl]
      simp [Nat.testBit_zero]
    · obtain ⟨j, hj⟩ : ∃ j, i - v = j + 1 := ⟨i - v - 1, by omega⟩
      rw [hj, Nat.testBit_succ, Nat.testBit_succ, decide_eq_false (show ¬ v = i by omega), show (2 * m + 1) / 2 = m from by omega, show 2 * m / 2 = m from by omega]
      cases m.testBit j <;> simp
theorem least_lt {S v m n : Nat} (h : S = 2 ^ v * (2 * m + 1)) (hn : S < 2 ^ n) : v < n := by
  rcases Nat.lt_or_ge v n with h1 | h1
  · exact h1
  · exfalso
    have h2 : 2 ^ n ≤ 2 ^ v := Nat.pow_le_pow_right (by decide) h1
    have h3 : 2 ^ v ≤ S := by rw [h]; exact Nat.le_mul_of_pos_right _ (by omega)
    omega
/-- Units, plainly. -/
theorem name_nil (r : Int) : ∃ t : ByteArray, reg_Name.f r = some t ∧ (t.toList = ([] : List UInt8) ↔ ¬ (0 ≤ r ∧ r < 32)) := by
  by_cases h : 0 ≤ r ∧ r < 32
  · have hb : ∀ n : Nat, n < 32 → (reg_Name.f (n : Int)).map (fun t => t.data.toList.isEmpty) = some false := by decide +kernel
    have e := hb r.toNat (by omega)
    rw [show ((r.toNat : Nat) : Int) = r from by omega] at e
    obtain ⟨t, h1, h2⟩ := Option.map_eq_some_iff.1 e
    refine ⟨t, h1, fun c => ?_, fun c => absurd h c⟩
    rw [toList_d] at c
    rw [c] at h2
    cases h2
  · refine ⟨(⟨#[]⟩ : ByteArray), ?_, fun _ => h, fun _ => nil_d⟩
    unfold reg_Name.f
    rw [if_neg h]
theorem form4 (a : Int) : formOf a = 4 ↔ 5 ≤ a ∧ a ≤ 10 := by
  by_cases h : 1 ≤ a ∧ a ≤ 87
  · obtain ⟨n, rfl⟩ := Int.eq_ofNat_of_zero_le (show 0 ≤ a by omega)
    have hn : n < 88 := by omega
    have h1 := h.1
    clear h
    revert h1; revert hn; revert n
    decide +kernel
  · rw [(form_neg a).2 h]
    constructor
    · intro c; exact absurd c (by decide)
    · intro c; omega
def mayI (x : S51) : Bool := mayF (formOf x.f0) x.f1 x.f2 x.f3 x.f4 x.f5 x.f6
def bareI (x : S51) : Bool := x.f0 == 0 && (x.f1 == 0 && (x.f2 == 0 && (x.f3 == 0 && (x.f4 == 0 && (!x.f5 && (!x.f6))))))
def rightI (x : S70) : Bool :=
  decide (0 ≤ x.f3) && (if x.f0 = 0 then mayI x.f1 && x.f2 == 0 else if x.f0 = 1 ∨ x.f0 = 2 then bareI x.f1 && decide (0 ≤ x.f2)
    else if x.f0 = 3 then decide (5 ≤ x.f1.f0 ∧ x.f1.f0 ≤ 10) && (mayI x.f1 && (x.f1.f4 == 0 && decide (0 ≤ x.f2)))
    else if x.f0 = 4 then decide (0 ≤ x.f1.f1 ∧ x.f1.f1 < 32) && (x.f1.f0 == 0 && (x.f1.f2 == 0 && (x.f1.f3 == 0 && (x.f1.f4 == 0 && (!x.f1.f5 && (!x.f1.f6)))))) else false)
def FineI (x : S70) : Prop := -9223372036854775808 ≤ x.f1.f4 ∧ x.f1.f4 < 9223372036854775808
theorem branch_f (a : Int) : isa_Branch.f a = some (decide (5 ≤ a ∧ a ≤ 10)) := by unfold isa_Branch.f; rw [in_f]; rfl
theorem may_item (k : Nat) (x : S70) (hk : 30 ≤ k) (h : FineI x) : unit_may.f k x.f0 x.f1.f0 x.f1.f1 x.f1.f2 x.f1.f3 x.f1.f4 x.f1.f5 x.f1.f6 x.f2 x.f3 = some (rightI x) := by
  obtain ⟨k, rfl⟩ : ∃ m, k = m + 1 := ⟨k - 1, by omega⟩
  obtain ⟨kind, ⟨op, rd, a, b, n, aq, rl⟩, N, note⟩ := x
  unfold FineI at h
  simp only at h
  unfold unit_may.f rightI mayI bareI
  simp only [unit_may.j0, unit_bare.f]
  rw [may_f3 (k + 1) op rd a b n aq rl (by omega) h, may_f3 k op rd a b n aq rl (by omega) h, branch_f]
  obtain ⟨t, ht, hn⟩ := name_nil rd
  rw [ht]
  simp only [Option.bind_some]
  by_cases c0 : note < 0
  · rw [if_pos c0, decide_eq_false (by omega)]; rfl
  rw [if_neg c0, decide_eq_true (show 0 ≤ note by omega), Bool.true_and]
  by_cases k0 : kind = 0
  · rw [if_pos k0, if_pos k0]
    cases mayF (formOf op) rd a b n aq rl <;> simp
  rw [if_neg k0, if_neg k0]
  by_cases k1 : kind = 1
  · subst k1
    rw [if_pos rfl, if_pos (show ((1 : Int) == 1) = true from rfl), if_pos (show (1 : Int) = 1 ∨ (1 : Int) = 2 from .inl rfl)]
    generalize (op == 0 && (rd == 0 && (a == 0 && (b == 0 && (n == 0 && (!aq && (!rl))))))) = B
    cases B <;> simp
  rw [if_neg k1]
  by_cases k2 : kind = 2
  · subst k2
    rw [if_pos (show ((2 : Int) == 2) = true from rfl), if_pos (show (2 : Int) = 1 ∨ (2 : Int) = 2 from .inr rfl)]
    generalize (op == 0 && (rd == 0 && (a == 0 && (b == 0 && (n == 0 && (!aq && (!rl))))))) = B
    cases B <;> simp
  rw [if_neg (show ¬ (kind = 1 ∨ kind = 2) by omega), beq_eq_false_iff_ne.mpr k2, if_neg (by simp)]
  by_cases k3 : kind = 3
  · rw [if_pos k3, if_pos k3]
    cases decide (5 ≤ op ∧ op ≤ 10) <;> cases mayF (formOf op) rd a b n aq rl <;> by_cases hz : n = 0 <;> simp [hz]
  rw [if_neg k3, if_neg k3]
  by_cases k4 : kind = 4
  · rw [if_pos k4, if_pos k4]
    by_cases hr : 0 ≤ rd ∧ rd < 32
    · rw [if_neg (fun c => hn.1 c hr), decide_eq_true hr, Bool.true_and]
    · rw [if_pos (hn.2 hr), decide_eq_false hr, Bool.false_and]
  rw [if_neg k4, if_neg k4]
theorem right_item (k : Nat) (x : S70) (hk : 110 ≤ k) (h : FineI x) : spinnakerref09_right.f k x.f0 x.f1.f0 x.f1.f1 x.f1.f2 x.f1.f3 x.f1.f4 x.f1.f5 x.f1.f6 x.f2 x.f3 = some (rightI x) := by
  obtain ⟨k, rfl⟩ : ∃ m, k = m + 1 := ⟨k - 1, by omega⟩
  obtain ⟨kind, ⟨op, rd, a, b, n, aq, rl⟩, N, note⟩ := x
  unfold FineI at h
  simp only at h
  unfold spinnakerref09_right.f rightI mayI bareI
  simp only [spinnakerref09_right.j0]
  rw [ref_may (k + 1) op rd a b n aq rl (by omega) h, ref_may k op rd a b n aq rl (by omega) h, ref_form]
  simp only [Option.bind_some]
  have hnote : decide (note ≥ 0) = decide (0 ≤ note) := rfl
  rw [hnote]
  have e0 : ∀ b : Bool, (b == false) = !b := fun b => by cases b <;> rfl
  rw [e0, e0]
  by_cases k0 : kind = 0
  · rw [if_pos k0, if_pos k0]
    cases mayF (formOf op) rd a b n aq rl <;> by_cases hN : N = 0 <;> simp [hN]
  rw [if_neg k0, if_neg k0]
  by_cases k1 : kind = 1
  · subst k1
    rw [if_pos rfl, if_pos (show ((1 : Int) == 1) = true from rfl), if_pos (show (1 : Int) = 1 ∨ (1 : Int) = 2 from .inl rfl)]
    generalize (op == 0 && (rd == 0 && (a == 0 && (b == 0 && (n == 0 && (!aq && (!rl))))))) = B
    cases B <;> by_cases hN : N ≥ 0 <;> simp [hN]
  rw [if_neg k1]
  by_cases k2 : kind = 2
  · subst k2
    rw [if_pos (show ((2 : Int) == 2) = true from rfl), if_pos (show (2 : Int) = 1 ∨ (2 : Int) = 2 from .inr rfl)]
    generalize (op == 0 && (rd == 0 && (a == 0 && (b == 0 && (n == 0 && (!aq && (!rl))))))) = B
    cases B <;> by_cases hN : N ≥ 0 <;> simp [hN]
  rw [if_neg (show ¬ (kind = 1 ∨ kind = 2) by omega), beq_eq_false_iff_ne.mpr k2, if_neg (by simp)]
  by_cases k3 : kind = 3
  · rw [if_pos k3, if_pos k3]
    by_cases hf : 5 ≤ op ∧ op ≤ 10
    · rw [if_pos ((form4 op).2 hf), decide_eq_true hf]
      cases mayF (formOf op) rd a b n aq rl <;> by_cases hz : n = 0 <;> by_cases hN : N ≥ 0 <;> simp [hz, hN]
    · rw [if_neg (fun c => hf ((form4 op).1 c)), decide_eq_false hf]; simp
  rw [if_neg k3, if_neg k3]
  by_cases k4 : kind = 4
  · rw [if_pos k4, if_pos k4]
    generalize (op == 0 && (a == 0 && (b == 0 && (n == 0 && (!aq && (!rl)))))) = B
    by_cases h1 : rd ≥ 0 <;> by_cases h2 : rd ≤ 31
    · rw [if_pos h1, if_pos h2, decide_eq_true (show 0 ≤ rd ∧ rd < 32 by omega)]; cases B <;> simp
    · rw [if_pos h1, if_neg h2, decide_eq_false (show ¬ (0 ≤ rd ∧ rd < 32) by omega)]; simp
    · rw [if_neg h1, decide_eq_false (show ¬ (0 ≤ rd ∧ rd < 32) by omega)]; simp
    · rw [if_neg h1, decide_eq_false (show ¬ (0 ≤ rd ∧ rd < 32) by omega)]; simp
  rw [if_neg k4, if_neg k4]; simp
theorem stood_mono {l : List S70} {n i j : Int} (h : stood l n i = true) (hij : i ≤ j) : stood l n j = true := by
  unfold stood at h ⊢
  rw [List.any_eq_true] at h ⊢
  obtain ⟨x, hx, hp⟩ := h
  refine ⟨x, ?_, hp⟩
  have e : l.take i.toNat = (l.take j.toNat).take i.toNat := by rw [List.take_take, Nat.min_eq_left (by omega)]
  rw [e] at hx
  exact List.mem_of_mem_take hx
theorem stands_l (l : List S70) (hl : l.length < 100000) (n at_ : Int) (ha : at_ ≤ l.length) (d : Nat) : ∀ (k : Nat) (i : Int), at_ - i = d → 0 ≤ i → d < k → stood l n i = false → spinnakerref09_Stands.l0 k l n at_ i = some (stood l n at_) := by
  induction d with
  | zero =>
    intro k i hd hi hk hs
    obtain ⟨k, rfl⟩ : ∃ m, k = m + 1 := ⟨k - 1, by omega⟩
    simp only [spinnakerref09_Stands.l0]
    rw [if_neg (by omega), ← hs, show i = at_ by omega]
  | succ d ih =>
    intro k i hd hi hk hs
    obtain ⟨k, rfl⟩ : ∃ m, k = m + 1 := ⟨k - 1, by omega⟩
    simp only [spinnakerref09_Stands.l0]
    rw [if_pos (by omega), if_pos hi, if_pos (by omega), show wrap64 (i + 1) = i + 1 by unfold wrap64; omega]
    have hn := stood_next hi (show i < l.length by omega) n
    rw [hs, Bool.false_or] at hn
    by_cases h1 : (rd_T70 l i).f0 = 1
    · rw [if_pos h1]
      by_cases h2 : (rd_T70 l i).f2 = n
      · rw [if_pos h2]
        rw [h1, h2] at hn
        rw [stood_mono (show stood l n (i + 1) = true by rw [hn]; simp) (by omega)]
      · rw [if_neg h2]
        refine ih k (i + 1) (by omega) (by omega) (by omega) ?_
        rw [hn, beq_eq_false_iff_ne.mpr h2, Bool.and_false]
    · rw [if_neg h1]
      refine ih k (i + 1) (by omega) (by omega) (by omega) ?_
      rw [hn, beq_eq_false_iff_ne.mpr h1, Bool.false_and]
theorem stands_f (k : Nat) (l : List S70) (hl : l.length < 100000) (n at_ : Int) (h0 : 0 ≤ at_) (ha : at_ ≤ l.length) (hk : l.length + 1 < k) : spinnakerref09_Stands.f k l n at_ = some (stood l n at_) := by
  unfold spinnakerref09_Stands.f
  exact stands_l l hl n at_ ha at_.toNat k 0 (by omega) (by omega) (by omega) (by unfold stood; simp)
/-- All numbers of a unit are numbers of 64 bits. -/
def FineU (l : List S70) : Prop := ∀ i : Int, 0 ≤ i → i < l.length → FineI (rd_T70 l i) ∧ (Lit.int .i64 (rd_T70 l i).f2).wf = true
theorem stood_f (l : List S70) (n at_ : Int) (h : (Lit.int .i64 n).wf = true) : unit_stood.f l n at_ = some (if stood l n at_ = true then 1 else 0) := by unfold unit_stood.f; rw [if_pos h]
theorem check2 (l : List S70) (hl : l.length < 10000) (hf : FineU l) (d : Nat) : ∀ (k : Nat) (i : Int), l.length - i = d → 0 ≤ i → 20000 + d ≤ k →
    ∃ r, unit_Check.l2 k l l.length i = some r ∧ spinnakerref09_Check.l2 k l i = some r := by
  induction d with
  | zero =>
    intro k i hd hi hk
    obtain ⟨k, rfl⟩ : ∃ m, k = m + 1 := ⟨k - 1, by omega⟩
    simp only [unit_Check.l2, spinnakerref09_Check.l2]
    rw [if_neg (by omega), if_neg (by omega)]
    exact ⟨_, rfl, rfl⟩
  | succ d ih =>
    intro k i hd hi hk
    obtain ⟨k, rfl⟩ : ∃ m, k = m + 1 := ⟨k - 1, by omega⟩
    simp only [unit_Check.l2, spinnakerref09_Check.l2]
    have hw := (hf i hi (by omega)).2
    have hil : i < (l.length : Int) := by omega
    rw [if_pos hil, if_pos hi, if_pos hil, if_pos hil, if_pos hi, stood_f l _ _ hw, stands_f k l (by omega) _ _ (by omega) (Int.le_refl _) (by omega), show wrap64 (i + 1) = i + 1 by unfold wrap64; omega]
    simp only [Option.bind_some]
    obtain ⟨r, e1, e2⟩ := ih k (i + 1) (by omega) (by omega) (by omega)
    rw [e1, e2]
    cases stood l (rd_T70 l i).f2 l.length <;> by_cases h2 : (rd_T70 l i).f0 = 2 <;> by_cases h3 : (rd_T70 l i).f0 = 3 <;> simp [h2, h3]
theorem check1 (l : List S70) (hl : l.length < 10000) (hf : FineU l) (d : Nat) : ∀ (k : Nat) (i : Int), l.length - i = d → 0 ≤ i → 20001 + l.length + d ≤ k →
    ∃ r, unit_Check.l1 k l l l.length i = some r ∧ spinnakerref09_Check.l1 k l i = some r := by
  induction d with
  | zero =>
    intro k i hd hi hk
    obtain ⟨k, rfl⟩ : ∃ m, k = m + 1 := ⟨k - 1, by omega⟩
    simp only [unit_Check.l1, spinnakerref09_Check.l1]
    rw [if_neg (by omega), if_neg (by omega)]
    exact check2 l hl hf l.length k 0 (by omega) (by omega) (by omega)
  | succ d ih =>
    intro k i hd hi hk
    obtain ⟨k, rfl⟩ : ∃ m, k = m + 1 := ⟨k - 1, by omega⟩
    simp only [unit_Check.l1, spinnakerref09_Check.l1]
    have hw := (hf i hi (by omega)).2
    have hil : i < (l.length : Int) := by omega
    rw [if_pos hil, if_pos hi, if_pos hil, if_pos hil, if_pos hi, stood_f l _ _ hw, stands_f k l (by omega) _ _ hi (by omega) (by omega), show wrap64 (i + 1) = i + 1 by unfold wrap64; omega]
    simp only [Option.bind_some]
    obtain ⟨r, e1, e2⟩ := ih k (i + 1) (by omega) (by omega) (by omega)
    rw [e1, e2]
    cases stood l (rd_T70 l i).f2 i <;> by_cases h1 : (rd_T70 l i).f0 = 1 <;> simp [h1]
theorem check0 (l : List S70) (hl : l.length < 10000) (hf : FineU l) (d : Nat) : ∀ (k : Nat) (i : Int), l.length - i = d → 0 ≤ i → 20002 + 2 * l.length + d ≤ k →
    ∃ r, unit_Check.l0 k l l l.length i = some r ∧ spinnakerref09_Check.l0 k l i = some r := by
  induction d with
  | zero =>
    intro k i hd hi hk
    obtain ⟨k, rfl⟩ : ∃ m, k = m + 1 := ⟨k - 1, by omega⟩
    simp only [unit_Check.l0, spinnakerref09_Check.l0]
    rw [if_neg (by omega), if_neg (by omega)]
    exact check1 l hl hf l.length k 0 (by omega) (by omega) (by omega)
  | succ d ih =>
    intro k i hd hi hk
    obtain ⟨k, rfl⟩ : ∃ m, k = m + 1 := ⟨k - 1, by omega⟩
    simp only [unit_Check.l0, spinnakerref09_Check.l0]
    have hw := (hf i hi (by omega)).1
    have hil : i < (l.length : Int) := by omega
    rw [if_pos hil, if_pos hi, if_pos hil, if_pos hil, if_pos hi, may_item k _ (by omega) hw, right_item k _ (by omega) hw, show wrap64 (i + 1) = i + 1 by unfold wrap64; omega]
    simp only [Option.bind_some]
    obtain ⟨r, e1, e2⟩ := ih k (i + 1) (by omega) (by omega) (by omega)
    rw [e1, e2]
    cases rightI (rd_T70 l i) <;> simp
theorem check_f (k : Nat) (l : List S70) (hl : l.length < 10000) (hf : FineU l) (hk : 60000 ≤ k) : ∃ r, unit_Check.f k l = some r ∧ spinnakerref09_Check.f k l = some r :=
  check0 l hl hf l.length k 0 (by omega) (by omega) (by omega)
theorem fineU_of {l : List S70} (q : ∀ y ∈ l, Q70 y) : FineU l := by
  intro i h0 h1
  have h : i.toNat < l.length := by omega
  have e : rd_T70 l i = l[i.toNat] := by unfold rd_T70; simp [h]
  rw [e]
  have q1 := q _ (List.getElem_mem h)
  exact ⟨wf_i64 q1.2.1.2.2.2.2.1, q1.2.2.1⟩
theorem awake09 (k : Nat) (hk : 60 ≤ k) : spinnakerlaw09_awake.f k = some true := by
  refine at_rounds (fun k => spinnakerlaw09_awake.mono k) hk ?_
  decide +kernel

/-- The loading of a number. -/
theorem low_f (a n : Int) (h1 : 1 ≤ n) (h2 : n ≤ 32) : unit_low.f a n = some (sgn a n.toNat) := by
  unfold unit_low.f
  rw [wu64, show a % 18446744073709551616 % 4294967296 = a % 4294967296 from by omega, sign_f _ n (by omega) (by omega) (by omega) (by omega), if_pos ⟨h1, h2⟩]
  simp only [Option.bind_some]
  rw [show (4294967296 : Int) = 2 ^ 32 from by decide, sgn_mod (show n.toNat ≤ 32 by omega)]
theorem rsign_f (k : Nat) (a n : Int) (h1 : 1 ≤ n) (h2 : n ≤ 32) (hk : 200 < k) : spinnakerref01_Sign.f k (IntKind.u64.wrap a) n = some (sgn a n.toNat) := by
  rw [wu64, ref_sign k _ n (by omega) (by omega) h1 (by omega) hk, show (18446744073709551616 : Int) = 2 ^ 64 from by decide, sgn_mod (show n.toNat ≤ 64 by omega)]
def fit (v : Int) (n : Nat) : Bool := decide (-2 ^ (n - 1) ≤ v ∧ v < 2 ^ (n - 1))
theorem fit12 (v : Int) : fit v 12 = decide (-2048 ≤ v ∧ v < 2048) := rfl
theorem fit32 (v : Int) : fit v 32 = decide (-2147483648 ≤ v ∧ v < 2147483648) := rfl
theorem wfit (v : Int) (hv : -9223372036854775808 ≤ v ∧ v < 9223372036854775808) : word_Fits.f v 12 = some (fit v 12) ∧ word_Fits.f v 32 = some (fit v 32) := by
  constructor
  · rw [fits_f v 12 hv.1 hv.2 (by decide) (by decide)]; unfold fit
    congr 1; rw [decide_eq_decide]; exact ⟨fun h => h.2.2, fun h => ⟨by decide, by decide, h⟩⟩
  · rw [fits_f v 32 hv.1 hv.2 (by decide) (by decide)]; unfold fit
    congr 1; rw [decide_eq_decide]; exact ⟨fun h => h.2.2, fun h => ⟨by decide, by decide, h⟩⟩
theorem rfit (k : Nat) (hk : 66 < k) (v : Int) (hv : -9223372036854775808 ≤ v ∧ v < 9223372036854775808) : spinnakerref01_Fits.f k v 12 = some (fit v 12) ∧ spinnakerref01_Fits.f k v 32 = some (fit v 32) := by
  constructor
  · rw [ref_fits k v 12 hv.1 hv.2 hk]; unfold fit
    congr 1; rw [decide_eq_decide]; exact ⟨fun h => h.2.2, fun h => ⟨by decide, by decide, h⟩⟩
  · rw [ref_fits k v 32 hv.1 hv.2 hk]; unfold fit
    congr 1; rw [decide_eq_decide]; exact ⟨fun h => h.2.2, fun h => ⟨by decide, by decide, h⟩⟩
theorem wrap64u (n : Int) (h0 : 0 ≤ n) (h1 : n < 2 ^ 64) : IntKind.u64.wrap n = n := by
  rw [wu64, show (18446744073709551616 : Int) = 2 ^ 64 from by decide]; exact Int.emod_eq_of_lt h0 h1
theorem and64 (a b : Nat) (ha : a < 2 ^ 64) (hb : b < 2 ^ 64) : Go.bits .and .u64 (a : Int) (b : Int) = ((a &&& b : Nat) : Int) :=
  (Go.bits_nat .u64 64 (by decide) wrap64u a b ha hb).1
theorem tz64_table (v : Nat) (hv : v < 64) : rd deBruijn64 (((2 ^ v * 285870213051353865 % 18446744073709551616 / 288230376151711744 : Nat) : Int)) = (v : Int) := by
  revert hv; revert v; decide +kernel
/-- How often a number can be halved, and what is left. -/
theorem tz64 (hi : Int) (h0 : hi ≠ 0) (h1 : -2251799813685248 ≤ hi) (h2 : hi ≤ 2251799813685248) : ∃ (t : Nat) (m : Int), t ≤ 51 ∧ hi = m * 2 ^ t ∧ m % 2 = 1 ∧ bits_TrailingZeros64.f (IntKind.u64.wrap hi) = some (t : Int) := by
  have hS : ∃ S : Nat, (S : Int) = hi % 18446744073709551616 := ⟨(hi % 18446744073709551616).toNat, by omega⟩
  obtain ⟨S, hS⟩ := hS
  have hS0 : S ≠ 0 := by omega
  obtain ⟨v, q, hv⟩ := least_bit S hS0
  have h64 : (2 : Nat) ^ 64 = 18446744073709551616 := by decide
  have hlt : S < 2 ^ 64 := by omega
  have hvn := least_lt hv hlt
  have hcast : ((2 ^ v : Nat) : Int) = (2 : Int) ^ v := by simp
  have hSv : (S : Int) = 2 ^ v * (2 * q + 1) := by rw [hv, ← hcast]; push_cast; rfl
  -- the odd part
  have hm : ∃ m : Int, hi = m * 2 ^ v ∧ m % 2 = 1 := by
    by_cases hp : 0 ≤ hi
    · refine ⟨2 * q + 1, ?_, by omega⟩
      rw [Int.mul_comm, ← hSv]; omega
    · obtain ⟨c, hc⟩ : ∃ c, 64 = v + (c + 1) := ⟨64 - v - 1, by omega⟩
      refine ⟨2 * q + 1 - 2 * 2 ^ c, ?_, by omega⟩
      have e : (2 : Int) ^ 64 = 2 ^ v * (2 * 2 ^ c) := by rw [hc, p_add, p_succ]
      have e1 : (18446744073709551616 : Int) = 2 ^ 64 := by decide
      have e2 : hi = S - 2 ^ 64 := by rw [← e1]; omega
      rw [e2, hSv, e, ← Int.mul_sub, Int.mul_comm]
  obtain ⟨m, hm1, hm2⟩ := hm
  have hv51 : v ≤ 51 := by
    refine Decidable.byContradiction fun hc => ?_
    have hb : (2 : Int) ^ 52 ≤ 2 ^ v := p_le (show 52 ≤ v by omega)
    have e52 : (2 : Int) ^ 52 = 4503599627370496 := by decide
    rw [e52] at hb
    generalize (2 : Int) ^ v = P at hb hm1
    rcases Int.lt_or_le 0 m with g | g
    · have := Int.mul_le_mul_of_nonneg_right (show 1 ≤ m by omega) (show 0 ≤ P by omega)
      omega
    · have := Int.mul_le_mul_of_nonneg_right (show m ≤ -1 by omega) (show 0 ≤ P by omega)
      omega
  refine ⟨v, m, hv51, hm1, hm2, ?_⟩
  unfold bits_TrailingZeros64.f
  rw [wu64, ← hS, if_neg (by omega)]
  have e1 : IntKind.u64.wrap (-(S : Int)) = ((2 ^ 64 - S : Nat) : Int) := by rw [wu64, h64]; omega
  rw [e1, and64 S (2 ^ 64 - S) hlt (by omega), and_neg hv hlt]
  have e2 : IntKind.u64.wrap (((2 ^ v : Nat) : Int) * 285870213051353865) / 288230376151711744 = ((2 ^ v * 285870213051353865 % 18446744073709551616 / 288230376151711744 : Nat) : Int) := by
    rw [wu64]; generalize (2 ^ v : Nat) = P; omega
  rw [e2, tz64_table v hvn]
theorem shr_odd (m : Int) (t : Nat) (ht : t ≤ 51) : shr .i64 (m * 2 ^ t) t = m := by
  unfold shr
  rw [show ((t : Nat) : Int).toNat = t from by omega, show IntKind.i64.bits = 64 from rfl, Nat.min_eq_left (by omega), Int.mul_ediv_cancel _ (Int.ne_of_gt (p_pos t))]
theorem half_l (rd n lo : Int) (d : Nat) : ∀ (k : Nat) (q : Int), d ≤ 12 → -9223372036854775808 ≤ q * 2 ^ d → q * 2 ^ d ≤ 9223372036854775807 → spinnakerref09_Load.l0 (k + d) rd n lo (q * 2 ^ d) (12 - d) = spinnakerref09_Load.l0 k rd n lo q 12 := by
  induction d with
  | zero => intro k q _ _ _; simp
  | succ d ih =>
    intro k q hd h0 h1
    rw [show k + (d + 1) = (k + d) + 1 from rfl]
    have e : q * 2 ^ (d + 1) = q * 2 ^ d * 2 := by rw [p_succ, Int.mul_comm 2, Int.mul_assoc]
    rw [e] at h0 h1 ⊢
    simp only [spinnakerref09_Load.l0]
    rw [if_pos (by omega), Int.mul_tdiv_cancel _ (by decide), show wrap64 (q * 2 ^ d) = q * 2 ^ d from w64 (by omega) (by omega), show wrap64 (12 - ((d + 1 : Nat) : Int) + 1) = 12 - (d : Int) from by rw [w64 (by omega) (by omega)]; omega]
    have h := ih k q (by omega) (by omega) (by omega)
    exact h
theorem odd_l (rd lo m : Int) (T : Nat) (hT : T ≤ 51) (d : Nat) : ∀ k : Nat, d ≤ T → -9223372036854775808 ≤ m * 2 ^ d → m * 2 ^ d ≤ 9223372036854775807 → spinnakerref09_Load.l1 (k + d) rd lo (m * 2 ^ d) (12 + T - d) = spinnakerref09_Load.l1 k rd lo m (12 + T) := by
  induction d with
  | zero => intro k _ _ _; simp
  | succ d ih =>
    intro k hd h0 h1
    rw [show k + (d + 1) = (k + d) + 1 from rfl]
    have e : m * 2 ^ (d + 1) = m * 2 ^ d * 2 := by rw [p_succ, Int.mul_comm 2, Int.mul_assoc]
    rw [e] at h0 h1 ⊢
    simp only [spinnakerref09_Load.l1]
    rw [if_pos (Int.mul_tmod_left _ _), if_pos (by omega), Int.mul_tdiv_cancel _ (by decide), show wrap64 (m * 2 ^ d) = m * 2 ^ d from w64 (by omega) (by omega), show wrap64 (12 + (T : Int) - ((d + 1 : Nat) : Int) + 1) = 12 + (T : Int) - (d : Int) from by rw [w64 (by omega) (by omega)]; omega]
    exact ih k (by omega) (by omega) (by omega)
/-- What a loading is good for. -/
def Good (rd : Int) (N : Nat) (t : List S51) : Prop := t.length ≤ N ∧ ∀ x ∈ t, mayI x = true
theorem may_addi (rd n : Int) (hr : 0 ≤ rd ∧ rd < 32) (hn : -2048 ≤ n ∧ n ≤ 2047) : mayI ⟨22, rd, 0, 0, n, false, false⟩ = true := by
  unfold mayI
  rw [show formOf (22 : Int) = 3 from by decide]
  simp [mayF, regOk, hasRd, hasA, hasB, immOk]; omega
theorem may_addi2 (rd n : Int) (hr : 0 ≤ rd ∧ rd < 32) (hn : -2048 ≤ n ∧ n ≤ 2047) : mayI ⟨22, rd, rd, 0, n, false, false⟩ = true := by
  unfold mayI
  rw [show formOf (22 : Int) = 3 from by decide]
  simp [mayF, regOk, hasRd, hasA, hasB, immOk]; omega
theorem may_addiw (rd n : Int) (hr : 0 ≤ rd ∧ rd < 32) (hn : -2048 ≤ n ∧ n ≤ 2047) : mayI ⟨31, rd, rd, 0, n, false, false⟩ = true := by
  unfold mayI
  rw [show formOf (31 : Int) = 3 from by decide]
  simp [mayF, regOk, hasRd, hasA, hasB, immOk]; omega
theorem may_lui (rd n : Int) (hr : 0 ≤ rd ∧ rd < 32) (hn : -524288 ≤ n ∧ n ≤ 524287) : mayI ⟨1, rd, 0, 0, n, false, false⟩ = true := by
  unfold mayI
  rw [show formOf (1 : Int) = 1 from by decide]
  simp [mayF, regOk, hasRd, hasA, hasB, immOk]; omega
theorem may_slli (rd n : Int) (hr : 0 ≤ rd ∧ rd < 32) (hn : 0 ≤ n ∧ n ≤ 63) : mayI ⟨28, rd, rd, 0, n, false, false⟩ = true := by
  unfold mayI
  rw [show formOf (28 : Int) = 7 from by decide]
  simp [mayF, regOk, hasRd, hasA, hasB, immOk]; omega
theorem w_shift (T : Nat) (h : T ≤ 51) : wrap64 (12 + (T : Int)) = 12 + T := w64 (by omega) (by omega)
set_option maxHeartbeats 4000000 in
/-- One level: loading n is loading a smaller number first. -/
theorem load_step (rd : Int) (hr : 0 ≤ rd ∧ rd < 32) (M : Int) (K N : Nat) (hM : 2147483648 ≤ M) (hM2 : M ≤ 36028797018963968) (hMe : M % 2 = 0) (hN : N ≤ 1000)
    (H : ∀ (m : Int) (k : Nat), -M < m → m < M → K ≤ k → ∃ t, unit_load.f k rd m = some t ∧ spinnakerref09_Load.f k rd m = some t ∧ Good rd N t) :
    ∀ (n : Int) (k : Nat), -9223372036854775808 ≤ n → n ≤ 9223372036854775807 → -(4096 * M) < n → n < 4096 * M → K + 400 ≤ k → ∃ t, unit_load.f k rd n = some t ∧ spinnakerref09_Load.f k rd n = some t ∧ Good rd (N + 2) t := by
  intro n k b0 b1 n0 n1 hk
  obtain ⟨k, rfl⟩ : ∃ m, k = m + 1 := ⟨k - 1, by omega⟩
  simp only [unit_load.f, spinnakerref09_Load.f]
  obtain ⟨wf12, wf32⟩ := wfit n ⟨b0, by omega⟩
  obtain ⟨rf12, _⟩ := rfit k (by omega) n ⟨b0, by omega⟩
  rw [wf12, wf32, rf12, low_f n 12 (by decide) (by decide), rsign_f k n 12 (by decide) (by decide) (by omega)]
  simp only [Option.bind_some]
  cases c12 : fit n 12
  · rw [if_neg (show ¬ (false = true) from Bool.false_ne_true), if_neg (show ¬ (false = true) from Bool.false_ne_true)]
    have hlo := sgn_range n 12 (by decide)
    have elo : (2 : Int) ^ (12 - 1) = 2048 := by decide
    rw [elo] at hlo
    have hdvd : (n - sgn n 12) % 4096 = 0 := by
      unfold sgn
      rw [show (2 : Int) ^ 12 = 4096 from by decide, show (2 : Int) ^ (12 - 1) = 2048 from by decide]
      split <;> omega
    rw [show ((12 : Int)).toNat = 12 from rfl]
    generalize sgn n 12 = lo at hlo hdvd ⊢
    -- the rest, a multiple of 4096
    have hh : ∃ hi : Int, wrap64 (n - lo) = hi * 4096 ∧ -2251799813685248 ≤ hi ∧ hi < 2251799813685248 ∧ -M ≤ hi ∧ hi ≤ M ∧ (fit n 32 = false → hi ≠ 0) := by
      rw [fit32, decide_eq_false_iff_not]
      by_cases hc : n - lo < 9223372036854775808
      · refine ⟨(n - lo) / 4096, ?_, by omega, by omega, by omega, by omega, by omega⟩
        rw [w64 (by omega) (by omega)]; omega
      · refine ⟨-2251799813685248, ?_, by omega, by omega, by omega, by omega, by omega⟩
        unfold wrap64; omega
    obtain ⟨hi, ehi, g0, g1, g2, g3, g4⟩ := hh
    rw [ehi, Int.mul_ediv_cancel _ (by decide)]
    have e12 : hi * 4096 = hi * 2 ^ 12 := by rw [show (2 : Int) ^ 12 = 4096 from by decide]
    obtain ⟨k2, rfl⟩ : ∃ m, k = m + 12 := ⟨k - 12, by omega⟩
    have hl := half_l rd n lo 12 k2 hi (Nat.le_refl _) (by rw [← e12]; omega) (by rw [← e12]; omega)
    rw [show (12 : Int) - ((12 : Nat) : Int) = 0 from by decide] at hl
    rw [e12, hl]
    obtain ⟨k3, rfl⟩ : ∃ m, k2 = m + 1 := ⟨k2 - 1, by omega⟩
    simp only [spinnakerref09_Load.l0]
    obtain ⟨_, rf32⟩ := rfit k3 (by omega) n ⟨b0, by omega⟩
    rw [if_neg (show ¬ ((12 : Int) < 12) by decide), rf32]
    simp only [Option.bind_some]
    cases c32 : fit n 32
    · rw [if_neg (show ¬ (false = true) from Bool.false_ne_true), if_neg (show ¬ (false = true) from Bool.false_ne_true)]
      obtain ⟨T, m, hT, em, hm, etz⟩ := tz64 hi (g4 c32) g0 (by omega)
      rw [etz]
      simp only [Option.bind_some]
      have eshr : shr .i64 hi (T : Int) = m := by rw [em]; exact shr_odd m T hT
      have hpos := p_pos T
      have hmb : -M < m ∧ m < M := by
        have h1 : (1 : Int) ≤ 2 ^ T := by omega
        have hm0 : m ≠ 0 := by omega
        have hne : m ≠ M ∧ m ≠ -M := by omega
        generalize (2 : Int) ^ T = P at em h1
        rcases Int.lt_or_le 0 m with g | g
        · have := Int.mul_le_mul_of_nonneg_left h1 (show 0 ≤ m by omega)
          rw [Int.mul_one] at this
          omega
        · have := Int.mul_le_mul_of_nonneg_left h1 (show 0 ≤ -m by omega)
          rw [Int.neg_mul, Int.neg_mul, Int.mul_one] at this
          omega
      obtain ⟨t, ut, _, _⟩ := H m (k3 + 1 + 12) hmb.1 hmb.2 (by omega)
      have hgood := H m (k3 + 1 + 12) hmb.1 hmb.2 (by omega)
      obtain ⟨k4, rfl⟩ : ∃ j, k3 = j + 1 + T := ⟨k3 - 1 - T, by omega⟩
      have ho := odd_l rd lo m T hT T (k4 + 1) (Nat.le_refl _) (by rw [← em]; omega) (by rw [← em]; omega)
      rw [show (12 : Int) + (T : Int) - (T : Int) = 12 from by omega, ← em] at ho
      rw [ho]
      simp only [spinnakerref09_Load.l1]
      have hmo : ¬ Int.tmod m 2 = 0 := fun c => by have := Int.dvd_of_tmod_eq_zero c; omega
      obtain ⟨t2, ut2, rt2, gd⟩ := H m k4 hmb.1 hmb.2 (by omega)
      obtain ⟨t3, ut3, rt3, gd3⟩ := hgood
      have et : t3 = t2 := by
        have := at_rounds (fun k => unit_load.mono rd m k) (show k4 ≤ k4 + 1 + T + 1 + 12 by omega) ut2
        rw [ut3] at this
        exact Option.some.inj this
      subst et
      rw [eshr, ut3, if_neg hmo, rt2]
      simp only [Option.bind_some]
      have hlen := gd3.1
      rw [if_pos (show (0 : Int) ≤ (T : Int) by omega), if_pos (show t3.length < 2932031007402 by omega), if_pos (show t3.length < 2932031007402 by omega)]
      rw [w_shift T hT]
      unfold unit_add.f
      have hlen2 : (t3 ++ [(⟨28, rd, rd, 0, 12 + (T : Int), false, false⟩ : S51)]).length < 2932031007402 := by rw [List.length_append]; simp; omega
      have hs := may_slli rd (12 + (T : Int)) hr (by omega)
      by_cases hz : lo = 0
      · simp only [if_pos hz, Option.bind_some]
        refine ⟨_, rfl, rfl, by rw [List.length_append]; simp; omega, fun x hx => ?_⟩
        rcases List.mem_append.1 hx with hx | hx
        · exact gd3.2 x hx
        · rw [List.mem_singleton.1 hx]; exact hs
      · simp only [if_neg hz, if_pos hlen2, Option.bind_some]
        refine ⟨_, rfl, rfl, by rw [List.length_append, List.length_append]; simp; omega, fun x hx => ?_⟩
        rcases List.mem_append.1 hx with hx | hx
        · rcases List.mem_append.1 hx with hx | hx
          · exact gd3.2 x hx
          · rw [List.mem_singleton.1 hx]; exact hs
        · rw [List.mem_singleton.1 hx]; exact may_addi2 rd lo hr (by omega)
    · rw [if_pos (show true = true from rfl), if_pos (show true = true from rfl), low_f hi 20 (by decide) (by decide), rsign_f k3 hi 20 (by decide) (by decide) (by omega)]
      simp only [Option.bind_some, List.nil_append, List.length_nil, List.length_singleton]
      have h20 := sgn_range hi 20 (by decide)
      rw [show (2 : Int) ^ (20 - 1) = 524288 from by decide] at h20
      rw [show ((20 : Int)).toNat = 20 from rfl]
      generalize sgn hi 20 = v at h20 ⊢
      have hv := may_lui rd v hr (by omega)
      unfold unit_add.f
      rw [if_pos (show 0 < 2932031007402 by decide)]
      by_cases hz : lo = 0
      · rw [if_pos hz, if_pos hz]
        refine ⟨_, rfl, rfl, by simp, fun x hx => ?_⟩
        rw [List.mem_singleton.1 hx]; exact hv
      · rw [if_neg hz, if_neg hz, if_pos (show [(⟨1, rd, 0, 0, v, false, false⟩ : S51)].length < 2932031007402 by simp), if_pos (show 1 < 2932031007402 by decide)]
        refine ⟨_, rfl, rfl, by simp, fun x hx => ?_⟩
        rcases List.mem_append.1 hx with hx | hx
        · rw [List.mem_singleton.1 hx]; exact hv
        · rw [List.mem_singleton.1 hx]; exact may_addiw rd lo hr (by omega)
  · rw [if_pos (show true = true from rfl), if_pos (show true = true from rfl)]
    rw [fit12, decide_eq_true_eq] at c12
    refine ⟨_, rfl, rfl, by simp, fun x hx => ?_⟩
    rw [List.mem_singleton.1 hx]
    exact may_addi rd n hr (by omega)
set_option maxHeartbeats 4000000 in
theorem load_f (rd n : Int) (hr : 0 ≤ rd ∧ rd < 32) (hn : -9223372036854775808 ≤ n ∧ n ≤ 9223372036854775807) (k : Nat) (hk : 3000 ≤ k) : ∃ t, unit_load.f k rd n = some t ∧ spinnakerref09_Load.f k rd n = some t ∧ Good rd 8 t := by
  -- numbers that fit 32 bits need no smaller one
  have s0 : ∀ (m : Int) (k : Nat), -2147483648 < m → m < 2147483648 → 700 ≤ k → ∃ t, unit_load.f k rd m = some t ∧ spinnakerref09_Load.f k rd m = some t ∧ Good rd 2 t := by
    intro m k m0 m1 hk
    obtain ⟨k, rfl⟩ : ∃ j, k = j + 1 := ⟨k - 1, by omega⟩
    simp only [unit_load.f, spinnakerref09_Load.f]
    obtain ⟨wf12, wf32⟩ := wfit m ⟨by omega, by omega⟩
    obtain ⟨rf12, _⟩ := rfit k (by omega) m ⟨by omega, by omega⟩
    rw [wf12, wf32, rf12, low_f m 12 (by decide) (by decide), rsign_f k m 12 (by decide) (by decide) (by omega)]
    simp only [Option.bind_some]
    cases c12 : fit m 12
    · rw [if_neg (show ¬ (false = true) from Bool.false_ne_true), if_neg (show ¬ (false = true) from Bool.false_ne_true)]
      have hlo := sgn_range m 12 (by decide)
      rw [show (2 : Int) ^ (12 - 1) = 2048 from by decide] at hlo
      have hdvd : (m - sgn m 12) % 4096 = 0 := by
        unfold sgn
        rw [show (2 : Int) ^ 12 = 4096 from by decide, show (2 : Int) ^ (12 - 1) = 2048 from by decide]
        split <;> omega
      rw [show ((12 : Int)).toNat = 12 from rfl]
      generalize sgn m 12 = lo at hlo hdvd ⊢
      obtain ⟨hi, ehi⟩ : ∃ hi : Int, m - lo = hi * 4096 := ⟨(m - lo) / 4096, by omega⟩
      have ew : wrap64 (m - lo) = hi * 4096 := by rw [w64 (by omega) (by omega), ehi]
      rw [ew, Int.mul_ediv_cancel _ (by decide)]
      have e12 : hi * 4096 = hi * 2 ^ 12 := by rw [show (2 : Int) ^ 12 = 4096 from by decide]
      obtain ⟨k2, rfl⟩ : ∃ j, k = j + 12 := ⟨k - 12, by omega⟩
      have hl := half_l rd m lo 12 k2 hi (Nat.le_refl _) (by rw [← e12]; omega) (by rw [← e12]; omega)
      rw [show (12 : Int) - ((12 : Nat) : Int) = 0 from by decide] at hl
      rw [e12, hl]
      obtain ⟨k3, rfl⟩ : ∃ j, k2 = j + 1 := ⟨k2 - 1, by omega⟩
      simp only [spinnakerref09_Load.l0]
      obtain ⟨_, rf32⟩ := rfit k3 (by omega) m ⟨by omega, by omega⟩
      have c32 : fit m 32 = true := by rw [fit32, decide_eq_true_eq]; omega
      rw [if_neg (show ¬ ((12 : Int) < 12) by decide), rf32, c32]
      simp only [Option.bind_some, if_true]
      rw [low_f hi 20 (by decide) (by decide), rsign_f k3 hi 20 (by decide) (by decide) (by omega)]
      simp only [Option.bind_some, List.nil_append, List.length_nil, List.length_singleton]
      have h20 := sgn_range hi 20 (by decide)
      rw [show (2 : Int) ^ (20 - 1) = 524288 from by decide] at h20
      rw [show ((20 : Int)).toNat = 20 from rfl]
      generalize sgn hi 20 = v at h20 ⊢
      have hv := may_lui rd v hr (by omega)
      unfold unit_add.f
      rw [if_pos (show 0 < 2932031007402 by decide)]
      by_cases hz : lo = 0
      · rw [if_pos hz, if_pos hz]
        refine ⟨_, rfl, rfl, by simp, fun x hx => ?_⟩
        rw [List.mem_singleton.1 hx]; exact hv
      · rw [if_neg hz, if_neg hz, if_pos (show [(⟨1, rd, 0, 0, v, false, false⟩ : S51)].length < 2932031007402 by simp), if_pos (show 1 < 2932031007402 by decide)]
        refine ⟨_, rfl, rfl, by simp, fun x hx => ?_⟩
        rcases List.mem_append.1 hx with hx | hx
        · rw [List.mem_singleton.1 hx]; exact hv
        · rw [List.mem_singleton.1 hx]; exact may_addiw rd lo hr (by omega)
    · rw [if_pos (show true = true from rfl), if_pos (show true = true from rfl)]
      rw [fit12, decide_eq_true_eq] at c12
      refine ⟨_, rfl, rfl, by simp, fun x hx => ?_⟩
      rw [List.mem_singleton.1 hx]
      exact may_addi rd m hr (by omega)
  have s1 := load_step rd hr 2147483648 700 2 (by decide) (by decide) (by decide) (by decide) s0
  have s2 := load_step rd hr 8796093022208 1100 4 (by decide) (by decide) (by decide) (by decide) (fun m k a b c => s1 m k (by omega) (by omega) (by omega) (by omega) c)
  have s3 := load_step rd hr 36028797018963968 1500 6 (by decide) (by decide) (by decide) (by decide) (fun m k a b c => s2 m k (by omega) (by omega) (by omega) (by omega) c)
  exact s3 n k hn.1 hn.2 (by omega) (by omega) (by omega)

abbrev It := S70
def ld (rd n : Int) : List S51 := (unit_load.f 3000 rd n).getD []
theorem ld_f (rd n : Int) (hr : 0 ≤ rd ∧ rd < 32) (hn : -9223372036854775808 ≤ n ∧ n ≤ 9223372036854775807) (k : Nat) (hk : 3000 ≤ k) : unit_load.f k rd n = some (ld rd n) ∧ spinnakerref09_Load.f k rd n = some (ld rd n) ∧ Good rd 8 (ld rd n) := by
  obtain ⟨t, h1, _, _⟩ := load_f rd n hr hn 3000 (Nat.le_refl _)
  have e : ld rd n = t := by unfold ld; rw [h1]; rfl
  obtain ⟨t', h3, h4, h5⟩ := load_f rd n hr hn k hk
  have e' : t' = t := by
    have := at_rounds (fun k => unit_load.mono rd n k) hk h1
    rw [h3] at this
    exact Option.some.inj this
  rw [e, ← e']
  exact ⟨h3, h4, h5⟩
theorem uLoad_f (rd n : Int) (hr : 0 ≤ rd ∧ rd < 32) (hn : -9223372036854775808 ≤ n ∧ n ≤ 9223372036854775807) (k : Nat) (hk : 3000 ≤ k) : unit_Load.f k rd n = some (ld rd n) := by
  unfold unit_Load.f
  obtain ⟨t, ht, h⟩ := name_nil rd
  rw [ht, (ld_f rd n hr hn k hk).1]
  simp only [Option.bind_some]
  rw [if_neg (fun c => h.1 c hr)]
/-- An item with its constant loaded. -/
def expI (x : It) : List It := if x.f0 = 4 then (ld x.f1.f1 x.f2).map fun y => (⟨0, y, 0, x.f3⟩ : It) else [x]
def expU (l : List It) : List It := l.flatMap expI
theorem rd_It (l : List It) (i : Nat) (h : i < l.length) : rd_T70 l (i : Int) = l[i] := by unfold rd_T70; simp [h]
theorem rd_In (l : List S51) (i : Nat) (h : i < l.length) : rd_T51 l (i : Int) = l[i] := by unfold rd_T51; simp [h]
theorem exp_in (l : List It) (t : List S51) (len x10 : Int) (a0 a1 a2 a3 a4 a5 : Int) (a6 a7 : Bool) (a8 a9 : Int) (ht : t.length ≤ 8) (d : Nat) : ∀ (k i : Nat) (acc : List It), i + d = t.length → acc.length + d < 100000 →
    unit_Expand.l1 (k + d + 1) acc l len x10 t t.length i a0 a1 a2 a3 a4 a5 a6 a7 a8 a9 = unit_Expand.l0 k (acc ++ (t.drop i).map fun y => (⟨0, y, 0, a9⟩ : It)) l len (wrap64 (x10 + 1)) := by
  induction d with
  | zero =>
    intro k i acc hi ha
    simp only [unit_Expand.l1]
    rw [if_neg (by omega), List.drop_of_length_le (by omega)]
    simp
  | succ d ih =>
    intro k i acc hi ha
    rw [show k + (d + 1) + 1 = (k + d + 1) + 1 from by omega]
    have hil : i < t.length := by omega
    simp only [unit_Expand.l1, unit_Instr.f]
    rw [if_pos (show (i : Int) < t.length by omega), if_pos (show (0 : Int) ≤ i by omega), if_pos (show (i : Int) < t.length by omega)]
    simp only [Option.bind_some]
    rw [if_pos (show acc.length < 1954687338268 by omega), show wrap64 ((i : Int) + 1) = ((i + 1 : Nat) : Int) from by rw [w64 (by omega) (by omega)]; omega, rd_In t i hil]
    have h := ih k (i + 1) (acc ++ [(⟨0, t[i], 0, a9⟩ : It)]) (by omega) (by rw [List.length_append]; simp; omega)
    rw [List.append_assoc] at h
    rw [List.drop_eq_getElem_cons hil, List.map_cons]
    exact h
theorem exp_inr (l : List It) (t : List S51) (x4 : Int) (h0 : 0 ≤ x4) (h1 : x4 < l.length) (ht : t.length ≤ 8) (d : Nat) : ∀ (k i : Nat) (acc : List It), i + d = t.length → acc.length + d < 100000 →
    spinnakerref09_Expand.l1 (k + d + 1) l acc x4 t i = spinnakerref09_Expand.l0 k l (acc ++ (t.drop i).map fun y => (⟨0, y, 0, (rd_T70 l x4).f3⟩ : It)) (wrap64 (x4 + 1)) := by
  induction d with
  | zero =>
    intro k i acc hi ha
    simp only [spinnakerref09_Expand.l1]
    rw [if_neg (by omega), List.drop_of_length_le (by omega)]
    simp
  | succ d ih =>
    intro k i acc hi ha
    rw [show k + (d + 1) + 1 = (k + d + 1) + 1 from by omega]
    have hil : i < t.length := by omega
    simp only [spinnakerref09_Expand.l1]
    rw [if_pos (show (i : Int) < t.length by omega), if_pos (show (0 : Int) ≤ i by omega), if_pos h0, if_pos h1, if_pos (show acc.length < 1954687338268 by omega),
      show wrap64 ((i : Int) + 1) = ((i + 1 : Nat) : Int) from by rw [w64 (by omega) (by omega)]; omega, rd_In t i hil]
    have h := ih k (i + 1) (acc ++ [(⟨0, t[i], 0, (rd_T70 l x4).f3⟩ : It)]) (by omega) (by rw [List.length_append]; simp; omega)
    rw [List.append_assoc] at h
    rw [List.drop_eq_getElem_cons hil, List.map_cons]
    exact h
/-- All items are right, and of 64 bits. -/
def Rights (l : List It) : Prop := ∀ x ∈ l, rightI x = true ∧ -9223372036854775808 ≤ x.f2 ∧ x.f2 ≤ 9223372036854775807
theorem right_const {x : It} (h : rightI x = true) (h4 : x.f0 = 4) : 0 ≤ x.f1.f1 ∧ x.f1.f1 < 32 := by
  unfold rightI at h
  rw [if_neg (by omega), if_neg (by omega), if_neg (by omega), if_pos h4] at h
  simp only [Bool.and_eq_true, decide_eq_true_eq] at h
  exact h.2.1
theorem exp_l (l : List It) (hl : l.length ≤ 300) (hR : Rights l) (d : Nat) : ∀ (k i : Nat) (acc : List It), i + d = l.length → acc.length ≤ 8 * i → 4000 + 20 * d ≤ k →
    unit_Expand.l0 k acc l l.length i = some (acc ++ expU (l.drop i)) ∧ spinnakerref09_Expand.l0 k l acc i = some (acc ++ expU (l.drop i)) := by
  induction d with
  | zero =>
    intro k i acc hi ha hk
    obtain ⟨k, rfl⟩ : ∃ m, k = m + 1 := ⟨k - 1, by omega⟩
    simp only [unit_Expand.l0, spinnakerref09_Expand.l0]
    rw [if_neg (by omega), if_neg (by omega), List.drop_of_length_le (by omega)]
    simp [expU]
  | succ d ih =>
    intro k i acc hi ha hk
    obtain ⟨k, rfl⟩ : ∃ m, k = m + 1 := ⟨k - 1, by omega⟩
    have hil : i < l.length := by omega
    have hil' : (i : Int) < (l.length : Int) := by omega
    have hi0 : (0 : Int) ≤ (i : Int) := by omega
    have hx := hR l[i] (List.getElem_mem hil)
    have ew : wrap64 ((i : Int) + 1) = ((i + 1 : Nat) : Int) := by rw [w64 (by omega) (by omega)]; omega
    have ed : expU (l.drop i) = expI l[i] ++ expU (l.drop (i + 1)) := by rw [List.drop_eq_getElem_cons hil]; rfl
    simp only [unit_Expand.l0, spinnakerref09_Expand.l0]
    rw [if_pos hil', if_pos hi0, if_pos hil', if_pos hil', if_pos hi0, rd_It l i hil, ew, ed]
    by_cases h4 : l[i].f0 = 4
    · have hr := right_const hx.1 h4
      obtain ⟨_, hrl, hg⟩ := ld_f l[i].f1.f1 l[i].f2 hr hx.2 (k - 1) (by omega)
      rw [if_pos h4, if_pos h4, uLoad_f _ _ hr hx.2 k (by omega), if_neg (show ¬ l[i].f1.f1 < 0 by omega), decide_eq_false (show ¬ l[i].f1.f1 > 31 by omega)]
      simp only [Option.bind_some]
      have hlen := hg.1
      have eI : expI l[i] = (ld l[i].f1.f1 l[i].f2).map fun y => (⟨0, y, 0, l[i].f3⟩ : It) := by unfold expI; rw [if_pos h4]
      generalize ld l[i].f1.f1 l[i].f2 = t at hrl hlen eI ⊢
      constructor
      · obtain ⟨k1, rfl⟩ : ∃ m, k = m + t.length + 1 := ⟨k - t.length - 1, by omega⟩
        have h := exp_in l t l.length i l[i].f0 l[i].f1.f0 l[i].f1.f1 l[i].f1.f2 l[i].f1.f3 l[i].f1.f4 l[i].f1.f5 l[i].f1.f6 l[i].f2 l[i].f3 hlen t.length k1 0 acc (by omega) (by omega)
        rw [show ((0 : Nat) : Int) = 0 from rfl, List.drop_zero, ew] at h
        rw [h, ← List.append_assoc, eI]
        exact (ih k1 (i + 1) _ (by omega) (by rw [List.length_append, List.length_map]; omega) (by omega)).1
      · obtain ⟨k1, rfl⟩ : ∃ m, k = m + t.length + 2 := ⟨k - t.length - 2, by omega⟩
        rw [show k1 + t.length + 2 - 1 = k1 + t.length + 1 from rfl] at hrl
        simp only [spinnakerref09_Expand.j1]
        rw [if_neg (show ¬ (false = true) from Bool.false_ne_true), if_pos hi0, if_pos hil', rd_It l i hil, hrl]
        simp only [Option.bind_some]
        have h := exp_inr l t i hi0 hil' hlen t.length k1 0 acc (by omega) (by omega)
        rw [show ((0 : Nat) : Int) = 0 from rfl, List.drop_zero, ew, rd_It l i hil] at h
        rw [h, ← List.append_assoc, eI]
        exact (ih k1 (i + 1) _ (by omega) (by rw [List.length_append, List.length_map]; omega) (by omega)).2
    · have eI : expI l[i] = [l[i]] := by unfold expI; rw [if_neg h4]
      rw [if_neg h4, if_neg h4, if_pos (show acc.length < 1954687338268 by omega), if_pos (show acc.length < 1954687338268 by omega), eI, ← List.append_assoc]
      exact ih k (i + 1) (acc ++ [l[i]]) (by omega) (by rw [List.length_append]; simp; omega) (by omega)
theorem expI_len (x : It) (h : rightI x = true ∧ -9223372036854775808 ≤ x.f2 ∧ x.f2 ≤ 9223372036854775807) : (expI x).length ≤ 8 := by
  unfold expI
  by_cases h4 : x.f0 = 4
  · rw [if_pos h4, List.length_map]
    exact (ld_f x.f1.f1 x.f2 (right_const h.1 h4) h.2 3000 (Nat.le_refl _)).2.2.1
  · rw [if_neg h4]; simp
theorem expU_len (l : List It) (h : Rights l) : (expU l).length ≤ 8 * l.length := by
  induction l with
  | nil => simp [expU]
  | cons x t ih =>
    have h1 := expI_len x (h x (List.mem_cons_self))
    have h2 := ih fun y hy => h y (List.mem_cons_of_mem _ hy)
    have e : expU (x :: t) = expI x ++ expU t := rfl
    rw [e, List.length_append, List.length_cons]
    omega
/-- The labels of a unit, in order. -/
def Lb (l : List It) : List Int := (l.filter fun x => x.f0 == 1).map (·.f2)
theorem Lb_append (a b : List It) : Lb (a ++ b) = Lb a ++ Lb b := by simp [Lb]
theorem Lb_expI (x : It) : Lb (expI x) = Lb [x] := by
  unfold expI
  by_cases h4 : x.f0 = 4
  · rw [if_pos h4]
    have e : Lb [x] = [] := by simp [Lb, h4]
    rw [e]
    unfold Lb
    rw [List.map_eq_nil_iff, List.filter_eq_nil_iff]
    intro y hy
    obtain ⟨z, _, rfl⟩ := List.mem_map.1 hy
    simp
  · rw [if_neg h4]
theorem Lb_expU (l : List It) : Lb (expU l) = Lb l := by
  induction l with
  | nil => rfl
  | cons x t ih =>
    have e : expU (x :: t) = expI x ++ expU t := rfl
    rw [e, Lb_append, Lb_expI, ih, ← Lb_append]; rfl
theorem stood_Lb (l : List It) (n at_ : Int) : stood l n at_ = true ↔ n ∈ Lb (l.take at_.toNat) := by
  unfold stood Lb
  rw [List.any_eq_true, List.mem_map]
  constructor
  · rintro ⟨x, hx, hp⟩
    simp only [Bool.and_eq_true, beq_iff_eq] at hp
    exact ⟨x, List.mem_filter.2 ⟨hx, by simp [hp.1]⟩, hp.2⟩
  · rintro ⟨x, hx, hn⟩
    obtain ⟨h1, h2⟩ := List.mem_filter.1 hx
    exact ⟨x, h1, by rw [h2, hn]; simp⟩
/-- What a check without an error says, by places. -/
theorem ok2 (l : List It) (hl : l.length < 10000) (hf : FineU l) (d : Nat) : ∀ (k : Nat) (i : Int), l.length - i = d → 0 ≤ i → d < k →
    ∃ r, unit_Check.l2 k l l.length i = some r ∧ (r.2 = 0 ↔ ∀ j : Int, i ≤ j → j < l.length → ((rd_T70 l j).f0 = 2 ∨ (rd_T70 l j).f0 = 3) → stood l (rd_T70 l j).f2 l.length = true) := by
  induction d with
  | zero =>
    intro k i hd hi hk
    obtain ⟨k, rfl⟩ : ∃ m, k = m + 1 := ⟨k - 1, by omega⟩
    simp only [unit_Check.l2]
    rw [if_neg (by omega)]
    exact ⟨_, rfl, fun _ j a b => absurd b (by omega), fun _ => rfl⟩
  | succ d ih =>
    intro k i hd hi hk
    obtain ⟨k, rfl⟩ : ∃ m, k = m + 1 := ⟨k - 1, by omega⟩
    simp only [unit_Check.l2]
    have hil : i < (l.length : Int) := by omega
    rw [if_pos hil, if_pos hi, if_pos hil, stood_f l _ _ (hf i hi hil).2, show wrap64 (i + 1) = i + 1 by unfold wrap64; omega]
    simp only [Option.bind_some]
    obtain ⟨r, e1, e2⟩ := ih k (i + 1) (by omega) (by omega) (by omega)
    rw [e1]
    have split : ∀ P : Int → Prop, (∀ j : Int, i ≤ j → j < l.length → P j) ↔ P i ∧ ∀ j : Int, i + 1 ≤ j → j < l.length → P j := fun P =>
      ⟨fun h => ⟨h i (Int.le_refl _) hil, fun j a b => h j (by omega) b⟩, fun h j a b => by
        by_cases hj : j = i
        · rw [hj]; exact h.1
        · exact h.2 j (by omega) b⟩
    rw [split]
    by_cases hc : (rd_T70 l i).f0 = 2 ∨ (rd_T70 l i).f0 = 3
    · cases hs : stood l (rd_T70 l i).f2 l.length
      · refine ⟨(i, 4), ?_, fun h => by simp at h, fun h => absurd (h.1 hc) (by simp)⟩
        rcases hc with h | h
        · simp [h]
        · simp [h]
      · refine ⟨r, ?_, e2.trans ⟨fun h => ⟨fun _ => rfl, h⟩, fun h => h.2⟩⟩
        rcases hc with h | h
        · simp [h]
        · simp [h]
    · refine ⟨r, ?_, e2.trans ⟨fun h => ⟨fun g => absurd g hc, h⟩, fun h => h.2⟩⟩
      have h2 : ¬ (rd_T70 l i).f0 = 2 := fun h => hc (.inl h)
      have h3 : ¬ (rd_T70 l i).f0 = 3 := fun h => hc (.inr h)
      simp [h2, h3]
def Jumps (l : List It) : Prop := ∀ j : Int, 0 ≤ j → j < l.length → ((rd_T70 l j).f0 = 2 ∨ (rd_T70 l j).f0 = 3) → stood l (rd_T70 l j).f2 l.length = true
theorem ok1 (l : List It) (hl : l.length < 10000) (hf : FineU l) (d : Nat) : ∀ (k : Nat) (i : Int), l.length - i = d → 0 ≤ i → l.length + 1 + d < k →
    ∃ r, unit_Check.l1 k l l l.length i = some r ∧ (r.2 = 0 ↔ (∀ j : Int, i ≤ j → j < l.length → (rd_T70 l j).f0 = 1 → stood l (rd_T70 l j).f2 j = false) ∧ Jumps l) := by
  induction d with
  | zero =>
    intro k i hd hi hk
    obtain ⟨k, rfl⟩ : ∃ m, k = m + 1 := ⟨k - 1, by omega⟩
    simp only [unit_Check.l1]
    rw [if_neg (by omega)]
    obtain ⟨r, e1, e2⟩ := ok2 l hl hf l.length k 0 (by omega) (by omega) (by omega)
    exact ⟨r, e1, e2.trans ⟨fun h => ⟨fun j a b => absurd b (by omega), h⟩, fun h => h.2⟩⟩
  | succ d ih =>
    intro k i hd hi hk
    obtain ⟨k, rfl⟩ : ∃ m, k = m + 1 := ⟨k - 1, by omega⟩
    simp only [unit_Check.l1]
    have hil : i < (l.length : Int) := by omega
    rw [if_pos hil, if_pos hi, if_pos hil, stood_f l _ _ (hf i hi hil).2, show wrap64 (i + 1) = i + 1 by unfold wrap64; omega]
    simp only [Option.bind_some]
    obtain ⟨r, e1, e2⟩ := ih k (i + 1) (by omega) (by omega) (by omega)
    rw [e1]
    have split : ∀ P : Int → Prop, (∀ j : Int, i ≤ j → j < l.length → P j) ↔ P i ∧ ∀ j : Int, i + 1 ≤ j → j < l.length → P j := fun P =>
      ⟨fun h => ⟨h i (Int.le_refl _) hil, fun j a b => h j (by omega) b⟩, fun h j a b => by
        by_cases hj : j = i
        · rw [hj]; exact h.1
        · exact h.2 j (by omega) b⟩
    rw [split]
    by_cases hc : (rd_T70 l i).f0 = 1
    · cases hs : stood l (rd_T70 l i).f2 i
      · refine ⟨r, by simp [hc], e2.trans ⟨fun h => ⟨⟨fun _ => rfl, h.1⟩, h.2⟩, fun h => ⟨h.1.2, h.2⟩⟩⟩
      · refine ⟨(i, 5), by simp [hc], fun h => by simp at h, fun h => absurd (h.1.1 hc) (by simp)⟩
    · refine ⟨r, by simp [hc], e2.trans ⟨fun h => ⟨⟨fun g => absurd g hc, h.1⟩, h.2⟩, fun h => ⟨h.1.2, h.2⟩⟩⟩
def Once (l : List It) : Prop := ∀ j : Int, 0 ≤ j → j < l.length → (rd_T70 l j).f0 = 1 → stood l (rd_T70 l j).f2 j = false
theorem ok0 (l : List It) (hl : l.length < 10000) (hf : FineU l) (d : Nat) : ∀ (k : Nat) (i : Int), l.length - i = d → 0 ≤ i → 2 * l.length + 40 + d < k →
    ∃ r, unit_Check.l0 k l l l.length i = some r ∧ (r.2 = 0 ↔ (∀ j : Int, i ≤ j → j < l.length → rightI (rd_T70 l j) = true) ∧ Once l ∧ Jumps l) := by
  induction d with
  | zero =>
    intro k i hd hi hk
    obtain ⟨k, rfl⟩ : ∃ m, k = m + 1 := ⟨k - 1, by omega⟩
    simp only [unit_Check.l0]
    rw [if_neg (by omega)]
    obtain ⟨r, e1, e2⟩ := ok1 l hl hf l.length k 0 (by omega) (by omega) (by omega)
    exact ⟨r, e1, e2.trans ⟨fun h => ⟨fun j a b => absurd b (by omega), h⟩, fun h => h.2⟩⟩
  | succ d ih =>
    intro k i hd hi hk
    obtain ⟨k, rfl⟩ : ∃ m, k = m + 1 := ⟨k - 1, by omega⟩
    simp only [unit_Check.l0]
    have hil : i < (l.length : Int) := by omega
    rw [if_pos hil, if_pos hi, if_pos hil, may_item k _ (by omega) (hf i hi hil).1, show wrap64 (i + 1) = i + 1 by unfold wrap64; omega]
    simp only [Option.bind_some]
    obtain ⟨r, e1, e2⟩ := ih k (i + 1) (by omega) (by omega) (by omega)
    rw [e1]
    have split : ∀ P : Int → Prop, (∀ j : Int, i ≤ j → j < l.length → P j) ↔ P i ∧ ∀ j : Int, i + 1 ≤ j → j < l.length → P j := fun P =>
      ⟨fun h => ⟨h i (Int.le_refl _) hil, fun j a b => h j (by omega) b⟩, fun h j a b => by
        by_cases hj : j = i
        · rw [hj]; exact h.1
        · exact h.2 j (by omega) b⟩
    rw [split]
    cases hs : rightI (rd_T70 l i)
    · exact ⟨(i, 1), by simp, fun h => by simp at h, fun h => absurd h.1.1 (by simp)⟩
    · exact ⟨r, by simp, e2.trans ⟨fun h => ⟨⟨rfl, h.1⟩, h.2⟩, fun h => ⟨h.1.2, h.2⟩⟩⟩
theorem all_mem (l : List It) (P : It → Prop) : (∀ j : Int, 0 ≤ j → j < l.length → P (rd_T70 l j)) ↔ ∀ x ∈ l, P x := by
  constructor
  · intro h x hx
    obtain ⟨i, hi, rfl⟩ := List.mem_iff_getElem.1 hx
    have := h i (by omega) (by omega)
    rwa [rd_It l i hi] at this
  · intro h j h0 h1
    obtain ⟨i, rfl⟩ := Int.eq_ofNat_of_zero_le h0
    rw [rd_It l i (by omega)]
    exact h _ (List.getElem_mem (by omega))
theorem once_nodup (l : List It) : Once l ↔ (Lb l).Nodup := by
  have key : ∀ n : Nat, n ≤ l.length → ((∀ j : Int, 0 ≤ j → j < n → (rd_T70 l j).f0 = 1 → stood l (rd_T70 l j).f2 j = false) ↔ (Lb (l.take n)).Nodup) := by
    intro n
    induction n with
    | zero => intro _; exact ⟨fun _ => by simp [Lb], fun _ j a b => absurd b (by omega)⟩
    | succ n ih =>
      intro hn
      have hnl : n < l.length := by omega
      rw [List.take_succ_eq_append_getElem hnl, Lb_append]
      have h1 := ih (by omega)
      by_cases hk : l[n].f0 = 1
      · have e : Lb [l[n]] = [l[n].f2] := by simp [Lb, hk]
        rw [e, List.nodup_append]
        have hs := stood_Lb l l[n].f2 (n : Int)
        rw [show ((n : Nat) : Int).toNat = n from by omega] at hs
        constructor
        · intro h
          refine ⟨h1.1 fun j a b => h j a (by omega), by simp, fun a ha b hb => ?_⟩
          rw [List.mem_singleton] at hb
          rintro rfl
          subst hb
          have := h n (by omega) (by omega) (by rw [rd_It l n hnl]; exact hk)
          rw [rd_It l n hnl, hs.2 ha] at this
          cases this
        · rintro ⟨g1, _, g3⟩ j a b c
          by_cases hj : j = n
          · subst hj
            rw [rd_It l n hnl] at c ⊢
            cases hv : stood l l[n].f2 n
            · rfl
            · exact absurd rfl (g3 _ (hs.1 hv) _ (List.mem_singleton.2 rfl))
          · exact h1.2 g1 j a (by omega) c
      · have e : Lb [l[n]] = [] := by simp [Lb, hk]
        rw [e, List.append_nil, ← h1]
        constructor
        · intro h j a b; exact h j a (by omega)
        · intro h j a b c
          by_cases hj : j = n
          · subst hj
            rw [rd_It l n hnl] at c
            exact absurd c hk
          · exact h j a (by omega) c
  have := key l.length (Nat.le_refl _)
  rwa [List.take_length] at this
theorem jumps_mem (l : List It) : Jumps l ↔ ∀ x ∈ l, (x.f0 = 2 ∨ x.f0 = 3) → x.f2 ∈ Lb l := by
  unfold Jumps
  have := all_mem l fun x => (x.f0 = 2 ∨ x.f0 = 3) → stood l x.f2 l.length = true
  rw [this]
  have e : ∀ n : Int, stood l n l.length = true ↔ n ∈ Lb l := fun n => by rw [stood_Lb, show ((l.length : Nat) : Int).toNat = l.length from by omega, List.take_length]
  constructor
  · intro h x hx hk; exact (e _).1 (h x hx hk)
  · intro h x hx hk; exact (e _).2 (h x hx hk)
theorem may_imm {x : S51} (h : mayI x = true) : -9223372036854775808 ≤ x.f4 ∧ x.f4 < 9223372036854775808 := by
  unfold mayI mayF at h
  simp only [Bool.and_eq_true] at h
  have hi := h.1.2
  unfold immOk at hi
  repeat' (split at hi)
  all_goals simp only [Bool.and_eq_true, decide_eq_true_eq, beq_iff_eq] at hi
  all_goals omega
theorem expI_mem {x y : It} (hx : rightI x = true ∧ -9223372036854775808 ≤ x.f2 ∧ x.f2 ≤ 9223372036854775807) (hfx : FineI x) (h : y ∈ expI x) : rightI y = true ∧ FineI y ∧ (-9223372036854775808 ≤ y.f2 ∧ y.f2 ≤ 9223372036854775807) ∧ ((y.f0 = 2 ∨ y.f0 = 3) → y = x) := by
  unfold expI at h
  by_cases h4 : x.f0 = 4
  · rw [if_pos h4] at h
    obtain ⟨z, hz, rfl⟩ := List.mem_map.1 h
    have hg := (ld_f x.f1.f1 x.f2 (right_const hx.1 h4) hx.2 3000 (Nat.le_refl _)).2.2.2 z hz
    have hn : 0 ≤ x.f3 := by
      have := hx.1
      unfold rightI at this
      simp only [Bool.and_eq_true, decide_eq_true_eq] at this
      exact this.1
    refine ⟨?_, may_imm hg, ⟨by simp, by simp⟩, fun c => by simp at c⟩
    unfold rightI
    rw [if_pos rfl]
    simp [hn, hg]
  · rw [if_neg h4, List.mem_singleton] at h
    subst h
    exact ⟨hx.1, hfx, hx.2, fun _ => rfl⟩
theorem wf_of {n : Int} (h : -9223372036854775808 ≤ n ∧ n ≤ 9223372036854775807) : (Lit.int .i64 n).wf = true := by
  simp [Lit.wf, IntKind.min, IntKind.max, IntKind.bits, IntKind.signed]; omega
/-- The greatest label behind those of a list. -/
def labF : Int → List Int → Int := List.foldl fun a n => mx a (wrap64 (n + 1))
theorem labels_l (l : List It) (hl : l.length < 10000) (d : Nat) : ∀ (k i : Nat) (acc : Int), i + d = l.length → d < k → unit_Labels.l0 k acc l l.length i = some (labF acc (Lb (l.drop i))) := by
  induction d with
  | zero =>
    intro k i acc hi hk
    obtain ⟨k, rfl⟩ : ∃ m, k = m + 1 := ⟨k - 1, by omega⟩
    simp only [unit_Labels.l0]
    rw [if_neg (by omega), List.drop_of_length_le (by omega)]; rfl
  | succ d ih =>
    intro k i acc hi hk
    obtain ⟨k, rfl⟩ : ∃ m, k = m + 1 := ⟨k - 1, by omega⟩
    have hil : i < l.length := by omega
    simp only [unit_Labels.l0]
    rw [if_pos (show (i : Int) < l.length by omega), if_pos (show (0 : Int) ≤ i by omega), if_pos (show (i : Int) < l.length by omega), rd_It l i hil, show wrap64 ((i : Int) + 1) = ((i + 1 : Nat) : Int) from by rw [w64 (by omega) (by omega)]; omega,
      List.drop_eq_getElem_cons hil, ih k (i + 1) _ (by omega) (by omega), ih k (i + 1) _ (by omega) (by omega)]
    by_cases h1 : l[i].f0 = 1
    · rw [if_pos h1]
      have e : Lb (l[i] :: l.drop (i + 1)) = l[i].f2 :: Lb (l.drop (i + 1)) := by unfold Lb; rw [List.filter_cons_of_pos (by simp [h1])]; rfl
      rw [e]; rfl
    · rw [if_neg h1]
      have e : Lb (l[i] :: l.drop (i + 1)) = Lb (l.drop (i + 1)) := by unfold Lb; rw [List.filter_cons_of_neg (by simp [h1])]
      rw [e]
theorem labels_f (k : Nat) (l : List It) (hl : l.length < 10000) (hk : 10000 ≤ k) : unit_Labels.f k l = some (labF 0 (Lb l)) := by
  unfold unit_Labels.f
  have := labels_l l hl l.length k 0 0 (by omega) (by omega)
  rwa [List.drop_zero] at this
theorem same_l (l : List It) (hl : l.length < 10000) (d : Nat) : ∀ (k i : Nat), i + d = l.length → d < k → spinnakerref09_Same.l0 k l l i = some true := by
  induction d with
  | zero =>
    intro k i hi hk
    obtain ⟨k, rfl⟩ : ∃ m, k = m + 1 := ⟨k - 1, by omega⟩
    simp only [spinnakerref09_Same.l0]
    rw [if_neg (by omega)]
  | succ d ih =>
    intro k i hi hk
    obtain ⟨k, rfl⟩ : ∃ m, k = m + 1 := ⟨k - 1, by omega⟩
    simp only [spinnakerref09_Same.l0]
    rw [if_pos (show (i : Int) < l.length by omega), if_pos (show (0 : Int) ≤ i by omega), if_pos (show (i : Int) < l.length by omega), show wrap64 ((i : Int) + 1) = ((i + 1 : Nat) : Int) from by rw [w64 (by omega) (by omega)]; omega, ih k (i + 1) (by omega) (by omega)]
    simp
theorem mx_lab (a n : Int) : mx a (n + 1) = if n ≥ a then n + 1 else a := by
  unfold mx
  repeat' split
  all_goals omega
/-- The statement's own search for the greatest label. -/
theorem most_l (l : List It) (hl : l.length ≤ 300) (hlo : ∀ x ∈ l, -9223372036854775808 ≤ x.f2) (R : Option Bool) (d : Nat) : ∀ (k i : Nat) (acc : Int), i + d = l.length → 150001 + 2 * d ≤ k →
    (∀ k' acc', 150000 ≤ k' → acc' = labF acc (Lb (l.drop i)) → (unit_Expand.f k' l).bind (fun t => spinnakerlaw09_UnitExpands.l1 k' l acc' t 0) = some true) →
    spinnakerlaw09_UnitExpands.l0 k l acc i = some true := by
  induction d with
  | zero =>
    intro k i acc hi hk H
    obtain ⟨k, rfl⟩ : ∃ m, k = m + 1 := ⟨k - 1, by omega⟩
    simp only [spinnakerlaw09_UnitExpands.l0]
    rw [if_neg (by omega)]
    exact H k acc (by omega) (by rw [List.drop_of_length_le (by omega)]; rfl)
  | succ d ih =>
    intro k i acc hi hk H
    obtain ⟨k, rfl⟩ : ∃ m, k = m + 2 := ⟨k - 2, by omega⟩
    have hil : i < l.length := by omega
    have hil' : (i : Int) < (l.length : Int) := by omega
    have hi0 : (0 : Int) ≤ (i : Int) := by omega
    have ew : wrap64 ((i : Int) + 1) = ((i + 1 : Nat) : Int) := by rw [w64 (by omega) (by omega)]; omega
    have hx := hlo l[i] (List.getElem_mem hil)
    simp only [spinnakerlaw09_UnitExpands.l0]
    rw [if_pos hil', if_pos hi0, rd_It l i hil]
    simp only [spinnakerlaw09_UnitExpands.j1]
    rw [if_pos hi0, if_pos hi0, if_pos hil', if_pos hil', rd_It l i hil, ew, awake09 k (by omega)]
    simp only [Option.bind_some]
    by_cases hbig : l[i].f2 ≥ 4611686018427387904
    · simp only [if_pos hbig]
      repeat' split
      all_goals rfl
    · simp only [if_neg hbig]
      rw [decide_eq_true (show l[i].f2 < 4611686018427387904 by omega)]
      by_cases h1 : l[i].f0 = 1
      · have e : Lb (l.drop i) = l[i].f2 :: Lb (l.drop (i + 1)) := by rw [List.drop_eq_getElem_cons hil]; unfold Lb; rw [List.filter_cons_of_pos (by simp [h1])]; rfl
        have ef : labF acc (Lb (l.drop i)) = labF (mx acc (wrap64 (l[i].f2 + 1))) (Lb (l.drop (i + 1))) := by rw [e]; rfl
        have ew2 : wrap64 (l[i].f2 + 1) = l[i].f2 + 1 := w64 (by omega) (by omega)
        rw [ew2, mx_lab] at ef
        rw [if_pos h1, ew2]
        by_cases hge : l[i].f2 ≥ acc
        · rw [if_pos hge] at ef ⊢
          simp only [if_true]
          exact ih k (i + 1) _ (by omega) (by omega) fun k' a' hk' ha' => H k' a' hk' (by rw [ef]; exact ha')
        · rw [if_neg hge] at ef ⊢
          rw [if_neg (show ¬ (false = true) from Bool.false_ne_true)]
          exact ih k (i + 1) _ (by omega) (by omega) fun k' a' hk' ha' => H k' a' hk' (by rw [ef]; exact ha')
      · have e : Lb (l.drop i) = Lb (l.drop (i + 1)) := by rw [List.drop_eq_getElem_cons hil]; unfold Lb; rw [List.filter_cons_of_neg (by simp [h1])]
        rw [if_neg h1, if_neg (show ¬ (false = true) from Bool.false_ne_true)]
        exact ih k (i + 1) _ (by omega) (by omega) fun k' a' hk' ha' => H k' a' hk' (by rw [e]; exact ha')
theorem instr_l (l : List It) (hl : l.length ≤ 300) (hR : Rights l) (m : Int) (t : List It) (d : Nat) : ∀ (k i : Nat), i + d = l.length → d < k →
    spinnakerlaw09_UnitExpands.l1 k l m t i = spinnakerlaw09_UnitExpands.l1 (k - d) l m t l.length := by
  induction d with
  | zero => intro k i hi hk; rw [show i = l.length by omega]; rfl
  | succ d ih =>
    intro k i hi hk
    obtain ⟨k, rfl⟩ : ∃ m, k = m + 1 := ⟨k - 1, by omega⟩
    have hil : i < l.length := by omega
    have hx := (hR l[i] (List.getElem_mem hil)).1
    have h := ih k (i + 1) (by omega) (by omega)
    rw [show k + 1 - (d + 1) = k - d by omega, ← h]
    simp only [spinnakerlaw09_UnitExpands.l1, unit_Instr.f]
    rw [if_pos (show (i : Int) < l.length by omega), if_pos (show (0 : Int) ≤ i by omega), rd_It l i hil, show wrap64 ((i : Int) + 1) = ((i + 1 : Nat) : Int) from by rw [w64 (by omega) (by omega)]; omega]
    simp only [Option.bind_some]
    by_cases h0 : l[i].f0 = 0
    · have hz : l[i].f2 = 0 := by
        unfold rightI at hx
        rw [if_pos h0] at hx
        simp only [Bool.and_eq_true, beq_iff_eq] at hx
        exact hx.2.2
      rw [if_pos h0, h0, hz]
      simp
    · rw [if_neg h0]
theorem UnitExpands (l : List It) (hm : l.length ≤ maxLen) (q : ∀ y ∈ l, Q70 y) : ∃ k, spinnakerlaw09_UnitExpands.f k l = some true := by
  refine ⟨200000, ?_⟩
  unfold spinnakerlaw09_UnitExpands.f
  rw [awake09 200000 (by decide)]
  by_cases hl : (l.length : Int) > 300
  · rw [if_pos hl]; rfl
  rw [if_neg hl]
  have hf := fineU_of q
  obtain ⟨r, h1, h2⟩ := check_f 200000 l (by omega) hf (by decide)
  rw [h2]
  simp only [Option.bind_some]
  by_cases hr : r.2 = 0
  · rw [if_pos hr]
    obtain ⟨r', g1, g2⟩ := ok0 l (by omega) hf l.length 200000 0 (by omega) (by omega) (by omega)
    have er : r' = r := by
      have : unit_Check.f 200000 l = some r' := g1
      rw [h1] at this
      exact (Option.some.inj this).symm
    subst er
    obtain ⟨c0, c1, c2⟩ := g2.1 hr
    have c0' := (all_mem l fun x => rightI x = true).1 c0
    have hR : Rights l := fun x hx => ⟨c0' x hx, by have := wf_i64 (q x hx).2.2.1; omega⟩
    refine most_l l (by omega) (fun x hx => (wf_i64 (q x hx).2.2.1).1) none l.length 200000 0 0 (by omega) (by omega) fun k' acc' hk' hacc => ?_
    have hX := expU_len l hR
    have hlR : l.length ≤ 300 := by omega
    have e1 : unit_Expand.f k' l = some (expU l) := by
      have := (exp_l l hlR hR l.length k' 0 [] (by omega) (by simp) (by omega)).1
      rwa [List.drop_zero, List.nil_append] at this
    rw [e1]
    simp only [Option.bind_some]
    have e2 := instr_l l hlR hR acc' (expU l) l.length k' 0 (by omega) (by omega)
    rw [show ((0 : Nat) : Int) = 0 from rfl] at e2
    rw [e2]
    obtain ⟨m, hm'⟩ : ∃ m, k' - l.length = m + 1 := ⟨k' - l.length - 1, by omega⟩
    rw [hm']
    have hmem : ∀ y ∈ expU l, rightI y = true ∧ FineI y ∧ (-9223372036854775808 ≤ y.f2 ∧ y.f2 ≤ 9223372036854775807) ∧ ((y.f0 = 2 ∨ y.f0 = 3) → y ∈ l) := by
      intro y hy
      obtain ⟨x, hx, hxy⟩ := List.mem_flatMap.1 hy
      have hfx : FineI x := ((all_mem l fun z => FineI z).1 fun j a b => (hf j a b).1) x hx
      obtain ⟨a, b, c, d⟩ := expI_mem (hR x hx) hfx hxy
      exact ⟨a, b, c, fun h => by rw [d h]; exact hx⟩
    have hfX : FineU (expU l) := fun i a b => by
      have := (all_mem (expU l) fun z => FineI z ∧ (Lit.int .i64 z.f2).wf = true).2 (fun z hz => ⟨(hmem z hz).2.1, wf_of (hmem z hz).2.2.1⟩) i a b
      exact this
    obtain ⟨rX, x1, x2⟩ := ok0 (expU l) (by omega) hfX (expU l).length m 0 (by omega) (by omega) (by omega)
    have hrX : rX.2 = 0 := x2.2 ⟨(all_mem (expU l) fun x => rightI x = true).2 fun z hz => (hmem z hz).1, by rw [once_nodup, Lb_expU, ← once_nodup]; exact c1,
      by rw [jumps_mem, Lb_expU]; exact fun z hz hk => (jumps_mem l).1 c2 z ((hmem z hz).2.2.2 hk) hk⟩
    have x1' : unit_Check.f m (expU l) = some rX := x1
    have e3 : spinnakerref09_Expand.f m l = some (expU l) := by
      have := (exp_l l hlR hR l.length m 0 [] (by omega) (by simp) (by omega)).2
      rwa [List.drop_zero, List.nil_append] at this
    have e4 : spinnakerref09_Same.f m (expU l) (expU l) = some true := by
      unfold spinnakerref09_Same.f
      rw [if_pos rfl]
      exact same_l (expU l) (by omega) (expU l).length m 0 (by omega) (by omega)
    rw [List.drop_zero] at hacc
    simp only [spinnakerlaw09_UnitExpands.l1]
    rw [if_neg (show ¬ ((l.length : Int) < (l.length : Int)) by omega), x1', e3]
    simp only [Option.bind_some]
    rw [e4, labels_f m l (by omega) (by omega), labels_f m (expU l) (by omega) (by omega), Lb_expU, ← hacc, awake09 m (by omega)]
    simp only [Option.bind_some, if_true, hrX]
  · rw [if_neg hr]

end Go.Proofs.YtbmjbidekmkboaaDoor.Pure
