/- The law UnitLoads holds for every input: executing the loading of any number into any register leaves it there, and changes no other register. -/
import Derived.Test.YtmkcnbaknnohgaaDoorGUnitLoadsx11
import Derived.Test.YtmkcnbaknnohgaaDoorOpenUnitLoads
namespace Go.Proofs.YtmkcnbaknnohgaaDoor.Pure
open Go.RowKit Go.Proofs.YtmkcnbaknnohgaaDoor.GUnitLoads Go.Proofs.YtmkcnbaknnohgaaDoorW.PrintWords Go.Proofs.YtmkcnbaknnohgaaDoorW.PrintLast Go.Proofs.YtmkcnbaknnohgaaDoorW.PrintMore
set_option linter.unusedVariables false
set_option linter.unusedSimpArgs false
attribute [local irreducible] shl shr

/-- Numbers that need no wrapping, and two's complement by its lowest bits. -/
theorem w64 {x : Int} (h0 : -9223372036854775808 ≤ x) (h1 : x < 9223372036854775808) : wrap64 x = x := by
  unfold wrap64; omega
theorem w64n {x : Int} (n : Nat) (h : x = n) (hn : n < 9223372036854775808) : wrap64 x = (n : Int) := by
  rw [w64 (by omega) (by omega), h]
theorem wu64 (x : Int) : IntKind.u64.wrap x = x % 18446744073709551616 := by
  simp [IntKind.wrap, IntKind.bits, IntKind.signed]
theorem wf_i64 {x : Int} (h : (Lit.int .i64 x).wf = true) : -9223372036854775808 ≤ x ∧ x < 9223372036854775808 := by
  simp [Lit.wf, IntKind.min, IntKind.max, IntKind.bits, IntKind.signed] at h; omega
theorem p64 : (2 : Int) ^ 64 = 18446744073709551616 := by decide
theorem p63 : (2 : Int) ^ 63 = 9223372036854775808 := by decide
theorem p_pos (n : Nat) : (0 : Int) < 2 ^ n := Int.pow_pos (by decide)
theorem p_add (a b : Nat) : (2 : Int) ^ (a + b) = 2 ^ a * 2 ^ b := Int.pow_add 2 a b
theorem p_le {a b : Nat} (h : a ≤ b) : (2 : Int) ^ a ≤ 2 ^ b := by
  obtain ⟨c, rfl⟩ := Nat.exists_eq_add_of_le h
  rw [p_add]
  have h1 : (2 : Int) ^ a * 1 ≤ 2 ^ a * 2 ^ c := Int.mul_le_mul_of_nonneg_left (by have := p_pos c; omega) (Int.le_of_lt (p_pos a))
  omega
theorem b62 {i : Nat} (h : i ≤ 62) : (2 : Int) ^ i ≤ 4611686018427387904 := by have := p_le h; rw [show (2 : Int) ^ 62 = 4611686018427387904 from by decide] at this; exact this
theorem b60 {i : Nat} (h : i ≤ 60) : (2 : Int) ^ i ≤ 1152921504606846976 := by have := p_le h; rw [show (2 : Int) ^ 60 = 1152921504606846976 from by decide] at this; exact this
theorem p_succ (n : Nat) : (2 : Int) ^ (n + 1) = 2 * 2 ^ n := by rw [p_add]; omega

/-- The number with a sign that the lowest n bits are. -/
def sgn (v : Int) (n : Nat) : Int := if v % 2 ^ n < 2 ^ (n - 1) then v % 2 ^ n else v % 2 ^ n - 2 ^ n

theorem mod_mod {v : Int} {a b : Nat} (h : a ≤ b) : v % 2 ^ b % 2 ^ a = v % 2 ^ a := by
  obtain ⟨c, rfl⟩ := Nat.exists_eq_add_of_le h
  exact Int.emod_emod_of_dvd v ⟨2 ^ c, p_add a c⟩
theorem sgn_mod {v : Int} {a b : Nat} (h : a ≤ b) : sgn (v % 2 ^ b) a = sgn v a := by
  unfold sgn; rw [mod_mod h]
theorem sgn_range (v : Int) (n : Nat) (h : 1 ≤ n) : -2 ^ (n - 1) ≤ sgn v n ∧ sgn v n < 2 ^ (n - 1) := by
  have h0 := Int.emod_nonneg v (Int.ne_of_gt (p_pos n))
  have h1 := Int.emod_lt_of_pos v (p_pos n)
  have h2 : (2 : Int) ^ n = 2 * 2 ^ (n - 1) := by rw [← p_succ]; congr 1; omega
  unfold sgn
  split <;> omega
/-- Which number has the same lowest bits and fits is the one. -/
theorem sgn_self {v : Int} {n : Nat} (h : 1 ≤ n) (h0 : -2 ^ (n - 1) ≤ v) (h1 : v < 2 ^ (n - 1)) : sgn v n = v := by
  have h2 : (2 : Int) ^ n = 2 * 2 ^ (n - 1) := by rw [← p_succ]; congr 1; omega
  have hp := p_pos (n - 1)
  unfold sgn
  by_cases hv : 0 ≤ v
  · have e : v % 2 ^ n = v := Int.emod_eq_of_lt hv (by omega)
    rw [e, if_pos h1]
  · have e : v % 2 ^ n = v + 2 ^ n := by
      rw [← Int.add_emod_right]; exact Int.emod_eq_of_lt (by omega) (by omega)
    rw [e, if_neg (by omega)]; omega
theorem shl_shr (v : Int) (n : Nat) (h1 : 1 ≤ n) (h64 : n ≤ 64) :
    shr .i64 (wrap64 (shl .u64 (v % 18446744073709551616) (64 - (n : Int)))) (64 - (n : Int)) = sgn v n := by
  have hy : (64 - (n : Int)).toNat = 64 - n := by omega
  have hm : min (64 - n) 64 = 64 - n := by omega
  unfold shl shr
  rw [hy, show IntKind.u64.bits = 64 from rfl, show IntKind.i64.bits = 64 from rfl, hm, wu64]
  have hP := p_pos (64 - n)
  have hR := p_pos (n - 1)
  have hQ : (2 : Int) ^ n = 2 * 2 ^ (n - 1) := by rw [← p_succ]; congr 1; omega
  have hPQ : (2 : Int) ^ n * 2 ^ (64 - n) = 18446744073709551616 := by
    rw [← p_add, show n + (64 - n) = 64 from by omega]; exact p64
  have hRP : (2 : Int) ^ (n - 1) * 2 ^ (64 - n) = 9223372036854775808 := by
    rw [← p_add, show n - 1 + (64 - n) = 63 from by omega]; exact p63
  have e1 : v % 18446744073709551616 * 2 ^ (64 - n) % 18446744073709551616 = (v % 2 ^ n) * 2 ^ (64 - n) := by
    have e2 : (v % 18446744073709551616) % 2 ^ n = v % 2 ^ n := by rw [← p64]; exact mod_mod h64
    rw [← e2, Int.mul_comm (v % 18446744073709551616 % 2 ^ n), ← Int.mul_emod_mul_of_pos _ _ hP, Int.mul_comm (2 ^ (64 - n)) (2 ^ n), hPQ, Int.mul_comm (2 ^ (64 - n))]
  rw [e1]
  have h0 := Int.emod_nonneg v (Int.ne_of_gt (p_pos n))
  have h3 := Int.emod_lt_of_pos v (p_pos n)
  unfold sgn
  generalize v % 2 ^ n = m at h0 h3 ⊢
  generalize (2 : Int) ^ (64 - n) = P at hP hPQ hRP ⊢
  generalize (2 : Int) ^ (n - 1) = R at hR hQ hRP ⊢
  rw [hQ] at h3 hPQ ⊢
  split
  · rename_i hlt
    have a1 : 0 ≤ m * P := Int.mul_nonneg h0 (Int.le_of_lt hP)
    have a2 : m * P < R * P := Int.mul_lt_mul_of_pos_right hlt hP
    rw [w64 (by omega) (by omega), Int.mul_ediv_cancel _ (Int.ne_of_gt hP)]
  · rename_i hge
    have a1 : R * P ≤ m * P := Int.mul_le_mul_of_nonneg_right (by omega) (Int.le_of_lt hP)
    have a2 : m * P < 2 * R * P := Int.mul_lt_mul_of_pos_right h3 hP
    have e3 : wrap64 (m * P) = (m - 2 * R) * P := by
      rw [Int.sub_mul]; unfold wrap64; omega
    rw [e3, Int.mul_ediv_cancel _ (Int.ne_of_gt hP)]

/-- Sums and products need to be wrapped only once. -/
theorem wrap_add (x c : Int) : wrap64 (x + 18446744073709551616 * c) = wrap64 x := by unfold wrap64; omega
theorem wrap_is (x : Int) : ∃ c, wrap64 x = x + 18446744073709551616 * c := ⟨-((x + 9223372036854775808) / 18446744073709551616), by unfold wrap64; omega⟩
theorem wrap_wrap_add (x y : Int) : wrap64 (wrap64 x + y) = wrap64 (x + y) := by
  obtain ⟨c, hc⟩ := wrap_is x
  rw [hc, show x + 18446744073709551616 * c + y = (x + y) + 18446744073709551616 * c from by omega, wrap_add]
theorem w32_add (x c : Int) : wrap32 (x + 4294967296 * c) = wrap32 x := by unfold wrap32; omega
theorem w32_of64 (x : Int) : wrap32 (wrap64 x) = wrap32 x := by
  obtain ⟨c, hc⟩ := wrap_is x
  rw [hc, show x + 18446744073709551616 * c = x + 4294967296 * (4294967296 * c) from by omega, w32_add]
theorem w32_range (x : Int) : -2147483648 ≤ wrap32 x ∧ wrap32 x < 2147483648 := by unfold wrap32; omega
theorem sgn32 (v : Int) : sgn v 32 = wrap32 v := by
  unfold sgn wrap32
  rw [show (2 : Int) ^ 32 = 4294967296 from by decide, show (2 : Int) ^ (32 - 1) = 2147483648 from by decide]
  split <;> omega
theorem sgn_of_u64 (v : Int) : sgn (v % 18446744073709551616) 32 = wrap32 v := by
  rw [← p64, sgn_mod (by decide), sgn32]

/-- A number's 64 bits. -/
def u64N (N : Int) : Nat := (N % 18446744073709551616).toNat
theorem u64N_eq (N : Int) : IntKind.u64.wrap N = (u64N N : Int) := by rw [wu64]; unfold u64N; omega
theorem u64N_lt (N : Int) : u64N N < 18446744073709551616 := by unfold u64N; omega
theorem u64N_nat (n : Nat) (h : n < 18446744073709551616) : u64N (n : Int) = n := by unfold u64N; omega

theorem bit_l (d : Nat) : ∀ (k : Nat) (v i j : Int), 0 ≤ v → v < 18446744073709551616 → 0 ≤ j → j ≤ i → i < 4611686018427387904 → i - j = d → d < k →
    spinnakerref01_Bit.l0 k v i j = some (v / 2 ^ d % 2) := by
  induction d with
  | zero =>
    intro k v i j h0 h1 hj hji hi hd hk
    obtain ⟨k, rfl⟩ : ∃ m, k = m + 1 := ⟨k - 1, by omega⟩
    simp only [spinnakerref01_Bit.l0]
    rw [if_neg (by omega), Int.tmod_eq_emod_of_nonneg h0, w64 (by omega) (by omega)]
    simp
  | succ d ih =>
    intro k v i j h0 h1 hj hji hi hd hk
    obtain ⟨k, rfl⟩ : ∃ m, k = m + 1 := ⟨k - 1, by omega⟩
    simp only [spinnakerref01_Bit.l0]
    rw [if_pos (by omega), Int.tdiv_eq_ediv_of_nonneg h0, wu64, w64 (x := j + 1) (by omega) (by omega)]
    have hv : v / 2 % 18446744073709551616 = v / 2 := by omega
    rw [hv, ih k (v / 2) i (j + 1) (by omega) (by omega) (by omega) (by omega) hi (by omega) (by omega)]
    rw [p_succ, Int.ediv_ediv_of_nonneg (by decide)]
theorem bit_f (k : Nat) (v i : Int) (h0 : 0 ≤ v) (h1 : v < 18446744073709551616) (hi0 : 0 ≤ i) (hi : i < 4611686018427387904) (hk : i.toNat < k) :
    spinnakerref01_Bit.f k v i = some (v / 2 ^ i.toNat % 2) := by
  unfold spinnakerref01_Bit.f
  exact bit_l i.toNat k v i 0 h0 h1 (by omega) hi0 hi (by omega) hk

theorem bit_n (k N i : Nat) (hN : N < 18446744073709551616) (hi : i < 64) (hk : 64 < k) : spinnakerref01_Bit.f k (N : Int) (i : Int) = some (((N.testBit i).toNat : Nat) : Int) := by
  rw [bit_f k N i (by omega) (by omega) (by omega) (by omega) (by omega), Nat.toNat_testBit]
  simp

theorem power_l (d : Nat) : ∀ (k : Nat) (n p : Int) (i : Nat), n ≤ 63 → p = 2 ^ i → n - i = d → d < k →
    spinnakerref01_Power.l0 k n p i = some (2 ^ n.toNat) := by
  induction d with
  | zero =>
    intro k n p i hn hp hd hk
    obtain ⟨k, rfl⟩ : ∃ m, k = m + 1 := ⟨k - 1, by omega⟩
    simp only [spinnakerref01_Power.l0]
    rw [if_neg (by omega), hp, show n.toNat = i from by omega]
  | succ d ih =>
    intro k n p i hn hp hd hk
    obtain ⟨k, rfl⟩ : ∃ m, k = m + 1 := ⟨k - 1, by omega⟩
    simp only [spinnakerref01_Power.l0]
    have h62 : (2 : Int) ^ i ≤ 4611686018427387904 := b62 (by omega)
    have hpi := p_pos i
    have e1 : 2 * p % 18446744073709551616 = 2 ^ (i + 1) := by
      rw [hp, p_succ]; omega
    have e2 : wrap64 ((i : Int) + 1) = ((i + 1 : Nat) : Int) := by rw [w64 (by omega) (by omega)]; simp
    rw [if_pos (by omega), wu64, e1, e2]
    exact ih k n _ (i + 1) hn rfl (by omega) (by omega)
theorem power_f (k : Nat) (n : Int) (h0 : 0 ≤ n) (hn : n ≤ 63) (hk : 64 < k) : spinnakerref01_Power.f k n = some (2 ^ n.toNat) := by
  unfold spinnakerref01_Power.f
  exact power_l n.toNat k n 1 0 hn (by simp) (by omega) (by omega)
theorem ref_fits (k : Nat) (v n : Int) (h0 : -9223372036854775808 ≤ v) (h1 : v < 9223372036854775808) (hk : 66 < k) :
    spinnakerref01_Fits.f k v n = some (decide (1 ≤ n ∧ n ≤ 64 ∧ -2 ^ (n.toNat - 1) ≤ v ∧ v < 2 ^ (n.toNat - 1))) := by
  obtain ⟨k, rfl⟩ : ∃ m, k = m + 1 := ⟨k - 1, by omega⟩
  have e : ∀ b, b = true → ¬ (1 ≤ n ∧ n ≤ 64) → spinnakerref01_Fits.j0 (k + 1) v n b = some (decide (1 ≤ n ∧ n ≤ 64 ∧ -2 ^ (n.toNat - 1) ≤ v ∧ v < 2 ^ (n.toNat - 1))) := by
    rintro b rfl hn
    simp only [spinnakerref01_Fits.j0]
    rw [if_true]; congr 1; symm; simp only [decide_eq_false_iff_not]; omega
  unfold spinnakerref01_Fits.f
  by_cases hn1 : n < 1
  · rw [if_pos hn1]; exact e _ rfl (by omega)
  · rw [if_neg hn1]
    by_cases hn2 : n > 64
    · exact e _ (by simpa using hn2) (by omega)
    · simp only [spinnakerref01_Fits.j0]
      rw [if_neg (by simp; omega)]
      by_cases hn3 : n = 64
      · rw [if_pos hn3]; subst hn3
        congr 1; symm; simp only [decide_eq_true_eq]
        have h63 : (2 : Int) ^ ((64 : Int).toNat - 1) = 9223372036854775808 := by decide
        rw [h63]; omega
      · rw [if_neg hn3, w64 (x := n - 1) (by omega) (by omega), power_f k (n - 1) (by omega) (by omega) (by omega)]
        simp only [Option.bind_some]
        have hb : (2 : Int) ^ (n.toNat - 1) ≤ 4611686018427387904 := b62 (by omega)
        have hp := p_pos (n.toNat - 1)
        rw [show (n - 1).toNat = n.toNat - 1 from by omega]
        generalize (2 : Int) ^ (n.toNat - 1) = p at *
        rw [w64 (x := p) (by omega) (by omega), w64 (x := -p) (by omega) (by omega), w64 (x := p - 1) (by omega) (by omega)]
        by_cases hv : v ≥ -p
        · rw [if_pos hv]; congr 1; simp only [decide_eq_decide]; omega
        · rw [if_neg hv]; congr 1; symm; simp only [decide_eq_false_iff_not]; omega

theorem mod_succ (v : Int) (i : Nat) : v % 2 ^ (i + 1) = v % 2 ^ i + 2 ^ i * (v / 2 ^ i % 2) := by
  have a := Int.mul_ediv_add_emod v (2 ^ i)
  have b := Int.mul_ediv_add_emod (v / 2 ^ i) 2
  have c := Int.mul_ediv_add_emod v (2 ^ (i + 1))
  have e : v / 2 ^ (i + 1) = v / 2 ^ i / 2 := by rw [p_add, Int.ediv_ediv_of_nonneg (Int.le_of_lt (p_pos i))]; rfl
  rw [e, p_succ] at c
  generalize v / 2 ^ i = q at a b c ⊢
  generalize v % 2 ^ i = r at a c ⊢
  rw [p_succ]
  generalize q / 2 = s at b c ⊢
  generalize q % 2 = t at b ⊢
  subst b
  rw [Int.mul_add, ← Int.mul_assoc] at a
  have : 2 * (2 : Int) ^ i * s = 2 ^ i * 2 * s := by rw [Int.mul_comm 2]
  rw [this] at c
  omega
theorem ref_sign_l (d : Nat) : ∀ (k : Nat) (v n x p : Int) (i : Nat), 0 ≤ v → v < 18446744073709551616 → 1 ≤ n → n ≤ 60 →
    x = v % 2 ^ i → p = 2 ^ i → n - 1 - i = d → 128 < k + i →
    spinnakerref01_Sign.l0 k v n x p i = some (sgn v n.toNat) := by
  induction d with
  | zero =>
    intro k v n x p i h0 h1 hn1 hn hx hp hd hk
    obtain ⟨k, rfl⟩ : ∃ m, k = m + 1 := ⟨k - 1, by omega⟩
    simp only [spinnakerref01_Sign.l0]
    rw [w64 (x := n - 1) (by omega) (by omega), if_neg (by omega), bit_f k v (n - 1) h0 h1 (by omega) (by omega) (by omega)]
    simp only [Option.bind_some]
    have hni : n.toNat = i + 1 := by omega
    have hni' : (n - 1).toNat = i := by omega
    have hb0 := Int.emod_nonneg (v / 2 ^ i) (show (2 : Int) ≠ 0 by decide)
    have hb1 := Int.emod_lt_of_pos (v / 2 ^ i) (show (0 : Int) < 2 by decide)
    have hm0 := Int.emod_nonneg v (Int.ne_of_gt (p_pos i))
    have hm1 := Int.emod_lt_of_pos v (p_pos i)
    have hs := mod_succ v i
    have hpi := p_pos i
    have h60 : (2 : Int) ^ i ≤ 1152921504606846976 := b60 (by omega)
    rw [hni', hni, hx, hp]
    unfold sgn
    rw [show i + 1 - 1 = i from rfl, hs, p_succ]
    generalize v / 2 ^ i % 2 = b at *
    have hb : b = 0 ∨ b = 1 := by omega
    rcases hb with rfl | rfl
    · rw [Int.mul_zero, Int.add_zero, if_pos hm1, w64 (x := 0) (by decide) (by decide), Int.sub_zero, w64 (by omega) (by omega)]
    · rw [Int.mul_one, if_neg (by omega), w64 (x := 2 ^ i) (by omega) (by omega), w64 (by omega) (by omega)]
      congr 1; omega
  | succ d ih =>
    intro k v n x p i h0 h1 hn1 hn hx hp hd hk
    obtain ⟨k, rfl⟩ : ∃ m, k = m + 1 := ⟨k - 1, by omega⟩
    simp only [spinnakerref01_Sign.l0]
    rw [w64 (x := n - 1) (by omega) (by omega), if_pos (by omega), bit_f k v i h0 h1 (by omega) (by omega) (by omega)]
    simp only [Option.bind_some]
    have hb0 := Int.emod_nonneg (v / 2 ^ i) (show (2 : Int) ≠ 0 by decide)
    have hb1 := Int.emod_lt_of_pos (v / 2 ^ i) (show (0 : Int) < 2 by decide)
    have hm0 := Int.emod_nonneg v (Int.ne_of_gt (p_pos i))
    have hm1 := Int.emod_lt_of_pos v (p_pos i)
    have hs := mod_succ v i
    have hpi := p_pos i
    have h60 : (2 : Int) ^ i ≤ 1152921504606846976 := b60 (by omega)
    have hi' : ((i : Int)).toNat = i := by omega
    rw [hi']
    have e1 : wrap64 (x + wrap64 (p * (v / 2 ^ i % 2))) = v % 2 ^ (i + 1) := by
      rw [hs, hx, hp]
      generalize v / 2 ^ i % 2 = b at *
      have hb : b = 0 ∨ b = 1 := by omega
      rcases hb with rfl | rfl
      · rw [Int.mul_zero, w64 (x := 0) (by decide) (by decide), Int.add_zero, w64 (by omega) (by omega)]
      · rw [Int.mul_one, w64 (x := 2 ^ i) (by omega) (by omega), w64 (by omega) (by omega)]
    have e2 : wrap64 (2 * p) = 2 ^ (i + 1) := by rw [hp, p_succ, w64 (by omega) (by omega)]
    have e3 : wrap64 ((i : Int) + 1) = ((i + 1 : Nat) : Int) := by rw [w64 (by omega) (by omega)]; simp
    rw [e1, e2, e3]
    clear e1 e2 e3 h60 hs hpi hm0 hm1 hb0 hb1
    exact ih k v n _ _ (i + 1) h0 h1 hn1 hn rfl rfl (by omega) (by omega)
theorem ref_sign (k : Nat) (v n : Int) (h0 : 0 ≤ v) (h1 : v < 18446744073709551616) (hn1 : 1 ≤ n) (hn : n ≤ 60) (hk : 200 < k) :
    spinnakerref01_Sign.f k v n = some (sgn v n.toNat) := by
  unfold spinnakerref01_Sign.f
  exact ref_sign_l (n - 1).toNat k v n 0 1 0 h0 h1 hn1 hn (by simp) (by simp) (by omega) (by omega)

/-- Numbers by their bits. -/
theorem wrap_of_bits {x y : Int} (h : ∀ i, i < 64 → (u64N x).testBit i = (u64N y).testBit i) : wrap64 x = wrap64 y := by
  have h64 : (2 : Nat) ^ 64 = 18446744073709551616 := by decide
  have e : u64N x = u64N y := by
    apply Nat.eq_of_testBit_eq
    intro i
    by_cases hi : i < 64
    · exact h i hi
    · have hp := Nat.pow_le_pow_right (show 0 < 2 by decide) (show 64 ≤ i by omega)
      rw [Nat.testBit_lt_two_pow (Nat.lt_of_lt_of_le (u64N_lt x) (h64 ▸ hp)), Nat.testBit_lt_two_pow (Nat.lt_of_lt_of_le (u64N_lt y) (h64 ▸ hp))]
  unfold u64N at e
  unfold wrap64
  omega
theorem bit_shl (a : Int) (n i : Nat) (hi : i < 64) : (u64N (a * 2 ^ n)).testBit i = (decide (n ≤ i) && (u64N a).testBit (i - n)) := by
  have h64 : (2 : Nat) ^ 64 = 18446744073709551616 := by decide
  have e : u64N (a * 2 ^ n) = u64N a * 2 ^ n % 2 ^ 64 := by
    have h1 : ((u64N (a * 2 ^ n) : Nat) : Int) = ((u64N a * 2 ^ n % 2 ^ 64 : Nat) : Int) := by
      rw [Int.natCast_emod, Int.natCast_mul, h64]
      have e1 : ((u64N a : Nat) : Int) = a % 18446744073709551616 := by unfold u64N; omega
      have e2 : ((u64N (a * 2 ^ n) : Nat) : Int) = (a * 2 ^ n) % 18446744073709551616 := by unfold u64N; omega
      have e3 : ((2 ^ n : Nat) : Int) = 2 ^ n := by simp
      rw [e1, e2, e3, show ((18446744073709551616 : Nat) : Int) = 18446744073709551616 from rfl]
      exact (Int.mul_emod a (2 ^ n) _).trans ((Int.mul_emod (a % 18446744073709551616) (2 ^ n) _).trans (by rw [Int.emod_emod])).symm
    exact Int.ofNat.inj h1
  rw [e, Nat.testBit_mod_two_pow, Nat.testBit_mul_two_pow]
  simp [hi]
theorem bind_at {α β : Type} {o : Option α} {v : α} (h : o = some v) {g : α → Option β} {r : Option β} (hg : g v = r) : o.bind g = r := by
  rw [h]; exact hg
theorem and64 (a b : Nat) (ha : a < 2 ^ 64) (hb : b < 2 ^ 64) : Go.bits .and .u64 (a : Int) (b : Int) = ((a &&& b : Nat) : Int) :=
  (Go.bits_nat .u64 64 (by decide) (fun n h0 h1 => by rw [wu64, show (18446744073709551616 : Int) = 2 ^ 64 from by decide]; exact Int.emod_eq_of_lt h0 h1) a b ha hb).1
/-- The number that some bits are. -/
def sumB (b : Nat → Bool) : Nat → Nat
  | 0 => 0
  | i + 1 => sumB b i + (b i).toNat * 2 ^ i
theorem sumB_lt (b : Nat → Bool) (i : Nat) : sumB b i < 2 ^ i := by
  induction i with
  | zero => exact Nat.zero_lt_one
  | succ i ih =>
    have h : (b i).toNat * 2 ^ i ≤ 2 ^ i := by
      have := Nat.mul_le_mul_right (2 ^ i) (Bool.toNat_le (b i))
      rwa [Nat.one_mul] at this
    unfold sumB
    rw [Nat.pow_succ]
    omega
theorem sumB_bit (b : Nat → Bool) (i j : Nat) : (sumB b i).testBit j = (decide (j < i) && b j) := by
  induction i with
  | zero => simp [sumB]
  | succ i ih =>
    unfold sumB
    cases hb : b i
    · rw [Bool.toNat_false, Nat.zero_mul, Nat.add_zero, ih]
      by_cases h : j = i
      · subst h; simp [hb]
      · have : (j < i + 1) = (j < i) := by rw [eq_iff_iff]; omega
        simp [this]
    · have e := Nat.two_pow_add_eq_or_of_lt (sumB_lt b i) 1
      rw [Bool.toNat_true, Nat.one_mul, Nat.add_comm, show 2 ^ i + sumB b i = 2 ^ i ||| sumB b i from by rwa [Nat.mul_one] at e, Nat.testBit_or, ih, Nat.testBit_two_pow]
      by_cases h : j = i
      · subst h; simp [hb]
      · have : (j < i + 1) = (j < i) := by rw [eq_iff_iff]; omega
        simp [this, show ¬ i = j from fun e => h e.symm]
theorem rd_at {l : List Int} {i : Nat} {v : Int} (h : l[i]? = some v) : rd l (i : Int) = v := by
  unfold rd
  simp [h]
theorem num_l (b : Nat → Bool) (L : List Int) (hl : L.length = 64) (hL : ∀ j, j < 64 → L[j]? = some ((b j).toNat : Int)) (d : Nat) : ∀ (k i : Nat), i + d = 64 → 200 + d < k →
    spinnakerref07_num.l0 k L ((sumB b i : Nat) : Int) i = some (wrap64 ((sumB b 64 : Nat) : Int)) := by
  have h64 : (2 : Nat) ^ 64 = 18446744073709551616 := by decide
  induction d with
  | zero =>
    intro k i hi hk
    obtain ⟨k, rfl⟩ : ∃ m, k = m + 1 := ⟨k - 1, by omega⟩
    simp only [spinnakerref07_num.l0]
    rw [if_neg (by omega), show i = 64 from by omega]
  | succ d ih =>
    intro k i hi hk
    obtain ⟨k, rfl⟩ : ∃ m, k = m + 1 := ⟨k - 1, by omega⟩
    simp only [spinnakerref07_num.l0]
    rw [if_pos (by omega), if_pos (by omega), if_pos (by omega)]
    refine bind_at (power_f k _ (by omega) (by omega) (by omega)) ?_
    rw [rd_at (hL i (by omega)), w64n (x := (i : Int) + 1) (i + 1) (by omega) (by omega)]
    have hp : (2 : Int) ^ ((i : Int)).toNat = ((2 ^ i : Nat) : Int) := by simp
    have hs := sumB_lt b (i + 1)
    have h2 := Nat.pow_le_pow_right (show 0 < 2 by decide) (show i + 1 ≤ 64 by omega)
    have hd : sumB b (i + 1) = sumB b i + (b i).toNat * 2 ^ i := rfl
    have hle : (b i).toNat * 2 ^ i ≤ sumB b (i + 1) := by rw [hd]; exact Nat.le_add_left _ _
    have hb1 := Bool.toNat_le (b i)
    have e : IntKind.u64.wrap (((sumB b i : Nat) : Int) + IntKind.u64.wrap (IntKind.u64.wrap (((b i).toNat : Nat) : Int) * (2 : Int) ^ ((i : Int)).toNat)) = ((sumB b (i + 1) : Nat) : Int) := by
      rw [hp, wu64, wu64, wu64, Int.emod_eq_of_lt (a := (((b i).toNat : Nat) : Int)) (by omega) (by omega), ← Int.natCast_mul]
      generalize (b i).toNat * 2 ^ i = Z at hd hle
      omega
    rw [e]
    exact ih k (i + 1) (by omega) (by omega)
theorem num_f (b : Nat → Bool) (L : List Int) (hl : L.length = 64) (hL : ∀ j, j < 64 → L[j]? = some ((b j).toNat : Int)) (k : Nat) (hk : 300 < k) : spinnakerref07_num.f k L = some (wrap64 ((sumB b 64 : Nat) : Int)) := by
  unfold spinnakerref07_num.f
  exact num_l b L hl hL 64 k 0 (by omega) (by omega)
/-- A moved number's bits. -/
def mvB (A n : Nat) (up inn : Bool) (w j : Nat) : Bool :=
  decide (j < w) && (if up = true then (if n ≤ j then A.testBit (j - n) else inn) else (if j + n < w then A.testBit (j + n) else inn))
theorem moved_l (a : Int) (n : Nat) (hn : n < 64) (up inn : Bool) (w : Nat) (hw : w ≤ 64) (d : Nat) : ∀ (k i : Nat) (L : List Int), i + d = w → 400 + d < k → L.length = 64 →
    (∀ j, j < 64 → L[j]? = some (((decide (j < i) && mvB (u64N a) n up inn w j).toNat : Nat) : Int)) →
    spinnakerref07_moved.l0 k a n up ((inn.toNat : Nat) : Int) w L i = some (wrap64 ((sumB (mvB (u64N a) n up inn w) 64 : Nat) : Int)) := by
  induction d with
  | zero =>
    intro k i L hi hk hl hL
    obtain ⟨k, rfl⟩ : ∃ m, k = m + 1 := ⟨k - 1, by omega⟩
    simp only [spinnakerref07_moved.l0]
    rw [if_neg (by omega)]
    refine bind_at (num_f (mvB (u64N a) n up inn w) L hl (fun j hj => ?_) k (by omega)) rfl
    rw [hL j hj]
    by_cases h : j < i
    · simp [h]
    · have : mvB (u64N a) n up inn w j = false := by unfold mvB; rw [decide_eq_false (by omega)]; rfl
      rw [this, Bool.and_false]
  | succ d ih =>
    intro k i L hi hk hl hL
    obtain ⟨k, rfl⟩ : ∃ m, k = m + 1 := ⟨k - 1, by omega⟩
    -- a row with one more cell right
    have put : ∀ (L' : List Int) (v : Bool), L'.length = 64 → (∀ j, j < 64 → j ≠ i → L'[j]? = L[j]?) → L'[i]? = some ((v.toNat : Nat) : Int) → v = mvB (u64N a) n up inn w i →
        spinnakerref07_moved.l0 k a n up ((inn.toNat : Nat) : Int) w L' ((i + 1 : Nat) : Int) = some (wrap64 ((sumB (mvB (u64N a) n up inn w) 64 : Nat) : Int)) := by
      intro L' v hl' ho hv hm
      refine ih k (i + 1) L' (by omega) (by omega) hl' fun j hj => ?_
      by_cases h : j = i
      · subst h
        rw [hv, hm, decide_eq_true (show j < j + 1 by omega), Bool.true_and]
      · rw [ho j hj h, hL j hj]
        have : (j < i + 1) = (j < i) := by rw [eq_iff_iff]; omega
        simp [this]
    have hset : ∀ (M : List Int) (v : Int) (j : Nat), j ≠ i → (M.set i v)[j]? = M[j]? := fun M v j hj => by rw [List.getElem?_set]; simp [show ¬ i = j from fun e => hj e.symm]
    have hset2 : ∀ (M : List Int) (v : Int), M.length = 64 → (M.set i v)[i]? = some v := fun M v hM => by rw [List.getElem?_set]; simp [hM, show i < 64 by omega]
    simp only [spinnakerref07_moved.l0]
    rw [if_pos (by omega), w64n (x := (i : Int) + 1) (i + 1) (by omega) (by omega)]
    cases up
    · rw [if_neg (by decide), if_pos (by omega), if_pos (by omega)]
      refine bind_at (v := L.set i ((inn.toNat : Nat) : Int)) rfl ?_
      rw [w64n (x := (i : Int) + n) (i + n) (by omega) (by omega), if_pos (by omega)]
      by_cases h : i + n < w
      · rw [if_pos (by omega), u64N_eq]
        refine bind_at (bit_n k (u64N a) (i + n) (u64N_lt a) (by omega) (by omega)) ?_
        refine put _ ((u64N a).testBit (i + n)) (by simp [hl]) (fun j hj hne => by rw [show ((i : Int)).toNat = i from rfl, hset _ _ j hne, hset _ _ j hne]) (by rw [show ((i : Int)).toNat = i from rfl, hset2 _ _ (by simp [hl])]) ?_
        unfold mvB
        rw [decide_eq_true (show i < w by omega), Bool.true_and, if_neg (by decide), if_pos h]
      · rw [if_neg (by omega)]
        refine put _ inn (by simp [hl]) (fun j hj hne => hset _ _ j hne) (hset2 _ _ hl) ?_
        unfold mvB
        rw [decide_eq_true (show i < w by omega), Bool.true_and, if_neg (by decide), if_neg h]
    · rw [if_pos rfl, if_pos (by omega), if_pos (by omega)]
      refine bind_at (v := L.set i ((inn.toNat : Nat) : Int)) rfl ?_
      rw [w64 (x := (i : Int) - n) (by omega) (by omega)]
      by_cases h : n ≤ i
      · rw [if_pos (by omega), if_pos (by omega), u64N_eq, show (i : Int) - n = ((i - n : Nat) : Int) from by omega]
        refine bind_at (bit_n k (u64N a) (i - n) (u64N_lt a) (by omega) (by omega)) ?_
        refine put _ ((u64N a).testBit (i - n)) (by simp [hl]) (fun j hj hne => by rw [show ((i : Int)).toNat = i from rfl, hset _ _ j hne, hset _ _ j hne]) (by rw [show ((i : Int)).toNat = i from rfl, hset2 _ _ (by simp [hl])]) ?_
        unfold mvB
        rw [decide_eq_true (show i < w by omega), Bool.true_and, if_pos rfl, if_pos h]
      · rw [if_neg (by omega)]
        refine put _ inn (by simp [hl]) (fun j hj hne => hset _ _ j hne) (hset2 _ _ hl) ?_
        unfold mvB
        rw [decide_eq_true (show i < w by omega), Bool.true_and, if_pos rfl, if_neg h]
theorem moved_f (a : Int) (n : Nat) (hn : n < 64) (up inn : Bool) (w : Nat) {n' i' w' : Int} (en : n' = n) (ei : i' = ((inn.toNat : Nat) : Int)) (ew : w' = w) (hw : w ≤ 64) (k : Nat) (hk : 500 < k) :
    ∃ N : Nat, spinnakerref07_moved.f k a n' up i' w' = some (wrap64 (N : Int)) ∧ N < 18446744073709551616 ∧ ∀ j, j < 64 → N.testBit j = mvB (u64N a) n up inn w j := by
  have h64 : (2 : Nat) ^ 64 = 18446744073709551616 := by decide
  subst en; subst ei; subst ew
  unfold spinnakerref07_moved.f
  rw [if_pos (by decide)]
  refine ⟨_, moved_l a n hn up inn w hw w k 0 (List.replicate 64 0) (by omega) (by omega) (by simp) (fun j hj => ?_), h64 ▸ sumB_lt _ 64, fun j hj => ?_⟩
  · rw [decide_eq_false (show ¬ j < 0 by omega), Bool.false_and, List.getElem?_replicate, if_pos hj]; rfl
  · rw [sumB_bit, decide_eq_true hj, Bool.true_and]
theorem shl_i (a : Int) (n : Nat) (hn : n < 64) : shl .i64 a n = wrap64 (a * 2 ^ n) := by
  unfold shl
  rw [show IntKind.i64.bits = 64 from rfl, show ((n : Int)).toNat = n from by omega, Nat.min_eq_left (by omega), i64_w]
/-- The places that a number is moved by. -/
theorem places (b : Int) (m M : Nat) (hM : 2 ^ m = M) (hm : m ≤ 6) {M1 : Int} (e1 : M1 = ((M - 1 : Nat) : Int)) {M2 : Int} (e2 : M2 = (M : Int)) :
    Go.bits .and .u64 (IntKind.u64.wrap b) M1 = ((u64N b % M : Nat) : Int) ∧ wrap64 (Int.tmod (IntKind.u64.wrap b) M2) = ((u64N b % M : Nat) : Int) := by
  have h64 : (2 : Nat) ^ 64 = 18446744073709551616 := by decide
  have hp : M ≤ 64 := by rw [← hM]; exact Nat.pow_le_pow_right (by decide) hm
  have h0 : 0 < M := by rw [← hM]; exact Nat.two_pow_pos m
  have hlt := Nat.mod_lt (u64N b) h0
  subst e1; subst e2
  rw [u64N_eq]
  constructor
  · rw [and64 _ _ (h64 ▸ u64N_lt b) (by omega), ← hM, Nat.and_two_pow_sub_one_eq_mod]
  · rw [Int.tmod_eq_emod_of_nonneg (by omega), ← Int.natCast_emod]
    exact w64n _ rfl (by omega)
theorem same_sll (a : Int) (n : Nat) (hn : n < 64) (k : Nat) (hk : 500 < k) : spinnakerref07_moved.f k a n true 0 64 = some (shl .i64 a n) := by
  obtain ⟨N, e, hN, hb⟩ := moved_f a n hn true false 64 (n' := n) (i' := 0) (w' := 64) rfl rfl rfl (by decide) k hk
  rw [e, shl_i a n hn]
  refine congrArg some (wrap_of_bits fun i hi => ?_)
  rw [u64N_nat N hN, hb i hi, bit_shl a n i hi]
  unfold mvB
  rw [decide_eq_true hi, Bool.true_and, if_pos rfl]
  by_cases h : n ≤ i
  · rw [if_pos h, decide_eq_true h, Bool.true_and]
  · rw [if_neg h, decide_eq_false h, Bool.false_and]
theorem fits_f (v n : Int) (h0 : -9223372036854775808 ≤ v) (h1 : v < 9223372036854775808) (h : -9223372036854775808 ≤ n) (h' : n < 9223372036854775808) :
    word_Fits.f v n = some (decide (1 ≤ n ∧ n ≤ 64 ∧ -2 ^ (n.toNat - 1) ≤ v ∧ v < 2 ^ (n.toNat - 1))) := by
  unfold word_Fits.f
  by_cases hn1 : n < 1
  · rw [if_pos hn1]; congr 1; symm; simp; omega
  · rw [if_neg hn1]
    by_cases hn2 : n > 64
    · rw [if_pos hn2]; congr 1; symm; simp; omega
    · rw [if_neg hn2, w64 (by omega) (by omega), if_pos (by omega), wu64]
      have e := shl_shr v n.toNat (by omega) (by omega)
      rw [show ((n.toNat : Nat) : Int) = n from by omega] at e
      rw [e]
      congr 1
      rw [Bool.eq_iff_iff]
      simp only [beq_iff_eq, decide_eq_true_eq]
      constructor
      · intro hh
        have := sgn_range v n.toNat (by omega)
        rw [hh] at this
        exact ⟨by omega, by omega, this⟩
      · intro hh
        exact sgn_self (by omega) hh.2.2.1 hh.2.2.2

theorem may_f (a n : Int) (h : -9223372036854775808 ≤ n) (h' : n < 9223372036854775808) : word_may.f a n = some (decide (0 ≤ a ∧ 1 ≤ n ∧ n ≤ 32 ∧ a ≤ 32 - n)) := by
  unfold word_may.f
  by_cases h0 : a ≥ 0
  · rw [if_pos h0]
    by_cases h1 : n ≥ 1
    · rw [if_pos h1]
      by_cases h2 : n ≤ 32
      · rw [if_pos h2, w64 (by omega) (by omega)]
        congr 1; simp only [decide_eq_decide]; omega
      · rw [if_neg h2]; congr 1; symm; simp; omega
    · rw [if_neg h1]; congr 1; symm; simp; omega
  · rw [if_neg h0]; congr 1; symm; simp; omega

theorem sign_f (v n : Int) (h0 : 0 ≤ v) (h1 : v < 18446744073709551616) (h : -9223372036854775808 ≤ n) (h' : n < 9223372036854775808) :
    word_Sign.f v n = some (if 1 ≤ n ∧ n ≤ 32 then (sgn v n.toNat, 0) else (0, 2)) := by
  unfold word_Sign.f
  rw [may_f 0 n h h']
  simp only [Option.bind_some]
  by_cases hn : 1 ≤ n ∧ n ≤ 32
  · rw [if_pos (by simp; omega), if_pos hn, w64 (by omega) (by omega), if_pos (by omega), wu64]
    have e := shl_shr v n.toNat (by omega) (by omega)
    rw [show ((n.toNat : Nat) : Int) = n from by omega] at e
    rw [e]
  · rw [if_neg (by simp; omega), if_neg hn]

/-- The least bit of a number, and what is left without it. -/
theorem least_bit (S : Nat) : S ≠ 0 → ∃ v m, S = 2 ^ v * (2 * m + 1) := by
  induction S using Nat.strongRecOn with
  | ind S ih =>
    intro h
    by_cases h2 : S % 2 = 0
    · obtain ⟨v, m, hv⟩ := ih (S / 2) (by omega) (by omega)
      exact ⟨v + 1, m, by rw [Nat.pow_succ, Nat.mul_assoc, Nat.mul_comm 2, ← Nat.mul_assoc, ← hv]; omega⟩
    · exact ⟨0, S / 2, by omega⟩
theorem bit_ge {S v m i : Nat} (h : S = 2 ^ v * (2 * m + 1)) : S.testBit i = (decide (i ≥ v) && (2 * m + 1).testBit (i - v)) := by
  rw [h, Nat.testBit_two_pow_mul]
theorem and_neg {S v m n : Nat} (h : S = 2 ^ v * (2 * m + 1)) (hn : S < 2 ^ n) : S &&& (2 ^ n - S) = 2 ^ v := by
  have hp := Nat.two_pow_pos v
  have hS : 1 ≤ S := by rw [h]; exact Nat.mul_pos hp (by omega)
  have hvn : v < n := by
    rcases Nat.lt_or_ge v n with h1 | h1
    · exact h1
    · exfalso
      have h2 : 2 ^ n ≤ 2 ^ v := Nat.pow_le_pow_right (by decide) h1
      have h3 : 2 ^ v ≤ S := by rw [h]; exact Nat.le_mul_of_pos_right _ (by omega)
      omega
  have e1 : 2 ^ n - S = 2 ^ n - ((S - 1) + 1) := by congr 1; omega
  have e2 : S - 1 = 2 ^ v * (2 * m) + (2 ^ v - 1) := by rw [h, Nat.mul_add, Nat.mul_one]; omega
  apply Nat.eq_of_testBit_eq
  intro i
  rw [Nat.testBit_and, bit_ge h, e1, Nat.testBit_two_pow_sub_succ (by omega), e2, Nat.testBit_two_pow_mul_add _ (by omega), Nat.testBit_two_pow]
  by_cases h1 : i < v
  · rw [decide_eq_false (show ¬ i ≥ v by omega), decide_eq_false (show ¬ v = i by omega)]; rfl
  · rw [if_neg h1, decide_eq_true (show i ≥ v by omega)]
    by_cases h2 : i = v
    · subst h2
      rw [Nat.sub_self, decide_eq_true hvn, decide_eq_true rfl]
      simp [Nat.testBit_zero]
    · obtain ⟨j, hj⟩ : ∃ j, i - v = j + 1 := ⟨i - v - 1, by omega⟩
      rw [hj, Nat.testBit_succ, Nat.testBit_succ, decide_eq_false (show ¬ v = i by omega), show (2 * m + 1) / 2 = m from by omega, show 2 * m / 2 = m from by omega]
      cases m.testBit j <;> simp
theorem least_lt {S v m n : Nat} (h : S = 2 ^ v * (2 * m + 1)) (hn : S < 2 ^ n) : v < n := by
  rcases Nat.lt_or_ge v n with h1 | h1
  · exact h1
  · exfalso
    have h2 : 2 ^ n ≤ 2 ^ v := Nat.pow_le_pow_right (by decide) h1
    have h3 : 2 ^ v ≤ S := by rw [h]; exact Nat.le_mul_of_pos_right _ (by omega)
    omega
/-- What the loading's instructions reckon. -/
theorem toList_d (s : ByteArray) : s.toList = s.data.toList := ByteArray.toList_eq s
theorem half_ref (k : Nat) (v : Int) (hk : 200 < k) : spinnakerref07_Half.f k v = some (wrap32 v) := by
  unfold spinnakerref07_Half.f
  rw [wu64, ref_sign k _ 32 (by omega) (by omega) (by decide) (by decide) hk, show (32 : Int).toNat = 32 from rfl, sgn_of_u64]; rfl
theorem div_some (a b : Int) (ha : -9223372036854775808 ≤ a ∧ a < 9223372036854775808) (hb : -9223372036854775808 ≤ b ∧ b < 9223372036854775808) : ∃ p, spinnakerref07_Div.f a b = some p := by
  have abs_f : ∀ c : Int, (-9223372036854775808 ≤ c ∧ c < 9223372036854775808) → spinnakerref07_abs.f c = some ((c.natAbs : Nat) : Int) := fun c hc => by
    unfold spinnakerref07_abs.f
    rw [wu64, wu64]
    by_cases h : c < 0
    · rw [if_pos h]; congr 1; omega
    · rw [if_neg h]; congr 1; omega
  unfold spinnakerref07_Div.f
  by_cases h0 : b = 0
  · rw [if_pos h0]; exact ⟨_, rfl⟩
  rw [if_neg h0, abs_f a ha, abs_f b hb]
  simp only [Option.bind_some]
  rw [if_neg (by omega), if_neg (by omega)]
  split <;> split <;> exact ⟨_, rfl⟩
theorem divu_some (u v : Int) : ∃ p, spinnakerref07_DivU.f u v = some p := by
  unfold spinnakerref07_DivU.f
  split <;> exact ⟨_, rfl⟩
theorem w32_in (a : Int) : -9223372036854775808 ≤ wrap32 a ∧ wrap32 a < 9223372036854775808 := by have := w32_range a; omega
def evI (op a b : Int) : Int := if op = 22 then wrap64 (a + b) else if op = 28 then shl .i64 a ((u64N b % 64 : Nat) : Int) else wrap32 (wrap64 (a + b))
theorem ev22 (a b : Int) : spinnakerref07_Eval.f 2000 22 a b = some (evI 22 a b) := by
  unfold spinnakerref07_Eval.f
  refine bind_at (v := (⟨#[97, 100, 100, 105]⟩ : ByteArray)) (by decide +kernel) ?_
  refine bind_at (v := (⟨#[97, 100, 100]⟩ : ByteArray)) (by unfold spinnakerref07_base.f; simp only [toList_d, spinnakerref07_base.j0]; repeat (first | refine (if_neg (by decide +kernel)).trans ?_ | refine (if_pos (by decide +kernel)).trans ?_); decide +kernel) ?_
  simp only [toList_d]
  repeat (first | refine (if_neg (by decide +kernel)).trans ?_ | refine (if_pos (by decide +kernel)).trans ?_)
  rfl
theorem ev28 (a b : Int) : spinnakerref07_Eval.f 2000 28 a b = some (evI 28 a b) := by
  unfold spinnakerref07_Eval.f
  refine bind_at (v := (⟨#[115, 108, 108, 105]⟩ : ByteArray)) (by decide +kernel) ?_
  refine bind_at (v := (⟨#[115, 108, 108]⟩ : ByteArray)) (by unfold spinnakerref07_base.f; simp only [toList_d, spinnakerref07_base.j0]; repeat (first | refine (if_neg (by decide +kernel)).trans ?_ | refine (if_pos (by decide +kernel)).trans ?_); decide +kernel) ?_
  simp only [toList_d]
  repeat (first | refine (if_neg (by decide +kernel)).trans ?_ | refine (if_pos (by decide +kernel)).trans ?_)
  rw [(places b 6 64 (by decide) (by decide) (M1 := 63) (M2 := 64) rfl rfl).2]
  exact bind_at (same_sll a _ (Nat.mod_lt (u64N b) (by decide)) 2000 (by decide)) rfl
theorem ev31 (a b : Int) : spinnakerref07_Eval.f 2000 31 a b = some (evI 31 a b) := by
  unfold spinnakerref07_Eval.f
  refine bind_at (v := (⟨#[97, 100, 100, 105, 119]⟩ : ByteArray)) (by decide +kernel) ?_
  refine bind_at (v := (⟨#[97, 100, 100, 119]⟩ : ByteArray)) (by unfold spinnakerref07_base.f; simp only [toList_d, spinnakerref07_base.j0]; repeat (first | refine (if_neg (by decide +kernel)).trans ?_ | refine (if_pos (by decide +kernel)).trans ?_); decide +kernel) ?_
  simp only [toList_d]
  repeat (first | refine (if_neg (by decide +kernel)).trans ?_ | refine (if_pos (by decide +kernel)).trans ?_)
  refine bind_at (v := wrap32 (wrap64 (a + b))) ?_ rfl
  unfold spinnakerref07_shorts.f
  refine bind_at (half_ref 2000 a (by decide)) ?_
  refine bind_at (half_ref 2000 b (by decide)) ?_
  obtain ⟨p, hp⟩ := div_some _ _ (w32_in a) (w32_in b)
  refine bind_at hp ?_
  obtain ⟨q, hq⟩ := divu_some (Int.tmod (IntKind.u64.wrap a) 4294967296) (Int.tmod (IntKind.u64.wrap b) 4294967296)
  refine bind_at hq ?_
  simp only [toList_d]
  repeat (first | refine (if_neg (by decide +kernel)).trans ?_ | refine (if_pos (by decide +kernel)).trans ?_)
  exact bind_at (half_ref 2000 _ (by decide)) rfl
abbrev In := S27
def OkI (i : In) : Prop := (i.f0 = 1 ∨ i.f0 = 22 ∨ i.f0 = 28 ∨ i.f0 = 31) ∧ (0 ≤ i.f1 ∧ i.f1 < 32) ∧ (0 ≤ i.f2 ∧ i.f2 < 32)
def valI (i : In) (x : List Int) : Int := if i.f0 = 1 then wrap64 (4096 * i.f4) else evI i.f0 (rd x i.f2) i.f4
def stepI (i : In) (x : List Int) : List Int := if i.f1 = 0 then x else x.set i.f1.toNat (valI i x)
def execI (t : List In) (x : List Int) : List Int := t.foldl (fun x i => stepI i x) x
theorem step_len (i : In) (x : List Int) : (stepI i x).length = x.length := by unfold stepI; split <;> simp
theorem rd_In (l : List In) (i : Nat) (h : i < l.length) : rd_T27 l (i : Int) = l[i] := by unfold rd_T27; simp [h]
theorem ev_ok (i : In) (h : OkI i) (h1 : i.f0 ≠ 1) (a : Int) (k : Nat) (hk : 2000 ≤ k) : spinnakerref07_Eval.f k i.f0 a i.f4 = some (evI i.f0 a i.f4) := by
  refine at_rounds (fun k => spinnakerref07_Eval.mono i.f0 a i.f4 k) hk ?_
  rcases h.1 with e | e | e | e
  · exact absurd e h1
  · rw [e]; exact ev22 _ _
  · rw [e]; exact ev28 _ _
  · rw [e]; exact ev31 _ _
theorem does_l (t : List In) (ht : ∀ i ∈ t, OkI i) (hl : t.length ≤ 1000) (d : Nat) : ∀ (k j : Nat) (x : List Int), j + d = t.length → x.length = 32 → 2000 + d < k → spinnakerref09_Does.l0 k t x j = some (execI (t.drop j) x) := by
  induction d with
  | zero =>
    intro k j x hj hx hk
    obtain ⟨k, rfl⟩ : ∃ m, k = m + 1 := ⟨k - 1, by omega⟩
    simp only [spinnakerref09_Does.l0]
    rw [if_neg (by omega), List.drop_of_length_le (by omega)]
    rfl
  | succ d ih =>
    intro k j x hj hx hk
    obtain ⟨k, rfl⟩ : ∃ m, k = m + 1 := ⟨k - 1, by omega⟩
    have hjl : j < t.length := by omega
    have hok := ht t[j] (List.getElem_mem hjl)
    simp only [spinnakerref09_Does.l0]
    rw [if_pos (show (j : Int) < t.length by omega), if_pos (show (0 : Int) ≤ j by omega), rd_In t j hjl, show wrap64 ((j : Int) + 1) = ((j + 1 : Nat) : Int) from by rw [w64 (by omega) (by omega)]; omega]
    have hnext := ih k (j + 1) (stepI t[j] x) (by omega) (by rw [step_len]; exact hx) (by omega)
    rw [List.drop_eq_getElem_cons hjl]
    show _ = some (execI (t.drop (j + 1)) (stepI t[j] x))
    rw [← hnext]
    obtain ⟨h0, h1, h2⟩ := hok
    by_cases c1 : t[j].f0 = 1
    · rw [if_pos c1]
      unfold stepI
      by_cases c2 : t[j].f1 = 0
      · rw [if_pos c2, if_pos c2]
      · rw [if_neg c2, if_neg c2, if_pos h1.1, if_pos (by omega)]
        unfold valI
        rw [if_pos c1]
    · rw [if_neg c1, if_pos h2.1, if_pos (by omega), ev_ok t[j] ⟨h0, h1, h2⟩ c1 _ k (by omega)]
      simp only [Option.bind_some]
      unfold stepI
      by_cases c2 : t[j].f1 = 0
      · rw [if_pos c2, if_pos c2]
      · rw [if_neg c2, if_neg c2, if_pos h1.1, if_pos (by omega)]
        unfold valI
        rw [if_neg c1]
theorem exec_append (s t : List In) (x : List Int) : execI (s ++ t) x = execI t (execI s x) := by unfold execI; rw [List.foldl_append]
/-- The register bears the number, the others are as they were. -/
def upd (r n : Int) (x : List Int) : List Int := if r = 0 then x else x.set r.toNat n
def Ex (r n : Int) (t : List In) : Prop := ∀ x : List Int, x.length = 32 → rd x 0 = 0 → execI t x = upd r n x
theorem rd_set (x : List Int) (r n : Int) (hr : 0 ≤ r ∧ r < 32) (hx : x.length = 32) : rd (x.set r.toNat n) r = n := by
  unfold rd
  rw [List.getD_eq_getElem?_getD, List.getElem?_set_self (by omega)]
  rfl
theorem set_set (x : List Int) (i : Nat) (a b : Int) : (x.set i a).set i b = x.set i b := by simp
/-- One more instruction on the same register. -/
theorem ex_more (r m v : Int) (t : List In) (i : In) (hr : 0 ≤ r ∧ r < 32) (h : Ex r m t) (h0 : i.f0 ≠ 1) (h1 : i.f1 = r) (h2 : i.f2 = r) (hv : evI i.f0 m i.f4 = v) : Ex r v (t ++ [i]) := by
  intro x hx hz
  rw [exec_append, h x hx hz]
  show stepI i (upd r m x) = upd r v x
  unfold stepI upd valI
  rw [h1, h2]
  by_cases c : r = 0
  · rw [if_pos c, if_pos c, if_pos c]
  · rw [if_neg c, if_neg c, if_neg c, if_neg h0, rd_set x r m hr hx, set_set, hv]
theorem ex_addi (r n : Int) (hn : -2048 ≤ n ∧ n ≤ 2047) : Ex r n [(⟨22, r, 0, 0, n, false, false⟩ : In)] := by
  intro x hx hz
  show stepI (⟨22, r, 0, 0, n, false, false⟩ : In) x = upd r n x
  unfold stepI upd valI
  by_cases c : r = 0
  · rw [if_pos c, if_pos c]
  · rw [if_neg c, if_neg c, if_neg (show ¬ ((22 : Int) = 1) by decide)]
    show x.set r.toNat (evI 22 (rd x 0) n) = _
    rw [hz]
    unfold evI
    rw [if_pos rfl, Int.zero_add, w64 (by omega) (by omega)]
theorem ex_lui (r v : Int) (hv : -524288 ≤ v ∧ v ≤ 524287) : Ex r (4096 * v) [(⟨1, r, 0, 0, v, false, false⟩ : In)] := by
  intro x hx hz
  show stepI (⟨1, r, 0, 0, v, false, false⟩ : In) x = upd r (4096 * v) x
  unfold stepI upd valI
  by_cases c : r = 0
  · rw [if_pos c, if_pos c]
  · rw [if_neg c, if_neg c, if_pos rfl]
    show x.set r.toNat (wrap64 (4096 * v)) = _
    rw [w64 (by omega) (by omega)]
theorem ev_slli (m : Int) (T : Nat) (hT : T ≤ 51) : evI 28 m (12 + (T : Int)) = wrap64 (m * 2 ^ (12 + T)) := by
  unfold evI
  rw [if_neg (by decide), if_pos rfl, show u64N (12 + (T : Int)) % 64 = 12 + T from by unfold u64N; omega, shl_i m (12 + T) (by omega)]

/-- The loading of a number. -/
theorem low_f (a n : Int) (h1 : 1 ≤ n) (h2 : n ≤ 32) : unit_low.f a n = some (sgn a n.toNat) := by
  unfold unit_low.f
  rw [wu64, show a % 18446744073709551616 % 4294967296 = a % 4294967296 from by omega, sign_f _ n (by omega) (by omega) (by omega) (by omega), if_pos ⟨h1, h2⟩]
  simp only [Option.bind_some]
  rw [show (4294967296 : Int) = 2 ^ 32 from by decide, sgn_mod (show n.toNat ≤ 32 by omega)]
theorem rsign_f (k : Nat) (a n : Int) (h1 : 1 ≤ n) (h2 : n ≤ 32) (hk : 200 < k) : spinnakerref01_Sign.f k (IntKind.u64.wrap a) n = some (sgn a n.toNat) := by
  rw [wu64, ref_sign k _ n (by omega) (by omega) h1 (by omega) hk, show (18446744073709551616 : Int) = 2 ^ 64 from by decide, sgn_mod (show n.toNat ≤ 64 by omega)]
def fit (v : Int) (n : Nat) : Bool := decide (-2 ^ (n - 1) ≤ v ∧ v < 2 ^ (n - 1))
theorem fit12 (v : Int) : fit v 12 = decide (-2048 ≤ v ∧ v < 2048) := rfl
theorem fit32 (v : Int) : fit v 32 = decide (-2147483648 ≤ v ∧ v < 2147483648) := rfl
theorem wfit (v : Int) (hv : -9223372036854775808 ≤ v ∧ v < 9223372036854775808) : word_Fits.f v 12 = some (fit v 12) ∧ word_Fits.f v 32 = some (fit v 32) := by
  constructor
  · rw [fits_f v 12 hv.1 hv.2 (by decide) (by decide)]; unfold fit
    congr 1; rw [decide_eq_decide]; exact ⟨fun h => h.2.2, fun h => ⟨by decide, by decide, h⟩⟩
  · rw [fits_f v 32 hv.1 hv.2 (by decide) (by decide)]; unfold fit
    congr 1; rw [decide_eq_decide]; exact ⟨fun h => h.2.2, fun h => ⟨by decide, by decide, h⟩⟩
theorem rfit (k : Nat) (hk : 66 < k) (v : Int) (hv : -9223372036854775808 ≤ v ∧ v < 9223372036854775808) : spinnakerref01_Fits.f k v 12 = some (fit v 12) ∧ spinnakerref01_Fits.f k v 32 = some (fit v 32) := by
  constructor
  · rw [ref_fits k v 12 hv.1 hv.2 hk]; unfold fit
    congr 1; rw [decide_eq_decide]; exact ⟨fun h => h.2.2, fun h => ⟨by decide, by decide, h⟩⟩
  · rw [ref_fits k v 32 hv.1 hv.2 hk]; unfold fit
    congr 1; rw [decide_eq_decide]; exact ⟨fun h => h.2.2, fun h => ⟨by decide, by decide, h⟩⟩
theorem tz64_table (v : Nat) (hv : v < 64) : rd deBruijn64 (((2 ^ v * 285870213051353865 % 18446744073709551616 / 288230376151711744 : Nat) : Int)) = (v : Int) := by
  revert hv; revert v; decide +kernel
/-- How often a number can be halved, and what is left. -/
theorem tz64 (hi : Int) (h0 : hi ≠ 0) (h1 : -2251799813685248 ≤ hi) (h2 : hi ≤ 2251799813685248) : ∃ (t : Nat) (m : Int), t ≤ 51 ∧ hi = m * 2 ^ t ∧ m % 2 = 1 ∧ bits_TrailingZeros64.f (IntKind.u64.wrap hi) = some (t : Int) := by
  have hS : ∃ S : Nat, (S : Int) = hi % 18446744073709551616 := ⟨(hi % 18446744073709551616).toNat, by omega⟩
  obtain ⟨S, hS⟩ := hS
  have hS0 : S ≠ 0 := by omega
  obtain ⟨v, q, hv⟩ := least_bit S hS0
  have h64 : (2 : Nat) ^ 64 = 18446744073709551616 := by decide
  have hlt : S < 2 ^ 64 := by omega
  have hvn := least_lt hv hlt
  have hcast : ((2 ^ v : Nat) : Int) = (2 : Int) ^ v := by simp
  have hSv : (S : Int) = 2 ^ v * (2 * q + 1) := by rw [hv, ← hcast]; push_cast; rfl
  -- the odd part
  have hm : ∃ m : Int, hi = m * 2 ^ v ∧ m % 2 = 1 := by
    by_cases hp : 0 ≤ hi
    · refine ⟨2 * q + 1, ?_, by omega⟩
      rw [Int.mul_comm, ← hSv]; omega
    · obtain ⟨c, hc⟩ : ∃ c, 64 = v + (c + 1) := ⟨64 - v - 1, by omega⟩
      refine ⟨2 * q + 1 - 2 * 2 ^ c, ?_, by omega⟩
      have e : (2 : Int) ^ 64 = 2 ^ v * (2 * 2 ^ c) := by rw [hc, p_add, p_succ]
      have e1 : (18446744073709551616 : Int) = 2 ^ 64 := by decide
      have e2 : hi = S - 2 ^ 64 := by rw [← e1]; omega
      rw [e2, hSv, e, ← Int.mul_sub, Int.mul_comm]
  obtain ⟨m, hm1, hm2⟩ := hm
  have hv51 : v ≤ 51 := by
    refine Decidable.byContradiction fun hc => ?_
    have hb : (2 : Int) ^ 52 ≤ 2 ^ v := p_le (show 52 ≤ v by omega)
    have e52 : (2 : Int) ^ 52 = 4503599627370496 := by decide
    rw [e52] at hb
    generalize (2 : Int) ^ v = P at hb hm1
    rcases Int.lt_or_le 0 m with g | g
    · have := Int.mul_le_mul_of_nonneg_right (show 1 ≤ m by omega) (show 0 ≤ P by omega)
      omega
    · have := Int.mul_le_mul_of_nonneg_right (show m ≤ -1 by omega) (show 0 ≤ P by omega)
      omega
  refine ⟨v, m, hv51, hm1, hm2, ?_⟩
  unfold bits_TrailingZeros64.f
  rw [wu64, ← hS, if_neg (by omega)]
  have e1 : IntKind.u64.wrap (-(S : Int)) = ((2 ^ 64 - S : Nat) : Int) := by rw [wu64, h64]; omega
  rw [e1, and64 S (2 ^ 64 - S) hlt (by omega), and_neg hv hlt]
  have e2 : IntKind.u64.wrap (((2 ^ v : Nat) : Int) * 285870213051353865) / 288230376151711744 = ((2 ^ v * 285870213051353865 % 18446744073709551616 / 288230376151711744 : Nat) : Int) := by
    rw [wu64]; generalize (2 ^ v : Nat) = P; omega
  rw [e2, tz64_table v hvn]
theorem shr_odd (m : Int) (t : Nat) (ht : t ≤ 51) : shr .i64 (m * 2 ^ t) t = m := by
  unfold shr
  rw [show ((t : Nat) : Int).toNat = t from by omega, show IntKind.i64.bits = 64 from rfl, Nat.min_eq_left (by omega), Int.mul_ediv_cancel _ (Int.ne_of_gt (p_pos t))]
theorem half_l (rd n lo : Int) (d : Nat) : ∀ (k : Nat) (q : Int), d ≤ 12 → -9223372036854775808 ≤ q * 2 ^ d → q * 2 ^ d ≤ 9223372036854775807 → spinnakerref09_Load.l0 (k + d) rd n lo (q * 2 ^ d) (12 - d) = spinnakerref09_Load.l0 k rd n lo q 12 := by
  induction d with
  | zero => intro k q _ _ _; simp
  | succ d ih =>
    intro k q hd h0 h1
    rw [show k + (d + 1) = (k + d) + 1 from rfl]
    have e : q * 2 ^ (d + 1) = q * 2 ^ d * 2 := by rw [p_succ, Int.mul_comm 2, Int.mul_assoc]
    rw [e] at h0 h1 ⊢
    simp only [spinnakerref09_Load.l0]
    rw [if_pos (by omega), Int.mul_tdiv_cancel _ (by decide), show wrap64 (q * 2 ^ d) = q * 2 ^ d from w64 (by omega) (by omega), show wrap64 (12 - ((d + 1 : Nat) : Int) + 1) = 12 - (d : Int) from by rw [w64 (by omega) (by omega)]; omega]
    have h := ih k q (by omega) (by omega) (by omega)
    exact h
theorem odd_l (rd lo m : Int) (T : Nat) (hT : T ≤ 51) (d : Nat) : ∀ k : Nat, d ≤ T → -9223372036854775808 ≤ m * 2 ^ d → m * 2 ^ d ≤ 9223372036854775807 → spinnakerref09_Load.l1 (k + d) rd lo (m * 2 ^ d) (12 + T - d) = spinnakerref09_Load.l1 k rd lo m (12 + T) := by
  induction d with
  | zero => intro k _ _ _; simp
  | succ d ih =>
    intro k hd h0 h1
    rw [show k + (d + 1) = (k + d) + 1 from rfl]
    have e : m * 2 ^ (d + 1) = m * 2 ^ d * 2 := by rw [p_succ, Int.mul_comm 2, Int.mul_assoc]
    rw [e] at h0 h1 ⊢
    simp only [spinnakerref09_Load.l1]
    rw [if_pos (Int.mul_tmod_left _ _), if_pos (by omega), Int.mul_tdiv_cancel _ (by decide), show wrap64 (m * 2 ^ d) = m * 2 ^ d from w64 (by omega) (by omega), show wrap64 (12 + (T : Int) - ((d + 1 : Nat) : Int) + 1) = 12 + (T : Int) - (d : Int) from by rw [w64 (by omega) (by omega)]; omega]
    exact ih k (by omega) (by omega) (by omega)
/-- What a loading is good for. -/
def Fine (x : In) : Prop := (∀ k, 100 ≤ k → spinnakerref03_May.f k x.f0 x.f1 x.f2 x.f3 x.f4 x.f5 x.f6 = some true) ∧ OkI x
def Good (rd n : Int) (N : Nat) (t : List In) : Prop := t.length ≤ N ∧ (∀ x ∈ t, Fine x) ∧ Ex rd n t
theorem reg_t (r : Int) (hr : 0 ≤ r ∧ r < 32) : spinnakerref03_register.f r true = some true := by
  unfold spinnakerref03_register.f
  rw [if_pos rfl, if_pos hr.1, decide_eq_true (by omega)]
theorem may_gen (op r A n L : Int) (hA : Bool) (e : spinnakerref03_letter.f op = some L) (hL : L ≠ 0) (h1 : spinnakerref03_HasRd.f 100 op = some true) (h2 : spinnakerref03_HasA.f 100 op = some hA) (h3 : spinnakerref03_HasB.f 100 op = some false)
    (h4 : spinnakerref03_has.f 100 op (⟨#[76, 65]⟩ : ByteArray) = some false) (hr : 0 ≤ r ∧ r < 32) (ha : spinnakerref03_register.f A hA = some true) (hi : spinnakerref03_immediate.f 100 op n = some true) (k : Nat) (hk : 100 ≤ k) : spinnakerref03_May.f k op r A 0 n false false = some true := by
  refine at_rounds (fun k => spinnakerref03_May.mono op r A 0 n false false k) hk ?_
  unfold spinnakerref03_May.f
  refine bind_at e ?_
  rw [if_neg hL]
  refine bind_at h1 ?_
  refine bind_at (reg_t r hr) ?_
  rw [if_pos rfl]
  refine bind_at h2 ?_
  refine bind_at ha ?_
  rw [if_pos rfl]
  refine bind_at h3 ?_
  refine bind_at (v := true) rfl ?_
  rw [if_pos rfl]
  refine bind_at hi ?_
  rw [if_pos rfl]
  refine bind_at h4 ?_
  rfl
theorem imm_i (op : Int) (e : spinnakerref03_letter.f op = some 73) (n : Int) (hn : -2048 ≤ n ∧ n ≤ 2047) : spinnakerref03_immediate.f 100 op n = some true := by
  unfold spinnakerref03_immediate.f
  refine bind_at e ?_
  rw [if_neg (by decide), if_neg (by decide), if_neg (by decide), if_pos rfl]
  show spinnakerref03_immediate.j0 (99 + 1) n 73 true = some true
  simp only [spinnakerref03_immediate.j0]
  rw [if_pos trivial, if_pos (by omega), decide_eq_true hn.2]
theorem may_addi (rd n : Int) (hr : 0 ≤ rd ∧ rd < 32) (hn : -2048 ≤ n ∧ n ≤ 2047) : Fine ⟨22, rd, 0, 0, n, false, false⟩ :=
  ⟨fun k hk => may_gen 22 rd 0 n 73 true (by decide +kernel) (by decide) (by decide +kernel) (by decide +kernel) (by decide +kernel) (by decide +kernel) hr (by decide +kernel) (imm_i 22 (by decide +kernel) n hn) k hk, ⟨Or.inr (Or.inl rfl), hr, show (0 : Int) ≤ 0 ∧ (0 : Int) < 32 by decide⟩⟩
theorem may_addi2 (rd n : Int) (hr : 0 ≤ rd ∧ rd < 32) (hn : -2048 ≤ n ∧ n ≤ 2047) : Fine ⟨22, rd, rd, 0, n, false, false⟩ :=
  ⟨fun k hk => may_gen 22 rd rd n 73 true (by decide +kernel) (by decide) (by decide +kernel) (by decide +kernel) (by decide +kernel) (by decide +kernel) hr (reg_t rd hr) (imm_i 22 (by decide +kernel) n hn) k hk, ⟨Or.inr (Or.inl rfl), hr, hr⟩⟩
theorem may_addiw (rd n : Int) (hr : 0 ≤ rd ∧ rd < 32) (hn : -2048 ≤ n ∧ n ≤ 2047) : Fine ⟨31, rd, rd, 0, n, false, false⟩ :=
  ⟨fun k hk => may_gen 31 rd rd n 73 true (by decide +kernel) (by decide) (by decide +kernel) (by decide +kernel) (by decide +kernel) (by decide +kernel) hr (reg_t rd hr) (imm_i 31 (by decide +kernel) n hn) k hk, ⟨Or.inr (Or.inr (Or.inr rfl)), hr, hr⟩⟩
theorem may_lui (rd n : Int) (hr : 0 ≤ rd ∧ rd < 32) (hn : -524288 ≤ n ∧ n ≤ 524287) : Fine ⟨1, rd, 0, 0, n, false, false⟩ :=
  ⟨fun k hk => may_gen 1 rd 0 n 85 false (by decide +kernel) (by decide) (by decide +kernel) (by decide +kernel) (by decide +kernel) (by decide +kernel) hr (by decide +kernel) (by
    unfold spinnakerref03_immediate.f
    refine bind_at (v := 85) (by decide +kernel) ?_
    rw [if_pos rfl, if_pos (by omega), decide_eq_true hn.2]) k hk, ⟨Or.inl rfl, hr, show (0 : Int) ≤ 0 ∧ (0 : Int) < 32 by decide⟩⟩
theorem may_slli (rd n : Int) (hr : 0 ≤ rd ∧ rd < 32) (hn : 0 ≤ n ∧ n ≤ 63) : Fine ⟨28, rd, rd, 0, n, false, false⟩ :=
  ⟨fun k hk => may_gen 28 rd rd n 72 true (by decide +kernel) (by decide) (by decide +kernel) (by decide +kernel) (by decide +kernel) (by decide +kernel) hr (reg_t rd hr) (by
    unfold spinnakerref03_immediate.f
    refine bind_at (v := 72) (by decide +kernel) ?_
    rw [if_neg (by decide), if_neg (by decide), if_neg (by decide), if_neg (by decide)]
    show spinnakerref03_immediate.j0 (99 + 1) n 72 false = some true
    simp only [spinnakerref03_immediate.j0]
    rw [if_neg (by decide), if_pos trivial, if_pos hn.1, decide_eq_true hn.2]) k hk, ⟨Or.inr (Or.inr (Or.inl rfl)), hr, hr⟩⟩
theorem add_i (a b : Int) : evI 22 a b = wrap64 (a + b) := by unfold evI; rw [if_pos rfl]
theorem addw_i (a b : Int) : evI 31 a b = wrap32 (a + b) := by unfold evI; rw [if_neg (by decide), if_neg (by decide), w32_of64]
theorem w_shift (T : Nat) (h : T ≤ 51) : wrap64 (12 + (T : Int)) = 12 + T := w64 (by omega) (by omega)
set_option maxHeartbeats 4000000 in
/-- One level: loading n is loading a smaller number first. -/
theorem load_step (rd : Int) (hr : 0 ≤ rd ∧ rd < 32) (M : Int) (K N : Nat) (hM : 2147483648 ≤ M) (hM2 : M ≤ 36028797018963968) (hMe : M % 2 = 0) (hN : N ≤ 1000)
    (H : ∀ (m : Int) (k : Nat), -M < m → m < M → K ≤ k → ∃ t, unit_load.f k rd m = some t ∧ spinnakerref09_Load.f k rd m = some t ∧ Good rd m N t) :
    ∀ (n : Int) (k : Nat), -9223372036854775808 ≤ n → n ≤ 9223372036854775807 → -(4096 * M) < n → n < 4096 * M → K + 400 ≤ k → ∃ t, unit_load.f k rd n = some t ∧ spinnakerref09_Load.f k rd n = some t ∧ Good rd n (N + 2) t := by
  intro n k b0 b1 n0 n1 hk
  obtain ⟨k, rfl⟩ : ∃ m, k = m + 1 := ⟨k - 1, by omega⟩
  simp only [unit_load.f, spinnakerref09_Load.f]
  obtain ⟨wf12, wf32⟩ := wfit n ⟨b0, by omega⟩
  obtain ⟨rf12, _⟩ := rfit k (by omega) n ⟨b0, by omega⟩
  rw [wf12, wf32, rf12, low_f n 12 (by decide) (by decide), rsign_f k n 12 (by decide) (by decide) (by omega)]
  simp only [Option.bind_some]
  cases c12 : fit n 12
  · rw [if_neg (show ¬ (false = true) from Bool.false_ne_true), if_neg (show ¬ (false = true) from Bool.false_ne_true)]
    have hlo := sgn_range n 12 (by decide)
    have elo : (2 : Int) ^ (12 - 1) = 2048 := by decide
    rw [elo] at hlo
    have hdvd : (n - sgn n 12) % 4096 = 0 := by
      unfold sgn
      rw [show (2 : Int) ^ 12 = 4096 from by decide, show (2 : Int) ^ (12 - 1) = 2048 from by decide]
      split <;> omega
    rw [show ((12 : Int)).toNat = 12 from rfl]
    generalize sgn n 12 = lo at hlo hdvd ⊢
    -- the rest, a multiple of 4096
    have hh : ∃ hi : Int, wrap64 (n - lo) = hi * 4096 ∧ -2251799813685248 ≤ hi ∧ hi < 2251799813685248 ∧ -M ≤ hi ∧ hi ≤ M ∧ (fit n 32 = false → hi ≠ 0) := by
      rw [fit32, decide_eq_false_iff_not]
      by_cases hc : n - lo < 9223372036854775808
      · refine ⟨(n - lo) / 4096, ?_, by omega, by omega, by omega, by omega, by omega⟩
        rw [w64 (by omega) (by omega)]; omega
      · refine ⟨-2251799813685248, ?_, by omega, by omega, by omega, by omega, by omega⟩
        unfold wrap64; omega
    obtain ⟨hi, ehi, g0, g1, g2, g3, g4⟩ := hh
    rw [ehi, Int.mul_ediv_cancel _ (by decide)]
    have e12 : hi * 4096 = hi * 2 ^ 12 := by rw [show (2 : Int) ^ 12 = 4096 from by decide]
    obtain ⟨k2, rfl⟩ : ∃ m, k = m + 12 := ⟨k - 12, by omega⟩
    have hl := half_l rd n lo 12 k2 hi (Nat.le_refl _) (by rw [← e12]; omega) (by rw [← e12]; omega)
    rw [show (12 : Int) - ((12 : Nat) : Int) = 0 from by decide] at hl
    rw [e12, hl]
    obtain ⟨k3, rfl⟩ : ∃ m, k2 = m + 1 := ⟨k2 - 1, by omega⟩
    simp only [spinnakerref09_Load.l0]
    obtain ⟨_, rf32⟩ := rfit k3 (by omega) n ⟨b0, by omega⟩
    rw [if_neg (show ¬ ((12 : Int) < 12) by decide), rf32]
    simp only [Option.bind_some]
    cases c32 : fit n 32
    · rw [if_neg (show ¬ (false = true) from Bool.false_ne_true), if_neg (show ¬ (false = true) from Bool.false_ne_true)]
      obtain ⟨T, m, hT, em, hm, etz⟩ := tz64 hi (g4 c32) g0 (by omega)
      rw [etz]
      simp only [Option.bind_some]
      have eshr : shr .i64 hi (T : Int) = m := by rw [em]; exact shr_odd m T hT
      have hpos := p_pos T
      have hmb : -M < m ∧ m < M := by
        have h1 : (1 : Int) ≤ 2 ^ T := by omega
        have hm0 : m ≠ 0 := by omega
        have hne : m ≠ M ∧ m ≠ -M := by omega
        generalize (2 : Int) ^ T = P at em h1
        rcases Int.lt_or_le 0 m with g | g
        · have := Int.mul_le_mul_of_nonneg_left h1 (show 0 ≤ m by omega)
          rw [Int.mul_one] at this
          omega
        · have := Int.mul_le_mul_of_nonneg_left h1 (show 0 ≤ -m by omega)
          rw [Int.neg_mul, Int.neg_mul, Int.mul_one] at this
          omega
      obtain ⟨t, ut, _, _⟩ := H m (k3 + 1 + 12) hmb.1 hmb.2 (by omega)
      have hgood := H m (k3 + 1 + 12) hmb.1 hmb.2 (by omega)
      obtain ⟨k4, rfl⟩ : ∃ j, k3 = j + 1 + T := ⟨k3 - 1 - T, by omega⟩
      have ho := odd_l rd lo m T hT T (k4 + 1) (Nat.le_refl _) (by rw [← em]; omega) (by rw [← em]; omega)
      rw [show (12 : Int) + (T : Int) - (T : Int) = 12 from by omega, ← em] at ho
      rw [ho]
      simp only [spinnakerref09_Load.l1]
      have hmo : ¬ Int.tmod m 2 = 0 := fun c => by have := Int.dvd_of_tmod_eq_zero c; omega
      obtain ⟨t2, ut2, rt2, gd⟩ := H m k4 hmb.1 hmb.2 (by omega)
      obtain ⟨t3, ut3, rt3, gd3⟩ := hgood
      have et : t3 = t2 := by
        have := at_rounds (fun k => unit_load.mono rd m k) (show k4 ≤ k4 + 1 + T + 1 + 12 by omega) ut2
        rw [ut3] at this
        exact Option.some.inj this
      subst et
      rw [eshr, ut3, if_neg hmo, rt2]
      simp only [Option.bind_some]
      have hlen := gd3.1
      rw [if_pos (show (0 : Int) ≤ (T : Int) by omega), if_pos (show t3.length < 2932031007402 by omega), if_pos (show t3.length < 2932031007402 by omega)]
      rw [w_shift T hT]
      unfold unit_add.f
      have hlen2 : (t3 ++ [(⟨28, rd, rd, 0, 12 + (T : Int), false, false⟩ : In)]).length < 2932031007402 := by rw [List.length_append]; simp; omega
      have esl : evI 28 m (12 + (T : Int)) = wrap64 (n - lo) := by
        rw [ev_slli m T hT, ehi, p_add 12 T, show (2 : Int) ^ 12 = 4096 from by decide, Int.mul_comm 4096, ← Int.mul_assoc, ← em, w64 (by omega) (by omega)]
      have hs := may_slli rd (12 + (T : Int)) hr (by omega)
      by_cases hz : lo = 0
      · simp only [if_pos hz, Option.bind_some]
        refine ⟨_, rfl, rfl, by rw [List.length_append]; simp; omega, fun x hx => ?_, ?_⟩
        · rcases List.mem_append.1 hx with hx | hx
          · exact gd3.2.1 x hx
          · rw [List.mem_singleton.1 hx]; exact hs
        · refine ex_more rd m n t3 _ hr gd3.2.2 (show (28 : Int) ≠ 1 by decide) rfl rfl ?_
          show evI 28 m (12 + (T : Int)) = n
          rw [esl, hz, Int.sub_zero, w64 (by omega) (by omega)]
      · simp only [if_neg hz, if_pos hlen2, Option.bind_some]
        refine ⟨_, rfl, rfl, by rw [List.length_append, List.length_append]; simp; omega, fun x hx => ?_, ?_⟩
        · rcases List.mem_append.1 hx with hx | hx
          · rcases List.mem_append.1 hx with hx | hx
            · exact gd3.2.1 x hx
            · rw [List.mem_singleton.1 hx]; exact hs
          · rw [List.mem_singleton.1 hx]; exact may_addi2 rd lo hr (by omega)
        · refine ex_more rd (wrap64 (n - lo)) n _ _ hr (ex_more rd m _ t3 _ hr gd3.2.2 (show (28 : Int) ≠ 1 by decide) rfl rfl esl) (show (22 : Int) ≠ 1 by decide) rfl rfl ?_
          show evI 22 (wrap64 (n - lo)) lo = n
          rw [add_i, wrap_wrap_add, show n - lo + lo = n from by omega, w64 (by omega) (by omega)]
    · rw [if_pos (show true = true from rfl), if_pos (show true = true from rfl), low_f hi 20 (by decide) (by decide), rsign_f k3 hi 20 (by decide) (by decide) (by omega)]
      simp only [Option.bind_some, List.nil_append, List.length_nil, List.length_singleton]
      have h20 := sgn_range hi 20 (by decide)
      rw [show (2 : Int) ^ (20 - 1) = 524288 from by decide] at h20
      rw [show ((20 : Int)).toNat = 20 from rfl]
      have h20m : (sgn hi 20 - hi) % 1048576 = 0 := by
        unfold sgn
        rw [show (2 : Int) ^ 20 = 1048576 from by decide, show (2 : Int) ^ (20 - 1) = 524288 from by decide]
        split <;> omega
      have hb32 := c32
      rw [fit32, decide_eq_true_eq] at hb32
      have ehi2 : n - lo = hi * 4096 := by rw [← ehi, w64 (by omega) (by omega)]
      generalize sgn hi 20 = v at h20 h20m ⊢
      have hv := may_lui rd v hr (by omega)
      unfold unit_add.f
      rw [if_pos (show 0 < 2932031007402 by decide)]
      by_cases hz : lo = 0
      · rw [if_pos hz, if_pos hz]
        refine ⟨_, rfl, rfl, by simp, fun x hx => ?_, ?_⟩
        · rw [List.mem_singleton.1 hx]; exact hv
        · have := ex_lui rd v (by omega)
          rwa [show 4096 * v = n from by omega] at this
      · rw [if_neg hz, if_neg hz, if_pos (show [(⟨1, rd, 0, 0, v, false, false⟩ : In)].length < 2932031007402 by simp), if_pos (show 1 < 2932031007402 by decide)]
        refine ⟨_, rfl, rfl, by simp, fun x hx => ?_, ?_⟩
        · rcases List.mem_append.1 hx with hx | hx
          · rw [List.mem_singleton.1 hx]; exact hv
          · rw [List.mem_singleton.1 hx]; exact may_addiw rd lo hr (by omega)
        · refine ex_more rd (4096 * v) n _ _ hr (ex_lui rd v (by omega)) (show (31 : Int) ≠ 1 by decide) rfl rfl ?_
          show evI 31 (4096 * v) lo = n
          rw [addw_i]
          unfold wrap32
          omega
  · rw [if_pos (show true = true from rfl), if_pos (show true = true from rfl)]
    rw [fit12, decide_eq_true_eq] at c12
    refine ⟨_, rfl, rfl, by simp, fun x hx => ?_, ex_addi rd n (by omega)⟩
    rw [List.mem_singleton.1 hx]
    exact may_addi rd n hr (by omega)
set_option maxHeartbeats 4000000 in
theorem load_f (rd n : Int) (hr : 0 ≤ rd ∧ rd < 32) (hn : -9223372036854775808 ≤ n ∧ n ≤ 9223372036854775807) (k : Nat) (hk : 3000 ≤ k) : ∃ t, unit_load.f k rd n = some t ∧ spinnakerref09_Load.f k rd n = some t ∧ Good rd n 8 t := by
  -- numbers that fit 32 bits need no smaller one
  have s0 : ∀ (m : Int) (k : Nat), -2147483648 < m → m < 2147483648 → 700 ≤ k → ∃ t, unit_load.f k rd m = some t ∧ spinnakerref09_Load.f k rd m = some t ∧ Good rd m 2 t := by
    intro m k m0 m1 hk
    obtain ⟨k, rfl⟩ : ∃ j, k = j + 1 := ⟨k - 1, by omega⟩
    simp only [unit_load.f, spinnakerref09_Load.f]
    obtain ⟨wf12, wf32⟩ := wfit m ⟨by omega, by omega⟩
    obtain ⟨rf12, _⟩ := rfit k (by omega) m ⟨by omega, by omega⟩
    rw [wf12, wf32, rf12, low_f m 12 (by decide) (by decide), rsign_f k m 12 (by decide) (by decide) (by omega)]
    simp only [Option.bind_some]
    cases c12 : fit m 12
    · rw [if_neg (show ¬ (false = true) from Bool.false_ne_true), if_neg (show ¬ (false = true) from Bool.false_ne_true)]
      have hlo := sgn_range m 12 (by decide)
      rw [show (2 : Int) ^ (12 - 1) = 2048 from by decide] at hlo
      have hdvd : (m - sgn m 12) % 4096 = 0 := by
        unfold sgn
        rw [show (2 : Int) ^ 12 = 4096 from by decide, show (2 : Int) ^ (12 - 1) = 2048 from by decide]
        split <;> omega
      rw [show ((12 : Int)).toNat = 12 from rfl]
      generalize sgn m 12 = lo at hlo hdvd ⊢
      obtain ⟨hi, ehi⟩ : ∃ hi : Int, m - lo = hi * 4096 := ⟨(m - lo) / 4096, by omega⟩
      have ew : wrap64 (m - lo) = hi * 4096 := by rw [w64 (by omega) (by omega), ehi]
      rw [ew, Int.mul_ediv_cancel _ (by decide)]
      have e12 : hi * 4096 = hi * 2 ^ 12 := by rw [show (2 : Int) ^ 12 = 4096 from by decide]
      obtain ⟨k2, rfl⟩ : ∃ j, k = j + 12 := ⟨k - 12, by omega⟩
      have hl := half_l rd m lo 12 k2 hi (Nat.le_refl _) (by rw [← e12]; omega) (by rw [← e12]; omega)
      rw [show (12 : Int) - ((12 : Nat) : Int) = 0 from by decide] at hl
      rw [e12, hl]
      obtain ⟨k3, rfl⟩ : ∃ j, k2 = j + 1 := ⟨k2 - 1, by omega⟩
      simp only [spinnakerref09_Load.l0]
      obtain ⟨_, rf32⟩ := rfit k3 (by omega) m ⟨by omega, by omega⟩
      have c32 : fit m 32 = true := by rw [fit32, decide_eq_true_eq]; omega
      rw [if_neg (show ¬ ((12 : Int) < 12) by decide), rf32, c32]
      simp only [Option.bind_some, if_true]
      rw [low_f hi 20 (by decide) (by decide), rsign_f k3 hi 20 (by decide) (by decide) (by omega)]
      simp only [Option.bind_some, List.nil_append, List.length_nil, List.length_singleton]
      have h20 := sgn_range hi 20 (by decide)
      rw [show (2 : Int) ^ (20 - 1) = 524288 from by decide] at h20
      rw [show ((20 : Int)).toNat = 20 from rfl]
      have h20m : (sgn hi 20 - hi) % 1048576 = 0 := by
        unfold sgn
        rw [show (2 : Int) ^ 20 = 1048576 from by decide, show (2 : Int) ^ (20 - 1) = 524288 from by decide]
        split <;> omega
      generalize sgn hi 20 = v at h20 h20m ⊢
      have hv := may_lui rd v hr (by omega)
      unfold unit_add.f
      rw [if_pos (show 0 < 2932031007402 by decide)]
      by_cases hz : lo = 0
      · rw [if_pos hz, if_pos hz]
        refine ⟨_, rfl, rfl, by simp, fun x hx => ?_, ?_⟩
        · rw [List.mem_singleton.1 hx]; exact hv
        · have := ex_lui rd v (by omega)
          rwa [show 4096 * v = m from by omega] at this
      · rw [if_neg hz, if_neg hz, if_pos (show [(⟨1, rd, 0, 0, v, false, false⟩ : In)].length < 2932031007402 by simp), if_pos (show 1 < 2932031007402 by decide)]
        refine ⟨_, rfl, rfl, by simp, fun x hx => ?_, ?_⟩
        · rcases List.mem_append.1 hx with hx | hx
          · rw [List.mem_singleton.1 hx]; exact hv
          · rw [List.mem_singleton.1 hx]; exact may_addiw rd lo hr (by omega)
        · refine ex_more rd (4096 * v) m _ _ hr (ex_lui rd v (by omega)) (show (31 : Int) ≠ 1 by decide) rfl rfl ?_
          show evI 31 (4096 * v) lo = m
          rw [addw_i]
          unfold wrap32
          omega
    · rw [if_pos (show true = true from rfl), if_pos (show true = true from rfl)]
      rw [fit12, decide_eq_true_eq] at c12
      refine ⟨_, rfl, rfl, by simp, fun x hx => ?_, ex_addi rd m (by omega)⟩
      rw [List.mem_singleton.1 hx]
      exact may_addi rd m hr (by omega)
  have s1 := load_step rd hr 2147483648 700 2 (by decide) (by decide) (by decide) (by decide) s0
  have s2 := load_step rd hr 8796093022208 1100 4 (by decide) (by decide) (by decide) (by decide) (fun m k a b c => s1 m k (by omega) (by omega) (by omega) (by omega) c)
  have s3 := load_step rd hr 36028797018963968 1500 6 (by decide) (by decide) (by decide) (by decide) (fun m k a b c => s2 m k (by omega) (by omega) (by omega) (by omega) c)
  exact s3 n k hn.1 hn.2 (by omega) (by omega) (by omega)

/-- The law, plainly. -/
theorem nil_d : ((⟨#[]⟩ : ByteArray)).toList = ([] : List UInt8) := by rw [toList_d]
theorem name_nil (r : Int) : ∃ t : ByteArray, reg_Name.f r = some t ∧ (t.toList = ([] : List UInt8) ↔ ¬ (0 ≤ r ∧ r < 32)) := by
  by_cases h : 0 ≤ r ∧ r < 32
  · have hb : ∀ n : Nat, n < 32 → (reg_Name.f (n : Int)).map (fun t => t.data.toList.isEmpty) = some false := by decide +kernel
    have e := hb r.toNat (by omega)
    rw [show ((r.toNat : Nat) : Int) = r from by omega] at e
    obtain ⟨t, h1, h2⟩ := Option.map_eq_some_iff.1 e
    refine ⟨t, h1, fun c => ?_, fun c => absurd h c⟩
    rw [toList_d] at c
    rw [c] at h2
    cases h2
  · refine ⟨(⟨#[]⟩ : ByteArray), ?_, fun _ => h, fun _ => nil_d⟩
    unfold reg_Name.f
    rw [if_neg h]
theorem awake09 (k : Nat) (hk : 60 ≤ k) : spinnakerlaw09_awake.f k = some true := by
  refine at_rounds (fun k => spinnakerlaw09_awake.mono k) hk ?_
  decide +kernel
theorem loop_l (a0 a1 : Int) (y : List Int) (t : List In) (ht : ∀ x ∈ t, Fine x) (hl : t.length ≤ 8) (d : Nat) : ∀ (k j : Nat), j + d = t.length → 200 < k →
    spinnakerlaw09_UnitLoads.l0 (k + d) a0 a1 y t t j = spinnakerlaw09_UnitLoads.l0 k a0 a1 y t t t.length := by
  induction d with
  | zero => intro k j hj _; rw [show j = t.length from by omega]; rfl
  | succ d ih =>
    intro k j hj hk
    have hjl : j < t.length := by omega
    obtain ⟨hm, ho⟩ := ht t[j] (List.getElem_mem hjl)
    rw [show k + (d + 1) = (k + d) + 1 from rfl]
    rw [← ih k (j + 1) (by omega) hk]
    conv => lhs; unfold spinnakerlaw09_UnitLoads.l0
    rw [if_pos (show (j : Int) < t.length by omega), if_pos (show (0 : Int) ≤ j by omega), if_pos (show (j : Int) < t.length by omega), rd_In t j hjl, if_neg (by simp), hm (k + d) (by omega)]
    simp only [Option.bind_some]
    rw [if_pos trivial, show wrap64 ((j : Int) + 1) = ((j + 1 : Nat) : Int) from by rw [w64 (by omega) (by omega)]; omega]
    obtain ⟨h0, _, _⟩ := ho
    by_cases c : t[j].f0 = 1
    · rw [if_pos c]
    · rw [if_neg c, if_neg (by omega), if_neg (by omega)]
theorem loads_end (a0 a1 : Int) (h : 0 ≤ a0 ∧ a0 < 32) (y : List Int) (hy : y.length = 32) (t : List In) (hg : Good a0 a1 8 t) (k : Nat) (hk : 2200 < k) : spinnakerlaw09_UnitLoads.l0 k a0 a1 y t t t.length = some true := by
  obtain ⟨k, rfl⟩ : ∃ m, k = m + 1 := ⟨k - 1, by omega⟩
  obtain ⟨hl, hf, hx⟩ := hg
  unfold spinnakerlaw09_UnitLoads.l0
  rw [if_neg (by omega), if_pos (by omega)]
  refine bind_at (v := y.set (0 : Int).toNat 0) rfl ?_
  have hly : (y.set (0 : Int).toNat 0).length = 32 := by rw [List.length_set]; exact hy
  have hz : rd (y.set (0 : Int).toNat 0) 0 = 0 := rd_set y 0 0 (by decide) hy
  refine bind_at (v := upd a0 a1 (y.set (0 : Int).toNat 0)) ?_ ?_
  · unfold spinnakerref09_Does.f
    rw [if_pos (by rw [hly]; decide), List.nil_append]
    have := does_l t (fun i hi => (hf i hi).2) (by omega) t.length k 0 (y.set (0 : Int).toNat 0) (by omega) hly (by omega)
    rw [show ((0 : Nat) : Int) = 0 from rfl, List.drop_zero, hx _ hly hz] at this
    exact this
  · by_cases c : a0 = 0
    · rw [if_pos c]
      refine bind_at (v := true) ?_ ?_
      · unfold arr_same.f upd
        rw [if_pos c]
        exact congrArg some (beq_self_eq_true _)
      · rw [if_pos rfl]
        exact bind_at (awake09 k (by omega)) rfl
    · rw [if_neg c, if_pos h.1, if_pos (by omega)]
      refine bind_at (v := true) ?_ ?_
      · unfold arr_same.f upd
        rw [if_neg c]
        exact congrArg some (beq_self_eq_true _)
      · rw [if_pos rfl]
        exact bind_at (awake09 k (by omega)) rfl
theorem unit_loads (a0 a1 : Int) (h1 : -9223372036854775808 ≤ a1 ∧ a1 ≤ 9223372036854775807) (l : List Int) (hl : l.length = 32) : spinnakerlaw09_UnitLoads.f 6000 a0 a1 l = some true := by
  unfold spinnakerlaw09_UnitLoads.f
  rw [if_pos (by rw [hl]; decide), List.nil_append]
  refine bind_at (v := l) rfl ?_
  obtain ⟨s, hs, hn⟩ := name_nil a0
  by_cases h : 0 ≤ a0 ∧ a0 < 32
  · obtain ⟨t, hu, _, hg⟩ := load_f a0 a1 h h1 6000 (by decide)
    refine bind_at (v := t) ?_ ?_
    · unfold unit_Load.f
      refine bind_at hs ?_
      rw [if_neg (fun c => hn.1 c h)]
      exact bind_at hu rfl
    · rw [if_neg (by omega), decide_eq_false (by omega)]
      show spinnakerlaw09_UnitLoads.j0 (5999 + 1) a0 a1 l t false = some true
      simp only [spinnakerlaw09_UnitLoads.j0]
      rw [if_neg (by decide)]
      obtain ⟨t2, hu2, hr2, hg2⟩ := load_f a0 a1 h h1 5999 (by decide)
      obtain rfl : t2 = t := by
        have := unit_load.mono a0 a1 5999 _ hu2
        rw [hu] at this
        exact (Option.some.inj this).symm
      refine bind_at hr2 ?_
      rw [if_pos rfl, decide_eq_false (by have := hg.1; omega)]
      show spinnakerlaw09_UnitLoads.j1 (5998 + 1) a0 a1 l t2 t2 false = some true
      simp only [spinnakerlaw09_UnitLoads.j1]
      rw [if_neg (by decide)]
      have hk : 5998 = (5998 - t2.length) + t2.length := by have := hg.1; omega
      rw [hk, show (0 : Int) = ((0 : Nat) : Int) from rfl, loop_l a0 a1 l t2 hg.2.1 hg.1 t2.length (5998 - t2.length) 0 (by omega) (by have := hg.1; omega)]
      exact loads_end a0 a1 h l hl t2 hg _ (by have := hg.1; omega)
  · refine bind_at (v := ([] : List In)) ?_ ?_
    · unfold unit_Load.f
      refine bind_at hs ?_
      rw [if_pos (hn.2 h)]
    · have hj : spinnakerlaw09_UnitLoads.j0 6000 a0 a1 l [] true = some true := by
        show spinnakerlaw09_UnitLoads.j0 (5999 + 1) a0 a1 l [] true = some true
        simp only [spinnakerlaw09_UnitLoads.j0]
        refine (if_pos trivial).trans ((if_pos rfl).trans ?_)
        exact bind_at (awake09 5999 (by decide)) rfl
      by_cases c : a0 < 0
      · rw [if_pos c]; exact hj
      · rw [if_neg c, decide_eq_true (by omega)]; exact hj

theorem UnitLoads (a0 : Int) (w0 : (Lit.int .i64 a0).wf = true) (a1 : Int) (w1 : (Lit.int .i64 a1).wf = true) (x2 : Int × Int × Int × Int × Int × Int × Int × Int × Int × Int × Int × Int × Int × Int × Int × Int × Int × Int × Int × Int × Int × Int × Int × Int × Int × Int × Int × Int × Int × Int × Int × Int) (q2 : Q22 x2) :
    ∃ k, spinnakerlaw09_UnitLoads.f k a0 a1 [x2.1, x2.2.1, x2.2.2.1, x2.2.2.2.1, x2.2.2.2.2.1, x2.2.2.2.2.2.1, x2.2.2.2.2.2.2.1, x2.2.2.2.2.2.2.2.1, x2.2.2.2.2.2.2.2.2.1, x2.2.2.2.2.2.2.2.2.2.1, x2.2.2.2.2.2.2.2.2.2.2.1, x2.2.2.2.2.2.2.2.2.2.2.2.1, x2.2.2.2.2.2.2.2.2.2.2.2.2.1, x2.2.2.2.2.2.2.2.2.2.2.2.2.2.1, x2.2.2.2.2.2.2.2.2.2.2.2.2.2.2.1, x2.2.2.2.2.2.2.2.2.2.2.2.2.2.2.2.1, x2.2.2.2.2.2.2.2.2.2.2.2.2.2.2.2.2.1, x2.2.2.2.2.2.2.2.2.2.2.2.2.2.2.2.2.2.1, x2.2.2.2.2.2.2.2.2.2.2.2.2.2.2.2.2.2.2.1, x2.2.2.2.2.2.2.2.2.2.2.2.2.2.2.2.2.2.2.2.1, x2.2.2.2.2.2.2.2.2.2.2.2.2.2.2.2.2.2.2.2.2.1, x2.2.2.2.2.2.2.2.2.2.2.2.2.2.2.2.2.2.2.2.2.2.1, x2.2.2.2.2.2.2.2.2.2.2.2.2.2.2.2.2.2.2.2.2.2.2.1, x2.2.2.2.2.2.2.2.2.2.2.2.2.2.2.2.2.2.2.2.2.2.2.2.1, x2.2.2.2.2.2.2.2.2.2.2.2.2.2.2.2.2.2.2.2.2.2.2.2.2.1, x2.2.2.2.2.2.2.2.2.2.2.2.2.2.2.2.2.2.2.2.2.2.2.2.2.2.1, x2.2.2.2.2.2.2.2.2.2.2.2.2.2.2.2.2.2.2.2.2.2.2.2.2.2.2.1, x2.2.2.2.2.2.2.2.2.2.2.2.2.2.2.2.2.2.2.2.2.2.2.2.2.2.2.2.1, x2.2.2.2.2.2.2.2.2.2.2.2.2.2.2.2.2.2.2.2.2.2.2.2.2.2.2.2.2.1, x2.2.2.2.2.2.2.2.2.2.2.2.2.2.2.2.2.2.2.2.2.2.2.2.2.2.2.2.2.2.1, x2.2.2.2.2.2.2.2.2.2.2.2.2.2.2.2.2.2.2.2.2.2.2.2.2.2.2.2.2.2.2.1, x2.2.2.2.2.2.2.2.2.2.2.2.2.2.2.2.2.2.2.2.2.2.2.2.2.2.2.2.2.2.2.2] = some true := by
  have h1 := wf_i64 w1
  exact ⟨6000, unit_loads a0 a1 (by omega) _ rfl⟩

end Go.Proofs.YtmkcnbaknnohgaaDoor.Pure
