/- Eval returns what is specified, for every operation and any two numbers. -/
import Derived.Test.YtmkcnbaknnohgaaGAluEvalsx8
namespace Go.Proofs.Ytmkcnbaknnohgaa.Pure
open Go.RowKit Go.Proofs.Ytmkcnbaknnohgaa.GAluEvals Go.Proofs.YtmkcnbaknnohgaaW.PrintWords Go.Proofs.YtmkcnbaknnohgaaW.PrintLast Go.Proofs.YtmkcnbaknnohgaaW.PrintMore
set_option linter.unusedVariables false
set_option linter.unusedSimpArgs false
attribute [local irreducible] shl shr

/-- Numbers that need no wrapping, and two's complement by its lowest bits. -/
theorem w64 {x : Int} (h0 : -9223372036854775808 ≤ x) (h1 : x < 9223372036854775808) : wrap64 x = x := by
  unfold wrap64; omega
theorem w64n {x : Int} (n : Nat) (h : x = n) (hn : n < 9223372036854775808) : wrap64 x = (n : Int) := by
  rw [w64 (by omega) (by omega), h]
theorem wu64 (x : Int) : IntKind.u64.wrap x = x % 18446744073709551616 := by
  simp [IntKind.wrap, IntKind.bits, IntKind.signed]
theorem wf_i64 {x : Int} (h : (Lit.int .i64 x).wf = true) : -9223372036854775808 ≤ x ∧ x < 9223372036854775808 := by
  simp [Lit.wf, IntKind.min, IntKind.max, IntKind.bits, IntKind.signed] at h; omega
theorem p64 : (2 : Int) ^ 64 = 18446744073709551616 := by decide
theorem p_pos (n : Nat) : (0 : Int) < 2 ^ n := Int.pow_pos (by decide)
theorem p_add (a b : Nat) : (2 : Int) ^ (a + b) = 2 ^ a * 2 ^ b := Int.pow_add 2 a b
theorem p_le {a b : Nat} (h : a ≤ b) : (2 : Int) ^ a ≤ 2 ^ b := by
  obtain ⟨c, rfl⟩ := Nat.exists_eq_add_of_le h
  rw [p_add]
  have h1 : (2 : Int) ^ a * 1 ≤ 2 ^ a * 2 ^ c := Int.mul_le_mul_of_nonneg_left (by have := p_pos c; omega) (Int.le_of_lt (p_pos a))
  omega
theorem b62 {i : Nat} (h : i ≤ 62) : (2 : Int) ^ i ≤ 4611686018427387904 := by have := p_le h; rw [show (2 : Int) ^ 62 = 4611686018427387904 from by decide] at this; exact this
theorem b60 {i : Nat} (h : i ≤ 60) : (2 : Int) ^ i ≤ 1152921504606846976 := by have := p_le h; rw [show (2 : Int) ^ 60 = 1152921504606846976 from by decide] at this; exact this
theorem p_succ (n : Nat) : (2 : Int) ^ (n + 1) = 2 * 2 ^ n := by rw [p_add]; omega

/-- The number with a sign that the lowest n bits are. -/
def sgn (v : Int) (n : Nat) : Int := if v % 2 ^ n < 2 ^ (n - 1) then v % 2 ^ n else v % 2 ^ n - 2 ^ n

theorem mod_mod {v : Int} {a b : Nat} (h : a ≤ b) : v % 2 ^ b % 2 ^ a = v % 2 ^ a := by
  obtain ⟨c, rfl⟩ := Nat.exists_eq_add_of_le h
  exact Int.emod_emod_of_dvd v ⟨2 ^ c, p_add a c⟩
theorem sgn_mod {v : Int} {a b : Nat} (h : a ≤ b) : sgn (v % 2 ^ b) a = sgn v a := by
  unfold sgn; rw [mod_mod h]
/-- Sums and products need to be wrapped only once. -/
theorem wrap_add (x c : Int) : wrap64 (x + 18446744073709551616 * c) = wrap64 x := by unfold wrap64; omega
theorem wrap_is (x : Int) : ∃ c, wrap64 x = x + 18446744073709551616 * c := ⟨-((x + 9223372036854775808) / 18446744073709551616), by unfold wrap64; omega⟩
theorem wrap_u64 (x : Int) : wrap64 (x % 18446744073709551616) = wrap64 x := by unfold wrap64; omega
theorem wrap_self {x : Int} (h : -9223372036854775808 ≤ x ∧ x < 9223372036854775808) : wrap64 x = x := w64 h.1 h.2
theorem w32_add (x c : Int) : wrap32 (x + 4294967296 * c) = wrap32 x := by unfold wrap32; omega
theorem w32_of64 (x : Int) : wrap32 (wrap64 x) = wrap32 x := by
  obtain ⟨c, hc⟩ := wrap_is x
  rw [hc, show x + 18446744073709551616 * c = x + 4294967296 * (4294967296 * c) from by omega, w32_add]
theorem w32_range (x : Int) : -2147483648 ≤ wrap32 x ∧ wrap32 x < 2147483648 := by unfold wrap32; omega
theorem w64_of32 (x : Int) : wrap64 (wrap32 x) = wrap32 x := by have := w32_range x; exact w64 (by omega) (by omega)
theorem sgn32 (v : Int) : sgn v 32 = wrap32 v := by
  unfold sgn wrap32
  rw [show (2 : Int) ^ 32 = 4294967296 from by decide, show (2 : Int) ^ (32 - 1) = 2147483648 from by decide]
  split <;> omega
theorem sgn_of_u64 (v : Int) : sgn (v % 18446744073709551616) 32 = wrap32 v := by
  rw [← p64, sgn_mod (by decide), sgn32]

/-- A number's 64 bits. -/
def u64N (N : Int) : Nat := (N % 18446744073709551616).toNat
theorem u64N_eq (N : Int) : IntKind.u64.wrap N = (u64N N : Int) := by rw [wu64]; unfold u64N; omega
theorem u64N_lt (N : Int) : u64N N < 18446744073709551616 := by unfold u64N; omega
theorem u64N_nat (n : Nat) (h : n < 18446744073709551616) : u64N (n : Int) = n := by unfold u64N; omega

theorem bit_l (d : Nat) : ∀ (k : Nat) (v i j : Int), 0 ≤ v → v < 18446744073709551616 → 0 ≤ j → j ≤ i → i < 4611686018427387904 → i - j = d → d < k →
    spinnakerref01_Bit.l0 k v i j = some (v / 2 ^ d % 2) := by
  induction d with
  | zero =>
    intro k v i j h0 h1 hj hji hi hd hk
    obtain ⟨k, rfl⟩ : ∃ m, k = m + 1 := ⟨k - 1, by omega⟩
    simp only [spinnakerref01_Bit.l0]
    rw [if_neg (by omega), Int.tmod_eq_emod_of_nonneg h0, w64 (by omega) (by omega)]
    simp
  | succ d ih =>
    intro k v i j h0 h1 hj hji hi hd hk
    obtain ⟨k, rfl⟩ : ∃ m, k = m + 1 := ⟨k - 1, by omega⟩
    simp only [spinnakerref01_Bit.l0]
    rw [if_pos (by omega), Int.tdiv_eq_ediv_of_nonneg h0, wu64, w64 (x := j + 1) (by omega) (by omega)]
    have hv : v / 2 % 18446744073709551616 = v / 2 := by omega
    rw [hv, ih k (v / 2) i (j + 1) (by omega) (by omega) (by omega) (by omega) hi (by omega) (by omega)]
    rw [p_succ, Int.ediv_ediv_of_nonneg (by decide)]
theorem bit_f (k : Nat) (v i : Int) (h0 : 0 ≤ v) (h1 : v < 18446744073709551616) (hi0 : 0 ≤ i) (hi : i < 4611686018427387904) (hk : i.toNat < k) :
    spinnakerref01_Bit.f k v i = some (v / 2 ^ i.toNat % 2) := by
  unfold spinnakerref01_Bit.f
  exact bit_l i.toNat k v i 0 h0 h1 (by omega) hi0 hi (by omega) hk

theorem bit_n (k N i : Nat) (hN : N < 18446744073709551616) (hi : i < 64) (hk : 64 < k) : spinnakerref01_Bit.f k (N : Int) (i : Int) = some (((N.testBit i).toNat : Nat) : Int) := by
  rw [bit_f k N i (by omega) (by omega) (by omega) (by omega) (by omega), Nat.toNat_testBit]
  simp

theorem power_l (d : Nat) : ∀ (k : Nat) (n p : Int) (i : Nat), n ≤ 63 → p = 2 ^ i → n - i = d → d < k →
    spinnakerref01_Power.l0 k n p i = some (2 ^ n.toNat) := by
  induction d with
  | zero =>
    intro k n p i hn hp hd hk
    obtain ⟨k, rfl⟩ : ∃ m, k = m + 1 := ⟨k - 1, by omega⟩
    simp only [spinnakerref01_Power.l0]
    rw [if_neg (by omega), hp, show n.toNat = i from by omega]
  | succ d ih =>
    intro k n p i hn hp hd hk
    obtain ⟨k, rfl⟩ : ∃ m, k = m + 1 := ⟨k - 1, by omega⟩
    simp only [spinnakerref01_Power.l0]
    have h62 : (2 : Int) ^ i ≤ 4611686018427387904 := b62 (by omega)
    have hpi := p_pos i
    have e1 : 2 * p % 18446744073709551616 = 2 ^ (i + 1) := by
      rw [hp, p_succ]; omega
    have e2 : wrap64 ((i : Int) + 1) = ((i + 1 : Nat) : Int) := by rw [w64 (by omega) (by omega)]; simp
    rw [if_pos (by omega), wu64, e1, e2]
    exact ih k n _ (i + 1) hn rfl (by omega) (by omega)
theorem power_f (k : Nat) (n : Int) (h0 : 0 ≤ n) (hn : n ≤ 63) (hk : 64 < k) : spinnakerref01_Power.f k n = some (2 ^ n.toNat) := by
  unfold spinnakerref01_Power.f
  exact power_l n.toNat k n 1 0 hn (by simp) (by omega) (by omega)
theorem mod_succ (v : Int) (i : Nat) : v % 2 ^ (i + 1) = v % 2 ^ i + 2 ^ i * (v / 2 ^ i % 2) := by
  have a := Int.mul_ediv_add_emod v (2 ^ i)
  have b := Int.mul_ediv_add_emod (v / 2 ^ i) 2
  have c := Int.mul_ediv_add_emod v (2 ^ (i + 1))
  have e : v / 2 ^ (i + 1) = v / 2 ^ i / 2 := by rw [p_add, Int.ediv_ediv_of_nonneg (Int.le_of_lt (p_pos i))]; rfl
  rw [e, p_succ] at c
  generalize v / 2 ^ i = q at a b c ⊢
  generalize v % 2 ^ i = r at a c ⊢
  rw [p_succ]
  generalize q / 2 = s at b c ⊢
  generalize q % 2 = t at b ⊢
  subst b
  rw [Int.mul_add, ← Int.mul_assoc] at a
  have : 2 * (2 : Int) ^ i * s = 2 ^ i * 2 * s := by rw [Int.mul_comm 2]
  rw [this] at c
  omega
theorem ref_sign_l (d : Nat) : ∀ (k : Nat) (v n x p : Int) (i : Nat), 0 ≤ v → v < 18446744073709551616 → 1 ≤ n → n ≤ 60 →
    x = v % 2 ^ i → p = 2 ^ i → n - 1 - i = d → 128 < k + i →
    spinnakerref01_Sign.l0 k v n x p i = some (sgn v n.toNat) := by
  induction d with
  | zero =>
    intro k v n x p i h0 h1 hn1 hn hx hp hd hk
    obtain ⟨k, rfl⟩ : ∃ m, k = m + 1 := ⟨k - 1, by omega⟩
    simp only [spinnakerref01_Sign.l0]
    rw [w64 (x := n - 1) (by omega) (by omega), if_neg (by omega), bit_f k v (n - 1) h0 h1 (by omega) (by omega) (by omega)]
    simp only [Option.bind_some]
    have hni : n.toNat = i + 1 := by omega
    have hni' : (n - 1).toNat = i := by omega
    have hb0 := Int.emod_nonneg (v / 2 ^ i) (show (2 : Int) ≠ 0 by decide)
    have hb1 := Int.emod_lt_of_pos (v / 2 ^ i) (show (0 : Int) < 2 by decide)
    have hm0 := Int.emod_nonneg v (Int.ne_of_gt (p_pos i))
    have hm1 := Int.emod_lt_of_pos v (p_pos i)
    have hs := mod_succ v i
    have hpi := p_pos i
    have h60 : (2 : Int) ^ i ≤ 1152921504606846976 := b60 (by omega)
    rw [hni', hni, hx, hp]
    unfold sgn
    rw [show i + 1 - 1 = i from rfl, hs, p_succ]
    generalize v / 2 ^ i % 2 = b at *
    have hb : b = 0 ∨ b = 1 := by omega
    rcases hb with rfl | rfl
    · rw [Int.mul_zero, Int.add_zero, if_pos hm1, w64 (x := 0) (by decide) (by decide), Int.sub_zero, w64 (by omega) (by omega)]
    · rw [Int.mul_one, if_neg (by omega), w64 (x := 2 ^ i) (by omega) (by omega), w64 (by omega) (by omega)]
      congr 1; omega
  | succ d ih =>
    intro k v n x p i h0 h1 hn1 hn hx hp hd hk
    obtain ⟨k, rfl⟩ : ∃ m, k = m + 1 := ⟨k - 1, by omega⟩
    simp only [spinnakerref01_Sign.l0]
    rw [w64 (x := n - 1) (by omega) (by omega), if_pos (by omega), bit_f k v i h0 h1 (by omega) (by omega) (by omega)]
    simp only [Option.bind_some]
    have hb0 := Int.emod_nonneg (v / 2 ^ i) (show (2 : Int) ≠ 0 by decide)
    have hb1 := Int.emod_lt_of_pos (v / 2 ^ i) (show (0 : Int) < 2 by decide)
    have hm0 := Int.emod_nonneg v (Int.ne_of_gt (p_pos i))
    have hm1 := Int.emod_lt_of_pos v (p_pos i)
    have hs := mod_succ v i
    have hpi := p_pos i
    have h60 : (2 : Int) ^ i ≤ 1152921504606846976 := b60 (by omega)
    have hi' : ((i : Int)).toNat = i := by omega
    rw [hi']
    have e1 : wrap64 (x + wrap64 (p * (v / 2 ^ i % 2))) = v % 2 ^ (i + 1) := by
      rw [hs, hx, hp]
      generalize v / 2 ^ i % 2 = b at *
      have hb : b = 0 ∨ b = 1 := by omega
      rcases hb with rfl | rfl
      · rw [Int.mul_zero, w64 (x := 0) (by decide) (by decide), Int.add_zero, w64 (by omega) (by omega)]
      · rw [Int.mul_one, w64 (x := 2 ^ i) (by omega) (by omega), w64 (by omega) (by omega)]
    have e2 : wrap64 (2 * p) = 2 ^ (i + 1) := by rw [hp, p_succ, w64 (by omega) (by omega)]
    have e3 : wrap64 ((i : Int) + 1) = ((i + 1 : Nat) : Int) := by rw [w64 (by omega) (by omega)]; simp
    rw [e1, e2, e3]
    clear e1 e2 e3 h60 hs hpi hm0 hm1 hb0 hb1
    exact ih k v n _ _ (i + 1) h0 h1 hn1 hn rfl rfl (by omega) (by omega)
theorem ref_sign (k : Nat) (v n : Int) (h0 : 0 ≤ v) (h1 : v < 18446744073709551616) (hn1 : 1 ≤ n) (hn : n ≤ 60) (hk : 200 < k) :
    spinnakerref01_Sign.f k v n = some (sgn v n.toNat) := by
  unfold spinnakerref01_Sign.f
  exact ref_sign_l (n - 1).toNat k v n 0 1 0 h0 h1 hn1 hn (by simp) (by simp) (by omega) (by omega)

/-- Numbers by their bits. -/
theorem wrap_of_bits {x y : Int} (h : ∀ i, i < 64 → (u64N x).testBit i = (u64N y).testBit i) : wrap64 x = wrap64 y := by
  have h64 : (2 : Nat) ^ 64 = 18446744073709551616 := by decide
  have e : u64N x = u64N y := by
    apply Nat.eq_of_testBit_eq
    intro i
    by_cases hi : i < 64
    · exact h i hi
    · have hp := Nat.pow_le_pow_right (show 0 < 2 by decide) (show 64 ≤ i by omega)
      rw [Nat.testBit_lt_two_pow (Nat.lt_of_lt_of_le (u64N_lt x) (h64 ▸ hp)), Nat.testBit_lt_two_pow (Nat.lt_of_lt_of_le (u64N_lt y) (h64 ▸ hp))]
  unfold u64N at e
  unfold wrap64
  omega
theorem w32_of_bits {x y : Int} (h : ∀ i, i < 32 → (u64N x).testBit i = (u64N y).testBit i) : wrap32 x = wrap32 y := by
  have e : u64N x % 2 ^ 32 = u64N y % 2 ^ 32 := by
    apply Nat.eq_of_testBit_eq
    intro i
    rw [Nat.testBit_mod_two_pow, Nat.testBit_mod_two_pow]
    by_cases hi : i < 32
    · rw [h i hi]
    · simp [hi]
  rw [show (2 : Nat) ^ 32 = 4294967296 from by decide] at e
  unfold u64N at e
  unfold wrap32
  omega
theorem bits_of_w32 {x y : Int} (h : x % 4294967296 = y % 4294967296) (i : Nat) (hi : i < 32) : (u64N x).testBit i = (u64N y).testBit i := by
  have e : u64N x % 2 ^ 32 = u64N y % 2 ^ 32 := by
    rw [show (2 : Nat) ^ 32 = 4294967296 from by decide]
    unfold u64N
    omega
  have h2 : (u64N x % 2 ^ 32).testBit i = (u64N y % 2 ^ 32).testBit i := by rw [e]
  rw [Nat.testBit_mod_two_pow, Nat.testBit_mod_two_pow, decide_eq_true hi, Bool.true_and, Bool.true_and] at h2
  exact h2
theorem bit_neg (m i : Nat) (hm : m < 18446744073709551616) (hi : i < 64) : (u64N (-((m : Int) + 1))).testBit i = !m.testBit i := by
  have h64 : (2 : Nat) ^ 64 = 18446744073709551616 := by decide
  have e : u64N (-((m : Int) + 1)) = 2 ^ 64 - (m + 1) := by rw [h64]; unfold u64N; omega
  rw [e, Nat.testBit_two_pow_sub_succ (by rw [h64]; exact hm)]
  simp [hi]
theorem high_none (m j : Nat) (hm : m < 9223372036854775808) (hj : 63 ≤ j) : m.testBit j = false := by
  have h63 : (2 : Nat) ^ 63 = 9223372036854775808 := by decide
  have hp := Nat.pow_le_pow_right (show 0 < 2 by decide) hj
  exact Nat.testBit_lt_two_pow (Nat.lt_of_lt_of_le (h63 ▸ hm) hp)
theorem bit_sar (x : Int) (hx : -9223372036854775808 ≤ x ∧ x < 9223372036854775808) (n i : Nat) (hi : i < 64) : (u64N (x / 2 ^ n)).testBit i = (u64N x).testBit (min (i + n) 63) := by
  by_cases h0 : 0 ≤ x
  · obtain ⟨m, rfl⟩ := Int.eq_ofNat_of_zero_le h0
    have e : (m : Int) / 2 ^ n = ((m / 2 ^ n : Nat) : Int) := by simp
    have hle := Nat.div_le_self m (2 ^ n)
    rw [e, u64N_nat _ (by omega), u64N_nat _ (by omega), Nat.testBit_div_two_pow]
    by_cases h : i + n ≤ 63
    · rw [Nat.min_eq_left h]
    · rw [Nat.min_eq_right (by omega), high_none m _ (by omega) (by omega), high_none m _ (by omega) (by omega)]
  · obtain ⟨m, hm⟩ : ∃ m : Nat, x = -((m : Int) + 1) := ⟨(-x - 1).toNat, by omega⟩
    subst hm
    have e : -((m : Int) + 1) / 2 ^ n = -(((m / 2 ^ n : Nat) : Int) + 1) := by
      have h := Int.negSucc_ediv m (b := 2 ^ n) (Int.pow_pos (by decide))
      rw [show Int.negSucc m = -((m : Int) + 1) from rfl] at h
      rw [h]
      simp
      rfl
    have hle := Nat.div_le_self m (2 ^ n)
    rw [e, bit_neg _ i (by omega) hi, bit_neg m _ (by omega) (by omega), Nat.testBit_div_two_pow]
    by_cases h : i + n ≤ 63
    · rw [Nat.min_eq_left h]
    · rw [Nat.min_eq_right (by omega), high_none m _ (by omega) (by omega), high_none m _ (by omega) (by omega)]
theorem sar_32 (x : Int) (hx : -2147483648 ≤ x ∧ x < 2147483648) : x / 2 ^ 31 = x / 2 ^ 63 := by
  rw [show (2 : Int) ^ 31 = 2147483648 from by decide, show (2 : Int) ^ 63 = 9223372036854775808 from by decide]
  omega
theorem bit_sext (a : Int) (j : Nat) (hj : j < 64) : (u64N (wrap32 a)).testBit j = (u64N a).testBit (min j 31) := by
  have hr := w32_range a
  have low : ∀ i, i < 32 → (u64N (wrap32 a)).testBit i = (u64N a).testBit i := fun i hi => bits_of_w32 (by unfold wrap32; omega) i hi
  by_cases h : j < 32
  · rw [low j h]; congr 1; omega
  · rw [show min j 31 = 31 from by omega, ← low 31 (by decide)]
    have h1 := bit_sar (wrap32 a) (by omega) 31 (j - 31) (by omega)
    have h2 := bit_sar (wrap32 a) (by omega) 31 0 (by omega)
    have h3 := bit_sar (wrap32 a) (by omega) 63 (j - 31) (by omega)
    have h4 := bit_sar (wrap32 a) (by omega) 63 0 (by omega)
    rw [sar_32 _ hr] at h1 h2
    rw [show min (j - 31 + 31) 63 = j from by omega] at h1
    rw [show min (0 + 31) 63 = 31 from by omega] at h2
    rw [show min (j - 31 + 63) 63 = 63 from by omega] at h3
    rw [show min (0 + 63) 63 = 63 from by omega] at h4
    rw [← h1, ← h2, h3, h4]
theorem bit_shl (a : Int) (n i : Nat) (hi : i < 64) : (u64N (a * 2 ^ n)).testBit i = (decide (n ≤ i) && (u64N a).testBit (i - n)) := by
  have h64 : (2 : Nat) ^ 64 = 18446744073709551616 := by decide
  have e : u64N (a * 2 ^ n) = u64N a * 2 ^ n % 2 ^ 64 := by
    have h1 : ((u64N (a * 2 ^ n) : Nat) : Int) = ((u64N a * 2 ^ n % 2 ^ 64 : Nat) : Int) := by
      rw [Int.natCast_emod, Int.natCast_mul, h64]
      have e1 : ((u64N a : Nat) : Int) = a % 18446744073709551616 := by unfold u64N; omega
      have e2 : ((u64N (a * 2 ^ n) : Nat) : Int) = (a * 2 ^ n) % 18446744073709551616 := by unfold u64N; omega
      have e3 : ((2 ^ n : Nat) : Int) = 2 ^ n := by simp
      rw [e1, e2, e3, show ((18446744073709551616 : Nat) : Int) = 18446744073709551616 from rfl]
      exact (Int.mul_emod a (2 ^ n) _).trans ((Int.mul_emod (a % 18446744073709551616) (2 ^ n) _).trans (by rw [Int.emod_emod])).symm
    exact Int.ofNat.inj h1
  rw [e, Nat.testBit_mod_two_pow, Nat.testBit_mul_two_pow]
  simp [hi]
/-- The upper half of a product without signs, out of halves of its factors. -/
theorem mul_high (A B : Nat) (hA : A < 18446744073709551616) (hB : B < 18446744073709551616) :
    A * B / 18446744073709551616 = (A / 4294967296) * (B / 4294967296) + ((A / 4294967296) * (B % 4294967296) + (A % 4294967296) * (B % 4294967296) / 4294967296) / 4294967296
      + (((A / 4294967296) * (B % 4294967296) + (A % 4294967296) * (B % 4294967296) / 4294967296) % 4294967296 + (A % 4294967296) * (B / 4294967296)) / 4294967296 := by
  have hAB : A * B = (A / 4294967296) * (B / 4294967296) * 18446744073709551616 + (A / 4294967296) * (B % 4294967296) * 4294967296 + (A % 4294967296) * (B / 4294967296) * 4294967296 + (A % 4294967296) * (B % 4294967296) := by
    have e1 : A = 4294967296 * (A / 4294967296) + A % 4294967296 := (Nat.div_add_mod A 4294967296).symm
    have e2 : B = 4294967296 * (B / 4294967296) + B % 4294967296 := (Nat.div_add_mod B 4294967296).symm
    generalize A / 4294967296 = a1 at *
    generalize A % 4294967296 = a0 at *
    generalize B / 4294967296 = b1 at *
    generalize B % 4294967296 = b0 at *
    subst e1; subst e2
    rw [Nat.add_mul, Nat.mul_add, Nat.mul_add]
    have f1 : 4294967296 * a1 * (4294967296 * b1) = a1 * b1 * 18446744073709551616 := by
      rw [Nat.mul_mul_mul_comm, Nat.mul_comm]
    have f2 : 4294967296 * a1 * b0 = a1 * b0 * 4294967296 := by rw [Nat.mul_assoc, Nat.mul_comm]
    have f3 : a0 * (4294967296 * b1) = a0 * b1 * 4294967296 := by rw [Nat.mul_left_comm, Nat.mul_comm]
    rw [f1, f2, f3]
    omega
  rw [hAB]
  generalize (A / 4294967296) * (B / 4294967296) = p11
  generalize (A / 4294967296) * (B % 4294967296) = p10
  generalize (A % 4294967296) * (B / 4294967296) = p01
  generalize (A % 4294967296) * (B % 4294967296) = p00
  omega

theorem bind_at {α β : Type} {o : Option α} {v : α} (h : o = some v) {g : α → Option β} {r : Option β} (hg : g v = r) : o.bind g = r := by
  rw [h]; exact hg
theorem and64 (a b : Nat) (ha : a < 2 ^ 64) (hb : b < 2 ^ 64) : Go.bits .and .u64 (a : Int) (b : Int) = ((a &&& b : Nat) : Int) :=
  (Go.bits_nat .u64 64 (by decide) (fun n h0 h1 => by rw [wu64, show (18446744073709551616 : Int) = 2 ^ 64 from by decide]; exact Int.emod_eq_of_lt h0 h1) a b ha hb).1
/-- The number that some bits are. -/
def sumB (b : Nat → Bool) : Nat → Nat
  | 0 => 0
  | i + 1 => sumB b i + (b i).toNat * 2 ^ i
theorem sumB_lt (b : Nat → Bool) (i : Nat) : sumB b i < 2 ^ i := by
  induction i with
  | zero => exact Nat.zero_lt_one
  | succ i ih =>
    have h : (b i).toNat * 2 ^ i ≤ 2 ^ i := by
      have := Nat.mul_le_mul_right (2 ^ i) (Bool.toNat_le (b i))
      rwa [Nat.one_mul] at this
    unfold sumB
    rw [Nat.pow_succ]
    omega
theorem sumB_bit (b : Nat → Bool) (i j : Nat) : (sumB b i).testBit j = (decide (j < i) && b j) := by
  induction i with
  | zero => simp [sumB]
  | succ i ih =>
    unfold sumB
    cases hb : b i
    · rw [Bool.toNat_false, Nat.zero_mul, Nat.add_zero, ih]
      by_cases h : j = i
      · subst h; simp [hb]
      · have : (j < i + 1) = (j < i) := by rw [eq_iff_iff]; omega
        simp [this]
    · have e := Nat.two_pow_add_eq_or_of_lt (sumB_lt b i) 1
      rw [Bool.toNat_true, Nat.one_mul, Nat.add_comm, show 2 ^ i + sumB b i = 2 ^ i ||| sumB b i from by rwa [Nat.mul_one] at e, Nat.testBit_or, ih, Nat.testBit_two_pow]
      by_cases h : j = i
      · subst h; simp [hb]
      · have : (j < i + 1) = (j < i) := by rw [eq_iff_iff]; omega
        simp [this, show ¬ i = j from fun e => h e.symm]
theorem rd_at {l : List Int} {i : Nat} {v : Int} (h : l[i]? = some v) : rd l (i : Int) = v := by
  unfold rd
  simp [h]
theorem num_l (b : Nat → Bool) (L : List Int) (hl : L.length = 64) (hL : ∀ j, j < 64 → L[j]? = some ((b j).toNat : Int)) (d : Nat) : ∀ (k i : Nat), i + d = 64 → 200 + d < k →
    spinnakerref07_num.l0 k L ((sumB b i : Nat) : Int) i = some (wrap64 ((sumB b 64 : Nat) : Int)) := by
  have h64 : (2 : Nat) ^ 64 = 18446744073709551616 := by decide
  induction d with
  | zero =>
    intro k i hi hk
    obtain ⟨k, rfl⟩ : ∃ m, k = m + 1 := ⟨k - 1, by omega⟩
    simp only [spinnakerref07_num.l0]
    rw [if_neg (by omega), show i = 64 from by omega]
  | succ d ih =>
    intro k i hi hk
    obtain ⟨k, rfl⟩ : ∃ m, k = m + 1 := ⟨k - 1, by omega⟩
    simp only [spinnakerref07_num.l0]
    rw [if_pos (by omega), if_pos (by omega), if_pos (by omega)]
    refine bind_at (power_f k _ (by omega) (by omega) (by omega)) ?_
    rw [rd_at (hL i (by omega)), w64n (x := (i : Int) + 1) (i + 1) (by omega) (by omega)]
    have hp : (2 : Int) ^ ((i : Int)).toNat = ((2 ^ i : Nat) : Int) := by simp
    have hs := sumB_lt b (i + 1)
    have h2 := Nat.pow_le_pow_right (show 0 < 2 by decide) (show i + 1 ≤ 64 by omega)
    have hd : sumB b (i + 1) = sumB b i + (b i).toNat * 2 ^ i := rfl
    have hle : (b i).toNat * 2 ^ i ≤ sumB b (i + 1) := by rw [hd]; exact Nat.le_add_left _ _
    have hb1 := Bool.toNat_le (b i)
    have e : IntKind.u64.wrap (((sumB b i : Nat) : Int) + IntKind.u64.wrap (IntKind.u64.wrap (((b i).toNat : Nat) : Int) * (2 : Int) ^ ((i : Int)).toNat)) = ((sumB b (i + 1) : Nat) : Int) := by
      rw [hp, wu64, wu64, wu64, Int.emod_eq_of_lt (a := (((b i).toNat : Nat) : Int)) (by omega) (by omega), ← Int.natCast_mul]
      generalize (b i).toNat * 2 ^ i = Z at hd hle
      omega
    rw [e]
    exact ih k (i + 1) (by omega) (by omega)
theorem num_f (b : Nat → Bool) (L : List Int) (hl : L.length = 64) (hL : ∀ j, j < 64 → L[j]? = some ((b j).toNat : Int)) (k : Nat) (hk : 300 < k) : spinnakerref07_num.f k L = some (wrap64 ((sumB b 64 : Nat) : Int)) := by
  unfold spinnakerref07_num.f
  exact num_l b L hl hL 64 k 0 (by omega) (by omega)
/-- A moved number's bits. -/
def mvB (A n : Nat) (up inn : Bool) (w j : Nat) : Bool :=
  decide (j < w) && (if up = true then (if n ≤ j then A.testBit (j - n) else inn) else (if j + n < w then A.testBit (j + n) else inn))
theorem moved_l (a : Int) (n : Nat) (hn : n < 64) (up inn : Bool) (w : Nat) (hw : w ≤ 64) (d : Nat) : ∀ (k i : Nat) (L : List Int), i + d = w → 400 + d < k → L.length = 64 →
    (∀ j, j < 64 → L[j]? = some (((decide (j < i) && mvB (u64N a) n up inn w j).toNat : Nat) : Int)) →
    spinnakerref07_moved.l0 k a n up ((inn.toNat : Nat) : Int) w L i = some (wrap64 ((sumB (mvB (u64N a) n up inn w) 64 : Nat) : Int)) := by
  induction d with
  | zero =>
    intro k i L hi hk hl hL
    obtain ⟨k, rfl⟩ : ∃ m, k = m + 1 := ⟨k - 1, by omega⟩
    simp only [spinnakerref07_moved.l0]
    rw [if_neg (by omega)]
    refine bind_at (num_f (mvB (u64N a) n up inn w) L hl (fun j hj => ?_) k (by omega)) rfl
    rw [hL j hj]
    by_cases h : j < i
    · simp [h]
    · have : mvB (u64N a) n up inn w j = false := by unfold mvB; rw [decide_eq_false (by omega)]; rfl
      rw [this, Bool.and_false]
  | succ d ih =>
    intro k i L hi hk hl hL
    obtain ⟨k, rfl⟩ : ∃ m, k = m + 1 := ⟨k - 1, by omega⟩
    -- a row with one more cell right
    have put : ∀ (L' : List Int) (v : Bool), L'.length = 64 → (∀ j, j < 64 → j ≠ i → L'[j]? = L[j]?) → L'[i]? = some ((v.toNat : Nat) : Int) → v = mvB (u64N a) n up inn w i →
        spinnakerref07_moved.l0 k a n up ((inn.toNat : Nat) : Int) w L' ((i + 1 : Nat) : Int) = some (wrap64 ((sumB (mvB (u64N a) n up inn w) 64 : Nat) : Int)) := by
      intro L' v hl' ho hv hm
      refine ih k (i + 1) L' (by omega) (by omega) hl' fun j hj => ?_
      by_cases h : j = i
      · subst h
        rw [hv, hm, decide_eq_true (show j < j + 1 by omega), Bool.true_and]
      · rw [ho j hj h, hL j hj]
        have : (j < i + 1) = (j < i) := by rw [eq_iff_iff]; omega
        simp [this]
    have hset : ∀ (M : List Int) (v : Int) (j : Nat), j ≠ i → (M.set i v)[j]? = M[j]? := fun M v j hj => by rw [List.getElem?_set]; simp [show ¬ i = j from fun e => hj e.symm]
    have hset2 : ∀ (M : List Int) (v : Int), M.length = 64 → (M.set i v)[i]? = some v := fun M v hM => by rw [List.getElem?_set]; simp [hM, show i < 64 by omega]
    simp only [spinnakerref07_moved.l0]
    rw [if_pos (by omega), w64n (x := (i : Int) + 1) (i + 1) (by omega) (by omega)]
    cases up
    · rw [if_neg (by decide), if_pos (by omega), if_pos (by omega)]
      refine bind_at (v := L.set i ((inn.toNat : Nat) : Int)) rfl ?_
      rw [w64n (x := (i : Int) + n) (i + n) (by omega) (by omega), if_pos (by omega)]
      by_cases h : i + n < w
      · rw [if_pos (by omega), u64N_eq]
        refine bind_at (bit_n k (u64N a) (i + n) (u64N_lt a) (by omega) (by omega)) ?_
        refine put _ ((u64N a).testBit (i + n)) (by simp [hl]) (fun j hj hne => by rw [show ((i : Int)).toNat = i from rfl, hset _ _ j hne, hset _ _ j hne]) (by rw [show ((i : Int)).toNat = i from rfl, hset2 _ _ (by simp [hl])]) ?_
        unfold mvB
        rw [decide_eq_true (show i < w by omega), Bool.true_and, if_neg (by decide), if_pos h]
      · rw [if_neg (by omega)]
        refine put _ inn (by simp [hl]) (fun j hj hne => hset _ _ j hne) (hset2 _ _ hl) ?_
        unfold mvB
        rw [decide_eq_true (show i < w by omega), Bool.true_and, if_neg (by decide), if_neg h]
    · rw [if_pos rfl, if_pos (by omega), if_pos (by omega)]
      refine bind_at (v := L.set i ((inn.toNat : Nat) : Int)) rfl ?_
      rw [w64 (x := (i : Int) - n) (by omega) (by omega)]
      by_cases h : n ≤ i
      · rw [if_pos (by omega), if_pos (by omega), u64N_eq, show (i : Int) - n = ((i - n : Nat) : Int) from by omega]
        refine bind_at (bit_n k (u64N a) (i - n) (u64N_lt a) (by omega) (by omega)) ?_
        refine put _ ((u64N a).testBit (i - n)) (by simp [hl]) (fun j hj hne => by rw [show ((i : Int)).toNat = i from rfl, hset _ _ j hne, hset _ _ j hne]) (by rw [show ((i : Int)).toNat = i from rfl, hset2 _ _ (by simp [hl])]) ?_
        unfold mvB
        rw [decide_eq_true (show i < w by omega), Bool.true_and, if_pos rfl, if_pos h]
      · rw [if_neg (by omega)]
        refine put _ inn (by simp [hl]) (fun j hj hne => hset _ _ j hne) (hset2 _ _ hl) ?_
        unfold mvB
        rw [decide_eq_true (show i < w by omega), Bool.true_and, if_pos rfl, if_neg h]
theorem moved_f (a : Int) (n : Nat) (hn : n < 64) (up inn : Bool) (w : Nat) {n' i' w' : Int} (en : n' = n) (ei : i' = ((inn.toNat : Nat) : Int)) (ew : w' = w) (hw : w ≤ 64) (k : Nat) (hk : 500 < k) :
    ∃ N : Nat, spinnakerref07_moved.f k a n' up i' w' = some (wrap64 (N : Int)) ∧ N < 18446744073709551616 ∧ ∀ j, j < 64 → N.testBit j = mvB (u64N a) n up inn w j := by
  have h64 : (2 : Nat) ^ 64 = 18446744073709551616 := by decide
  subst en; subst ei; subst ew
  unfold spinnakerref07_moved.f
  rw [if_pos (by decide)]
  refine ⟨_, moved_l a n hn up inn w hw w k 0 (List.replicate 64 0) (by omega) (by omega) (by simp) (fun j hj => ?_), h64 ▸ sumB_lt _ 64, fun j hj => ?_⟩
  · rw [decide_eq_false (show ¬ j < 0 by omega), Bool.false_and, List.getElem?_replicate, if_pos hj]; rfl
  · rw [sumB_bit, decide_eq_true hj, Bool.true_and]
theorem shl_i (a : Int) (n : Nat) (hn : n < 64) : shl .i64 a n = wrap64 (a * 2 ^ n) := by
  unfold shl
  rw [show IntKind.i64.bits = 64 from rfl, show ((n : Int)).toNat = n from by omega, Nat.min_eq_left (by omega), i64_w]
theorem shr_k (k : IntKind) (a : Int) (n : Nat) (hn : n ≤ k.bits) : shr k a n = a / 2 ^ n := by
  unfold shr
  rw [show ((n : Int)).toNat = n from by omega, Nat.min_eq_left hn]
/-- The places that a number is moved by. -/
theorem places (b : Int) (m M : Nat) (hM : 2 ^ m = M) (hm : m ≤ 6) {M1 : Int} (e1 : M1 = ((M - 1 : Nat) : Int)) {M2 : Int} (e2 : M2 = (M : Int)) :
    Go.bits .and .u64 (IntKind.u64.wrap b) M1 = ((u64N b % M : Nat) : Int) ∧ wrap64 (Int.tmod (IntKind.u64.wrap b) M2) = ((u64N b % M : Nat) : Int) := by
  have h64 : (2 : Nat) ^ 64 = 18446744073709551616 := by decide
  have hp : M ≤ 64 := by rw [← hM]; exact Nat.pow_le_pow_right (by decide) hm
  have h0 : 0 < M := by rw [← hM]; exact Nat.two_pow_pos m
  have hlt := Nat.mod_lt (u64N b) h0
  subst e1; subst e2
  rw [u64N_eq]
  constructor
  · rw [and64 _ _ (h64 ▸ u64N_lt b) (by omega), ← hM, Nat.and_two_pow_sub_one_eq_mod]
  · rw [Int.tmod_eq_emod_of_nonneg (by omega), ← Int.natCast_emod]
    exact w64n _ rfl (by omega)
theorem same_sll (a : Int) (n : Nat) (hn : n < 64) (k : Nat) (hk : 500 < k) : spinnakerref07_moved.f k a n true 0 64 = some (shl .i64 a n) := by
  obtain ⟨N, e, hN, hb⟩ := moved_f a n hn true false 64 (n' := n) (i' := 0) (w' := 64) rfl rfl rfl (by decide) k hk
  rw [e, shl_i a n hn]
  refine congrArg some (wrap_of_bits fun i hi => ?_)
  rw [u64N_nat N hN, hb i hi, bit_shl a n i hi]
  unfold mvB
  rw [decide_eq_true hi, Bool.true_and, if_pos rfl]
  by_cases h : n ≤ i
  · rw [if_pos h, decide_eq_true h, Bool.true_and]
  · rw [if_neg h, decide_eq_false h, Bool.false_and]
theorem same_srl (a : Int) (n : Nat) (hn : n < 64) (k : Nat) (hk : 500 < k) : spinnakerref07_moved.f k a n false 0 64 = some (wrap64 (shr .u64 (IntKind.u64.wrap a) n)) := by
  have h64 : (2 : Nat) ^ 64 = 18446744073709551616 := by decide
  obtain ⟨N, e, hN, hb⟩ := moved_f a n hn false false 64 (n' := n) (i' := 0) (w' := 64) rfl rfl rfl (by decide) k hk
  rw [e, shr_k .u64 _ n (by show n ≤ 64; omega), u64N_eq]
  refine congrArg some (wrap_of_bits fun i hi => ?_)
  have hle := Nat.div_le_self (u64N a) (2 ^ n)
  have hlt := u64N_lt a
  rw [u64N_nat N hN, hb i hi, show ((u64N a : Nat) : Int) / 2 ^ n = ((u64N a / 2 ^ n : Nat) : Int) from by simp, u64N_nat _ (by omega), Nat.testBit_div_two_pow]
  unfold mvB
  rw [decide_eq_true hi, Bool.true_and, if_neg (by decide)]
  by_cases h : i + n < 64
  · rw [if_pos h]
  · rw [if_neg h]
    have hp := Nat.pow_le_pow_right (show 0 < 2 by decide) (show 64 ≤ i + n by omega)
    exact (Nat.testBit_lt_two_pow (Nat.lt_of_lt_of_le (h64 ▸ hlt) hp)).symm
theorem bit_of (k : Nat) (a : Int) (p : Nat) {p' : Int} (ep : p' = p) (hp : p < 64) (hk : 100 < k) : spinnakerref01_Bit.f k (IntKind.u64.wrap a) p' = some ((((u64N a).testBit p).toNat : Nat) : Int) := by
  subst ep
  rw [u64N_eq]
  exact bit_n k (u64N a) p (u64N_lt a) hp (by omega)
theorem sar_range (a : Int) (ha : -9223372036854775808 ≤ a ∧ a < 9223372036854775808) (n : Nat) : -9223372036854775808 ≤ a / 2 ^ n ∧ a / 2 ^ n < 9223372036854775808 := by
  have hp := p_pos n
  generalize (2 : Int) ^ n = p at hp
  exact ⟨Int.le_ediv_of_mul_le hp (by omega), Int.ediv_lt_of_lt_mul hp (by omega)⟩
theorem same_sra (a : Int) (ha : -9223372036854775808 ≤ a ∧ a < 9223372036854775808) (n : Nat) (hn : n < 64) (k : Nat) (hk : 500 < k) : spinnakerref07_moved.f k a n false ((((u64N a).testBit 63).toNat : Nat) : Int) 64 = some (shr .i64 a n) := by
  obtain ⟨N, e, hN, hb⟩ := moved_f a n hn false ((u64N a).testBit 63) 64 (n' := n) (w' := 64) rfl rfl rfl (by decide) k hk
  have hr := sar_range a ha n
  rw [e, shr_k .i64 a n (by show n ≤ 64; omega)]
  refine congrArg some ((wrap_of_bits (y := a / 2 ^ n) fun i hi => ?_).trans (wrap_self hr))
  rw [u64N_nat N hN, hb i hi, bit_sar a ha n i hi]
  unfold mvB
  rw [decide_eq_true hi, Bool.true_and, if_neg (by decide)]
  by_cases h : i + n < 64
  · rw [if_pos h, Nat.min_eq_left (by omega)]
  · rw [if_neg h, Nat.min_eq_right (by omega)]
theorem same_sllw (a : Int) (n : Nat) (hn : n < 32) (k : Nat) (hk : 500 < k) : ∃ t, spinnakerref07_moved.f k a n true 0 32 = some t ∧ wrap32 t = wrap32 (shl .i64 a n) := by
  obtain ⟨N, e, hN, hb⟩ := moved_f a n (by omega) true false 32 (n' := n) (i' := 0) (w' := 32) rfl rfl rfl (by decide) k hk
  refine ⟨_, e, ?_⟩
  rw [shl_i a n (by omega), w32_of64, w32_of64]
  refine w32_of_bits fun i hi => ?_
  rw [u64N_nat N hN, hb i (by omega), bit_shl a n i (by omega)]
  unfold mvB
  rw [decide_eq_true hi, Bool.true_and, if_pos rfl]
  by_cases h : n ≤ i
  · rw [if_pos h, decide_eq_true h, Bool.true_and]
  · rw [if_neg h, decide_eq_false h, Bool.false_and]
theorem same_srlw (a : Int) (n : Nat) (hn : n < 32) (k : Nat) (hk : 500 < k) : ∃ t, spinnakerref07_moved.f k a n false 0 32 = some t ∧ wrap32 t = wrap32 (shr .u32 (a % 4294967296) n) := by
  have h32 : (2 : Nat) ^ 32 = 4294967296 := by decide
  obtain ⟨N, e, hN, hb⟩ := moved_f a n (by omega) false false 32 (n' := n) (i' := 0) (w' := 32) rfl rfl rfl (by decide) k hk
  refine ⟨_, e, ?_⟩
  rw [shr_k .u32 _ n (by show n ≤ 32; omega), w32_of64]
  refine w32_of_bits fun i hi => ?_
  have ea : a % 4294967296 = ((u64N a % 2 ^ 32 : Nat) : Int) := by rw [h32]; unfold u64N; omega
  have hlt : u64N a % 2 ^ 32 < 2 ^ 32 := Nat.mod_lt _ (by decide)
  have hle := Nat.div_le_self (u64N a % 2 ^ 32) (2 ^ n)
  rw [u64N_nat N hN, hb i (by omega), ea, show ((u64N a % 2 ^ 32 : Nat) : Int) / 2 ^ n = ((u64N a % 2 ^ 32 / 2 ^ n : Nat) : Int) from by simp, u64N_nat _ (by omega), Nat.testBit_div_two_pow, Nat.testBit_mod_two_pow]
  unfold mvB
  rw [decide_eq_true hi, Bool.true_and, if_neg (by decide)]
  by_cases h : i + n < 32
  · rw [if_pos h, decide_eq_true h, Bool.true_and]
  · rw [if_neg h, decide_eq_false h, Bool.false_and]
theorem same_sraw (a : Int) (n : Nat) (hn : n < 32) (k : Nat) (hk : 500 < k) : ∃ t, spinnakerref07_moved.f k a n false ((((u64N a).testBit 31).toNat : Nat) : Int) 32 = some t ∧ wrap32 t = shr .i64 (wrap32 a) n := by
  obtain ⟨N, e, hN, hb⟩ := moved_f a n (by omega) false ((u64N a).testBit 31) 32 (n' := n) (w' := 32) rfl rfl rfl (by decide) k hk
  refine ⟨_, e, ?_⟩
  have hr := w32_range a
  have hp := p_pos n
  have h2 : -2147483648 ≤ wrap32 a / 2 ^ n ∧ wrap32 a / 2 ^ n < 2147483648 := by
    generalize (2 : Int) ^ n = p at hp
    exact ⟨Int.le_ediv_of_mul_le hp (by omega), Int.ediv_lt_of_lt_mul hp (by omega)⟩
  rw [shr_k .i64 _ n (by show n ≤ 64; omega), w32_of64]
  refine (w32_of_bits (y := wrap32 a / 2 ^ n) fun i hi => ?_).trans (by unfold wrap32 at h2 ⊢; omega)
  rw [u64N_nat N hN, hb i (by omega), bit_sar _ (by omega) n i (by omega), bit_sext a _ (by omega)]
  unfold mvB
  rw [decide_eq_true hi, Bool.true_and, if_neg (by decide)]
  by_cases h : i + n < 32
  · rw [if_pos h]; congr 1; omega
  · rw [if_neg h]; congr 1; omega

/-- Digits of sixteen bits. -/
def valD : List Nat → Nat
  | [] => 0
  | h :: t => h + 65536 * valD t
def cst (l : List Nat) : List Int := List.map (fun (n : Nat) => (n : Int)) l
theorem cst_len (l : List Nat) : (cst l).length = l.length := by simp [cst]
theorem cst_set (l : List Nat) (i v : Nat) : (cst l).set i (v : Int) = cst (l.set i v) := by simp [cst, List.map_set]
theorem rd_cst (l : List Nat) (i : Nat) (h : i < l.length) : rd (cst l) (i : Int) = ((l.getD i 0 : Nat) : Int) := by
  unfold rd cst
  simp [h]
theorem val_set (l : List Nat) : ∀ (i v : Nat), i < l.length → valD (l.set i (l.getD i 0 + v)) = valD l + v * 65536 ^ i := by
  induction l with
  | nil => intro i v h; exact absurd h (by simp)
  | cons x t ih =>
    intro i v h
    cases i with
    | zero => simp [valD]; omega
    | succ i =>
      have h' : i < t.length := by simpa using h
      have := ih i v h'
      simp only [List.set_cons_succ, List.getD_cons_succ, valD]
      rw [this, Nat.mul_add, Nat.pow_succ, Nat.mul_left_comm, Nat.mul_comm (65536 ^ i) 65536]
      omega
theorem getD_le (l : List Nat) (M i : Nat) (h : ∀ e ∈ l, e ≤ M) : l.getD i 0 ≤ M := by
  by_cases hi : i < l.length
  · have : l.getD i 0 = l[i] := by simp [hi]
    rw [this]; exact h _ (List.getElem_mem hi)
  · have : l.getD i 0 = 0 := by simp [Nat.le_of_not_lt hi]
    omega
theorem set_le (l : List Nat) (M i v : Nat) (h : ∀ e ∈ l, e ≤ M) (hv : v ≤ M) : ∀ e ∈ l.set i v, e ≤ M := by
  intro e he
  rcases List.mem_or_eq_of_mem_set he with h1 | h1
  · exact h e h1
  · omega
/-- One product of two digits. -/
theorem mul_step (k : Nat) (x6 : List Int) (X Y S : List Nat) (i j M : Nat) (hX : X.length = 4) (hY : Y.length = 4) (hS : S.length = 8) (hi : i < 4) (hj : j < 4) (hx : ∀ e ∈ X, e ≤ 65535) (hy : ∀ e ∈ Y, e ≤ 65535) (hM : M ≤ 10000000) (hs : ∀ e ∈ S, e ≤ M) :
    ∃ S' : List Nat, spinnakerref07_Mul.l1 (k + 1) x6 (cst X) (cst Y) (cst S) i j = spinnakerref07_Mul.l1 k x6 (cst X) (cst Y) (cst S') i ((j + 1 : Nat) : Int) ∧ S'.length = 8 ∧ (∀ e ∈ S', e ≤ M + 131072) ∧ valD S' = valD S + X.getD i 0 * Y.getD j 0 * 65536 ^ (i + j) := by
  have bx := getD_le X 65535 i hx
  have by_ := getD_le Y 65535 j hy
  have hp : X.getD i 0 * Y.getD j 0 ≤ 65535 * 65535 := Nat.mul_le_mul bx by_
  simp only [spinnakerref07_Mul.l1]
  rw [cst_len, cst_len, cst_len, if_pos (by omega), if_pos (by omega), if_pos (by omega), if_pos (by omega), if_pos (by omega), w64n (x := (i : Int) + j) (i + j) (by omega) (by omega), if_pos (by omega), if_pos (by omega),
    rd_cst X i (by omega), rd_cst Y j (by omega), rd_cst S (i + j) (by omega), w64n (x := ((i + j : Nat) : Int) + 1) (i + j + 1) (by omega) (by omega), w64n (x := (j : Int) + 1) (j + 1) (by omega) (by omega)]
  rw [← Int.natCast_mul]
  generalize X.getD i 0 * Y.getD j 0 = p at hp ⊢
  have b1 := getD_le S M (i + j) hs
  have e1 : IntKind.u64.wrap (((S.getD (i + j) 0 : Nat) : Int) + Int.tmod (IntKind.u64.wrap (p : Int)) 65536) = ((S.getD (i + j) 0 + p % 65536 : Nat) : Int) := by
    rw [wu64, wu64, Int.tmod_eq_emod_of_nonneg (by omega)]; omega
  rw [e1]
  rw [Option.bind_some, if_pos (by omega), if_pos (by omega), show (((i + j : Nat) : Int)).toNat = i + j from by omega, cst_set]
  have hs1 : ∀ e ∈ S.set (i + j) (S.getD (i + j) 0 + p % 65536), e ≤ M + 65536 := set_le S (M + 65536) (i + j) _ (fun e he => Nat.le_trans (hs e he) (by omega)) (by omega)
  have v1 := val_set S (i + j) (p % 65536) (by omega)
  have l1 : (S.set (i + j) (S.getD (i + j) 0 + p % 65536)).length = 8 := by simp [hS]
  generalize S.set (i + j) (S.getD (i + j) 0 + p % 65536) = S1 at hs1 v1 l1 ⊢
  rw [rd_cst S1 (i + j + 1) (by omega)]
  have b2 := getD_le S1 (M + 65536) (i + j + 1) hs1
  have e2 : IntKind.u64.wrap (((S1.getD (i + j + 1) 0 : Nat) : Int) + IntKind.u64.wrap (Int.tdiv (IntKind.u64.wrap (p : Int)) 65536)) = ((S1.getD (i + j + 1) 0 + p / 65536 : Nat) : Int) := by
    rw [wu64, wu64, wu64, Int.tdiv_eq_ediv_of_nonneg (by omega)]; omega
  rw [e2, show (((i + j + 1 : Nat) : Int)).toNat = i + j + 1 from by omega, cst_set]
  refine ⟨_, rfl, by simp [l1], set_le S1 (M + 131072) (i + j + 1) _ (fun e he => Nat.le_trans (hs1 e he) (by omega)) (by omega), ?_⟩
  rw [val_set S1 (i + j + 1) (p / 65536) (by omega), v1, Nat.pow_succ, Nat.add_assoc, Nat.mul_comm (65536 ^ (i + j)) 65536, ← Nat.mul_assoc, ← Nat.add_mul]
  congr 2
  omega
theorem mul_row (x6 : List Int) (X Y : List Nat) (i : Nat) (hX : X.length = 4) (hY : Y.length = 4) (hi : i < 4) (hx : ∀ e ∈ X, e ≤ 65535) (hy : ∀ e ∈ Y, e ≤ 65535) (d : Nat) : ∀ (k j M : Nat) (S : List Nat), j + d = 4 → S.length = 8 → M + 131072 * d ≤ 9000000 → (∀ e ∈ S, e ≤ M) →
    ∃ S' : List Nat, spinnakerref07_Mul.l1 (k + d + 1) x6 (cst X) (cst Y) (cst S) i j = spinnakerref07_Mul.l0 k x6 (cst X) (cst Y) (cst S') ((i + 1 : Nat) : Int) ∧ S'.length = 8 ∧ (∀ e ∈ S', e ≤ M + 131072 * d) ∧ valD S' = valD S + X.getD i 0 * valD (Y.drop j) * 65536 ^ (i + j) := by
  induction d with
  | zero =>
    intro k j M S hj hS hM hs
    refine ⟨S, ?_, hS, by simpa using hs, ?_⟩
    · show spinnakerref07_Mul.l1 (k + 1) _ _ _ _ _ _ = _
      simp only [spinnakerref07_Mul.l1]
      rw [if_neg (by omega), w64n (x := (i : Int) + 1) (i + 1) (by omega) (by omega)]
    · rw [List.drop_of_length_le (by omega)]
      simp [valD]
  | succ d ih =>
    intro k j M S hj hS hM hs
    obtain ⟨S1, e1, l1, h1, v1⟩ := mul_step (k + d + 1) x6 X Y S i j M hX hY hS hi (by omega) hx hy (by omega) hs
    obtain ⟨S2, e2, l2, h2, v2⟩ := ih k (j + 1) (M + 131072) S1 (by omega) l1 (by omega) h1
    refine ⟨S2, ?_, l2, fun e he => Nat.le_trans (h2 e he) (by omega), ?_⟩
    · rw [show k + (d + 1) + 1 = (k + d + 1) + 1 from by omega, e1, e2]
    · have hd : Y.drop j = Y.getD j 0 :: Y.drop (j + 1) := by
        rw [List.drop_eq_getElem_cons (show j < Y.length by omega)]
        simp [show j < Y.length by omega]
      rw [v2, v1, hd]
      show _ = valD S + X.getD i 0 * (Y.getD j 0 + 65536 * valD (Y.drop (j + 1))) * 65536 ^ (i + j)
      rw [Nat.mul_add, Nat.add_mul, ← Nat.add_assoc i j 1, Nat.pow_succ, Nat.add_assoc]
      congr 2
      rw [Nat.mul_comm (65536 ^ (i + j)) 65536, ← Nat.mul_assoc, Nat.mul_assoc (X.getD i 0), Nat.mul_comm (valD (Y.drop (j + 1))) 65536, ← Nat.mul_assoc]
theorem small_M {M d : Nat} (h : M + 524288 * (d + 1) ≤ 8000000) : M + 131072 * 4 ≤ 9000000 :=
  Nat.le_trans (Nat.add_le_add_left (Nat.le_mul_of_pos_right 524288 (Nat.succ_pos d)) M) (Nat.le_trans h (by decide))
theorem mul_rows (x6 : List Int) (X Y : List Nat) (hX : X.length = 4) (hY : Y.length = 4) (hx : ∀ e ∈ X, e ≤ 65535) (hy : ∀ e ∈ Y, e ≤ 65535) (d : Nat) : ∀ (k i M : Nat) (S : List Nat), i + d = 4 → S.length = 8 → M + 524288 * d ≤ 8000000 → (∀ e ∈ S, e ≤ M) →
    ∃ S' : List Nat, spinnakerref07_Mul.l0 (k + 6 * d + 1) x6 (cst X) (cst Y) (cst S) i = spinnakerref07_Mul.l2 k x6 (cst S') [0, 0, 0, 0] 0 0 ∧ S'.length = 8 ∧ (∀ e ∈ S', e ≤ M + 524288 * d) ∧ valD S' = valD S + valD (X.drop i) * valD Y * 65536 ^ i := by
  induction d with
  | zero =>
    intro k i M S hi hS hM hs
    refine ⟨S, ?_, hS, by simpa using hs, ?_⟩
    · show spinnakerref07_Mul.l0 (k + 1) _ _ _ _ _ = _
      simp only [spinnakerref07_Mul.l0]
      rw [if_neg (by omega), if_pos (by decide)]
      rfl
    · rw [List.drop_of_length_le (by omega)]
      simp [valD]
  | succ d ih =>
    intro k i M S hi hS hM hs
    have hM4 : M + 131072 * 4 ≤ 9000000 := small_M hM
    obtain ⟨S1, e1, l1, h1, v1⟩ := mul_row x6 X Y i hX hY (by omega) hx hy 4 (k + 6 * d + 1) 0 M S (Nat.zero_add 4) hS hM4 hs
    obtain ⟨S2, e2, l2, h2, v2⟩ := ih k (i + 1) (M + 524288) S1 (by omega) l1 (by omega) h1
    refine ⟨S2, ?_, l2, fun e he => Nat.le_trans (h2 e he) (by omega), ?_⟩
    · rw [show k + 6 * (d + 1) + 1 = ((k + 6 * d + 1) + 4 + 1) + 1 from by omega]
      simp only [spinnakerref07_Mul.l0]
      rw [if_pos (by omega)]
      exact e1.trans e2
    · have hd : X.drop i = X.getD i 0 :: X.drop (i + 1) := by
        rw [List.drop_eq_getElem_cons (show i < X.length by omega)]
        simp [show i < X.length by omega]
      rw [v2, v1, hd, List.drop_zero, Nat.add_zero]
      show _ = valD S + (X.getD i 0 + 65536 * valD (X.drop (i + 1))) * valD Y * 65536 ^ i
      rw [Nat.add_mul, Nat.add_mul, Nat.pow_succ, Nat.add_assoc]
      congr 2
      rw [Nat.mul_comm (65536 ^ i) 65536, ← Nat.mul_assoc, Nat.mul_comm _ 65536, ← Nat.mul_assoc]
/-- The digits of the sums are carried. -/
theorem carry_lo (k : Nat) (D S : List Int) (H : List Int) (c i s : Nat) (hS : S.length = 8) (hD : D.length = 4) (hi : i < 4) (hs : rd S (i : Int) = (s : Int)) (hs1 : s ≤ 100000000) (hc : c ≤ 100000000) :
    spinnakerref07_Mul.l2 (k + 1) D S H c i = spinnakerref07_Mul.l2 k (D.set i (((s + c) % 65536 : Nat) : Int)) S H (((s + c) / 65536 : Nat) : Int) ((i + 1 : Nat) : Int) := by
  simp only [spinnakerref07_Mul.l2]
  rw [if_pos (by omega), if_pos (by omega), if_pos (by omega), if_pos (by omega), if_pos (by omega), hs, wu64, w64n (x := (i : Int) + 1) (i + 1) (by omega) (by omega), show ((i : Int)).toNat = i from rfl]
  have e1 : Int.tmod (((s : Int) + c) % 18446744073709551616) 65536 = (((s + c) % 65536 : Nat) : Int) := by rw [Int.tmod_eq_emod_of_nonneg (by omega)]; omega
  have e2 : IntKind.u64.wrap (Int.tdiv (((s : Int) + c) % 18446744073709551616) 65536) = (((s + c) / 65536 : Nat) : Int) := by rw [wu64, Int.tdiv_eq_ediv_of_nonneg (by omega)]; omega
  rw [e1, e2]
theorem carry_hi (k : Nat) (D S : List Int) (H : List Int) (c i s : Nat) (hS : S.length = 8) (hH : H.length = 4) (hi : 4 ≤ i) (hi2 : i < 8) (hs : rd S (i : Int) = (s : Int)) (hs1 : s ≤ 100000000) (hc : c ≤ 100000000) :
    spinnakerref07_Mul.l2 (k + 1) D S H c i = spinnakerref07_Mul.l2 k D S (H.set (i - 4) (((s + c) % 65536 : Nat) : Int)) (((s + c) / 65536 : Nat) : Int) ((i + 1 : Nat) : Int) := by
  simp only [spinnakerref07_Mul.l2]
  rw [if_pos (by omega), if_pos (by omega), if_pos (by omega), if_neg (by omega), w64n (x := (i : Int) - 4) (i - 4) (by omega) (by omega), if_pos (by omega), if_pos (by omega), hs, wu64, w64n (x := (i : Int) + 1) (i + 1) (by omega) (by omega), show (((i - 4 : Nat) : Int)).toNat = i - 4 from rfl]
  have e1 : Int.tmod (((s : Int) + c) % 18446744073709551616) 65536 = (((s + c) % 65536 : Nat) : Int) := by rw [Int.tmod_eq_emod_of_nonneg (by omega)]; omega
  have e2 : IntKind.u64.wrap (Int.tdiv (((s : Int) + c) % 18446744073709551616) 65536) = (((s + c) / 65536 : Nat) : Int) := by rw [wu64, Int.tdiv_eq_ediv_of_nonneg (by omega)]; omega
  rw [e1, e2]
theorem join4 (r0 r1 r2 r3 : Nat) (h0 : r0 < 65536) (h1 : r1 < 65536) (h2 : r2 < 65536) (h3 : r3 < 65536) :
    IntKind.u64.wrap (IntKind.u64.wrap (IntKind.u64.wrap ((r0 : Int) + IntKind.u64.wrap ((r1 : Int) * 65536)) + IntKind.u64.wrap ((r2 : Int) * 4294967296)) + IntKind.u64.wrap ((r3 : Int) * 281474976710656)) = ((r0 + 65536 * r1 + 4294967296 * r2 + 281474976710656 * r3 : Nat) : Int) := by
  have a1 : IntKind.u64.wrap ((r1 : Int) * 65536) = ((65536 * r1 : Nat) : Int) := by rw [wu64]; omega
  have a2 : IntKind.u64.wrap ((r2 : Int) * 4294967296) = ((4294967296 * r2 : Nat) : Int) := by rw [wu64]; omega
  have a3 : IntKind.u64.wrap ((r3 : Int) * 281474976710656) = ((281474976710656 * r3 : Nat) : Int) := by rw [wu64]; omega
  have b1 : IntKind.u64.wrap ((r0 : Int) + ((65536 * r1 : Nat) : Int)) = ((r0 + 65536 * r1 : Nat) : Int) := by rw [wu64]; omega
  have b2 : IntKind.u64.wrap (((r0 + 65536 * r1 : Nat) : Int) + ((4294967296 * r2 : Nat) : Int)) = ((r0 + 65536 * r1 + 4294967296 * r2 : Nat) : Int) := by rw [wu64]; omega
  have b3 : IntKind.u64.wrap (((r0 + 65536 * r1 + 4294967296 * r2 : Nat) : Int) + ((281474976710656 * r3 : Nat) : Int)) = ((r0 + 65536 * r1 + 4294967296 * r2 + 281474976710656 * r3 : Nat) : Int) := by rw [wu64]; omega
  rw [a1, a2, a3, b1, b2, b3]
theorem horner {s q q' r W V : Nat} (h1 : W + q = V) (h2 : s + q' = 65536 * q + r) : (s + 65536 * W) + q' = r + 65536 * V := by omega
theorem carried (s0 s1 s2 s3 s4 s5 s6 s7 : Nat) (h0 : s0 ≤ 90000000) (h1 : s1 ≤ 90000000) (h2 : s2 ≤ 90000000) (h3 : s3 ≤ 90000000) (h4 : s4 ≤ 90000000) (h5 : s5 ≤ 90000000) (h6 : s6 ≤ 90000000) (h7 : s7 ≤ 90000000) (k : Nat)
    (hT : valD [s0, s1, s2, s3, s4, s5, s6, s7] < 340282366920938463463374607431768211456) :
    spinnakerref07_Mul.l2 (k + 9) [0, 0, 0, 0] (cst [s0, s1, s2, s3, s4, s5, s6, s7]) [0, 0, 0, 0] 0 0 =
      some (((valD [s0, s1, s2, s3, s4, s5, s6, s7] % 18446744073709551616 : Nat) : Int), ((valD [s0, s1, s2, s3, s4, s5, s6, s7] / 18446744073709551616 : Nat) : Int)) := by
  have hl : (cst [s0, s1, s2, s3, s4, s5, s6, s7]).length = 8 := rfl
  have q := fun (D H : List Int) (c i s : Nat) => carry_lo
  rw [show (0 : Int) = ((0 : Nat) : Int) from rfl,
    carry_lo (k + 8) _ _ _ 0 0 s0 hl rfl (by decide) rfl (by omega) (by omega)]
  generalize hn0 : s0 + 0 = n0
  rw [carry_lo (k + 7) _ _ _ (n0 / 65536) 1 s1 hl (by simp) (by decide) rfl (by omega) (by omega)]
  generalize hn1 : s1 + n0 / 65536 = n1
  rw [carry_lo (k + 6) _ _ _ (n1 / 65536) 2 s2 hl (by simp) (by decide) rfl (by omega) (by omega)]
  generalize hn2 : s2 + n1 / 65536 = n2
  rw [carry_lo (k + 5) _ _ _ (n2 / 65536) 3 s3 hl (by simp) (by decide) rfl (by omega) (by omega)]
  generalize hn3 : s3 + n2 / 65536 = n3
  rw [carry_hi (k + 4) _ _ _ (n3 / 65536) 4 s4 hl (by simp) (by decide) (by decide) rfl (by omega) (by omega)]
  generalize hn4 : s4 + n3 / 65536 = n4
  rw [carry_hi (k + 3) _ _ _ (n4 / 65536) 5 s5 hl (by simp) (by decide) (by decide) rfl (by omega) (by omega)]
  generalize hn5 : s5 + n4 / 65536 = n5
  rw [carry_hi (k + 2) _ _ _ (n5 / 65536) 6 s6 hl (by simp) (by decide) (by decide) rfl (by omega) (by omega)]
  generalize hn6 : s6 + n5 / 65536 = n6
  rw [carry_hi (k + 1) _ _ _ (n6 / 65536) 7 s7 hl (by simp) (by decide) (by decide) rfl (by omega) (by omega)]
  generalize hn7 : s7 + n6 / 65536 = n7
  have g0 := Nat.div_add_mod n0 65536
  have g1 := Nat.div_add_mod n1 65536
  have g2 := Nat.div_add_mod n2 65536
  have g3 := Nat.div_add_mod n3 65536
  have g4 := Nat.div_add_mod n4 65536
  have g5 := Nat.div_add_mod n5 65536
  have g6 := Nat.div_add_mod n6 65536
  have m0 := Nat.mod_lt n0 (show 0 < 65536 by decide)
  have m1 := Nat.mod_lt n1 (show 0 < 65536 by decide)
  have m2 := Nat.mod_lt n2 (show 0 < 65536 by decide)
  have m3 := Nat.mod_lt n3 (show 0 < 65536 by decide)
  have m4 := Nat.mod_lt n4 (show 0 < 65536 by decide)
  have m5 := Nat.mod_lt n5 (show 0 < 65536 by decide)
  have m6 := Nat.mod_lt n6 (show 0 < 65536 by decide)
  have eT : valD [s0, s1, s2, s3, s4, s5, s6, s7] = n0 % 65536 + 65536 * (n1 % 65536) + 4294967296 * (n2 % 65536) + 281474976710656 * (n3 % 65536) + 18446744073709551616 * (n4 % 65536 + 65536 * (n5 % 65536) + 4294967296 * (n6 % 65536) + 281474976710656 * n7) := by
    have w7 : valD [s7] + n6 / 65536 = n7 := by rw [← hn7]; show s7 + 65536 * 0 + n6 / 65536 = _; omega
    have w6 := horner w7 (hn6.trans g6.symm)
    have w5 := horner w6 (hn5.trans g5.symm)
    have w4 := horner w5 (hn4.trans g4.symm)
    have w3 := horner w4 (hn3.trans g3.symm)
    have w2 := horner w3 (hn2.trans g2.symm)
    have w1 := horner w2 (hn1.trans g1.symm)
    have w0 := horner w1 (hn0.trans g0.symm)
    rw [Nat.add_zero] at w0
    refine Eq.trans (show valD [s0, s1, s2, s3, s4, s5, s6, s7] = s0 + 65536 * valD [s1, s2, s3, s4, s5, s6, s7] from rfl) (w0.trans ?_)
    clear w0 w1 w2 w3 w4 w5 w6 w7 g0 g1 g2 g3 g4 g5 g6 m0 m1 m2 m3 m4 m5 m6 hn0 hn1 hn2 hn3 hn4 hn5 hn6 hn7 hT h0 h1 h2 h3 h4 h5 h6 h7 q hl
    generalize n0 % 65536 = r0
    generalize n1 % 65536 = r1
    generalize n2 % 65536 = r2
    generalize n3 % 65536 = r3
    generalize n4 % 65536 = r4
    generalize n5 % 65536 = r5
    generalize n6 % 65536 = r6
    omega
  generalize valD [s0, s1, s2, s3, s4, s5, s6, s7] = T at hT eT
  clear g0 g1 g2 g3 g4 g5 g6
  generalize n0 % 65536 = r0 at *
  generalize n1 % 65536 = r1 at *
  generalize n2 % 65536 = r2 at *
  generalize n3 % 65536 = r3 at *
  generalize n4 % 65536 = r4 at *
  generalize n5 % 65536 = r5 at *
  generalize n6 % 65536 = r6 at *
  clear hn0 hn1 hn2 hn3 hn4 hn5 hn6 hn7
  have m7 : n7 < 65536 := by omega
  rw [Nat.mod_eq_of_lt m7]
  simp only [spinnakerref07_Mul.l2]
  rw [if_neg (by decide)]
  refine (if_pos (show (0 : Int) < 4 by decide)).trans ?_
  refine (if_pos (show (1 : Int) < 4 by decide)).trans ?_
  refine (if_pos (show (2 : Int) < 4 by decide)).trans ?_
  refine (if_pos (show (3 : Int) < 4 by decide)).trans ?_
  refine (if_pos (show (0 : Int) < 4 by decide)).trans ?_
  refine (if_pos (show (1 : Int) < 4 by decide)).trans ?_
  refine (if_pos (show (2 : Int) < 4 by decide)).trans ?_
  refine (if_pos (show (3 : Int) < 4 by decide)).trans ?_
  refine congrArg some (Prod.ext ?_ ?_)
  · refine (join4 r0 r1 r2 r3 m0 m1 m2 m3).trans ?_
    show _ = ((T % 18446744073709551616 : Nat) : Int)
    congr 1
    omega
  · refine (join4 r4 r5 r6 n7 m4 m5 m6 m7).trans ?_
    show _ = ((T / 18446744073709551616 : Nat) : Int)
    congr 1
    omega
/-- The specified product without signs. -/
theorem mul_f (A B : Nat) (hA : A < 18446744073709551616) (hB : B < 18446744073709551616) (k : Nat) (hk : 100 < k) :
    spinnakerref07_Mul.f k (A : Int) (B : Int) = some (((A * B % 18446744073709551616 : Nat) : Int), ((A * B / 18446744073709551616 : Nat) : Int)) := by
  obtain ⟨k, rfl⟩ : ∃ m, k = m + 9 + 6 * 4 + 1 := ⟨k - 34, by omega⟩
  have dig : ∀ A : Nat, A < 18446744073709551616 → ([Int.tmod (A : Int) 65536, Int.tmod (IntKind.u64.wrap (Int.tdiv (A : Int) 65536)) 65536, Int.tmod (IntKind.u64.wrap (Int.tdiv (A : Int) 4294967296)) 65536, IntKind.u64.wrap (Int.tdiv (A : Int) 281474976710656)] : List Int) = cst [A % 65536, A / 65536 % 65536, A / 4294967296 % 65536, A / 281474976710656] := by
    intro A hA
    have f1 : Int.tmod (A : Int) 65536 = ((A % 65536 : Nat) : Int) := by rw [Int.tmod_eq_emod_of_nonneg (by omega)]; omega
    have f2 : Int.tmod (IntKind.u64.wrap (Int.tdiv (A : Int) 65536)) 65536 = ((A / 65536 % 65536 : Nat) : Int) := by rw [Int.tdiv_eq_ediv_of_nonneg (by omega), wu64, Int.tmod_eq_emod_of_nonneg (by omega)]; omega
    have f3 : Int.tmod (IntKind.u64.wrap (Int.tdiv (A : Int) 4294967296)) 65536 = ((A / 4294967296 % 65536 : Nat) : Int) := by rw [Int.tdiv_eq_ediv_of_nonneg (by omega), wu64, Int.tmod_eq_emod_of_nonneg (by omega)]; omega
    have f4 : IntKind.u64.wrap (Int.tdiv (A : Int) 281474976710656) = ((A / 281474976710656 : Nat) : Int) := by rw [Int.tdiv_eq_ediv_of_nonneg (by omega), wu64]; omega
    rw [f1, f2, f3, f4]
    rfl
  have dv : ∀ A : Nat, valD [A % 65536, A / 65536 % 65536, A / 4294967296 % 65536, A / 281474976710656] = A := by
    intro A
    simp only [valD]
    omega
  have db : ∀ A : Nat, A < 18446744073709551616 → ∀ e ∈ [A % 65536, A / 65536 % 65536, A / 4294967296 % 65536, A / 281474976710656], e ≤ 65535 := by
    intro A hA e he
    simp only [List.mem_cons, List.not_mem_nil, or_false] at he
    omega
  unfold spinnakerref07_Mul.f
  rw [if_pos (by decide), if_pos (by decide), dig A hA, dig B hB]
  obtain ⟨S, e, hl, hs, hv⟩ := mul_rows (List.replicate 4 0) [A % 65536, A / 65536 % 65536, A / 4294967296 % 65536, A / 281474976710656] [B % 65536, B / 65536 % 65536, B / 4294967296 % 65536, B / 281474976710656] rfl rfl (db A hA) (db B hB) 4 (k + 9) 0 0 [0, 0, 0, 0, 0, 0, 0, 0] (by decide) rfl (by decide) (by simp)
  have e' : spinnakerref07_Mul.l0 (k + 9 + 6 * 4 + 1) (List.replicate 4 0) (cst [A % 65536, A / 65536 % 65536, A / 4294967296 % 65536, A / 281474976710656]) (cst [B % 65536, B / 65536 % 65536, B / 4294967296 % 65536, B / 281474976710656]) (List.replicate 8 0) 0 = _ := e
  rw [e']
  rw [List.drop_zero, dv, dv, Nat.pow_zero, Nat.mul_one, show valD [0, 0, 0, 0, 0, 0, 0, 0] = 0 from rfl, Nat.zero_add] at hv
  have hlt : A * B < 340282366920938463463374607431768211456 := Nat.lt_of_lt_of_le (Nat.mul_lt_mul'' hA hB) (by decide)
  rw [← hv] at hlt ⊢
  obtain ⟨s0, s1, s2, s3, s4, s5, s6, s7, rfl⟩ : ∃ s0 s1 s2 s3 s4 s5 s6 s7, S = [s0, s1, s2, s3, s4, s5, s6, s7] := by
    match S, hl with
    | [s0, s1, s2, s3, s4, s5, s6, s7], _ => exact ⟨s0, s1, s2, s3, s4, s5, s6, s7, rfl⟩
  have hb : ∀ e ∈ [s0, s1, s2, s3, s4, s5, s6, s7], e ≤ 90000000 := fun e he => Nat.le_trans (hs e he) (by decide)
  exact carried s0 s1 s2 s3 s4 s5 s6 s7 (hb _ (by simp)) (hb _ (by simp)) (hb _ (by simp)) (hb _ (by simp)) (hb _ (by simp)) (hb _ (by simp)) (hb _ (by simp)) (hb _ (by simp)) k hlt

/-- Quotient and rest, as the program reckons them. -/
def quo (a b : Int) : Int := if b = 0 then -1 else if b = -1 then wrap64 (-a) else wrap64 (Int.tdiv a b)
def rem (a b : Int) : Int := if b = 0 then a else if b = -1 then 0 else Int.tmod a b
def quoU (u v : Int) : Int := if v = 0 then -1 else wrap64 (u / v)
def remU (u v : Int) : Int := if v = 0 then wrap64 u else wrap64 (u % v)
theorem quotient_f (a b : Int) : alu_quotient.f a b = some (quo a b, rem a b) := by
  unfold alu_quotient.f quo rem
  by_cases h0 : b = 0
  · rw [if_pos h0, if_pos h0, if_pos h0]
  · rw [if_neg h0, if_neg h0, if_neg h0]
    by_cases h1 : b = -1
    · rw [if_pos h1, if_pos h1, if_pos h1]
    · rw [if_neg h1, if_neg h1, if_neg h1]
theorem quotientU_f (u v : Int) (hu : 0 ≤ u) (hv : 0 ≤ v) : alu_quotientU.f u v = some (quoU u v, remU u v) := by
  unfold alu_quotientU.f quoU remU
  by_cases h0 : v = 0
  · rw [if_pos h0, if_pos h0, if_pos h0]
  · rw [if_neg h0, if_neg h0, if_neg h0, Int.tdiv_eq_ediv_of_nonneg hu, Int.tmod_eq_emod_of_nonneg hu, wu64, wrap_u64]
theorem half_f (a : Int) : alu_half.f a = some (wrap32 a) := by unfold alu_half.f; rw [w64_of32]
theorem times_f (k op a b : Int) (n : Nat) (hop : 54 ≤ op ∧ op ≤ 57) : alu_times.f n op a b =
    some (if op = 54 then quo a b else if op = 55 then quoU (a % 18446744073709551616) (b % 18446744073709551616) else if op = 56 then rem a b else remU (a % 18446744073709551616) (b % 18446744073709551616)) := by
  unfold alu_times.f
  rw [quotient_f, wu64, wu64, quotientU_f _ _ (by omega) (by omega)]
  simp only [Option.bind_some]
  rw [if_neg (by omega), if_neg (by omega), if_neg (by omega), if_neg (by omega)]
  by_cases h1 : op = 54
  · rw [if_pos h1, if_pos h1]
  · rw [if_neg h1, if_neg h1]
    by_cases h2 : op = 55
    · rw [if_pos h2, if_pos h2]
    · rw [if_neg h2, if_neg h2]
      by_cases h3 : op = 56
      · rw [if_pos h3, if_pos h3]
      · rw [if_neg h3, if_neg h3]
theorem eval_long (op a b : Int) (k : Nat) (hk : 2 ≤ k) (hop : 54 ≤ op ∧ op ≤ 57) : alu_Eval.f k op a b =
    some (if op = 54 then quo a b else if op = 55 then quoU (a % 18446744073709551616) (b % 18446744073709551616) else if op = 56 then rem a b else remU (a % 18446744073709551616) (b % 18446744073709551616), true) := by
  obtain ⟨k, rfl⟩ : ∃ m, k = m + 1 := ⟨k - 1, by omega⟩
  unfold alu_Eval.f
  rw [if_neg (by omega)]
  simp only [alu_Eval.j0]
  rw [if_neg (by simp; omega), if_neg (by omega), if_neg (by omega), if_neg (by omega), if_neg (by omega), if_pos (by omega), times_f 0 op a b k hop]
  rfl
theorem awake07 (k : Nat) (hk : 2 ≤ k) : spinnakerlaw07_awake.f k = some true := by
  unfold spinnakerlaw07_awake.f
  rw [eval_long 56 (-7) 2 k hk (by decide)]
  decide +kernel

theorem wmul (x y : Nat) (h : x * y < 18446744073709551616) : IntKind.u64.wrap ((x : Int) * (y : Int)) = ((x * y : Nat) : Int) := by
  rw [wu64, ← Int.natCast_mul]; omega
theorem low32 (x : Nat) (h : x < 18446744073709551616) : Go.bits .and .u64 (x : Int) 4294967295 = ((x % 4294967296 : Nat) : Int) := by
  have h64 : (2 : Nat) ^ 64 = 18446744073709551616 := by decide
  have e := and64 x 4294967295 (h64 ▸ h) (by decide)
  have e2 := Nat.and_two_pow_sub_one_eq_mod x 32
  rw [show (2 : Nat) ^ 32 - 1 = 4294967295 from by decide, show (2 : Nat) ^ 32 = 4294967296 from by decide] at e2
  rw [e2] at e
  exact e
theorem prod32 {x y : Nat} (hx : x < 4294967296) (hy : y < 4294967296) : x * y ≤ 18446744065119617025 := Nat.mul_le_mul (show x ≤ 4294967295 by omega) (show y ≤ 4294967295 by omega)
theorem mul64_f (A B : Nat) (hA : A < 18446744073709551616) (hB : B < 18446744073709551616) : bits_Mul64.f (A : Int) (B : Int) = some (((A * B / 18446744073709551616 : Nat) : Int), ((A * B % 18446744073709551616 : Nat) : Int)) := by
  have hh := mul_high A B hA hB
  unfold bits_Mul64.f
  rw [low32 A hA, low32 B hB, show (A : Int) / 4294967296 = ((A / 4294967296 : Nat) : Int) from by omega, show (B : Int) / 4294967296 = ((B / 4294967296 : Nat) : Int) from by omega]
  have a1 : A / 4294967296 < 4294967296 := by omega
  have a0 : A % 4294967296 < 4294967296 := Nat.mod_lt _ (by decide)
  have b1 : B / 4294967296 < 4294967296 := by omega
  have b0 : B % 4294967296 < 4294967296 := Nat.mod_lt _ (by decide)
  have q11 := prod32 a1 b1
  have q10 := prod32 a1 b0
  have q01 := prod32 a0 b1
  have q00 := prod32 a0 b0
  rw [wmul _ _ (Nat.lt_of_le_of_lt q11 (by decide)), wmul _ _ (Nat.lt_of_le_of_lt q10 (by decide)), wmul _ _ (Nat.lt_of_le_of_lt q01 (by decide)), wmul _ _ (Nat.lt_of_le_of_lt q00 (by decide))]
  have hAB : IntKind.u64.wrap ((A : Int) * (B : Int)) = ((A * B % 18446744073709551616 : Nat) : Int) := by rw [wu64, ← Int.natCast_mul]; omega
  rw [hAB, hh]
  generalize (A / 4294967296) * (B / 4294967296) = p11 at *
  generalize (A / 4294967296) * (B % 4294967296) = p10 at *
  generalize (A % 4294967296) * (B / 4294967296) = p01 at *
  generalize (A % 4294967296) * (B % 4294967296) = p00 at *
  have t1 : IntKind.u64.wrap ((p10 : Int) + (p00 : Int) / 4294967296) = ((p10 + p00 / 4294967296 : Nat) : Int) := by rw [wu64]; omega
  rw [t1, low32 _ (by omega)]
  have hlt : A * B / 18446744073709551616 < 18446744073709551616 := by
    have := Nat.mul_lt_mul'' hA hB
    omega
  rw [hh] at hlt
  refine congrArg some (Prod.ext ?_ rfl)
  show IntKind.u64.wrap (IntKind.u64.wrap ((p11 : Int) + ((p10 + p00 / 4294967296 : Nat) : Int) / 4294967296) + IntKind.u64.wrap ((((p10 + p00 / 4294967296) % 4294967296 : Nat) : Int) + (p01 : Int)) / 4294967296) = _
  generalize p10 + p00 / 4294967296 = t at *
  have u1 : IntKind.u64.wrap ((p11 : Int) + ((t : Nat) : Int) / 4294967296) = ((p11 + t / 4294967296 : Nat) : Int) := by rw [wu64]; omega
  have u2 : IntKind.u64.wrap ((((t % 4294967296 : Nat)) : Int) + (p01 : Int)) = ((t % 4294967296 + p01 : Nat) : Int) := by rw [wu64]; omega
  rw [u1, u2, wu64]
  omega
theorem xor64 (h : Nat) (hh : h < 18446744073709551616) : Go.bits .xor .u64 18446744073709551615 (h : Int) = ((18446744073709551615 - h : Nat) : Int) := by
  have h64 : (2 : Nat) ^ 64 = 18446744073709551616 := by decide
  have e : Go.bits .xor .u64 18446744073709551615 (h : Int) = IntKind.u64.wrap ((BitVec.ofInt 64 ((18446744073709551615 : Nat) : Int) ^^^ BitVec.ofInt 64 (h : Int)).toNat : Int) := rfl
  have e2 : (BitVec.ofInt 64 ((18446744073709551615 : Nat) : Int) ^^^ BitVec.ofInt 64 (h : Int)).toNat = 18446744073709551615 - h := by
    rw [BitVec.toNat_xor, BitVec.ofInt_natCast, BitVec.ofInt_natCast, BitVec.toNat_ofNat, BitVec.toNat_ofNat, Nat.mod_eq_of_lt (by decide), Nat.mod_eq_of_lt (by rw [h64]; exact hh)]
    apply Nat.eq_of_testBit_eq
    intro i
    have e3 : 18446744073709551615 - h = 2 ^ 64 - (h + 1) := by rw [h64]; omega
    rw [Nat.testBit_xor, e3, Nat.testBit_two_pow_sub_succ (by rw [h64]; exact hh), show (18446744073709551615 : Nat) = 2 ^ 64 - 1 from by decide, Nat.testBit_two_pow_sub_one]
    by_cases hi : i < 64
    · simp [hi]
    · have hp := Nat.pow_le_pow_right (show 0 < 2 by decide) (show 64 ≤ i by omega)
      rw [Nat.testBit_lt_two_pow (Nat.lt_of_lt_of_le (h64 ▸ hh) hp)]
      simp [hi]
  rw [e, e2, wu64]
  omega
/-- The upper half of a product, or of its negative. -/
theorem j3_f (x y : Nat) (neg : Bool) (hx : x < 18446744073709551616) (hy : y < 18446744073709551616) (k : Nat) (hk : 100 < k) :
    spinnakerref07_Upper.j3 (k + 1) x y neg = some (wrap64 (if neg = true then -(((x * y + 18446744073709551615) / 18446744073709551616 : Nat) : Int) else ((x * y / 18446744073709551616 : Nat) : Int))) := by
  simp only [spinnakerref07_Upper.j3]
  refine bind_at (mul_f x y hx hy k hk) ?_
  have hm : x * y / 18446744073709551616 < 18446744073709551616 := by
    have := Nat.mul_lt_mul'' hx hy
    omega
  generalize x * y = M at hm ⊢
  cases neg
  · rw [if_neg (by decide), if_neg (by decide)]
  · rw [if_pos rfl, if_pos rfl]
    show (if ((M % 18446744073709551616 : Nat) : Int) = 0 then some (wrap64 (IntKind.u64.wrap (Go.bits .xor .u64 18446744073709551615 ((M / 18446744073709551616 : Nat) : Int) + 1))) else some (wrap64 (Go.bits .xor .u64 18446744073709551615 ((M / 18446744073709551616 : Nat) : Int)))) = _
    rw [xor64 _ hm, wu64]
    by_cases h0 : M % 18446744073709551616 = 0
    · rw [if_pos (by omega)]
      refine congrArg some ?_
      unfold wrap64
      omega
    · rw [if_neg (by omega)]
      refine congrArg some ?_
      unfold wrap64
      omega
theorem abs_f (a : Int) (ha : -9223372036854775808 ≤ a ∧ a < 9223372036854775808) : spinnakerref07_abs.f a = some ((a.natAbs : Nat) : Int) := by
  unfold spinnakerref07_abs.f
  rw [wu64, wu64]
  by_cases h : a < 0
  · rw [if_pos h]; congr 1; omega
  · rw [if_neg h]; congr 1; omega
theorem upper_same (a b : Int) (ha : -9223372036854775808 ≤ a ∧ a < 9223372036854775808) (hb : -9223372036854775808 ≤ b ∧ b < 9223372036854775808) (sA sB : Bool) (hs : sA = true ∨ sB = false) (k : Nat) (hk : 200 < k) :
    ∃ v, alu_high.f k a b sA sB = some v ∧ spinnakerref07_Upper.f k a b sA sB = some v := by
  obtain ⟨k, rfl⟩ : ∃ m, k = m + 4 := ⟨k - 4, by omega⟩
  have eA : IntKind.u64.wrap a = ((u64N a : Nat) : Int) := u64N_eq a
  have eB : IntKind.u64.wrap b = ((u64N b : Nat) : Int) := u64N_eq b
  have lA := u64N_lt a
  have lB := u64N_lt b
  have cA : ((u64N a : Nat) : Int) = if a < 0 then a + 18446744073709551616 else a := by unfold u64N; split <;> omega
  have cB : ((u64N b : Nat) : Int) = if b < 0 then b + 18446744073709551616 else b := by unfold u64N; split <;> omega
  have hmul := mul64_f (u64N a) (u64N b) lA lB
  unfold alu_high.f spinnakerref07_Upper.f
  rw [eA, eB, hmul]
  simp only [Option.bind_some]
  have w1 : ∀ x c : Int, wrap64 (wrap64 x - c) = wrap64 (x - c) := fun x c => by unfold wrap64; omega
  cases sA
  · -- no signs
    obtain rfl : sB = false := by rcases hs with h | h <;> simp_all
    simp only [alu_high.j0, spinnakerref07_Upper.j0, spinnakerref07_Upper.j1, spinnakerref07_Upper.j2, Bool.false_eq_true, if_false]
    exact ⟨_, rfl, (j3_f _ _ false lA lB k (by omega)).trans rfl⟩
  · by_cases hn : a < 0
    · rw [if_pos hn] at cA
      have hx : u64N a + a.natAbs = 18446744073709551616 := by omega
      have lx : a.natAbs < 18446744073709551616 := by omega
      have hP : u64N a * u64N b + a.natAbs * u64N b = 18446744073709551616 * u64N b := by rw [← Nat.add_mul, hx]
      simp only [alu_high.j0, spinnakerref07_Upper.j0, decide_eq_true hn, if_true]
      rw [abs_f a ha]
      simp only [Option.bind_some, Bool.not_false]
      by_cases hB : sB = true ∧ b < 0
      · obtain ⟨rfl, hb0⟩ := hB
        rw [if_pos hb0] at cB
        have hy : u64N b + b.natAbs = 18446744073709551616 := by omega
        have ly : b.natAbs < 18446744073709551616 := by omega
        have hQ : a.natAbs * u64N b + a.natAbs * b.natAbs = 18446744073709551616 * a.natAbs := by rw [← Nat.mul_add, hy, Nat.mul_comm]
        simp only [spinnakerref07_Upper.j1, spinnakerref07_Upper.j2, decide_eq_true hb0, if_true]
        rw [abs_f b hb, if_pos hb0]
        simp only [Option.bind_some, Bool.not_true]
        refine ⟨_, rfl, (j3_f _ _ false lx ly k (by omega)).trans ?_⟩
        rw [if_neg (by decide), w1, Int.sub_sub, w1]
        clear hmul eA eB ha hb
        generalize u64N a * u64N b = P at *
        generalize a.natAbs * u64N b = Q at *
        generalize a.natAbs * b.natAbs = M at *
        have hH : ((P / 18446744073709551616 : Nat) : Int) = (u64N b : Int) - (a.natAbs : Int) + ((M / 18446744073709551616 : Nat) : Int) := by
          clear cA cB
          omega
        refine congrArg some ?_
        rw [hH, show (u64N b : Int) - (a.natAbs : Int) + ((M / 18446744073709551616 : Nat) : Int) - (b + a) = ((M / 18446744073709551616 : Nat) : Int) + 18446744073709551616 * 1 from by omega, wrap_add]
      · have e : spinnakerref07_Upper.j1 (k + 3) b sB ((a.natAbs : Nat) : Int) ((u64N b : Nat) : Int) true = spinnakerref07_Upper.j3 (k + 1) ((a.natAbs : Nat) : Int) ((u64N b : Nat) : Int) true := by
          cases sB
          · simp only [spinnakerref07_Upper.j1, spinnakerref07_Upper.j2, Bool.false_eq_true, if_false]
          · have hb0 : ¬ b < 0 := fun h => hB ⟨rfl, h⟩
            simp only [spinnakerref07_Upper.j1, spinnakerref07_Upper.j2, decide_eq_false hb0, Bool.false_eq_true, if_false, if_true]
        have e2 : (if sB = true then (if b < 0 then some (wrap64 (wrap64 (wrap64 ((u64N a * u64N b / 18446744073709551616 : Nat) : Int) - b) - a)) else some (wrap64 (wrap64 ((u64N a * u64N b / 18446744073709551616 : Nat) : Int) - b))) else some (wrap64 (wrap64 ((u64N a * u64N b / 18446744073709551616 : Nat) : Int) - b))) = some (wrap64 (wrap64 ((u64N a * u64N b / 18446744073709551616 : Nat) : Int) - b)) := by
          cases sB
          · rw [if_neg (by decide)]
          · rw [if_pos rfl, if_neg fun h => hB ⟨rfl, h⟩]
        refine ⟨_, e2, e.trans ?_⟩
        refine (j3_f _ _ true lx lB k (by omega)).trans ?_
        rw [if_pos rfl, w1]
        have cB2 : (u64N b : Int) = b ∨ (u64N b : Int) = b + 18446744073709551616 := by rw [cB]; split <;> omega
        clear cB e e2 eA eB hmul ha hb
        generalize u64N a * u64N b = P at *
        generalize a.natAbs * u64N b = M at *
        have hH : ((P / 18446744073709551616 : Nat) : Int) = (u64N b : Int) - (((M + 18446744073709551615) / 18446744073709551616 : Nat) : Int) := by
          clear cA cB2
          omega
        refine congrArg some ?_
        rw [hH]
        rcases cB2 with h | h
        · rw [h, show b - (((M + 18446744073709551615) / 18446744073709551616 : Nat) : Int) - b = -(((M + 18446744073709551615) / 18446744073709551616 : Nat) : Int) from by omega]
        · rw [h, show b + 18446744073709551616 - (((M + 18446744073709551615) / 18446744073709551616 : Nat) : Int) - b = -(((M + 18446744073709551615) / 18446744073709551616 : Nat) : Int) + 18446744073709551616 * 1 from by omega, wrap_add]
    · rw [if_neg hn] at cA
      simp only [alu_high.j0, spinnakerref07_Upper.j0, decide_eq_false hn, if_true, Bool.false_eq_true, if_false]
      by_cases hB : sB = true ∧ b < 0
      · obtain ⟨rfl, hb0⟩ := hB
        rw [if_pos hb0] at cB
        have hy : u64N b + b.natAbs = 18446744073709551616 := by omega
        have ly : b.natAbs < 18446744073709551616 := by omega
        have hQ : u64N a * u64N b + u64N a * b.natAbs = 18446744073709551616 * u64N a := by rw [← Nat.mul_add, hy, Nat.mul_comm]
        simp only [spinnakerref07_Upper.j1, spinnakerref07_Upper.j2, decide_eq_true hb0, if_true]
        rw [abs_f b hb, if_pos hb0]
        simp only [Option.bind_some, Bool.not_false]
        refine ⟨_, rfl, (j3_f _ _ true lA ly k (by omega)).trans ?_⟩
        rw [if_pos rfl, w1]
        clear hmul eA eB ha hb
        generalize u64N a * u64N b = P at *
        generalize u64N a * b.natAbs = M at *
        have hH : ((P / 18446744073709551616 : Nat) : Int) = (u64N a : Int) - (((M + 18446744073709551615) / 18446744073709551616 : Nat) : Int) := by
          clear cA cB
          omega
        refine congrArg some ?_
        rw [hH, cA, show a - (((M + 18446744073709551615) / 18446744073709551616 : Nat) : Int) - a = -(((M + 18446744073709551615) / 18446744073709551616 : Nat) : Int) from by omega]
      · have e : spinnakerref07_Upper.j1 (k + 3) b sB ((u64N a : Nat) : Int) ((u64N b : Nat) : Int) false = spinnakerref07_Upper.j3 (k + 1) ((u64N a : Nat) : Int) ((u64N b : Nat) : Int) false := by
          cases sB
          · simp only [spinnakerref07_Upper.j1, spinnakerref07_Upper.j2, Bool.false_eq_true, if_false]
          · have hb0 : ¬ b < 0 := fun h => hB ⟨rfl, h⟩
            simp only [spinnakerref07_Upper.j1, spinnakerref07_Upper.j2, decide_eq_false hb0, Bool.false_eq_true, if_false, if_true]
        have e2 : (if sB = true then (if b < 0 then some (wrap64 (wrap64 ((u64N a * u64N b / 18446744073709551616 : Nat) : Int) - a)) else some (wrap64 ((u64N a * u64N b / 18446744073709551616 : Nat) : Int))) else some (wrap64 ((u64N a * u64N b / 18446744073709551616 : Nat) : Int))) = some (wrap64 ((u64N a * u64N b / 18446744073709551616 : Nat) : Int)) := by
          cases sB
          · rw [if_neg (by decide)]
          · rw [if_pos rfl, if_neg fun h => hB ⟨rfl, h⟩]
        exact ⟨_, e2, e.trans ((j3_f _ _ false lA lB k (by omega)).trans (by rw [if_neg (by decide)]))⟩
theorem div_same (a b : Int) (ha : -9223372036854775808 ≤ a ∧ a < 9223372036854775808) (hb : -9223372036854775808 ≤ b ∧ b < 9223372036854775808) : spinnakerref07_Div.f a b = some (quo a b, rem a b) := by
  unfold spinnakerref07_Div.f quo rem
  by_cases h0 : b = 0
  · rw [if_pos h0, if_pos h0, if_pos h0]
  rw [if_neg h0, if_neg h0, if_neg h0, abs_f a ha, abs_f b hb]
  simp only [Option.bind_some]
  rw [if_neg (by omega), if_neg (by omega)]
  have hy : 0 < b.natAbs := by omega
  have tx : Int.tdiv ((a.natAbs : Nat) : Int) ((b.natAbs : Nat) : Int) = ((a.natAbs / b.natAbs : Nat) : Int) := by rw [Int.tdiv_eq_ediv_of_nonneg (by omega)]; rfl
  have mx : Int.tmod ((a.natAbs : Nat) : Int) ((b.natAbs : Nat) : Int) = ((a.natAbs % b.natAbs : Nat) : Int) := by rw [Int.tmod_eq_emod_of_nonneg (by omega)]; rfl
  have sa : a = if a < 0 then -((a.natAbs : Nat) : Int) else ((a.natAbs : Nat) : Int) := by split <;> omega
  have sb : b = if b < 0 then -((b.natAbs : Nat) : Int) else ((b.natAbs : Nat) : Int) := by split <;> omega
  have dq : Int.tdiv a b = if (decide (a < 0) != decide (b < 0)) = true then -((a.natAbs / b.natAbs : Nat) : Int) else ((a.natAbs / b.natAbs : Nat) : Int) := by
    rw [← tx]
    by_cases c1 : a < 0 <;> by_cases c2 : b < 0
    · rw [if_pos c1] at sa; rw [if_pos c2] at sb; rw [if_neg (by simp [c1, c2])]; conv => lhs; rw [sa, sb]
      rw [Int.neg_tdiv, Int.tdiv_neg, Int.neg_neg]
    · rw [if_pos c1] at sa; rw [if_neg c2] at sb; rw [if_pos (by simp [c1, c2])]; conv => lhs; rw [sa, sb]
      rw [Int.neg_tdiv]
    · rw [if_neg c1] at sa; rw [if_pos c2] at sb; rw [if_pos (by simp [c1, c2])]; conv => lhs; rw [sa, sb]
      rw [Int.tdiv_neg]
    · rw [if_neg c1] at sa; rw [if_neg c2] at sb; rw [if_neg (by simp [c1, c2])]; conv => lhs; rw [sa, sb]
  have dr : Int.tmod a b = if a < 0 then -((a.natAbs % b.natAbs : Nat) : Int) else ((a.natAbs % b.natAbs : Nat) : Int) := by
    rw [← mx]
    by_cases c1 : a < 0 <;> by_cases c2 : b < 0
    · rw [if_pos c1] at sa ⊢; rw [if_pos c2] at sb; conv => lhs; rw [sa, sb]
      rw [Int.neg_tmod, Int.tmod_neg]
    · rw [if_pos c1] at sa ⊢; rw [if_neg c2] at sb; conv => lhs; rw [sa, sb]
      rw [Int.neg_tmod]
    · rw [if_neg c1] at sa ⊢; rw [if_pos c2] at sb; conv => lhs; rw [sa, sb]
      rw [Int.tmod_neg]
    · rw [if_neg c1] at sa ⊢; rw [if_neg c2] at sb; conv => lhs; rw [sa, sb]
  rw [tx, mx, dq, dr]
  have hD := Nat.div_le_self a.natAbs b.natAbs
  have hR := Nat.mod_lt a.natAbs hy
  have h1 : b = -1 → a.natAbs / b.natAbs = a.natAbs ∧ a.natAbs % b.natAbs = 0 := fun h => by
    rw [show b.natAbs = 1 from by omega, Nat.div_one, Nat.mod_one]; exact ⟨rfl, rfl⟩
  generalize a.natAbs / b.natAbs = D at *
  generalize a.natAbs % b.natAbs = R at *
  clear tx mx dq dr
  simp only [wu64]
  have key : ∀ q r q' r' : Int, q = q' → r = r' → some (q, r) = some (q', r') := fun q r q' r' e1 e2 => by rw [e1, e2]
  clear sa sb
  by_cases c1 : a < 0 <;> by_cases c2 : b < 0
  · rw [show (decide (a < 0) != decide (b < 0)) = false from by simp [c1, c2]]
    simp only [if_pos c1, Bool.false_eq_true, if_false]
    by_cases c3 : b = -1
    · have h2 := h1 c3
      rw [if_pos c3, if_pos c3]
      refine key _ _ _ _ ?_ ?_ <;> unfold wrap64 <;> omega
    · rw [if_neg c3, if_neg c3]
      refine key _ _ _ _ ?_ ?_ <;> unfold wrap64 <;> omega
  · rw [show (decide (a < 0) != decide (b < 0)) = true from by simp [c1, c2]]
    simp only [if_pos c1, if_true]
    rw [if_neg (show ¬ b = -1 by omega), if_neg (show ¬ b = -1 by omega)]
    refine key _ _ _ _ ?_ ?_ <;> unfold wrap64 <;> omega
  · rw [show (decide (a < 0) != decide (b < 0)) = true from by simp [c1, c2]]
    simp only [if_neg c1, if_true]
    by_cases c3 : b = -1
    · have h2 := h1 c3
      rw [if_pos c3, if_pos c3]
      refine key _ _ _ _ ?_ ?_ <;> unfold wrap64 <;> omega
    · rw [if_neg c3, if_neg c3]
      refine key _ _ _ _ ?_ ?_ <;> unfold wrap64 <;> omega
  · rw [show (decide (a < 0) != decide (b < 0)) = false from by simp [c1, c2]]
    simp only [if_neg c1, Bool.false_eq_true, if_false]
    rw [if_neg (show ¬ b = -1 by omega), if_neg (show ¬ b = -1 by omega)]
    refine key _ _ _ _ ?_ ?_ <;> unfold wrap64 <;> omega
theorem divu_same (u v : Int) (hu : 0 ≤ u) (hv : 0 ≤ v) : spinnakerref07_DivU.f u v = some (quoU u v, remU u v) := by
  unfold spinnakerref07_DivU.f quoU remU
  by_cases h0 : v = 0
  · rw [if_pos h0, if_pos h0, if_pos h0]
  · rw [if_neg h0, if_neg h0, if_neg h0, Int.tdiv_eq_ediv_of_nonneg hu, Int.tmod_eq_emod_of_nonneg hu, wu64, wrap_u64]

theorem toList_d (s : ByteArray) : s.toList = s.data.toList := ByteArray.toList_eq s
theorem half_ref (k : Nat) (v : Int) (hk : 200 < k) : spinnakerref07_Half.f k v = some (wrap32 v) := by
  unfold spinnakerref07_Half.f
  rw [wu64, ref_sign k _ 32 (by omega) (by omega) (by decide) (by decide) hk, show (32 : Int).toNat = 32 from rfl, sgn_of_u64]; rfl
theorem flag_f (x : Bool) : alu_flag.f x = some (if x = true then 1 else 0) := by cases x <;> rfl
theorem one_f (x : Bool) : spinnakerref07_one.f x = some (if x = true then 1 else 0) := by cases x <;> rfl
theorem tm32 (a : Int) : Int.tmod (IntKind.u64.wrap a) 4294967296 = a % 4294967296 := by rw [wu64, Int.tmod_eq_emod_of_nonneg (by omega)]; omega
theorem same_mul (a b : Int) : ((spinnakerref07_Mul.f 2000 (IntKind.u64.wrap a) (IntKind.u64.wrap b)).bind fun bt => some (wrap64 bt.1)) = some (wrap64 (a * b)) := by
  rw [u64N_eq, u64N_eq]
  refine bind_at (mul_f _ _ (u64N_lt a) (u64N_lt b) 2000 (by decide)) (congrArg some ?_)
  have e : ((u64N a * u64N b % 18446744073709551616 : Nat) : Int) = (a * b) % 18446744073709551616 := by
    rw [Int.natCast_emod, Int.natCast_mul, show ((18446744073709551616 : Nat) : Int) = 18446744073709551616 from rfl, show ((u64N a : Nat) : Int) = a % 18446744073709551616 from by unfold u64N; omega, show ((u64N b : Nat) : Int) = b % 18446744073709551616 from by unfold u64N; omega]
    exact (Int.mul_emod a b _).symm
  show wrap64 ((u64N a * u64N b % 18446744073709551616 : Nat) : Int) = _
  rw [e, wrap_u64]
theorem w32_in (a : Int) : -9223372036854775808 ≤ wrap32 a ∧ wrap32 a < 9223372036854775808 := by have := w32_range a; omega
def EV (op a b : Int) : Prop := ∃ v, alu_Eval.f 2000 op a b = some (v, true) ∧ spinnakerref07_Eval.f 2000 op a b = some v
theorem at_plain {op a b v : Int} (h : 22 ≤ op ∧ op ≤ 30 ∨ 35 ≤ op ∧ op ≤ 44) (hv : alu_plain.f 1999 op a b = some v) : alu_Eval.f 2000 op a b = some (v, true) := by
  unfold alu_Eval.f
  rw [if_neg (by omega)]
  simp only [alu_Eval.j0]
  rw [if_neg (by simp; omega)]
  by_cases c : op ≤ 30
  · rw [if_pos c]; exact bind_at hv rfl
  · rw [if_neg c, if_neg (by omega), if_pos (by omega)]; exact bind_at hv rfl
theorem at_short {op a b v : Int} (h : 31 ≤ op ∧ op ≤ 34 ∨ 45 ≤ op ∧ op ≤ 49) (hv : alu_short.f 1999 op a b = some v) : alu_Eval.f 2000 op a b = some (v, true) := by
  unfold alu_Eval.f
  rw [if_neg (by omega)]
  simp only [alu_Eval.j0]
  rw [if_neg (by simp; omega), if_neg (by omega)]
  by_cases c : op ≤ 34
  · rw [if_pos c]; exact bind_at hv rfl
  · rw [if_neg c, if_neg (by omega), if_pos (by omega)]; exact bind_at hv rfl
theorem at_times {op a b v : Int} (h : 50 ≤ op ∧ op ≤ 57) (hv : alu_times.f 1999 op a b = some v) : alu_Eval.f 2000 op a b = some (v, true) := by
  unfold alu_Eval.f
  rw [if_neg (by omega)]
  simp only [alu_Eval.j0]
  rw [if_neg (by simp; omega), if_neg (by omega), if_neg (by omega), if_neg (by omega), if_neg (by omega), if_pos (by omega)]
  exact bind_at hv rfl
theorem at_st {op a b v : Int} (h : 58 ≤ op ∧ op ≤ 62) (hv : alu_shortTimes.f op a b = some v) : alu_Eval.f 2000 op a b = some (v, true) := by
  unfold alu_Eval.f
  rw [if_neg (by omega)]
  simp only [alu_Eval.j0]
  rw [if_neg (by simp; omega), if_neg (by omega), if_neg (by omega), if_neg (by omega), if_neg (by omega), if_neg (by omega)]
  exact bind_at hv rfl
theorem ev_22 (a b : Int) (ha : -9223372036854775808 ≤ a ∧ a < 9223372036854775808) (hb : -9223372036854775808 ≤ b ∧ b < 9223372036854775808) : EV 22 a b := by
  refine ⟨wrap64 (a + b), ?_, ?_⟩
  · refine at_plain (by decide) ?_
    unfold alu_plain.f
    rw [(places b 6 64 (by decide) (by decide) (M1 := 63) (M2 := 64) rfl rfl).1]
    repeat (first | refine (if_neg (by decide +kernel)).trans ?_ | refine (if_pos (by decide +kernel)).trans ?_)
    simp only [alu_plain.j0, alu_plain.j1, alu_plain.j2, alu_plain.j3, alu_plain.j4, alu_plain.j5, alu_plain.j6]
    repeat (first | refine (if_neg (by decide +kernel)).trans ?_ | refine (if_pos (by decide +kernel)).trans ?_)
    rfl
  · unfold spinnakerref07_Eval.f
    refine bind_at (v := (⟨#[97, 100, 100, 105]⟩ : ByteArray)) (by decide +kernel) ?_
    refine bind_at (v := (⟨#[97, 100, 100]⟩ : ByteArray)) (by unfold spinnakerref07_base.f; simp only [toList_d, spinnakerref07_base.j0]; repeat (first | refine (if_neg (by decide +kernel)).trans ?_ | refine (if_pos (by decide +kernel)).trans ?_); decide +kernel) ?_
    simp only [toList_d]
    repeat (first | refine (if_neg (by decide +kernel)).trans ?_ | refine (if_pos (by decide +kernel)).trans ?_)
    rfl
theorem ev_23 (a b : Int) (ha : -9223372036854775808 ≤ a ∧ a < 9223372036854775808) (hb : -9223372036854775808 ≤ b ∧ b < 9223372036854775808) : EV 23 a b := by
  refine ⟨if decide (a < b) = true then 1 else 0, ?_, ?_⟩
  · refine at_plain (by decide) ?_
    unfold alu_plain.f
    rw [(places b 6 64 (by decide) (by decide) (M1 := 63) (M2 := 64) rfl rfl).1]
    repeat (first | refine (if_neg (by decide +kernel)).trans ?_ | refine (if_pos (by decide +kernel)).trans ?_)
    simp only [alu_plain.j0, alu_plain.j1, alu_plain.j2, alu_plain.j3, alu_plain.j4, alu_plain.j5, alu_plain.j6]
    repeat (first | refine (if_neg (by decide +kernel)).trans ?_ | refine (if_pos (by decide +kernel)).trans ?_)
    exact bind_at (flag_f _) rfl
  · unfold spinnakerref07_Eval.f
    refine bind_at (v := (⟨#[115, 108, 116, 105]⟩ : ByteArray)) (by decide +kernel) ?_
    refine bind_at (v := (⟨#[115, 108, 116]⟩ : ByteArray)) (by unfold spinnakerref07_base.f; simp only [toList_d, spinnakerref07_base.j0]; repeat (first | refine (if_neg (by decide +kernel)).trans ?_ | refine (if_pos (by decide +kernel)).trans ?_); decide +kernel) ?_
    simp only [toList_d]
    repeat (first | refine (if_neg (by decide +kernel)).trans ?_ | refine (if_pos (by decide +kernel)).trans ?_)
    exact bind_at (one_f _) rfl
theorem ev_24 (a b : Int) (ha : -9223372036854775808 ≤ a ∧ a < 9223372036854775808) (hb : -9223372036854775808 ≤ b ∧ b < 9223372036854775808) : EV 24 a b := by
  refine ⟨if decide (IntKind.u64.wrap a < IntKind.u64.wrap b) = true then 1 else 0, ?_, ?_⟩
  · refine at_plain (by decide) ?_
    unfold alu_plain.f
    rw [(places b 6 64 (by decide) (by decide) (M1 := 63) (M2 := 64) rfl rfl).1]
    repeat (first | refine (if_neg (by decide +kernel)).trans ?_ | refine (if_pos (by decide +kernel)).trans ?_)
    simp only [alu_plain.j0, alu_plain.j1, alu_plain.j2, alu_plain.j3, alu_plain.j4, alu_plain.j5, alu_plain.j6]
    repeat (first | refine (if_neg (by decide +kernel)).trans ?_ | refine (if_pos (by decide +kernel)).trans ?_)
    exact bind_at (flag_f _) rfl
  · unfold spinnakerref07_Eval.f
    refine bind_at (v := (⟨#[115, 108, 116, 105, 117]⟩ : ByteArray)) (by decide +kernel) ?_
    refine bind_at (v := (⟨#[115, 108, 116, 117]⟩ : ByteArray)) (by unfold spinnakerref07_base.f; simp only [toList_d, spinnakerref07_base.j0]; repeat (first | refine (if_neg (by decide +kernel)).trans ?_ | refine (if_pos (by decide +kernel)).trans ?_); decide +kernel) ?_
    simp only [toList_d]
    repeat (first | refine (if_neg (by decide +kernel)).trans ?_ | refine (if_pos (by decide +kernel)).trans ?_)
    exact bind_at (one_f _) rfl
theorem ev_25 (a b : Int) (ha : -9223372036854775808 ≤ a ∧ a < 9223372036854775808) (hb : -9223372036854775808 ≤ b ∧ b < 9223372036854775808) : EV 25 a b := by
  refine ⟨Go.bits .xor .i64 a b, ?_, ?_⟩
  · refine at_plain (by decide) ?_
    unfold alu_plain.f
    rw [(places b 6 64 (by decide) (by decide) (M1 := 63) (M2 := 64) rfl rfl).1]
    repeat (first | refine (if_neg (by decide +kernel)).trans ?_ | refine (if_pos (by decide +kernel)).trans ?_)
    simp only [alu_plain.j0, alu_plain.j1, alu_plain.j2, alu_plain.j3, alu_plain.j4, alu_plain.j5, alu_plain.j6]
    repeat (first | refine (if_neg (by decide +kernel)).trans ?_ | refine (if_pos (by decide +kernel)).trans ?_)
    rfl
  · unfold spinnakerref07_Eval.f
    refine bind_at (v := (⟨#[120, 111, 114, 105]⟩ : ByteArray)) (by decide +kernel) ?_
    refine bind_at (v := (⟨#[120, 111, 114]⟩ : ByteArray)) (by unfold spinnakerref07_base.f; simp only [toList_d, spinnakerref07_base.j0]; repeat (first | refine (if_neg (by decide +kernel)).trans ?_ | refine (if_pos (by decide +kernel)).trans ?_); decide +kernel) ?_
    simp only [toList_d]
    repeat (first | refine (if_neg (by decide +kernel)).trans ?_ | refine (if_pos (by decide +kernel)).trans ?_)
    rfl
theorem ev_26 (a b : Int) (ha : -9223372036854775808 ≤ a ∧ a < 9223372036854775808) (hb : -9223372036854775808 ≤ b ∧ b < 9223372036854775808) : EV 26 a b := by
  refine ⟨Go.bits .or .i64 a b, ?_, ?_⟩
  · refine at_plain (by decide) ?_
    unfold alu_plain.f
    rw [(places b 6 64 (by decide) (by decide) (M1 := 63) (M2 := 64) rfl rfl).1]
    repeat (first | refine (if_neg (by decide +kernel)).trans ?_ | refine (if_pos (by decide +kernel)).trans ?_)
    simp only [alu_plain.j0, alu_plain.j1, alu_plain.j2, alu_plain.j3, alu_plain.j4, alu_plain.j5, alu_plain.j6]
    repeat (first | refine (if_neg (by decide +kernel)).trans ?_ | refine (if_pos (by decide +kernel)).trans ?_)
    rfl
  · unfold spinnakerref07_Eval.f
    refine bind_at (v := (⟨#[111, 114, 105]⟩ : ByteArray)) (by decide +kernel) ?_
    refine bind_at (v := (⟨#[111, 114]⟩ : ByteArray)) (by unfold spinnakerref07_base.f; simp only [toList_d, spinnakerref07_base.j0]; repeat (first | refine (if_neg (by decide +kernel)).trans ?_ | refine (if_pos (by decide +kernel)).trans ?_); decide +kernel) ?_
    simp only [toList_d]
    repeat (first | refine (if_neg (by decide +kernel)).trans ?_ | refine (if_pos (by decide +kernel)).trans ?_)
    rfl
theorem ev_27 (a b : Int) (ha : -9223372036854775808 ≤ a ∧ a < 9223372036854775808) (hb : -9223372036854775808 ≤ b ∧ b < 9223372036854775808) : EV 27 a b := by
  refine ⟨Go.bits .and .i64 a b, ?_, ?_⟩
  · refine at_plain (by decide) ?_
    unfold alu_plain.f
    rw [(places b 6 64 (by decide) (by decide) (M1 := 63) (M2 := 64) rfl rfl).1]
    repeat (first | refine (if_neg (by decide +kernel)).trans ?_ | refine (if_pos (by decide +kernel)).trans ?_)
    simp only [alu_plain.j0, alu_plain.j1, alu_plain.j2, alu_plain.j3, alu_plain.j4, alu_plain.j5, alu_plain.j6]
    repeat (first | refine (if_neg (by decide +kernel)).trans ?_ | refine (if_pos (by decide +kernel)).trans ?_)
    rfl
  · unfold spinnakerref07_Eval.f
    refine bind_at (v := (⟨#[97, 110, 100, 105]⟩ : ByteArray)) (by decide +kernel) ?_
    refine bind_at (v := (⟨#[97, 110, 100]⟩ : ByteArray)) (by unfold spinnakerref07_base.f; simp only [toList_d, spinnakerref07_base.j0]; repeat (first | refine (if_neg (by decide +kernel)).trans ?_ | refine (if_pos (by decide +kernel)).trans ?_); decide +kernel) ?_
    simp only [toList_d]
    repeat (first | refine (if_neg (by decide +kernel)).trans ?_ | refine (if_pos (by decide +kernel)).trans ?_)
    rfl
theorem ev_28 (a b : Int) (ha : -9223372036854775808 ≤ a ∧ a < 9223372036854775808) (hb : -9223372036854775808 ≤ b ∧ b < 9223372036854775808) : EV 28 a b := by
  refine ⟨shl .i64 a ((u64N b % 64 : Nat) : Int), ?_, ?_⟩
  · refine at_plain (by decide) ?_
    unfold alu_plain.f
    rw [(places b 6 64 (by decide) (by decide) (M1 := 63) (M2 := 64) rfl rfl).1]
    repeat (first | refine (if_neg (by decide +kernel)).trans ?_ | refine (if_pos (by decide +kernel)).trans ?_)
    simp only [alu_plain.j0, alu_plain.j1, alu_plain.j2, alu_plain.j3, alu_plain.j4, alu_plain.j5, alu_plain.j6]
    repeat (first | refine (if_neg (by decide +kernel)).trans ?_ | refine (if_pos (by decide +kernel)).trans ?_)
    exact if_pos (Int.natCast_nonneg _)
  · unfold spinnakerref07_Eval.f
    refine bind_at (v := (⟨#[115, 108, 108, 105]⟩ : ByteArray)) (by decide +kernel) ?_
    refine bind_at (v := (⟨#[115, 108, 108]⟩ : ByteArray)) (by unfold spinnakerref07_base.f; simp only [toList_d, spinnakerref07_base.j0]; repeat (first | refine (if_neg (by decide +kernel)).trans ?_ | refine (if_pos (by decide +kernel)).trans ?_); decide +kernel) ?_
    simp only [toList_d]
    repeat (first | refine (if_neg (by decide +kernel)).trans ?_ | refine (if_pos (by decide +kernel)).trans ?_)
    rw [(places b 6 64 (by decide) (by decide) (M1 := 63) (M2 := 64) rfl rfl).2]; exact bind_at (same_sll a _ (Nat.mod_lt (u64N b) (by decide)) 2000 (by decide)) rfl
theorem ev_29 (a b : Int) (ha : -9223372036854775808 ≤ a ∧ a < 9223372036854775808) (hb : -9223372036854775808 ≤ b ∧ b < 9223372036854775808) : EV 29 a b := by
  refine ⟨wrap64 (shr .u64 (IntKind.u64.wrap a) ((u64N b % 64 : Nat) : Int)), ?_, ?_⟩
  · refine at_plain (by decide) ?_
    unfold alu_plain.f
    rw [(places b 6 64 (by decide) (by decide) (M1 := 63) (M2 := 64) rfl rfl).1]
    repeat (first | refine (if_neg (by decide +kernel)).trans ?_ | refine (if_pos (by decide +kernel)).trans ?_)
    simp only [alu_plain.j0, alu_plain.j1, alu_plain.j2, alu_plain.j3, alu_plain.j4, alu_plain.j5, alu_plain.j6]
    repeat (first | refine (if_neg (by decide +kernel)).trans ?_ | refine (if_pos (by decide +kernel)).trans ?_)
    exact if_pos (Int.natCast_nonneg _)
  · unfold spinnakerref07_Eval.f
    refine bind_at (v := (⟨#[115, 114, 108, 105]⟩ : ByteArray)) (by decide +kernel) ?_
    refine bind_at (v := (⟨#[115, 114, 108]⟩ : ByteArray)) (by unfold spinnakerref07_base.f; simp only [toList_d, spinnakerref07_base.j0]; repeat (first | refine (if_neg (by decide +kernel)).trans ?_ | refine (if_pos (by decide +kernel)).trans ?_); decide +kernel) ?_
    simp only [toList_d]
    repeat (first | refine (if_neg (by decide +kernel)).trans ?_ | refine (if_pos (by decide +kernel)).trans ?_)
    rw [(places b 6 64 (by decide) (by decide) (M1 := 63) (M2 := 64) rfl rfl).2]; exact bind_at (same_srl a _ (Nat.mod_lt (u64N b) (by decide)) 2000 (by decide)) rfl
theorem ev_30 (a b : Int) (ha : -9223372036854775808 ≤ a ∧ a < 9223372036854775808) (hb : -9223372036854775808 ≤ b ∧ b < 9223372036854775808) : EV 30 a b := by
  refine ⟨shr .i64 a ((u64N b % 64 : Nat) : Int), ?_, ?_⟩
  · refine at_plain (by decide) ?_
    unfold alu_plain.f
    rw [(places b 6 64 (by decide) (by decide) (M1 := 63) (M2 := 64) rfl rfl).1]
    repeat (first | refine (if_neg (by decide +kernel)).trans ?_ | refine (if_pos (by decide +kernel)).trans ?_)
    simp only [alu_plain.j0, alu_plain.j1, alu_plain.j2, alu_plain.j3, alu_plain.j4, alu_plain.j5, alu_plain.j6]
    repeat (first | refine (if_neg (by decide +kernel)).trans ?_ | refine (if_pos (by decide +kernel)).trans ?_)
    exact if_pos (Int.natCast_nonneg _)
  · unfold spinnakerref07_Eval.f
    refine bind_at (v := (⟨#[115, 114, 97, 105]⟩ : ByteArray)) (by decide +kernel) ?_
    refine bind_at (v := (⟨#[115, 114, 97]⟩ : ByteArray)) (by unfold spinnakerref07_base.f; simp only [toList_d, spinnakerref07_base.j0]; repeat (first | refine (if_neg (by decide +kernel)).trans ?_ | refine (if_pos (by decide +kernel)).trans ?_); decide +kernel) ?_
    simp only [toList_d]
    repeat (first | refine (if_neg (by decide +kernel)).trans ?_ | refine (if_pos (by decide +kernel)).trans ?_)
    refine bind_at (bit_of 2000 a 63 (p' := 63) rfl (by decide) (by decide)) ?_; rw [(places b 6 64 (by decide) (by decide) (M1 := 63) (M2 := 64) rfl rfl).2]; exact bind_at (same_sra a ha _ (Nat.mod_lt (u64N b) (by decide)) 2000 (by decide)) rfl
theorem ev_31 (a b : Int) (ha : -9223372036854775808 ≤ a ∧ a < 9223372036854775808) (hb : -9223372036854775808 ≤ b ∧ b < 9223372036854775808) : EV 31 a b := by
  refine ⟨wrap32 (wrap64 (a + b)), ?_, ?_⟩
  · refine at_short (by decide) ?_
    unfold alu_short.f
    rw [(places b 5 32 (by decide) (by decide) (M1 := 31) (M2 := 32) rfl rfl).1]
    repeat (first | refine (if_neg (by decide +kernel)).trans ?_ | refine (if_pos (by decide +kernel)).trans ?_)
    simp only [alu_short.j0, alu_short.j1, alu_short.j2]
    repeat (first | refine (if_neg (by decide +kernel)).trans ?_ | refine (if_pos (by decide +kernel)).trans ?_)
    exact bind_at (half_f _) rfl
  · unfold spinnakerref07_Eval.f
    refine bind_at (v := (⟨#[97, 100, 100, 105, 119]⟩ : ByteArray)) (by decide +kernel) ?_
    refine bind_at (v := (⟨#[97, 100, 100, 119]⟩ : ByteArray)) (by unfold spinnakerref07_base.f; simp only [toList_d, spinnakerref07_base.j0]; repeat (first | refine (if_neg (by decide +kernel)).trans ?_ | refine (if_pos (by decide +kernel)).trans ?_); decide +kernel) ?_
    simp only [toList_d]
    repeat (first | refine (if_neg (by decide +kernel)).trans ?_ | refine (if_pos (by decide +kernel)).trans ?_)
    refine bind_at (v := wrap32 (wrap64 (a + b))) ?_ rfl
    unfold spinnakerref07_shorts.f
    refine bind_at (half_ref 2000 a (by decide)) ?_
    refine bind_at (half_ref 2000 b (by decide)) ?_
    refine bind_at (div_same _ _ (w32_in a) (w32_in b)) ?_
    rw [tm32, tm32]
    refine bind_at (divu_same _ _ (by omega) (by omega)) ?_
    simp only [toList_d]
    repeat (first | refine (if_neg (by decide +kernel)).trans ?_ | refine (if_pos (by decide +kernel)).trans ?_)
    exact bind_at (half_ref 2000 _ (by decide)) rfl
theorem ev_32 (a b : Int) (ha : -9223372036854775808 ≤ a ∧ a < 9223372036854775808) (hb : -9223372036854775808 ≤ b ∧ b < 9223372036854775808) : EV 32 a b := by
  refine ⟨wrap32 (shl .i64 a ((u64N b % 32 : Nat) : Int)), ?_, ?_⟩
  · refine at_short (by decide) ?_
    unfold alu_short.f
    rw [(places b 5 32 (by decide) (by decide) (M1 := 31) (M2 := 32) rfl rfl).1]
    repeat (first | refine (if_neg (by decide +kernel)).trans ?_ | refine (if_pos (by decide +kernel)).trans ?_)
    simp only [alu_short.j0, alu_short.j1, alu_short.j2]
    repeat (first | refine (if_neg (by decide +kernel)).trans ?_ | refine (if_pos (by decide +kernel)).trans ?_)
    refine (if_pos (Int.natCast_nonneg _)).trans ?_
    exact bind_at (half_f _) rfl
  · unfold spinnakerref07_Eval.f
    refine bind_at (v := (⟨#[115, 108, 108, 105, 119]⟩ : ByteArray)) (by decide +kernel) ?_
    refine bind_at (v := (⟨#[115, 108, 108, 119]⟩ : ByteArray)) (by unfold spinnakerref07_base.f; simp only [toList_d, spinnakerref07_base.j0]; repeat (first | refine (if_neg (by decide +kernel)).trans ?_ | refine (if_pos (by decide +kernel)).trans ?_); decide +kernel) ?_
    simp only [toList_d]
    repeat (first | refine (if_neg (by decide +kernel)).trans ?_ | refine (if_pos (by decide +kernel)).trans ?_)
    refine bind_at (v := wrap32 (shl .i64 a ((u64N b % 32 : Nat) : Int))) ?_ rfl
    unfold spinnakerref07_shorts.f
    refine bind_at (half_ref 2000 a (by decide)) ?_
    refine bind_at (half_ref 2000 b (by decide)) ?_
    refine bind_at (div_same _ _ (w32_in a) (w32_in b)) ?_
    rw [tm32, tm32]
    refine bind_at (divu_same _ _ (by omega) (by omega)) ?_
    simp only [toList_d]
    repeat (first | refine (if_neg (by decide +kernel)).trans ?_ | refine (if_pos (by decide +kernel)).trans ?_)
    obtain ⟨t, e1, e2⟩ := same_sllw a _ (Nat.mod_lt (u64N b) (by decide)) 2000 (by decide); rw [(places b 5 32 (by decide) (by decide) (M1 := 31) (M2 := 32) rfl rfl).2]; refine bind_at e1 ?_; rw [← e2]; exact bind_at (half_ref 2000 _ (by decide)) rfl
theorem ev_33 (a b : Int) (ha : -9223372036854775808 ≤ a ∧ a < 9223372036854775808) (hb : -9223372036854775808 ≤ b ∧ b < 9223372036854775808) : EV 33 a b := by
  refine ⟨wrap32 (shr .u32 (a % 4294967296) ((u64N b % 32 : Nat) : Int)), ?_, ?_⟩
  · refine at_short (by decide) ?_
    unfold alu_short.f
    rw [(places b 5 32 (by decide) (by decide) (M1 := 31) (M2 := 32) rfl rfl).1]
    repeat (first | refine (if_neg (by decide +kernel)).trans ?_ | refine (if_pos (by decide +kernel)).trans ?_)
    simp only [alu_short.j0, alu_short.j1, alu_short.j2]
    repeat (first | refine (if_neg (by decide +kernel)).trans ?_ | refine (if_pos (by decide +kernel)).trans ?_)
    refine (if_pos (Int.natCast_nonneg _)).trans ?_
    exact bind_at (half_f _) rfl
  · unfold spinnakerref07_Eval.f
    refine bind_at (v := (⟨#[115, 114, 108, 105, 119]⟩ : ByteArray)) (by decide +kernel) ?_
    refine bind_at (v := (⟨#[115, 114, 108, 119]⟩ : ByteArray)) (by unfold spinnakerref07_base.f; simp only [toList_d, spinnakerref07_base.j0]; repeat (first | refine (if_neg (by decide +kernel)).trans ?_ | refine (if_pos (by decide +kernel)).trans ?_); decide +kernel) ?_
    simp only [toList_d]
    repeat (first | refine (if_neg (by decide +kernel)).trans ?_ | refine (if_pos (by decide +kernel)).trans ?_)
    refine bind_at (v := wrap32 (shr .u32 (a % 4294967296) ((u64N b % 32 : Nat) : Int))) ?_ rfl
    unfold spinnakerref07_shorts.f
    refine bind_at (half_ref 2000 a (by decide)) ?_
    refine bind_at (half_ref 2000 b (by decide)) ?_
    refine bind_at (div_same _ _ (w32_in a) (w32_in b)) ?_
    rw [tm32, tm32]
    refine bind_at (divu_same _ _ (by omega) (by omega)) ?_
    simp only [toList_d]
    repeat (first | refine (if_neg (by decide +kernel)).trans ?_ | refine (if_pos (by decide +kernel)).trans ?_)
    obtain ⟨t, e1, e2⟩ := same_srlw a _ (Nat.mod_lt (u64N b) (by decide)) 2000 (by decide); rw [(places b 5 32 (by decide) (by decide) (M1 := 31) (M2 := 32) rfl rfl).2]; refine bind_at e1 ?_; rw [← e2]; exact bind_at (half_ref 2000 _ (by decide)) rfl
theorem ev_34 (a b : Int) (ha : -9223372036854775808 ≤ a ∧ a < 9223372036854775808) (hb : -9223372036854775808 ≤ b ∧ b < 9223372036854775808) : EV 34 a b := by
  refine ⟨shr .i64 (wrap32 a) ((u64N b % 32 : Nat) : Int), ?_, ?_⟩
  · refine at_short (by decide) ?_
    unfold alu_short.f
    rw [(places b 5 32 (by decide) (by decide) (M1 := 31) (M2 := 32) rfl rfl).1]
    repeat (first | refine (if_neg (by decide +kernel)).trans ?_ | refine (if_pos (by decide +kernel)).trans ?_)
    simp only [alu_short.j0, alu_short.j1, alu_short.j2]
    repeat (first | refine (if_neg (by decide +kernel)).trans ?_ | refine (if_pos (by decide +kernel)).trans ?_)
    refine bind_at (half_f _) ?_
    exact if_pos (Int.natCast_nonneg _)
  · unfold spinnakerref07_Eval.f
    refine bind_at (v := (⟨#[115, 114, 97, 105, 119]⟩ : ByteArray)) (by decide +kernel) ?_
    refine bind_at (v := (⟨#[115, 114, 97, 119]⟩ : ByteArray)) (by unfold spinnakerref07_base.f; simp only [toList_d, spinnakerref07_base.j0]; repeat (first | refine (if_neg (by decide +kernel)).trans ?_ | refine (if_pos (by decide +kernel)).trans ?_); decide +kernel) ?_
    simp only [toList_d]
    repeat (first | refine (if_neg (by decide +kernel)).trans ?_ | refine (if_pos (by decide +kernel)).trans ?_)
    refine bind_at (v := shr .i64 (wrap32 a) ((u64N b % 32 : Nat) : Int)) ?_ rfl
    unfold spinnakerref07_shorts.f
    refine bind_at (half_ref 2000 a (by decide)) ?_
    refine bind_at (half_ref 2000 b (by decide)) ?_
    refine bind_at (div_same _ _ (w32_in a) (w32_in b)) ?_
    rw [tm32, tm32]
    refine bind_at (divu_same _ _ (by omega) (by omega)) ?_
    simp only [toList_d]
    repeat (first | refine (if_neg (by decide +kernel)).trans ?_ | refine (if_pos (by decide +kernel)).trans ?_)
    obtain ⟨t, e1, e2⟩ := same_sraw a _ (Nat.mod_lt (u64N b) (by decide)) 2000 (by decide); refine bind_at (bit_of 2000 a 31 (p' := 31) rfl (by decide) (by decide)) ?_; rw [(places b 5 32 (by decide) (by decide) (M1 := 31) (M2 := 32) rfl rfl).2]; refine bind_at e1 ?_; rw [← e2]; exact bind_at (half_ref 2000 _ (by decide)) rfl
theorem ev_35 (a b : Int) (ha : -9223372036854775808 ≤ a ∧ a < 9223372036854775808) (hb : -9223372036854775808 ≤ b ∧ b < 9223372036854775808) : EV 35 a b := by
  refine ⟨wrap64 (a + b), ?_, ?_⟩
  · refine at_plain (by decide) ?_
    unfold alu_plain.f
    rw [(places b 6 64 (by decide) (by decide) (M1 := 63) (M2 := 64) rfl rfl).1]
    repeat (first | refine (if_neg (by decide +kernel)).trans ?_ | refine (if_pos (by decide +kernel)).trans ?_)
    simp only [alu_plain.j0, alu_plain.j1, alu_plain.j2, alu_plain.j3, alu_plain.j4, alu_plain.j5, alu_plain.j6]
    repeat (first | refine (if_neg (by decide +kernel)).trans ?_ | refine (if_pos (by decide +kernel)).trans ?_)
    rfl
  · unfold spinnakerref07_Eval.f
    refine bind_at (v := (⟨#[97, 100, 100]⟩ : ByteArray)) (by decide +kernel) ?_
    refine bind_at (v := (⟨#[97, 100, 100]⟩ : ByteArray)) (by unfold spinnakerref07_base.f; simp only [toList_d, spinnakerref07_base.j0]; repeat (first | refine (if_neg (by decide +kernel)).trans ?_ | refine (if_pos (by decide +kernel)).trans ?_); decide +kernel) ?_
    simp only [toList_d]
    repeat (first | refine (if_neg (by decide +kernel)).trans ?_ | refine (if_pos (by decide +kernel)).trans ?_)
    rfl
theorem ev_36 (a b : Int) (ha : -9223372036854775808 ≤ a ∧ a < 9223372036854775808) (hb : -9223372036854775808 ≤ b ∧ b < 9223372036854775808) : EV 36 a b := by
  refine ⟨wrap64 (a - b), ?_, ?_⟩
  · refine at_plain (by decide) ?_
    unfold alu_plain.f
    rw [(places b 6 64 (by decide) (by decide) (M1 := 63) (M2 := 64) rfl rfl).1]
    repeat (first | refine (if_neg (by decide +kernel)).trans ?_ | refine (if_pos (by decide +kernel)).trans ?_)
    simp only [alu_plain.j0, alu_plain.j1, alu_plain.j2, alu_plain.j3, alu_plain.j4, alu_plain.j5, alu_plain.j6]
    repeat (first | refine (if_neg (by decide +kernel)).trans ?_ | refine (if_pos (by decide +kernel)).trans ?_)
    rfl
  · unfold spinnakerref07_Eval.f
    refine bind_at (v := (⟨#[115, 117, 98]⟩ : ByteArray)) (by decide +kernel) ?_
    refine bind_at (v := (⟨#[115, 117, 98]⟩ : ByteArray)) (by unfold spinnakerref07_base.f; simp only [toList_d, spinnakerref07_base.j0]; repeat (first | refine (if_neg (by decide +kernel)).trans ?_ | refine (if_pos (by decide +kernel)).trans ?_); decide +kernel) ?_
    simp only [toList_d]
    repeat (first | refine (if_neg (by decide +kernel)).trans ?_ | refine (if_pos (by decide +kernel)).trans ?_)
    rfl
theorem ev_37 (a b : Int) (ha : -9223372036854775808 ≤ a ∧ a < 9223372036854775808) (hb : -9223372036854775808 ≤ b ∧ b < 9223372036854775808) : EV 37 a b := by
  refine ⟨shl .i64 a ((u64N b % 64 : Nat) : Int), ?_, ?_⟩
  · refine at_plain (by decide) ?_
    unfold alu_plain.f
    rw [(places b 6 64 (by decide) (by decide) (M1 := 63) (M2 := 64) rfl rfl).1]
    repeat (first | refine (if_neg (by decide +kernel)).trans ?_ | refine (if_pos (by decide +kernel)).trans ?_)
    simp only [alu_plain.j0, alu_plain.j1, alu_plain.j2, alu_plain.j3, alu_plain.j4, alu_plain.j5, alu_plain.j6]
    repeat (first | refine (if_neg (by decide +kernel)).trans ?_ | refine (if_pos (by decide +kernel)).trans ?_)
    exact if_pos (Int.natCast_nonneg _)
  · unfold spinnakerref07_Eval.f
    refine bind_at (v := (⟨#[115, 108, 108]⟩ : ByteArray)) (by decide +kernel) ?_
    refine bind_at (v := (⟨#[115, 108, 108]⟩ : ByteArray)) (by unfold spinnakerref07_base.f; simp only [toList_d, spinnakerref07_base.j0]; repeat (first | refine (if_neg (by decide +kernel)).trans ?_ | refine (if_pos (by decide +kernel)).trans ?_); decide +kernel) ?_
    simp only [toList_d]
    repeat (first | refine (if_neg (by decide +kernel)).trans ?_ | refine (if_pos (by decide +kernel)).trans ?_)
    rw [(places b 6 64 (by decide) (by decide) (M1 := 63) (M2 := 64) rfl rfl).2]; exact bind_at (same_sll a _ (Nat.mod_lt (u64N b) (by decide)) 2000 (by decide)) rfl
theorem ev_38 (a b : Int) (ha : -9223372036854775808 ≤ a ∧ a < 9223372036854775808) (hb : -9223372036854775808 ≤ b ∧ b < 9223372036854775808) : EV 38 a b := by
  refine ⟨if decide (a < b) = true then 1 else 0, ?_, ?_⟩
  · refine at_plain (by decide) ?_
    unfold alu_plain.f
    rw [(places b 6 64 (by decide) (by decide) (M1 := 63) (M2 := 64) rfl rfl).1]
    repeat (first | refine (if_neg (by decide +kernel)).trans ?_ | refine (if_pos (by decide +kernel)).trans ?_)
    simp only [alu_plain.j0, alu_plain.j1, alu_plain.j2, alu_plain.j3, alu_plain.j4, alu_plain.j5, alu_plain.j6]
    repeat (first | refine (if_neg (by decide +kernel)).trans ?_ | refine (if_pos (by decide +kernel)).trans ?_)
    exact bind_at (flag_f _) rfl
  · unfold spinnakerref07_Eval.f
    refine bind_at (v := (⟨#[115, 108, 116]⟩ : ByteArray)) (by decide +kernel) ?_
    refine bind_at (v := (⟨#[115, 108, 116]⟩ : ByteArray)) (by unfold spinnakerref07_base.f; simp only [toList_d, spinnakerref07_base.j0]; repeat (first | refine (if_neg (by decide +kernel)).trans ?_ | refine (if_pos (by decide +kernel)).trans ?_); decide +kernel) ?_
    simp only [toList_d]
    repeat (first | refine (if_neg (by decide +kernel)).trans ?_ | refine (if_pos (by decide +kernel)).trans ?_)
    exact bind_at (one_f _) rfl
theorem ev_39 (a b : Int) (ha : -9223372036854775808 ≤ a ∧ a < 9223372036854775808) (hb : -9223372036854775808 ≤ b ∧ b < 9223372036854775808) : EV 39 a b := by
  refine ⟨if decide (IntKind.u64.wrap a < IntKind.u64.wrap b) = true then 1 else 0, ?_, ?_⟩
  · refine at_plain (by decide) ?_
    unfold alu_plain.f
    rw [(places b 6 64 (by decide) (by decide) (M1 := 63) (M2 := 64) rfl rfl).1]
    repeat (first | refine (if_neg (by decide +kernel)).trans ?_ | refine (if_pos (by decide +kernel)).trans ?_)
    simp only [alu_plain.j0, alu_plain.j1, alu_plain.j2, alu_plain.j3, alu_plain.j4, alu_plain.j5, alu_plain.j6]
    repeat (first | refine (if_neg (by decide +kernel)).trans ?_ | refine (if_pos (by decide +kernel)).trans ?_)
    exact bind_at (flag_f _) rfl
  · unfold spinnakerref07_Eval.f
    refine bind_at (v := (⟨#[115, 108, 116, 117]⟩ : ByteArray)) (by decide +kernel) ?_
    refine bind_at (v := (⟨#[115, 108, 116, 117]⟩ : ByteArray)) (by unfold spinnakerref07_base.f; simp only [toList_d, spinnakerref07_base.j0]; repeat (first | refine (if_neg (by decide +kernel)).trans ?_ | refine (if_pos (by decide +kernel)).trans ?_); decide +kernel) ?_
    simp only [toList_d]
    repeat (first | refine (if_neg (by decide +kernel)).trans ?_ | refine (if_pos (by decide +kernel)).trans ?_)
    exact bind_at (one_f _) rfl
theorem ev_40 (a b : Int) (ha : -9223372036854775808 ≤ a ∧ a < 9223372036854775808) (hb : -9223372036854775808 ≤ b ∧ b < 9223372036854775808) : EV 40 a b := by
  refine ⟨Go.bits .xor .i64 a b, ?_, ?_⟩
  · refine at_plain (by decide) ?_
    unfold alu_plain.f
    rw [(places b 6 64 (by decide) (by decide) (M1 := 63) (M2 := 64) rfl rfl).1]
    repeat (first | refine (if_neg (by decide +kernel)).trans ?_ | refine (if_pos (by decide +kernel)).trans ?_)
    simp only [alu_plain.j0, alu_plain.j1, alu_plain.j2, alu_plain.j3, alu_plain.j4, alu_plain.j5, alu_plain.j6]
    repeat (first | refine (if_neg (by decide +kernel)).trans ?_ | refine (if_pos (by decide +kernel)).trans ?_)
    rfl
  · unfold spinnakerref07_Eval.f
    refine bind_at (v := (⟨#[120, 111, 114]⟩ : ByteArray)) (by decide +kernel) ?_
    refine bind_at (v := (⟨#[120, 111, 114]⟩ : ByteArray)) (by unfold spinnakerref07_base.f; simp only [toList_d, spinnakerref07_base.j0]; repeat (first | refine (if_neg (by decide +kernel)).trans ?_ | refine (if_pos (by decide +kernel)).trans ?_); decide +kernel) ?_
    simp only [toList_d]
    repeat (first | refine (if_neg (by decide +kernel)).trans ?_ | refine (if_pos (by decide +kernel)).trans ?_)
    rfl
theorem ev_41 (a b : Int) (ha : -9223372036854775808 ≤ a ∧ a < 9223372036854775808) (hb : -9223372036854775808 ≤ b ∧ b < 9223372036854775808) : EV 41 a b := by
  refine ⟨wrap64 (shr .u64 (IntKind.u64.wrap a) ((u64N b % 64 : Nat) : Int)), ?_, ?_⟩
  · refine at_plain (by decide) ?_
    unfold alu_plain.f
    rw [(places b 6 64 (by decide) (by decide) (M1 := 63) (M2 := 64) rfl rfl).1]
    repeat (first | refine (if_neg (by decide +kernel)).trans ?_ | refine (if_pos (by decide +kernel)).trans ?_)
    simp only [alu_plain.j0, alu_plain.j1, alu_plain.j2, alu_plain.j3, alu_plain.j4, alu_plain.j5, alu_plain.j6]
    repeat (first | refine (if_neg (by decide +kernel)).trans ?_ | refine (if_pos (by decide +kernel)).trans ?_)
    exact if_pos (Int.natCast_nonneg _)
  · unfold spinnakerref07_Eval.f
    refine bind_at (v := (⟨#[115, 114, 108]⟩ : ByteArray)) (by decide +kernel) ?_
    refine bind_at (v := (⟨#[115, 114, 108]⟩ : ByteArray)) (by unfold spinnakerref07_base.f; simp only [toList_d, spinnakerref07_base.j0]; repeat (first | refine (if_neg (by decide +kernel)).trans ?_ | refine (if_pos (by decide +kernel)).trans ?_); decide +kernel) ?_
    simp only [toList_d]
    repeat (first | refine (if_neg (by decide +kernel)).trans ?_ | refine (if_pos (by decide +kernel)).trans ?_)
    rw [(places b 6 64 (by decide) (by decide) (M1 := 63) (M2 := 64) rfl rfl).2]; exact bind_at (same_srl a _ (Nat.mod_lt (u64N b) (by decide)) 2000 (by decide)) rfl
theorem ev_42 (a b : Int) (ha : -9223372036854775808 ≤ a ∧ a < 9223372036854775808) (hb : -9223372036854775808 ≤ b ∧ b < 9223372036854775808) : EV 42 a b := by
  refine ⟨shr .i64 a ((u64N b % 64 : Nat) : Int), ?_, ?_⟩
  · refine at_plain (by decide) ?_
    unfold alu_plain.f
    rw [(places b 6 64 (by decide) (by decide) (M1 := 63) (M2 := 64) rfl rfl).1]
    repeat (first | refine (if_neg (by decide +kernel)).trans ?_ | refine (if_pos (by decide +kernel)).trans ?_)
    simp only [alu_plain.j0, alu_plain.j1, alu_plain.j2, alu_plain.j3, alu_plain.j4, alu_plain.j5, alu_plain.j6]
    repeat (first | refine (if_neg (by decide +kernel)).trans ?_ | refine (if_pos (by decide +kernel)).trans ?_)
    exact if_pos (Int.natCast_nonneg _)
  · unfold spinnakerref07_Eval.f
    refine bind_at (v := (⟨#[115, 114, 97]⟩ : ByteArray)) (by decide +kernel) ?_
    refine bind_at (v := (⟨#[115, 114, 97]⟩ : ByteArray)) (by unfold spinnakerref07_base.f; simp only [toList_d, spinnakerref07_base.j0]; repeat (first | refine (if_neg (by decide +kernel)).trans ?_ | refine (if_pos (by decide +kernel)).trans ?_); decide +kernel) ?_
    simp only [toList_d]
    repeat (first | refine (if_neg (by decide +kernel)).trans ?_ | refine (if_pos (by decide +kernel)).trans ?_)
    refine bind_at (bit_of 2000 a 63 (p' := 63) rfl (by decide) (by decide)) ?_; rw [(places b 6 64 (by decide) (by decide) (M1 := 63) (M2 := 64) rfl rfl).2]; exact bind_at (same_sra a ha _ (Nat.mod_lt (u64N b) (by decide)) 2000 (by decide)) rfl
theorem ev_43 (a b : Int) (ha : -9223372036854775808 ≤ a ∧ a < 9223372036854775808) (hb : -9223372036854775808 ≤ b ∧ b < 9223372036854775808) : EV 43 a b := by
  refine ⟨Go.bits .or .i64 a b, ?_, ?_⟩
  · refine at_plain (by decide) ?_
    unfold alu_plain.f
    rw [(places b 6 64 (by decide) (by decide) (M1 := 63) (M2 := 64) rfl rfl).1]
    repeat (first | refine (if_neg (by decide +kernel)).trans ?_ | refine (if_pos (by decide +kernel)).trans ?_)
    simp only [alu_plain.j0, alu_plain.j1, alu_plain.j2, alu_plain.j3, alu_plain.j4, alu_plain.j5, alu_plain.j6]
    repeat (first | refine (if_neg (by decide +kernel)).trans ?_ | refine (if_pos (by decide +kernel)).trans ?_)
    rfl
  · unfold spinnakerref07_Eval.f
    refine bind_at (v := (⟨#[111, 114]⟩ : ByteArray)) (by decide +kernel) ?_
    refine bind_at (v := (⟨#[111, 114]⟩ : ByteArray)) (by unfold spinnakerref07_base.f; simp only [toList_d, spinnakerref07_base.j0]; repeat (first | refine (if_neg (by decide +kernel)).trans ?_ | refine (if_pos (by decide +kernel)).trans ?_); decide +kernel) ?_
    simp only [toList_d]
    repeat (first | refine (if_neg (by decide +kernel)).trans ?_ | refine (if_pos (by decide +kernel)).trans ?_)
    rfl
theorem ev_44 (a b : Int) (ha : -9223372036854775808 ≤ a ∧ a < 9223372036854775808) (hb : -9223372036854775808 ≤ b ∧ b < 9223372036854775808) : EV 44 a b := by
  refine ⟨Go.bits .and .i64 a b, ?_, ?_⟩
  · refine at_plain (by decide) ?_
    unfold alu_plain.f
    rw [(places b 6 64 (by decide) (by decide) (M1 := 63) (M2 := 64) rfl rfl).1]
    repeat (first | refine (if_neg (by decide +kernel)).trans ?_ | refine (if_pos (by decide +kernel)).trans ?_)
    simp only [alu_plain.j0, alu_plain.j1, alu_plain.j2, alu_plain.j3, alu_plain.j4, alu_plain.j5, alu_plain.j6]
    repeat (first | refine (if_neg (by decide +kernel)).trans ?_ | refine (if_pos (by decide +kernel)).trans ?_)
    rfl
  · unfold spinnakerref07_Eval.f
    refine bind_at (v := (⟨#[97, 110, 100]⟩ : ByteArray)) (by decide +kernel) ?_
    refine bind_at (v := (⟨#[97, 110, 100]⟩ : ByteArray)) (by unfold spinnakerref07_base.f; simp only [toList_d, spinnakerref07_base.j0]; repeat (first | refine (if_neg (by decide +kernel)).trans ?_ | refine (if_pos (by decide +kernel)).trans ?_); decide +kernel) ?_
    simp only [toList_d]
    repeat (first | refine (if_neg (by decide +kernel)).trans ?_ | refine (if_pos (by decide +kernel)).trans ?_)
    rfl
theorem ev_45 (a b : Int) (ha : -9223372036854775808 ≤ a ∧ a < 9223372036854775808) (hb : -9223372036854775808 ≤ b ∧ b < 9223372036854775808) : EV 45 a b := by
  refine ⟨wrap32 (wrap64 (a + b)), ?_, ?_⟩
  · refine at_short (by decide) ?_
    unfold alu_short.f
    rw [(places b 5 32 (by decide) (by decide) (M1 := 31) (M2 := 32) rfl rfl).1]
    repeat (first | refine (if_neg (by decide +kernel)).trans ?_ | refine (if_pos (by decide +kernel)).trans ?_)
    simp only [alu_short.j0, alu_short.j1, alu_short.j2]
    repeat (first | refine (if_neg (by decide +kernel)).trans ?_ | refine (if_pos (by decide +kernel)).trans ?_)
    exact bind_at (half_f _) rfl
  · unfold spinnakerref07_Eval.f
    refine bind_at (v := (⟨#[97, 100, 100, 119]⟩ : ByteArray)) (by decide +kernel) ?_
    refine bind_at (v := (⟨#[97, 100, 100, 119]⟩ : ByteArray)) (by unfold spinnakerref07_base.f; simp only [toList_d, spinnakerref07_base.j0]; repeat (first | refine (if_neg (by decide +kernel)).trans ?_ | refine (if_pos (by decide +kernel)).trans ?_); decide +kernel) ?_
    simp only [toList_d]
    repeat (first | refine (if_neg (by decide +kernel)).trans ?_ | refine (if_pos (by decide +kernel)).trans ?_)
    refine bind_at (v := wrap32 (wrap64 (a + b))) ?_ rfl
    unfold spinnakerref07_shorts.f
    refine bind_at (half_ref 2000 a (by decide)) ?_
    refine bind_at (half_ref 2000 b (by decide)) ?_
    refine bind_at (div_same _ _ (w32_in a) (w32_in b)) ?_
    rw [tm32, tm32]
    refine bind_at (divu_same _ _ (by omega) (by omega)) ?_
    simp only [toList_d]
    repeat (first | refine (if_neg (by decide +kernel)).trans ?_ | refine (if_pos (by decide +kernel)).trans ?_)
    exact bind_at (half_ref 2000 _ (by decide)) rfl
theorem ev_46 (a b : Int) (ha : -9223372036854775808 ≤ a ∧ a < 9223372036854775808) (hb : -9223372036854775808 ≤ b ∧ b < 9223372036854775808) : EV 46 a b := by
  refine ⟨wrap32 (wrap64 (a - b)), ?_, ?_⟩
  · refine at_short (by decide) ?_
    unfold alu_short.f
    rw [(places b 5 32 (by decide) (by decide) (M1 := 31) (M2 := 32) rfl rfl).1]
    repeat (first | refine (if_neg (by decide +kernel)).trans ?_ | refine (if_pos (by decide +kernel)).trans ?_)
    simp only [alu_short.j0, alu_short.j1, alu_short.j2]
    repeat (first | refine (if_neg (by decide +kernel)).trans ?_ | refine (if_pos (by decide +kernel)).trans ?_)
    exact bind_at (half_f _) rfl
  · unfold spinnakerref07_Eval.f
    refine bind_at (v := (⟨#[115, 117, 98, 119]⟩ : ByteArray)) (by decide +kernel) ?_
    refine bind_at (v := (⟨#[115, 117, 98, 119]⟩ : ByteArray)) (by unfold spinnakerref07_base.f; simp only [toList_d, spinnakerref07_base.j0]; repeat (first | refine (if_neg (by decide +kernel)).trans ?_ | refine (if_pos (by decide +kernel)).trans ?_); decide +kernel) ?_
    simp only [toList_d]
    repeat (first | refine (if_neg (by decide +kernel)).trans ?_ | refine (if_pos (by decide +kernel)).trans ?_)
    refine bind_at (v := wrap32 (wrap64 (a - b))) ?_ rfl
    unfold spinnakerref07_shorts.f
    refine bind_at (half_ref 2000 a (by decide)) ?_
    refine bind_at (half_ref 2000 b (by decide)) ?_
    refine bind_at (div_same _ _ (w32_in a) (w32_in b)) ?_
    rw [tm32, tm32]
    refine bind_at (divu_same _ _ (by omega) (by omega)) ?_
    simp only [toList_d]
    repeat (first | refine (if_neg (by decide +kernel)).trans ?_ | refine (if_pos (by decide +kernel)).trans ?_)
    exact bind_at (half_ref 2000 _ (by decide)) rfl
theorem ev_47 (a b : Int) (ha : -9223372036854775808 ≤ a ∧ a < 9223372036854775808) (hb : -9223372036854775808 ≤ b ∧ b < 9223372036854775808) : EV 47 a b := by
  refine ⟨wrap32 (shl .i64 a ((u64N b % 32 : Nat) : Int)), ?_, ?_⟩
  · refine at_short (by decide) ?_
    unfold alu_short.f
    rw [(places b 5 32 (by decide) (by decide) (M1 := 31) (M2 := 32) rfl rfl).1]
    repeat (first | refine (if_neg (by decide +kernel)).trans ?_ | refine (if_pos (by decide +kernel)).trans ?_)
    simp only [alu_short.j0, alu_short.j1, alu_short.j2]
    repeat (first | refine (if_neg (by decide +kernel)).trans ?_ | refine (if_pos (by decide +kernel)).trans ?_)
    refine (if_pos (Int.natCast_nonneg _)).trans ?_
    exact bind_at (half_f _) rfl
  · unfold spinnakerref07_Eval.f
    refine bind_at (v := (⟨#[115, 108, 108, 119]⟩ : ByteArray)) (by decide +kernel) ?_
    refine bind_at (v := (⟨#[115, 108, 108, 119]⟩ : ByteArray)) (by unfold spinnakerref07_base.f; simp only [toList_d, spinnakerref07_base.j0]; repeat (first | refine (if_neg (by decide +kernel)).trans ?_ | refine (if_pos (by decide +kernel)).trans ?_); decide +kernel) ?_
    simp only [toList_d]
    repeat (first | refine (if_neg (by decide +kernel)).trans ?_ | refine (if_pos (by decide +kernel)).trans ?_)
    refine bind_at (v := wrap32 (shl .i64 a ((u64N b % 32 : Nat) : Int))) ?_ rfl
    unfold spinnakerref07_shorts.f
    refine bind_at (half_ref 2000 a (by decide)) ?_
    refine bind_at (half_ref 2000 b (by decide)) ?_
    refine bind_at (div_same _ _ (w32_in a) (w32_in b)) ?_
    rw [tm32, tm32]
    refine bind_at (divu_same _ _ (by omega) (by omega)) ?_
    simp only [toList_d]
    repeat (first | refine (if_neg (by decide +kernel)).trans ?_ | refine (if_pos (by decide +kernel)).trans ?_)
    obtain ⟨t, e1, e2⟩ := same_sllw a _ (Nat.mod_lt (u64N b) (by decide)) 2000 (by decide); rw [(places b 5 32 (by decide) (by decide) (M1 := 31) (M2 := 32) rfl rfl).2]; refine bind_at e1 ?_; rw [← e2]; exact bind_at (half_ref 2000 _ (by decide)) rfl
theorem ev_48 (a b : Int) (ha : -9223372036854775808 ≤ a ∧ a < 9223372036854775808) (hb : -9223372036854775808 ≤ b ∧ b < 9223372036854775808) : EV 48 a b := by
  refine ⟨wrap32 (shr .u32 (a % 4294967296) ((u64N b % 32 : Nat) : Int)), ?_, ?_⟩
  · refine at_short (by decide) ?_
    unfold alu_short.f
    rw [(places b 5 32 (by decide) (by decide) (M1 := 31) (M2 := 32) rfl rfl).1]
    repeat (first | refine (if_neg (by decide +kernel)).trans ?_ | refine (if_pos (by decide +kernel)).trans ?_)
    simp only [alu_short.j0, alu_short.j1, alu_short.j2]
    repeat (first | refine (if_neg (by decide +kernel)).trans ?_ | refine (if_pos (by decide +kernel)).trans ?_)
    refine (if_pos (Int.natCast_nonneg _)).trans ?_
    exact bind_at (half_f _) rfl
  · unfold spinnakerref07_Eval.f
    refine bind_at (v := (⟨#[115, 114, 108, 119]⟩ : ByteArray)) (by decide +kernel) ?_
    refine bind_at (v := (⟨#[115, 114, 108, 119]⟩ : ByteArray)) (by unfold spinnakerref07_base.f; simp only [toList_d, spinnakerref07_base.j0]; repeat (first | refine (if_neg (by decide +kernel)).trans ?_ | refine (if_pos (by decide +kernel)).trans ?_); decide +kernel) ?_
    simp only [toList_d]
    repeat (first | refine (if_neg (by decide +kernel)).trans ?_ | refine (if_pos (by decide +kernel)).trans ?_)
    refine bind_at (v := wrap32 (shr .u32 (a % 4294967296) ((u64N b % 32 : Nat) : Int))) ?_ rfl
    unfold spinnakerref07_shorts.f
    refine bind_at (half_ref 2000 a (by decide)) ?_
    refine bind_at (half_ref 2000 b (by decide)) ?_
    refine bind_at (div_same _ _ (w32_in a) (w32_in b)) ?_
    rw [tm32, tm32]
    refine bind_at (divu_same _ _ (by omega) (by omega)) ?_
    simp only [toList_d]
    repeat (first | refine (if_neg (by decide +kernel)).trans ?_ | refine (if_pos (by decide +kernel)).trans ?_)
    obtain ⟨t, e1, e2⟩ := same_srlw a _ (Nat.mod_lt (u64N b) (by decide)) 2000 (by decide); rw [(places b 5 32 (by decide) (by decide) (M1 := 31) (M2 := 32) rfl rfl).2]; refine bind_at e1 ?_; rw [← e2]; exact bind_at (half_ref 2000 _ (by decide)) rfl
theorem ev_49 (a b : Int) (ha : -9223372036854775808 ≤ a ∧ a < 9223372036854775808) (hb : -9223372036854775808 ≤ b ∧ b < 9223372036854775808) : EV 49 a b := by
  refine ⟨shr .i64 (wrap32 a) ((u64N b % 32 : Nat) : Int), ?_, ?_⟩
  · refine at_short (by decide) ?_
    unfold alu_short.f
    rw [(places b 5 32 (by decide) (by decide) (M1 := 31) (M2 := 32) rfl rfl).1]
    repeat (first | refine (if_neg (by decide +kernel)).trans ?_ | refine (if_pos (by decide +kernel)).trans ?_)
    simp only [alu_short.j0, alu_short.j1, alu_short.j2]
    repeat (first | refine (if_neg (by decide +kernel)).trans ?_ | refine (if_pos (by decide +kernel)).trans ?_)
    refine bind_at (half_f _) ?_
    exact if_pos (Int.natCast_nonneg _)
  · unfold spinnakerref07_Eval.f
    refine bind_at (v := (⟨#[115, 114, 97, 119]⟩ : ByteArray)) (by decide +kernel) ?_
    refine bind_at (v := (⟨#[115, 114, 97, 119]⟩ : ByteArray)) (by unfold spinnakerref07_base.f; simp only [toList_d, spinnakerref07_base.j0]; repeat (first | refine (if_neg (by decide +kernel)).trans ?_ | refine (if_pos (by decide +kernel)).trans ?_); decide +kernel) ?_
    simp only [toList_d]
    repeat (first | refine (if_neg (by decide +kernel)).trans ?_ | refine (if_pos (by decide +kernel)).trans ?_)
    refine bind_at (v := shr .i64 (wrap32 a) ((u64N b % 32 : Nat) : Int)) ?_ rfl
    unfold spinnakerref07_shorts.f
    refine bind_at (half_ref 2000 a (by decide)) ?_
    refine bind_at (half_ref 2000 b (by decide)) ?_
    refine bind_at (div_same _ _ (w32_in a) (w32_in b)) ?_
    rw [tm32, tm32]
    refine bind_at (divu_same _ _ (by omega) (by omega)) ?_
    simp only [toList_d]
    repeat (first | refine (if_neg (by decide +kernel)).trans ?_ | refine (if_pos (by decide +kernel)).trans ?_)
    obtain ⟨t, e1, e2⟩ := same_sraw a _ (Nat.mod_lt (u64N b) (by decide)) 2000 (by decide); refine bind_at (bit_of 2000 a 31 (p' := 31) rfl (by decide) (by decide)) ?_; rw [(places b 5 32 (by decide) (by decide) (M1 := 31) (M2 := 32) rfl rfl).2]; refine bind_at e1 ?_; rw [← e2]; exact bind_at (half_ref 2000 _ (by decide)) rfl
theorem ev_50 (a b : Int) (ha : -9223372036854775808 ≤ a ∧ a < 9223372036854775808) (hb : -9223372036854775808 ≤ b ∧ b < 9223372036854775808) : EV 50 a b := by
  refine ⟨wrap64 (a * b), ?_, ?_⟩
  · refine at_times (by decide) ?_
    unfold alu_times.f
    refine bind_at (quotient_f a b) ?_
    refine bind_at (quotientU_f _ _ (by rw [wu64]; omega) (by rw [wu64]; omega)) ?_
    repeat (first | refine (if_neg (by decide +kernel)).trans ?_ | refine (if_pos (by decide +kernel)).trans ?_)
    rfl
  · unfold spinnakerref07_Eval.f
    refine bind_at (v := (⟨#[109, 117, 108]⟩ : ByteArray)) (by decide +kernel) ?_
    refine bind_at (v := (⟨#[109, 117, 108]⟩ : ByteArray)) (by unfold spinnakerref07_base.f; simp only [toList_d, spinnakerref07_base.j0]; repeat (first | refine (if_neg (by decide +kernel)).trans ?_ | refine (if_pos (by decide +kernel)).trans ?_); decide +kernel) ?_
    simp only [toList_d]
    repeat (first | refine (if_neg (by decide +kernel)).trans ?_ | refine (if_pos (by decide +kernel)).trans ?_)
    refine bind_at (v := wrap64 (a * b)) ?_ rfl
    unfold spinnakerref07_products.f
    refine bind_at (div_same a b ha hb) ?_
    refine bind_at (divu_same _ _ (by rw [wu64]; omega) (by rw [wu64]; omega)) ?_
    simp only [toList_d]
    repeat (first | refine (if_neg (by decide +kernel)).trans ?_ | refine (if_pos (by decide +kernel)).trans ?_)
    exact same_mul a b
theorem ev_51 (a b : Int) (ha : -9223372036854775808 ≤ a ∧ a < 9223372036854775808) (hb : -9223372036854775808 ≤ b ∧ b < 9223372036854775808) : EV 51 a b := by
  obtain ⟨v2, eu2, er2⟩ := upper_same a b ha hb true true (by decide) 1999 (by decide)
  have er2 := at_rounds (fun k => spinnakerref07_Upper.mono a b true true k) (show 1999 ≤ 2000 by decide) er2
  refine ⟨v2, ?_, ?_⟩
  · refine at_times (by decide) ?_
    unfold alu_times.f
    refine bind_at (quotient_f a b) ?_
    refine bind_at (quotientU_f _ _ (by rw [wu64]; omega) (by rw [wu64]; omega)) ?_
    repeat (first | refine (if_neg (by decide +kernel)).trans ?_ | refine (if_pos (by decide +kernel)).trans ?_)
    exact bind_at eu2 rfl
  · unfold spinnakerref07_Eval.f
    refine bind_at (v := (⟨#[109, 117, 108, 104]⟩ : ByteArray)) (by decide +kernel) ?_
    refine bind_at (v := (⟨#[109, 117, 108, 104]⟩ : ByteArray)) (by unfold spinnakerref07_base.f; simp only [toList_d, spinnakerref07_base.j0]; repeat (first | refine (if_neg (by decide +kernel)).trans ?_ | refine (if_pos (by decide +kernel)).trans ?_); decide +kernel) ?_
    simp only [toList_d]
    repeat (first | refine (if_neg (by decide +kernel)).trans ?_ | refine (if_pos (by decide +kernel)).trans ?_)
    refine bind_at (v := v2) ?_ rfl
    unfold spinnakerref07_products.f
    refine bind_at (div_same a b ha hb) ?_
    refine bind_at (divu_same _ _ (by rw [wu64]; omega) (by rw [wu64]; omega)) ?_
    simp only [toList_d]
    repeat (first | refine (if_neg (by decide +kernel)).trans ?_ | refine (if_pos (by decide +kernel)).trans ?_)
    exact bind_at er2 rfl
theorem ev_52 (a b : Int) (ha : -9223372036854775808 ≤ a ∧ a < 9223372036854775808) (hb : -9223372036854775808 ≤ b ∧ b < 9223372036854775808) : EV 52 a b := by
  obtain ⟨v2, eu2, er2⟩ := upper_same a b ha hb true false (by decide) 1999 (by decide)
  have er2 := at_rounds (fun k => spinnakerref07_Upper.mono a b true false k) (show 1999 ≤ 2000 by decide) er2
  refine ⟨v2, ?_, ?_⟩
  · refine at_times (by decide) ?_
    unfold alu_times.f
    refine bind_at (quotient_f a b) ?_
    refine bind_at (quotientU_f _ _ (by rw [wu64]; omega) (by rw [wu64]; omega)) ?_
    repeat (first | refine (if_neg (by decide +kernel)).trans ?_ | refine (if_pos (by decide +kernel)).trans ?_)
    exact bind_at eu2 rfl
  · unfold spinnakerref07_Eval.f
    refine bind_at (v := (⟨#[109, 117, 108, 104, 115, 117]⟩ : ByteArray)) (by decide +kernel) ?_
    refine bind_at (v := (⟨#[109, 117, 108, 104, 115, 117]⟩ : ByteArray)) (by unfold spinnakerref07_base.f; simp only [toList_d, spinnakerref07_base.j0]; repeat (first | refine (if_neg (by decide +kernel)).trans ?_ | refine (if_pos (by decide +kernel)).trans ?_); decide +kernel) ?_
    simp only [toList_d]
    repeat (first | refine (if_neg (by decide +kernel)).trans ?_ | refine (if_pos (by decide +kernel)).trans ?_)
    refine bind_at (v := v2) ?_ rfl
    unfold spinnakerref07_products.f
    refine bind_at (div_same a b ha hb) ?_
    refine bind_at (divu_same _ _ (by rw [wu64]; omega) (by rw [wu64]; omega)) ?_
    simp only [toList_d]
    repeat (first | refine (if_neg (by decide +kernel)).trans ?_ | refine (if_pos (by decide +kernel)).trans ?_)
    exact bind_at er2 rfl
theorem ev_53 (a b : Int) (ha : -9223372036854775808 ≤ a ∧ a < 9223372036854775808) (hb : -9223372036854775808 ≤ b ∧ b < 9223372036854775808) : EV 53 a b := by
  obtain ⟨v2, eu2, er2⟩ := upper_same a b ha hb false false (by decide) 1999 (by decide)
  have er2 := at_rounds (fun k => spinnakerref07_Upper.mono a b false false k) (show 1999 ≤ 2000 by decide) er2
  refine ⟨v2, ?_, ?_⟩
  · refine at_times (by decide) ?_
    unfold alu_times.f
    refine bind_at (quotient_f a b) ?_
    refine bind_at (quotientU_f _ _ (by rw [wu64]; omega) (by rw [wu64]; omega)) ?_
    repeat (first | refine (if_neg (by decide +kernel)).trans ?_ | refine (if_pos (by decide +kernel)).trans ?_)
    exact bind_at eu2 rfl
  · unfold spinnakerref07_Eval.f
    refine bind_at (v := (⟨#[109, 117, 108, 104, 117]⟩ : ByteArray)) (by decide +kernel) ?_
    refine bind_at (v := (⟨#[109, 117, 108, 104, 117]⟩ : ByteArray)) (by unfold spinnakerref07_base.f; simp only [toList_d, spinnakerref07_base.j0]; repeat (first | refine (if_neg (by decide +kernel)).trans ?_ | refine (if_pos (by decide +kernel)).trans ?_); decide +kernel) ?_
    simp only [toList_d]
    repeat (first | refine (if_neg (by decide +kernel)).trans ?_ | refine (if_pos (by decide +kernel)).trans ?_)
    refine bind_at (v := v2) ?_ rfl
    unfold spinnakerref07_products.f
    refine bind_at (div_same a b ha hb) ?_
    refine bind_at (divu_same _ _ (by rw [wu64]; omega) (by rw [wu64]; omega)) ?_
    simp only [toList_d]
    repeat (first | refine (if_neg (by decide +kernel)).trans ?_ | refine (if_pos (by decide +kernel)).trans ?_)
    exact bind_at er2 rfl
theorem ev_54 (a b : Int) (ha : -9223372036854775808 ≤ a ∧ a < 9223372036854775808) (hb : -9223372036854775808 ≤ b ∧ b < 9223372036854775808) : EV 54 a b := by
  refine ⟨quo a b, ?_, ?_⟩
  · refine at_times (by decide) ?_
    unfold alu_times.f
    refine bind_at (quotient_f a b) ?_
    refine bind_at (quotientU_f _ _ (by rw [wu64]; omega) (by rw [wu64]; omega)) ?_
    repeat (first | refine (if_neg (by decide +kernel)).trans ?_ | refine (if_pos (by decide +kernel)).trans ?_)
    rfl
  · unfold spinnakerref07_Eval.f
    refine bind_at (v := (⟨#[100, 105, 118]⟩ : ByteArray)) (by decide +kernel) ?_
    refine bind_at (v := (⟨#[100, 105, 118]⟩ : ByteArray)) (by unfold spinnakerref07_base.f; simp only [toList_d, spinnakerref07_base.j0]; repeat (first | refine (if_neg (by decide +kernel)).trans ?_ | refine (if_pos (by decide +kernel)).trans ?_); decide +kernel) ?_
    simp only [toList_d]
    repeat (first | refine (if_neg (by decide +kernel)).trans ?_ | refine (if_pos (by decide +kernel)).trans ?_)
    refine bind_at (v := quo a b) ?_ rfl
    unfold spinnakerref07_products.f
    refine bind_at (div_same a b ha hb) ?_
    refine bind_at (divu_same _ _ (by rw [wu64]; omega) (by rw [wu64]; omega)) ?_
    simp only [toList_d]
    repeat (first | refine (if_neg (by decide +kernel)).trans ?_ | refine (if_pos (by decide +kernel)).trans ?_)
    rfl
theorem ev_55 (a b : Int) (ha : -9223372036854775808 ≤ a ∧ a < 9223372036854775808) (hb : -9223372036854775808 ≤ b ∧ b < 9223372036854775808) : EV 55 a b := by
  refine ⟨quoU (IntKind.u64.wrap a) (IntKind.u64.wrap b), ?_, ?_⟩
  · refine at_times (by decide) ?_
    unfold alu_times.f
    refine bind_at (quotient_f a b) ?_
    refine bind_at (quotientU_f _ _ (by rw [wu64]; omega) (by rw [wu64]; omega)) ?_
    repeat (first | refine (if_neg (by decide +kernel)).trans ?_ | refine (if_pos (by decide +kernel)).trans ?_)
    rfl
  · unfold spinnakerref07_Eval.f
    refine bind_at (v := (⟨#[100, 105, 118, 117]⟩ : ByteArray)) (by decide +kernel) ?_
    refine bind_at (v := (⟨#[100, 105, 118, 117]⟩ : ByteArray)) (by unfold spinnakerref07_base.f; simp only [toList_d, spinnakerref07_base.j0]; repeat (first | refine (if_neg (by decide +kernel)).trans ?_ | refine (if_pos (by decide +kernel)).trans ?_); decide +kernel) ?_
    simp only [toList_d]
    repeat (first | refine (if_neg (by decide +kernel)).trans ?_ | refine (if_pos (by decide +kernel)).trans ?_)
    refine bind_at (v := quoU (IntKind.u64.wrap a) (IntKind.u64.wrap b)) ?_ rfl
    unfold spinnakerref07_products.f
    refine bind_at (div_same a b ha hb) ?_
    refine bind_at (divu_same _ _ (by rw [wu64]; omega) (by rw [wu64]; omega)) ?_
    simp only [toList_d]
    repeat (first | refine (if_neg (by decide +kernel)).trans ?_ | refine (if_pos (by decide +kernel)).trans ?_)
    rfl
theorem ev_56 (a b : Int) (ha : -9223372036854775808 ≤ a ∧ a < 9223372036854775808) (hb : -9223372036854775808 ≤ b ∧ b < 9223372036854775808) : EV 56 a b := by
  refine ⟨rem a b, ?_, ?_⟩
  · refine at_times (by decide) ?_
    unfold alu_times.f
    refine bind_at (quotient_f a b) ?_
    refine bind_at (quotientU_f _ _ (by rw [wu64]; omega) (by rw [wu64]; omega)) ?_
    repeat (first | refine (if_neg (by decide +kernel)).trans ?_ | refine (if_pos (by decide +kernel)).trans ?_)
    rfl
  · unfold spinnakerref07_Eval.f
    refine bind_at (v := (⟨#[114, 101, 109]⟩ : ByteArray)) (by decide +kernel) ?_
    refine bind_at (v := (⟨#[114, 101, 109]⟩ : ByteArray)) (by unfold spinnakerref07_base.f; simp only [toList_d, spinnakerref07_base.j0]; repeat (first | refine (if_neg (by decide +kernel)).trans ?_ | refine (if_pos (by decide +kernel)).trans ?_); decide +kernel) ?_
    simp only [toList_d]
    repeat (first | refine (if_neg (by decide +kernel)).trans ?_ | refine (if_pos (by decide +kernel)).trans ?_)
    refine bind_at (v := rem a b) ?_ rfl
    unfold spinnakerref07_products.f
    refine bind_at (div_same a b ha hb) ?_
    refine bind_at (divu_same _ _ (by rw [wu64]; omega) (by rw [wu64]; omega)) ?_
    simp only [toList_d]
    repeat (first | refine (if_neg (by decide +kernel)).trans ?_ | refine (if_pos (by decide +kernel)).trans ?_)
    rfl
theorem ev_57 (a b : Int) (ha : -9223372036854775808 ≤ a ∧ a < 9223372036854775808) (hb : -9223372036854775808 ≤ b ∧ b < 9223372036854775808) : EV 57 a b := by
  refine ⟨remU (IntKind.u64.wrap a) (IntKind.u64.wrap b), ?_, ?_⟩
  · refine at_times (by decide) ?_
    unfold alu_times.f
    refine bind_at (quotient_f a b) ?_
    refine bind_at (quotientU_f _ _ (by rw [wu64]; omega) (by rw [wu64]; omega)) ?_
    repeat (first | refine (if_neg (by decide +kernel)).trans ?_ | refine (if_pos (by decide +kernel)).trans ?_)
    rfl
  · unfold spinnakerref07_Eval.f
    refine bind_at (v := (⟨#[114, 101, 109, 117]⟩ : ByteArray)) (by decide +kernel) ?_
    refine bind_at (v := (⟨#[114, 101, 109, 117]⟩ : ByteArray)) (by unfold spinnakerref07_base.f; simp only [toList_d, spinnakerref07_base.j0]; repeat (first | refine (if_neg (by decide +kernel)).trans ?_ | refine (if_pos (by decide +kernel)).trans ?_); decide +kernel) ?_
    simp only [toList_d]
    repeat (first | refine (if_neg (by decide +kernel)).trans ?_ | refine (if_pos (by decide +kernel)).trans ?_)
    refine bind_at (v := remU (IntKind.u64.wrap a) (IntKind.u64.wrap b)) ?_ rfl
    unfold spinnakerref07_products.f
    refine bind_at (div_same a b ha hb) ?_
    refine bind_at (divu_same _ _ (by rw [wu64]; omega) (by rw [wu64]; omega)) ?_
    simp only [toList_d]
    repeat (first | refine (if_neg (by decide +kernel)).trans ?_ | refine (if_pos (by decide +kernel)).trans ?_)
    rfl
theorem ev_58 (a b : Int) (ha : -9223372036854775808 ≤ a ∧ a < 9223372036854775808) (hb : -9223372036854775808 ≤ b ∧ b < 9223372036854775808) : EV 58 a b := by
  refine ⟨wrap32 (wrap64 (a * b)), ?_, ?_⟩
  · refine at_st (by decide) ?_
    unfold alu_shortTimes.f
    refine bind_at (half_f a) ?_
    refine bind_at (half_f b) ?_
    refine bind_at (quotient_f _ _) ?_
    refine bind_at (quotientU_f _ _ (by omega) (by omega)) ?_
    repeat (first | refine (if_neg (by decide +kernel)).trans ?_ | refine (if_pos (by decide +kernel)).trans ?_)
    exact bind_at (half_f _) rfl
  · unfold spinnakerref07_Eval.f
    refine bind_at (v := (⟨#[109, 117, 108, 119]⟩ : ByteArray)) (by decide +kernel) ?_
    refine bind_at (v := (⟨#[109, 117, 108, 119]⟩ : ByteArray)) (by unfold spinnakerref07_base.f; simp only [toList_d, spinnakerref07_base.j0]; repeat (first | refine (if_neg (by decide +kernel)).trans ?_ | refine (if_pos (by decide +kernel)).trans ?_); decide +kernel) ?_
    simp only [toList_d]
    repeat (first | refine (if_neg (by decide +kernel)).trans ?_ | refine (if_pos (by decide +kernel)).trans ?_)
    refine bind_at (v := wrap32 (wrap64 (a * b))) ?_ rfl
    unfold spinnakerref07_shorts.f
    refine bind_at (half_ref 2000 a (by decide)) ?_
    refine bind_at (half_ref 2000 b (by decide)) ?_
    refine bind_at (div_same _ _ (w32_in a) (w32_in b)) ?_
    rw [tm32, tm32]
    refine bind_at (divu_same _ _ (by omega) (by omega)) ?_
    simp only [toList_d]
    repeat (first | refine (if_neg (by decide +kernel)).trans ?_ | refine (if_pos (by decide +kernel)).trans ?_)
    exact bind_at (half_ref 2000 _ (by decide)) rfl
theorem ev_59 (a b : Int) (ha : -9223372036854775808 ≤ a ∧ a < 9223372036854775808) (hb : -9223372036854775808 ≤ b ∧ b < 9223372036854775808) : EV 59 a b := by
  refine ⟨wrap32 (quo (wrap32 a) (wrap32 b)), ?_, ?_⟩
  · refine at_st (by decide) ?_
    unfold alu_shortTimes.f
    refine bind_at (half_f a) ?_
    refine bind_at (half_f b) ?_
    refine bind_at (quotient_f _ _) ?_
    refine bind_at (quotientU_f _ _ (by omega) (by omega)) ?_
    repeat (first | refine (if_neg (by decide +kernel)).trans ?_ | refine (if_pos (by decide +kernel)).trans ?_)
    exact bind_at (half_f _) rfl
  · unfold spinnakerref07_Eval.f
    refine bind_at (v := (⟨#[100, 105, 118, 119]⟩ : ByteArray)) (by decide +kernel) ?_
    refine bind_at (v := (⟨#[100, 105, 118, 119]⟩ : ByteArray)) (by unfold spinnakerref07_base.f; simp only [toList_d, spinnakerref07_base.j0]; repeat (first | refine (if_neg (by decide +kernel)).trans ?_ | refine (if_pos (by decide +kernel)).trans ?_); decide +kernel) ?_
    simp only [toList_d]
    repeat (first | refine (if_neg (by decide +kernel)).trans ?_ | refine (if_pos (by decide +kernel)).trans ?_)
    refine bind_at (v := wrap32 (quo (wrap32 a) (wrap32 b))) ?_ rfl
    unfold spinnakerref07_shorts.f
    refine bind_at (half_ref 2000 a (by decide)) ?_
    refine bind_at (half_ref 2000 b (by decide)) ?_
    refine bind_at (div_same _ _ (w32_in a) (w32_in b)) ?_
    rw [tm32, tm32]
    refine bind_at (divu_same _ _ (by omega) (by omega)) ?_
    simp only [toList_d]
    repeat (first | refine (if_neg (by decide +kernel)).trans ?_ | refine (if_pos (by decide +kernel)).trans ?_)
    exact bind_at (half_ref 2000 _ (by decide)) rfl
theorem ev_60 (a b : Int) (ha : -9223372036854775808 ≤ a ∧ a < 9223372036854775808) (hb : -9223372036854775808 ≤ b ∧ b < 9223372036854775808) : EV 60 a b := by
  refine ⟨wrap32 (quoU (a % 4294967296) (b % 4294967296)), ?_, ?_⟩
  · refine at_st (by decide) ?_
    unfold alu_shortTimes.f
    refine bind_at (half_f a) ?_
    refine bind_at (half_f b) ?_
    refine bind_at (quotient_f _ _) ?_
    refine bind_at (quotientU_f _ _ (by omega) (by omega)) ?_
    repeat (first | refine (if_neg (by decide +kernel)).trans ?_ | refine (if_pos (by decide +kernel)).trans ?_)
    exact bind_at (half_f _) rfl
  · unfold spinnakerref07_Eval.f
    refine bind_at (v := (⟨#[100, 105, 118, 117, 119]⟩ : ByteArray)) (by decide +kernel) ?_
    refine bind_at (v := (⟨#[100, 105, 118, 117, 119]⟩ : ByteArray)) (by unfold spinnakerref07_base.f; simp only [toList_d, spinnakerref07_base.j0]; repeat (first | refine (if_neg (by decide +kernel)).trans ?_ | refine (if_pos (by decide +kernel)).trans ?_); decide +kernel) ?_
    simp only [toList_d]
    repeat (first | refine (if_neg (by decide +kernel)).trans ?_ | refine (if_pos (by decide +kernel)).trans ?_)
    refine bind_at (v := wrap32 (quoU (a % 4294967296) (b % 4294967296))) ?_ rfl
    unfold spinnakerref07_shorts.f
    refine bind_at (half_ref 2000 a (by decide)) ?_
    refine bind_at (half_ref 2000 b (by decide)) ?_
    refine bind_at (div_same _ _ (w32_in a) (w32_in b)) ?_
    rw [tm32, tm32]
    refine bind_at (divu_same _ _ (by omega) (by omega)) ?_
    simp only [toList_d]
    repeat (first | refine (if_neg (by decide +kernel)).trans ?_ | refine (if_pos (by decide +kernel)).trans ?_)
    exact bind_at (half_ref 2000 _ (by decide)) rfl
theorem ev_61 (a b : Int) (ha : -9223372036854775808 ≤ a ∧ a < 9223372036854775808) (hb : -9223372036854775808 ≤ b ∧ b < 9223372036854775808) : EV 61 a b := by
  refine ⟨wrap32 (rem (wrap32 a) (wrap32 b)), ?_, ?_⟩
  · refine at_st (by decide) ?_
    unfold alu_shortTimes.f
    refine bind_at (half_f a) ?_
    refine bind_at (half_f b) ?_
    refine bind_at (quotient_f _ _) ?_
    refine bind_at (quotientU_f _ _ (by omega) (by omega)) ?_
    repeat (first | refine (if_neg (by decide +kernel)).trans ?_ | refine (if_pos (by decide +kernel)).trans ?_)
    exact bind_at (half_f _) rfl
  · unfold spinnakerref07_Eval.f
    refine bind_at (v := (⟨#[114, 101, 109, 119]⟩ : ByteArray)) (by decide +kernel) ?_
    refine bind_at (v := (⟨#[114, 101, 109, 119]⟩ : ByteArray)) (by unfold spinnakerref07_base.f; simp only [toList_d, spinnakerref07_base.j0]; repeat (first | refine (if_neg (by decide +kernel)).trans ?_ | refine (if_pos (by decide +kernel)).trans ?_); decide +kernel) ?_
    simp only [toList_d]
    repeat (first | refine (if_neg (by decide +kernel)).trans ?_ | refine (if_pos (by decide +kernel)).trans ?_)
    refine bind_at (v := wrap32 (rem (wrap32 a) (wrap32 b))) ?_ rfl
    unfold spinnakerref07_shorts.f
    refine bind_at (half_ref 2000 a (by decide)) ?_
    refine bind_at (half_ref 2000 b (by decide)) ?_
    refine bind_at (div_same _ _ (w32_in a) (w32_in b)) ?_
    rw [tm32, tm32]
    refine bind_at (divu_same _ _ (by omega) (by omega)) ?_
    simp only [toList_d]
    repeat (first | refine (if_neg (by decide +kernel)).trans ?_ | refine (if_pos (by decide +kernel)).trans ?_)
    exact bind_at (half_ref 2000 _ (by decide)) rfl
theorem ev_62 (a b : Int) (ha : -9223372036854775808 ≤ a ∧ a < 9223372036854775808) (hb : -9223372036854775808 ≤ b ∧ b < 9223372036854775808) : EV 62 a b := by
  refine ⟨wrap32 (remU (a % 4294967296) (b % 4294967296)), ?_, ?_⟩
  · refine at_st (by decide) ?_
    unfold alu_shortTimes.f
    refine bind_at (half_f a) ?_
    refine bind_at (half_f b) ?_
    refine bind_at (quotient_f _ _) ?_
    refine bind_at (quotientU_f _ _ (by omega) (by omega)) ?_
    repeat (first | refine (if_neg (by decide +kernel)).trans ?_ | refine (if_pos (by decide +kernel)).trans ?_)
    exact bind_at (half_f _) rfl
  · unfold spinnakerref07_Eval.f
    refine bind_at (v := (⟨#[114, 101, 109, 117, 119]⟩ : ByteArray)) (by decide +kernel) ?_
    refine bind_at (v := (⟨#[114, 101, 109, 117, 119]⟩ : ByteArray)) (by unfold spinnakerref07_base.f; simp only [toList_d, spinnakerref07_base.j0]; repeat (first | refine (if_neg (by decide +kernel)).trans ?_ | refine (if_pos (by decide +kernel)).trans ?_); decide +kernel) ?_
    simp only [toList_d]
    repeat (first | refine (if_neg (by decide +kernel)).trans ?_ | refine (if_pos (by decide +kernel)).trans ?_)
    refine bind_at (v := wrap32 (remU (a % 4294967296) (b % 4294967296))) ?_ rfl
    unfold spinnakerref07_shorts.f
    refine bind_at (half_ref 2000 a (by decide)) ?_
    refine bind_at (half_ref 2000 b (by decide)) ?_
    refine bind_at (div_same _ _ (w32_in a) (w32_in b)) ?_
    rw [tm32, tm32]
    refine bind_at (divu_same _ _ (by omega) (by omega)) ?_
    simp only [toList_d]
    repeat (first | refine (if_neg (by decide +kernel)).trans ?_ | refine (if_pos (by decide +kernel)).trans ?_)
    exact bind_at (half_ref 2000 _ (by decide)) rfl

theorem AluEvals : spinnakerlaw07_AluEvals.Pure := by
  intro op a b hop ha hb
  have ha := wf_i64 ha
  have hb := wf_i64 hb
  refine ⟨2001, ?_⟩
  have aw : (spinnakerlaw07_awake.f 2000).bind (fun t => some t) = some true := bind_at (awake07 2000 (by decide)) rfl
  unfold spinnakerlaw07_AluEvals.f
  by_cases h : 22 ≤ op ∧ op ≤ 62
  · have hev : EV op a b := by
      obtain ⟨n, rfl⟩ : ∃ n : Nat, op = ((22 + n : Nat) : Int) := ⟨(op - 22).toNat, by omega⟩
      have hn : n < 41 := by omega
      clear h hop
      revert hn
      match n with
      | 0 => exact fun _ => ev_22 a b ha hb
      | 1 => exact fun _ => ev_23 a b ha hb
      | 2 => exact fun _ => ev_24 a b ha hb
      | 3 => exact fun _ => ev_25 a b ha hb
      | 4 => exact fun _ => ev_26 a b ha hb
      | 5 => exact fun _ => ev_27 a b ha hb
      | 6 => exact fun _ => ev_28 a b ha hb
      | 7 => exact fun _ => ev_29 a b ha hb
      | 8 => exact fun _ => ev_30 a b ha hb
      | 9 => exact fun _ => ev_31 a b ha hb
      | 10 => exact fun _ => ev_32 a b ha hb
      | 11 => exact fun _ => ev_33 a b ha hb
      | 12 => exact fun _ => ev_34 a b ha hb
      | 13 => exact fun _ => ev_35 a b ha hb
      | 14 => exact fun _ => ev_36 a b ha hb
      | 15 => exact fun _ => ev_37 a b ha hb
      | 16 => exact fun _ => ev_38 a b ha hb
      | 17 => exact fun _ => ev_39 a b ha hb
      | 18 => exact fun _ => ev_40 a b ha hb
      | 19 => exact fun _ => ev_41 a b ha hb
      | 20 => exact fun _ => ev_42 a b ha hb
      | 21 => exact fun _ => ev_43 a b ha hb
      | 22 => exact fun _ => ev_44 a b ha hb
      | 23 => exact fun _ => ev_45 a b ha hb
      | 24 => exact fun _ => ev_46 a b ha hb
      | 25 => exact fun _ => ev_47 a b ha hb
      | 26 => exact fun _ => ev_48 a b ha hb
      | 27 => exact fun _ => ev_49 a b ha hb
      | 28 => exact fun _ => ev_50 a b ha hb
      | 29 => exact fun _ => ev_51 a b ha hb
      | 30 => exact fun _ => ev_52 a b ha hb
      | 31 => exact fun _ => ev_53 a b ha hb
      | 32 => exact fun _ => ev_54 a b ha hb
      | 33 => exact fun _ => ev_55 a b ha hb
      | 34 => exact fun _ => ev_56 a b ha hb
      | 35 => exact fun _ => ev_57 a b ha hb
      | 36 => exact fun _ => ev_58 a b ha hb
      | 37 => exact fun _ => ev_59 a b ha hb
      | 38 => exact fun _ => ev_60 a b ha hb
      | 39 => exact fun _ => ev_61 a b ha hb
      | 40 => exact fun _ => ev_62 a b ha hb
      | n + 41 => exact fun h => absurd h (by omega)
    obtain ⟨v, e1, e2⟩ := hev
    refine bind_at (at_rounds (fun k => alu_Eval.mono op a b k) (show 2000 ≤ 2001 by decide) e1) ?_
    refine (if_neg (by omega)).trans ?_
    rw [decide_eq_false (show ¬ op > 62 by omega)]
    simp only [spinnakerlaw07_AluEvals.j0]
    refine (if_neg (by decide)).trans ?_
    refine bind_at e2 ?_
    refine (if_pos rfl).trans ?_
    exact (if_pos trivial).trans aw
  · have e1 : alu_Eval.f 2001 op a b = some (0, false) := by
      unfold alu_Eval.f
      by_cases h2 : op < 22
      · rw [if_pos h2]
        simp only [alu_Eval.j0, if_true]
      · rw [if_neg h2, decide_eq_true (show op > 62 by omega)]
        simp only [alu_Eval.j0, if_true]
    refine bind_at e1 ?_
    have e2 : spinnakerlaw07_AluEvals.j0 2001 op a b 0 false true = some true := by
      simp only [spinnakerlaw07_AluEvals.j0]
      refine (if_pos trivial).trans ?_
      refine (if_pos trivial).trans ?_
      exact (if_neg (by decide)).trans aw
    by_cases h2 : op < 22
    · exact (if_pos h2).trans e2
    · refine (if_neg h2).trans ?_
      rw [decide_eq_true (show op > 62 by omega)]
      exact e2

end Go.Proofs.Ytmkcnbaknnohgaa.Pure
