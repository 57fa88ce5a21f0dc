/- Taken tells of every operation and every two numbers whether the branch is taken; no condition. -/
import Derived.Test.YtcmdeplkdkpoaaaGAluTakenx4
namespace Go.Proofs.Ytcmdeplkdkpoaaa.Pure
open Go.RowKit Go.Proofs.Ytcmdeplkdkpoaaa.GAluTaken Go.Proofs.YtcmdeplkdkpoaaaW.PrintWords Go.Proofs.YtcmdeplkdkpoaaaW.PrintLast Go.Proofs.YtcmdeplkdkpoaaaW.PrintMore
set_option linter.unusedVariables false
set_option linter.unusedSimpArgs false
attribute [local irreducible] shl shr

/-- Numbers that need no wrapping, and two's complement by its lowest bits. -/
theorem w64 {x : Int} (h0 : -9223372036854775808 ≤ x) (h1 : x < 9223372036854775808) : wrap64 x = x := by
  unfold wrap64; omega
theorem w64n {x : Int} (n : Nat) (h : x = n) (hn : n < 9223372036854775808) : wrap64 x = (n : Int) := by
  rw [w64 (by omega) (by omega), h]
theorem wu64 (x : Int) : IntKind.u64.wrap x = x % 18446744073709551616 := by
  simp [IntKind.wrap, IntKind.bits, IntKind.signed]
theorem wf_i64 {x : Int} (h : (Lit.int .i64 x).wf = true) : -9223372036854775808 ≤ x ∧ x < 9223372036854775808 := by
  simp [Lit.wf, IntKind.min, IntKind.max, IntKind.bits, IntKind.signed] at h; omega
theorem wf_u32 {x : Int} (h : (Lit.int .u32 x).wf = true) : 0 ≤ x ∧ x < 4294967296 := by
  simp [Lit.wf, IntKind.min, IntKind.max, IntKind.bits, IntKind.signed] at h; omega
theorem wf_u8 {x : Int} (h : (Lit.int .u8 x).wf = true) : 0 ≤ x ∧ x < 256 := by
  simp [Lit.wf, IntKind.min, IntKind.max, IntKind.bits, IntKind.signed] at h; omega
theorem p64 : (2 : Int) ^ 64 = 18446744073709551616 := by decide
theorem p63 : (2 : Int) ^ 63 = 9223372036854775808 := by decide
theorem p_pos (n : Nat) : (0 : Int) < 2 ^ n := Int.pow_pos (by decide)
theorem p_add (a b : Nat) : (2 : Int) ^ (a + b) = 2 ^ a * 2 ^ b := Int.pow_add 2 a b
theorem p_le {a b : Nat} (h : a ≤ b) : (2 : Int) ^ a ≤ 2 ^ b := by
  obtain ⟨c, rfl⟩ := Nat.exists_eq_add_of_le h
  rw [p_add]
  have h1 : (2 : Int) ^ a * 1 ≤ 2 ^ a * 2 ^ c := Int.mul_le_mul_of_nonneg_left (by have := p_pos c; omega) (Int.le_of_lt (p_pos a))
  omega
theorem b64 {i : Nat} (h : i ≤ 64) : (2 : Int) ^ i ≤ 18446744073709551616 := by have := p_le h; rw [p64] at this; exact this
theorem b63 {i : Nat} (h : i ≤ 63) : (2 : Int) ^ i ≤ 9223372036854775808 := by have := p_le h; rw [p63] at this; exact this
theorem b62 {i : Nat} (h : i ≤ 62) : (2 : Int) ^ i ≤ 4611686018427387904 := by have := p_le h; rw [show (2 : Int) ^ 62 = 4611686018427387904 from by decide] at this; exact this
theorem b60 {i : Nat} (h : i ≤ 60) : (2 : Int) ^ i ≤ 1152921504606846976 := by have := p_le h; rw [show (2 : Int) ^ 60 = 1152921504606846976 from by decide] at this; exact this
theorem p_succ (n : Nat) : (2 : Int) ^ (n + 1) = 2 * 2 ^ n := by rw [p_add]; omega

/-- The number with a sign that the lowest n bits are. -/
def sgn (v : Int) (n : Nat) : Int := if v % 2 ^ n < 2 ^ (n - 1) then v % 2 ^ n else v % 2 ^ n - 2 ^ n

theorem mod_mod {v : Int} {a b : Nat} (h : a ≤ b) : v % 2 ^ b % 2 ^ a = v % 2 ^ a := by
  obtain ⟨c, rfl⟩ := Nat.exists_eq_add_of_le h
  exact Int.emod_emod_of_dvd v ⟨2 ^ c, p_add a c⟩
theorem sgn_mod {v : Int} {a b : Nat} (h : a ≤ b) : sgn (v % 2 ^ b) a = sgn v a := by
  unfold sgn; rw [mod_mod h]
theorem sgn_range (v : Int) (n : Nat) (h : 1 ≤ n) : -2 ^ (n - 1) ≤ sgn v n ∧ sgn v n < 2 ^ (n - 1) := by
  have h0 := Int.emod_nonneg v (Int.ne_of_gt (p_pos n))
  have h1 := Int.emod_lt_of_pos v (p_pos n)
  have h2 : (2 : Int) ^ n = 2 * 2 ^ (n - 1) := by rw [← p_succ]; congr 1; omega
  unfold sgn
  split <;> omega
/-- Which number has the same lowest bits and fits is the one. -/
theorem sgn_self {v : Int} {n : Nat} (h : 1 ≤ n) (h0 : -2 ^ (n - 1) ≤ v) (h1 : v < 2 ^ (n - 1)) : sgn v n = v := by
  have h2 : (2 : Int) ^ n = 2 * 2 ^ (n - 1) := by rw [← p_succ]; congr 1; omega
  have hp := p_pos (n - 1)
  unfold sgn
  by_cases hv : 0 ≤ v
  · have e : v % 2 ^ n = v := Int.emod_eq_of_lt hv (by omega)
    rw [e, if_pos h1]
  · have e : v % 2 ^ n = v + 2 ^ n := by
      rw [← Int.add_emod_right]; exact Int.emod_eq_of_lt (by omega) (by omega)
    rw [e, if_neg (by omega)]; omega
theorem shl_shr (v : Int) (n : Nat) (h1 : 1 ≤ n) (h64 : n ≤ 64) :
    shr .i64 (wrap64 (shl .u64 (v % 18446744073709551616) (64 - (n : Int)))) (64 - (n : Int)) = sgn v n := by
  have hy : (64 - (n : Int)).toNat = 64 - n := by omega
  have hm : min (64 - n) 64 = 64 - n := by omega
  unfold shl shr
  rw [hy, show IntKind.u64.bits = 64 from rfl, show IntKind.i64.bits = 64 from rfl, hm, wu64]
  have hP := p_pos (64 - n)
  have hR := p_pos (n - 1)
  have hQ : (2 : Int) ^ n = 2 * 2 ^ (n - 1) := by rw [← p_succ]; congr 1; omega
  have hPQ : (2 : Int) ^ n * 2 ^ (64 - n) = 18446744073709551616 := by
    rw [← p_add, show n + (64 - n) = 64 from by omega]; exact p64
  have hRP : (2 : Int) ^ (n - 1) * 2 ^ (64 - n) = 9223372036854775808 := by
    rw [← p_add, show n - 1 + (64 - n) = 63 from by omega]; exact p63
  have e1 : v % 18446744073709551616 * 2 ^ (64 - n) % 18446744073709551616 = (v % 2 ^ n) * 2 ^ (64 - n) := by
    have e2 : (v % 18446744073709551616) % 2 ^ n = v % 2 ^ n := by rw [← p64]; exact mod_mod h64
    rw [← e2, Int.mul_comm (v % 18446744073709551616 % 2 ^ n), ← Int.mul_emod_mul_of_pos _ _ hP, Int.mul_comm (2 ^ (64 - n)) (2 ^ n), hPQ, Int.mul_comm (2 ^ (64 - n))]
  rw [e1]
  have h0 := Int.emod_nonneg v (Int.ne_of_gt (p_pos n))
  have h3 := Int.emod_lt_of_pos v (p_pos n)
  unfold sgn
  generalize v % 2 ^ n = m at h0 h3 ⊢
  generalize (2 : Int) ^ (64 - n) = P at hP hPQ hRP ⊢
  generalize (2 : Int) ^ (n - 1) = R at hR hQ hRP ⊢
  rw [hQ] at h3 hPQ ⊢
  split
  · rename_i hlt
    have a1 : 0 ≤ m * P := Int.mul_nonneg h0 (Int.le_of_lt hP)
    have a2 : m * P < R * P := Int.mul_lt_mul_of_pos_right hlt hP
    rw [w64 (by omega) (by omega), Int.mul_ediv_cancel _ (Int.ne_of_gt hP)]
  · rename_i hge
    have a1 : R * P ≤ m * P := Int.mul_le_mul_of_nonneg_right (by omega) (Int.le_of_lt hP)
    have a2 : m * P < 2 * R * P := Int.mul_lt_mul_of_pos_right h3 hP
    have e3 : wrap64 (m * P) = (m - 2 * R) * P := by
      rw [Int.sub_mul]; unfold wrap64; omega
    rw [e3, Int.mul_ediv_cancel _ (Int.ne_of_gt hP)]

/-- Sums and products need to be wrapped only once. -/
theorem wrap_add (x c : Int) : wrap64 (x + 18446744073709551616 * c) = wrap64 x := by unfold wrap64; omega
theorem wrap_is (x : Int) : ∃ c, wrap64 x = x + 18446744073709551616 * c := ⟨-((x + 9223372036854775808) / 18446744073709551616), by unfold wrap64; omega⟩
theorem wrap_wrap_add (x y : Int) : wrap64 (wrap64 x + y) = wrap64 (x + y) := by
  obtain ⟨c, hc⟩ := wrap_is x
  rw [hc, show x + 18446744073709551616 * c + y = (x + y) + 18446744073709551616 * c from by omega, wrap_add]
theorem wrap_add_wrap (x y : Int) : wrap64 (x + wrap64 y) = wrap64 (x + y) := by
  rw [Int.add_comm, wrap_wrap_add, Int.add_comm]
theorem wrap_mul_wrap (x y : Int) : wrap64 (x * wrap64 y) = wrap64 (x * y) := by
  obtain ⟨c, hc⟩ := wrap_is y
  rw [hc, Int.mul_add, Int.mul_left_comm, wrap_add]
theorem wrap_wrap_mul (x y : Int) : wrap64 (wrap64 x * y) = wrap64 (x * y) := by
  rw [Int.mul_comm, wrap_mul_wrap, Int.mul_comm]
theorem wrap_wrap (x : Int) : wrap64 (wrap64 x) = wrap64 x := by
  obtain ⟨c, hc⟩ := wrap_is x
  rw [hc, wrap_add, hc]
theorem wrap_u64 (x : Int) : wrap64 (x % 18446744073709551616) = wrap64 x := by unfold wrap64; omega
theorem wrap_self {x : Int} (h : -9223372036854775808 ≤ x ∧ x < 9223372036854775808) : wrap64 x = x := w64 h.1 h.2
theorem wrap_mod (x : Int) : wrap64 x % 18446744073709551616 = x % 18446744073709551616 := by unfold wrap64; omega
theorem w32_add (x c : Int) : wrap32 (x + 4294967296 * c) = wrap32 x := by unfold wrap32; omega
theorem w32_is (x : Int) : ∃ c, wrap32 x = x + 4294967296 * c := ⟨-((x + 2147483648) / 4294967296), by unfold wrap32; omega⟩
theorem w32_of64 (x : Int) : wrap32 (wrap64 x) = wrap32 x := by
  obtain ⟨c, hc⟩ := wrap_is x
  rw [hc, show x + 18446744073709551616 * c = x + 4294967296 * (4294967296 * c) from by omega, w32_add]
theorem w32_range (x : Int) : -2147483648 ≤ wrap32 x ∧ wrap32 x < 2147483648 := by unfold wrap32; omega
theorem w64_of32 (x : Int) : wrap64 (wrap32 x) = wrap32 x := by have := w32_range x; exact w64 (by omega) (by omega)
theorem w32_w32 (x : Int) : wrap32 (wrap32 x) = wrap32 x := by unfold wrap32; omega
theorem w32_w32_add (x y : Int) : wrap32 (wrap32 x + y) = wrap32 (x + y) := by
  obtain ⟨c, hc⟩ := w32_is x
  rw [hc, show x + 4294967296 * c + y = (x + y) + 4294967296 * c from by omega, w32_add]
theorem w32_add_w32 (x y : Int) : wrap32 (x + wrap32 y) = wrap32 (x + y) := by
  rw [Int.add_comm, w32_w32_add, Int.add_comm]
theorem w32_mul_w32 (x y : Int) : wrap32 (x * wrap32 y) = wrap32 (x * y) := by
  obtain ⟨c, hc⟩ := w32_is y
  rw [hc, Int.mul_add, Int.mul_left_comm, w32_add]
theorem w32_w32_mul (x y : Int) : wrap32 (wrap32 x * y) = wrap32 (x * y) := by
  rw [Int.mul_comm, w32_mul_w32, Int.mul_comm]
theorem sgn32 (v : Int) : sgn v 32 = wrap32 v := by
  unfold sgn wrap32
  rw [show (2 : Int) ^ 32 = 4294967296 from by decide, show (2 : Int) ^ (32 - 1) = 2147483648 from by decide]
  split <;> omega
theorem sgn_of_u64 (v : Int) : sgn (v % 18446744073709551616) 32 = wrap32 v := by
  rw [← p64, sgn_mod (by decide), sgn32]

/-- Quotient and rest, as the program reckons them. -/
def quo (a b : Int) : Int := if b = 0 then -1 else if b = -1 then wrap64 (-a) else wrap64 (Int.tdiv a b)
def rem (a b : Int) : Int := if b = 0 then a else if b = -1 then 0 else Int.tmod a b
def quoU (u v : Int) : Int := if v = 0 then -1 else wrap64 (u / v)
def remU (u v : Int) : Int := if v = 0 then wrap64 u else wrap64 (u % v)
theorem quotient_f (a b : Int) : alu_quotient.f a b = some (quo a b, rem a b) := by
  unfold alu_quotient.f quo rem
  by_cases h0 : b = 0
  · rw [if_pos h0, if_pos h0, if_pos h0]
  · rw [if_neg h0, if_neg h0, if_neg h0]
    by_cases h1 : b = -1
    · rw [if_pos h1, if_pos h1, if_pos h1]
    · rw [if_neg h1, if_neg h1, if_neg h1]
theorem quotientU_f (u v : Int) (hu : 0 ≤ u) (hv : 0 ≤ v) : alu_quotientU.f u v = some (quoU u v, remU u v) := by
  unfold alu_quotientU.f quoU remU
  by_cases h0 : v = 0
  · rw [if_pos h0, if_pos h0, if_pos h0]
  · rw [if_neg h0, if_neg h0, if_neg h0, Int.tdiv_eq_ediv_of_nonneg hu, Int.tmod_eq_emod_of_nonneg hu, wu64, wrap_u64]
theorem half_f (a : Int) : alu_half.f a = some (wrap32 a) := by unfold alu_half.f; rw [w64_of32]
theorem times_f (k op a b : Int) (n : Nat) (hop : 54 ≤ op ∧ op ≤ 57) : alu_times.f n op a b =
    some (if op = 54 then quo a b else if op = 55 then quoU (a % 18446744073709551616) (b % 18446744073709551616) else if op = 56 then rem a b else remU (a % 18446744073709551616) (b % 18446744073709551616)) := by
  unfold alu_times.f
  rw [quotient_f, wu64, wu64, quotientU_f _ _ (by omega) (by omega)]
  simp only [Option.bind_some]
  rw [if_neg (by omega), if_neg (by omega), if_neg (by omega), if_neg (by omega)]
  by_cases h1 : op = 54
  · rw [if_pos h1, if_pos h1]
  · rw [if_neg h1, if_neg h1]
    by_cases h2 : op = 55
    · rw [if_pos h2, if_pos h2]
    · rw [if_neg h2, if_neg h2]
      by_cases h3 : op = 56
      · rw [if_pos h3, if_pos h3]
      · rw [if_neg h3, if_neg h3]
theorem eval_long (op a b : Int) (k : Nat) (hk : 2 ≤ k) (hop : 54 ≤ op ∧ op ≤ 57) : alu_Eval.f k op a b =
    some (if op = 54 then quo a b else if op = 55 then quoU (a % 18446744073709551616) (b % 18446744073709551616) else if op = 56 then rem a b else remU (a % 18446744073709551616) (b % 18446744073709551616), true) := by
  obtain ⟨k, rfl⟩ : ∃ m, k = m + 1 := ⟨k - 1, by omega⟩
  unfold alu_Eval.f
  rw [if_neg (by omega)]
  simp only [alu_Eval.j0]
  rw [if_neg (by simp; omega), if_neg (by omega), if_neg (by omega), if_neg (by omega), if_neg (by omega), if_pos (by omega), times_f 0 op a b k hop]
  rfl
theorem awake07 (k : Nat) (hk : 2 ≤ k) : spinnakerlaw07_awake.f k = some true := by
  unfold spinnakerlaw07_awake.f
  rw [eval_long 56 (-7) 2 k hk (by decide)]
  decide +kernel

theorem toList_d (s : ByteArray) : s.toList = s.data.toList := ByteArray.toList_eq s
theorem ref_taken (op a b : Int) (h : op = 5 ∨ op = 6 ∨ op = 7 ∨ op = 8 ∨ op = 9 ∨ op = 10) : ∃ v, spinnakerref07_Taken.f op a b = some v ∧ alu_Taken.f op a b = some (v, true) := by
  unfold spinnakerref07_Taken.f alu_Taken.f
  have nl : ∀ x y : Int, (!decide (x < y)) = decide (x ≥ y) := by
    intro x y
    by_cases h : x < y
    · rw [decide_eq_true h, decide_eq_false (by omega)]; rfl
    · rw [decide_eq_false h, decide_eq_true (by omega)]; rfl
  rcases h with rfl | rfl | rfl | rfl | rfl | rfl
  · refine ⟨a == b, ?_, by rw [if_pos rfl]⟩
    rw [show spinnakerref03_Name.f 5 = some (⟨#[98, 101, 113]⟩ : ByteArray) from by decide +kernel]; simp [toList_d]
  · refine ⟨a != b, ?_, by rw [if_neg (by decide), if_pos rfl]⟩
    rw [show spinnakerref03_Name.f 6 = some (⟨#[98, 110, 101]⟩ : ByteArray) from by decide +kernel]; simp [toList_d]
  · refine ⟨decide (a < b), ?_, by rw [if_neg (by decide), if_neg (by decide), if_pos rfl]⟩
    rw [show spinnakerref03_Name.f 7 = some (⟨#[98, 108, 116]⟩ : ByteArray) from by decide +kernel]; simp [toList_d]
  · refine ⟨decide (a ≥ b), ?_, by rw [if_neg (by decide), if_neg (by decide), if_neg (by decide), if_pos rfl, nl]⟩
    rw [show spinnakerref03_Name.f 8 = some (⟨#[98, 103, 101]⟩ : ByteArray) from by decide +kernel]; simp [toList_d]
  · refine ⟨decide (IntKind.u64.wrap a < IntKind.u64.wrap b), ?_, by rw [if_neg (by decide), if_neg (by decide), if_neg (by decide), if_neg (by decide), if_pos rfl]⟩
    rw [show spinnakerref03_Name.f 9 = some (⟨#[98, 108, 116, 117]⟩ : ByteArray) from by decide +kernel]; simp [toList_d]
  · refine ⟨decide (IntKind.u64.wrap a ≥ IntKind.u64.wrap b), ?_, by rw [if_neg (by decide), if_neg (by decide), if_neg (by decide), if_neg (by decide), if_neg (by decide), if_pos rfl, nl]⟩
    rw [show spinnakerref03_Name.f 10 = some (⟨#[98, 103, 101, 117]⟩ : ByteArray) from by decide +kernel]; simp [toList_d]
theorem AluTaken : spinnakerlaw07_AluTaken.Pure := by
  intro op a b hop ha hb
  refine ⟨100, ?_⟩
  unfold spinnakerlaw07_AluTaken.f
  by_cases h : 5 ≤ op ∧ op ≤ 10
  · obtain ⟨v, h1, h2⟩ := ref_taken op a b (by omega)
    rw [h2]
    simp only [Option.bind_some]
    rw [if_neg (by omega), decide_eq_false (by omega)]
    simp only [spinnakerlaw07_AluTaken.j0]
    rw [if_neg (by decide), h1]
    simp [awake07]
  · have h2 : alu_Taken.f op a b = some (false, false) := by
      unfold alu_Taken.f
      rw [if_neg (by omega), if_neg (by omega), if_neg (by omega), if_neg (by omega), if_neg (by omega), if_neg (by omega)]
    rw [h2]
    simp only [Option.bind_some]
    have e : ∀ t, t = true → spinnakerlaw07_AluTaken.j0 100 op a b false false t = some true := by
      rintro t rfl
      simp only [spinnakerlaw07_AluTaken.j0, if_true]
      simp [awake07]
    by_cases h3 : op < 5
    · rw [if_pos h3]; exact e _ rfl
    · rw [if_neg h3]; exact e _ (by simp; omega)

end Go.Proofs.Ytcmdeplkdkpoaaa.Pure
