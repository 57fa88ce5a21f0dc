/- The bytes of every word and of every number are the document's, and lead back to it; no condition. -/
import Derived.Test.YtfjfmkobhbpelaaPWordBytesx2
namespace Go.Proofs.Ytfjfmkobhbpelaa.Pure
open Go.RowKit Go.Proofs.Ytfjfmkobhbpelaa.PWordBytes Go.Proofs.YtfjfmkobhbpelaaW.PrintWords Go.Proofs.YtfjfmkobhbpelaaW.PrintLast Go.Proofs.YtfjfmkobhbpelaaW.PrintMore
set_option linter.unusedVariables false
set_option linter.unusedSimpArgs false
attribute [local irreducible] shl shr

/-- Numbers that need no wrapping, and two's complement by its lowest bits. -/
theorem w64 {x : Int} (h0 : -9223372036854775808 ≤ x) (h1 : x < 9223372036854775808) : wrap64 x = x := by
  unfold wrap64; omega
theorem w64n {x : Int} (n : Nat) (h : x = n) (hn : n < 9223372036854775808) : wrap64 x = (n : Int) := by
  rw [w64 (by omega) (by omega), h]
theorem wu64 (x : Int) : IntKind.u64.wrap x = x % 18446744073709551616 := by
  simp [IntKind.wrap, IntKind.bits, IntKind.signed]
theorem wf_i64 {x : Int} (h : (Lit.int .i64 x).wf = true) : -9223372036854775808 ≤ x ∧ x < 9223372036854775808 := by
  simp [Lit.wf, IntKind.min, IntKind.max, IntKind.bits, IntKind.signed] at h; omega
theorem wf_u32 {x : Int} (h : (Lit.int .u32 x).wf = true) : 0 ≤ x ∧ x < 4294967296 := by
  simp [Lit.wf, IntKind.min, IntKind.max, IntKind.bits, IntKind.signed] at h; omega
theorem wf_u8 {x : Int} (h : (Lit.int .u8 x).wf = true) : 0 ≤ x ∧ x < 256 := by
  simp [Lit.wf, IntKind.min, IntKind.max, IntKind.bits, IntKind.signed] at h; omega
theorem p64 : (2 : Int) ^ 64 = 18446744073709551616 := by decide
theorem p63 : (2 : Int) ^ 63 = 9223372036854775808 := by decide
theorem p_pos (n : Nat) : (0 : Int) < 2 ^ n := Int.pow_pos (by decide)
theorem p_add (a b : Nat) : (2 : Int) ^ (a + b) = 2 ^ a * 2 ^ b := Int.pow_add 2 a b
theorem p_le {a b : Nat} (h : a ≤ b) : (2 : Int) ^ a ≤ 2 ^ b := by
  obtain ⟨c, rfl⟩ := Nat.exists_eq_add_of_le h
  rw [p_add]
  have h1 : (2 : Int) ^ a * 1 ≤ 2 ^ a * 2 ^ c := Int.mul_le_mul_of_nonneg_left (by have := p_pos c; omega) (Int.le_of_lt (p_pos a))
  omega
theorem b64 {i : Nat} (h : i ≤ 64) : (2 : Int) ^ i ≤ 18446744073709551616 := by have := p_le h; rw [p64] at this; exact this
theorem b63 {i : Nat} (h : i ≤ 63) : (2 : Int) ^ i ≤ 9223372036854775808 := by have := p_le h; rw [p63] at this; exact this
theorem b62 {i : Nat} (h : i ≤ 62) : (2 : Int) ^ i ≤ 4611686018427387904 := by have := p_le h; rw [show (2 : Int) ^ 62 = 4611686018427387904 from by decide] at this; exact this
theorem b60 {i : Nat} (h : i ≤ 60) : (2 : Int) ^ i ≤ 1152921504606846976 := by have := p_le h; rw [show (2 : Int) ^ 60 = 1152921504606846976 from by decide] at this; exact this
theorem p_succ (n : Nat) : (2 : Int) ^ (n + 1) = 2 * 2 ^ n := by rw [p_add]; omega

/-- The number with a sign that the lowest n bits are. -/
def sgn (v : Int) (n : Nat) : Int := if v % 2 ^ n < 2 ^ (n - 1) then v % 2 ^ n else v % 2 ^ n - 2 ^ n

theorem mod_mod {v : Int} {a b : Nat} (h : a ≤ b) : v % 2 ^ b % 2 ^ a = v % 2 ^ a := by
  obtain ⟨c, rfl⟩ := Nat.exists_eq_add_of_le h
  exact Int.emod_emod_of_dvd v ⟨2 ^ c, p_add a c⟩
theorem sgn_mod {v : Int} {a b : Nat} (h : a ≤ b) : sgn (v % 2 ^ b) a = sgn v a := by
  unfold sgn; rw [mod_mod h]
theorem sgn_range (v : Int) (n : Nat) (h : 1 ≤ n) : -2 ^ (n - 1) ≤ sgn v n ∧ sgn v n < 2 ^ (n - 1) := by
  have h0 := Int.emod_nonneg v (Int.ne_of_gt (p_pos n))
  have h1 := Int.emod_lt_of_pos v (p_pos n)
  have h2 : (2 : Int) ^ n = 2 * 2 ^ (n - 1) := by rw [← p_succ]; congr 1; omega
  unfold sgn
  split <;> omega
/-- Which number has the same lowest bits and fits is the one. -/
theorem sgn_self {v : Int} {n : Nat} (h : 1 ≤ n) (h0 : -2 ^ (n - 1) ≤ v) (h1 : v < 2 ^ (n - 1)) : sgn v n = v := by
  have h2 : (2 : Int) ^ n = 2 * 2 ^ (n - 1) := by rw [← p_succ]; congr 1; omega
  have hp := p_pos (n - 1)
  unfold sgn
  by_cases hv : 0 ≤ v
  · have e : v % 2 ^ n = v := Int.emod_eq_of_lt hv (by omega)
    rw [e, if_pos h1]
  · have e : v % 2 ^ n = v + 2 ^ n := by
      rw [← Int.add_emod_right]; exact Int.emod_eq_of_lt (by omega) (by omega)
    rw [e, if_neg (by omega)]; omega
theorem shl_shr (v : Int) (n : Nat) (h1 : 1 ≤ n) (h64 : n ≤ 64) :
    shr .i64 (wrap64 (shl .u64 (v % 18446744073709551616) (64 - (n : Int)))) (64 - (n : Int)) = sgn v n := by
  have hy : (64 - (n : Int)).toNat = 64 - n := by omega
  have hm : min (64 - n) 64 = 64 - n := by omega
  unfold shl shr
  rw [hy, show IntKind.u64.bits = 64 from rfl, show IntKind.i64.bits = 64 from rfl, hm, wu64]
  have hP := p_pos (64 - n)
  have hR := p_pos (n - 1)
  have hQ : (2 : Int) ^ n = 2 * 2 ^ (n - 1) := by rw [← p_succ]; congr 1; omega
  have hPQ : (2 : Int) ^ n * 2 ^ (64 - n) = 18446744073709551616 := by
    rw [← p_add, show n + (64 - n) = 64 from by omega]; exact p64
  have hRP : (2 : Int) ^ (n - 1) * 2 ^ (64 - n) = 9223372036854775808 := by
    rw [← p_add, show n - 1 + (64 - n) = 63 from by omega]; exact p63
  have e1 : v % 18446744073709551616 * 2 ^ (64 - n) % 18446744073709551616 = (v % 2 ^ n) * 2 ^ (64 - n) := by
    have e2 : (v % 18446744073709551616) % 2 ^ n = v % 2 ^ n := by rw [← p64]; exact mod_mod h64
    rw [← e2, Int.mul_comm (v % 18446744073709551616 % 2 ^ n), ← Int.mul_emod_mul_of_pos _ _ hP, Int.mul_comm (2 ^ (64 - n)) (2 ^ n), hPQ, Int.mul_comm (2 ^ (64 - n))]
  rw [e1]
  have h0 := Int.emod_nonneg v (Int.ne_of_gt (p_pos n))
  have h3 := Int.emod_lt_of_pos v (p_pos n)
  unfold sgn
  generalize v % 2 ^ n = m at h0 h3 ⊢
  generalize (2 : Int) ^ (64 - n) = P at hP hPQ hRP ⊢
  generalize (2 : Int) ^ (n - 1) = R at hR hQ hRP ⊢
  rw [hQ] at h3 hPQ ⊢
  split
  · rename_i hlt
    have a1 : 0 ≤ m * P := Int.mul_nonneg h0 (Int.le_of_lt hP)
    have a2 : m * P < R * P := Int.mul_lt_mul_of_pos_right hlt hP
    rw [w64 (by omega) (by omega), Int.mul_ediv_cancel _ (Int.ne_of_gt hP)]
  · rename_i hge
    have a1 : R * P ≤ m * P := Int.mul_le_mul_of_nonneg_right (by omega) (Int.le_of_lt hP)
    have a2 : m * P < 2 * R * P := Int.mul_lt_mul_of_pos_right h3 hP
    have e3 : wrap64 (m * P) = (m - 2 * R) * P := by
      rw [Int.sub_mul]; unfold wrap64; omega
    rw [e3, Int.mul_ediv_cancel _ (Int.ne_of_gt hP)]

/-- The bytes of a number, and the number of bytes, the lowest one first. -/
def dig (v : Int) (n : Nat) : List Int := (List.range n).map fun j => v / 2 ^ (8 * j) % 256
def lev : List Int → Int
  | [] => 0
  | b :: t => b + 256 * lev t
theorem dig_length (v : Int) (n : Nat) : (dig v n).length = n := by simp [dig]
theorem dig_zero (v : Int) : dig v 0 = [] := rfl
theorem dig_succ (v : Int) (n : Nat) : dig v (n + 1) = v % 256 :: dig (v / 256) n := by
  unfold dig
  rw [List.range_succ_eq_map, List.map_cons, List.map_map]
  congr 1
  · simp
  · apply List.map_congr_left
    intro j _
    simp only [Function.comp_apply]
    rw [show 8 * Nat.succ j = 8 + 8 * j from by omega, p_add, ← Int.ediv_ediv_of_nonneg (Int.le_of_lt (p_pos 8))]
    rfl
theorem lev_dig (n : Nat) : ∀ v : Int, lev (dig v n) = v % 2 ^ (8 * n) := by
  induction n with
  | zero => intro v; simp [dig, lev]
  | succ n ih =>
    intro v
    rw [dig_succ]
    simp only [lev]
    rw [ih, show 8 * (n + 1) = 8 + 8 * n from by omega, p_add, show (2 : Int) ^ 8 = 256 from by decide]
    have a := Int.mul_ediv_add_emod v (256 * 2 ^ (8 * n))
    have b := Int.mul_ediv_add_emod v 256
    have c := Int.mul_ediv_add_emod (v / 256) (2 ^ (8 * n))
    rw [Int.ediv_ediv_of_nonneg (by decide)] at c
    generalize v / (256 * 2 ^ (8 * n)) = q at a c
    rw [Int.mul_assoc] at a
    omega
theorem lev_range : ∀ l : List Int, (∀ x ∈ l, 0 ≤ x ∧ x < 256) → 0 ≤ lev l ∧ lev l < 2 ^ (8 * l.length)
  | [], _ => by simp [lev]
  | b :: t, h => by
    have ih := lev_range t fun x hx => h x (List.mem_cons_of_mem _ hx)
    have hb := h b List.mem_cons_self
    simp only [lev, List.length_cons]
    rw [show 8 * (t.length + 1) = 8 + 8 * t.length from by omega, p_add, show (2 : Int) ^ 8 = 256 from by decide]
    omega
theorem dig_lev : ∀ l : List Int, (∀ x ∈ l, 0 ≤ x ∧ x < 256) → dig (lev l) l.length = l
  | [], _ => rfl
  | b :: t, h => by
    have hb := h b List.mem_cons_self
    rw [List.length_cons, dig_succ]
    simp only [lev]
    rw [show (b + 256 * lev t) % 256 = b from by omega, show (b + 256 * lev t) / 256 = lev t from by omega, dig_lev t fun x hx => h x (List.mem_cons_of_mem _ hx)]
theorem lev_snoc : ∀ (l : List Int) (b : Int), lev (l ++ [b]) = lev l + b * 2 ^ (8 * l.length)
  | [], b => by simp [lev]
  | c :: t, b => by
    rw [List.cons_append]
    simp only [lev, List.length_cons]
    rw [lev_snoc t b, show 8 * (t.length + 1) = 8 + 8 * t.length from by omega, p_add, show (2 : Int) ^ 8 = 256 from by decide, Int.mul_add,
      show b * (256 * 2 ^ (8 * t.length)) = 256 * (b * 2 ^ (8 * t.length)) from by rw [Int.mul_left_comm]]
    omega
theorem dig_bytes (v : Int) (n : Nat) : ∀ x ∈ dig v n, 0 ≤ x ∧ x < 256 := by
  intro x hx
  simp only [dig, List.mem_map] at hx
  obtain ⟨j, _, rfl⟩ := hx
  omega
attribute [local irreducible] lev dig

theorem may_f (a n : Int) (h : -9223372036854775808 ≤ n) (h' : n < 9223372036854775808) : word_may.f a n = some (decide (0 ≤ a ∧ 1 ≤ n ∧ n ≤ 32 ∧ a ≤ 32 - n)) := by
  unfold word_may.f
  by_cases h0 : a ≥ 0
  · rw [if_pos h0]
    by_cases h1 : n ≥ 1
    · rw [if_pos h1]
      by_cases h2 : n ≤ 32
      · rw [if_pos h2, w64 (by omega) (by omega)]
        congr 1; simp only [decide_eq_decide]; omega
      · rw [if_neg h2]; congr 1; symm; simp; omega
    · rw [if_neg h1]; congr 1; symm; simp; omega
  · rw [if_neg h0]; congr 1; symm; simp; omega
theorem sign_f (v n : Int) (h0 : 0 ≤ v) (h1 : v < 18446744073709551616) (h : -9223372036854775808 ≤ n) (h' : n < 9223372036854775808) :
    word_Sign.f v n = some (if 1 ≤ n ∧ n ≤ 32 then (sgn v n.toNat, 0) else (0, 2)) := by
  unfold word_Sign.f
  rw [may_f 0 n h h']
  simp only [Option.bind_some]
  by_cases hn : 1 ≤ n ∧ n ≤ 32
  · rw [if_pos (by simp; omega), if_pos hn, w64 (by omega) (by omega), if_pos (by omega), wu64]
    have e := shl_shr v n.toNat (by omega) (by omega)
    rw [show ((n.toNat : Nat) : Int) = n from by omega] at e
    rw [e]
  · rw [if_neg (by simp; omega), if_neg hn]

theorem split_l (d : Nat) : ∀ (k : Nat) (v n : Int) (l : List Int) (i : Nat), n ≤ 8 → n - i = d → d < k → l.length = i →
    word_split.l0 k v l n i = some (l ++ (List.range' i d).map fun j => v / 2 ^ (8 * j) % 256) := by
  induction d with
  | zero =>
    intro k v n l i hn hd hk hl
    obtain ⟨k, rfl⟩ : ∃ m, k = m + 1 := ⟨k - 1, by omega⟩
    simp only [word_split.l0]
    rw [if_neg (by omega)]; simp
  | succ d ih =>
    intro k v n l i hn hd hk hl
    obtain ⟨k, rfl⟩ : ∃ m, k = m + 1 := ⟨k - 1, by omega⟩
    simp only [word_split.l0]
    rw [w64 (x := 8 * (i : Int)) (by omega) (by omega), w64 (x := (i : Int) + 1) (by omega) (by omega), if_pos (by omega), if_pos (by omega), if_pos (by omega)]
    have e : shr .u64 v (8 * (i : Int)) = v / 2 ^ (8 * i) := by
      unfold shr
      rw [show IntKind.u64.bits = 64 from rfl, show (8 * (i : Int)).toNat = 8 * i from by omega, Nat.min_eq_left (by omega)]
    have e2 : (i : Int) + 1 = ((i + 1 : Nat) : Int) := by omega
    rw [e, e2, ih k v n _ (i + 1) hn (by omega) (by omega) (by simp [hl]), List.append_assoc]
    congr 1
theorem split_f (k : Nat) (v n : Int) (h0 : 0 ≤ n) (hn : n ≤ 8) (hk : 8 < k) :
    word_split.f k v n = some (dig v n.toNat) := by
  unfold word_split.f dig
  have := split_l n.toNat k v n [] 0 hn (by omega) (by omega) rfl
  rw [List.range_eq_range']
  simpa using this
theorem word_bytes_f (k : Nat) (v : Int) (h0 : 0 ≤ v) (h1 : v < 18446744073709551616) (hk : 8 < k) :
    word_Bytes.f k v = some (dig v 4) := by
  unfold word_Bytes.f
  rw [wu64, Int.emod_eq_of_lt h0 h1, split_f k v 4 (by decide) (by decide) hk]; rfl
theorem fits_f (v n : Int) (h0 : -9223372036854775808 ≤ v) (h1 : v < 9223372036854775808) (h : -9223372036854775808 ≤ n) (h' : n < 9223372036854775808) :
    word_Fits.f v n = some (decide (1 ≤ n ∧ n ≤ 64 ∧ -2 ^ (n.toNat - 1) ≤ v ∧ v < 2 ^ (n.toNat - 1))) := by
  unfold word_Fits.f
  by_cases hn1 : n < 1
  · rw [if_pos hn1]; congr 1; symm; simp; omega
  · rw [if_neg hn1]
    by_cases hn2 : n > 64
    · rw [if_pos hn2]; congr 1; symm; simp; omega
    · rw [if_neg hn2, w64 (by omega) (by omega), if_pos (by omega), wu64]
      have e := shl_shr v n.toNat (by omega) (by omega)
      rw [show ((n.toNat : Nat) : Int) = n from by omega] at e
      rw [e]
      congr 1
      rw [Bool.eq_iff_iff]
      simp only [beq_iff_eq, decide_eq_true_eq]
      constructor
      · intro hh
        have := sgn_range v n.toNat (by omega)
        rw [hh] at this
        exact ⟨by omega, by omega, this⟩
      · intro hh
        exact sgn_self (by omega) hh.2.2.1 hh.2.2.2
theorem awake01 (k : Nat) (hk : 8 < k) : spinnakerlaw01_awake.f k = some true := by
  unfold spinnakerlaw01_awake.f
  rw [sign_f 4095 12 (by decide) (by decide) (by decide) (by decide), word_bytes_f k 305419896 (by decide) (by decide) hk, fits_f (-5) 4 (by decide) (by decide) (by decide) (by decide)]
  decide +kernel

theorem rd_get (l : List Int) (i : Nat) (h : i < l.length) : rd l (i : Int) = l[i] := by
  unfold rd; simp [h]
theorem or64 {x y : Int} {i : Nat} (hx0 : 0 ≤ x) (hx : x < 2 ^ i) (hy0 : 0 ≤ y) (hy : y * 2 ^ i < 18446744073709551616) (hi : i ≤ 64) :
    Go.bits .or .u64 x (y * 2 ^ i) = x + y * 2 ^ i := by
  have hw : ∀ n : Int, 0 ≤ n → n < 2 ^ 64 → IntKind.u64.wrap n = n := by
    intro n h0 h1; rw [wu64]; rw [p64] at h1; omega
  have hp := p_pos i
  have hyp : 0 ≤ y * 2 ^ i := Int.mul_nonneg hy0 (Int.le_of_lt hp)
  have hb := Go.bits_join .u64 64 (by decide) hw i (y * 2 ^ i) x hyp (Int.mul_emod_left _ _) (by rw [p64]; exact hy) hx0 hx (by rw [p64]; have := b64 hi; omega)
  obtain ⟨a, ha⟩ := Int.eq_ofNat_of_zero_le hx0
  obtain ⟨b, hb'⟩ := Int.eq_ofNat_of_zero_le hyp
  have hp64 := b64 hi
  have ha2 : a < 2 ^ 64 := by have h1 : (a : Int) < 18446744073709551616 := by omega
                              have h2 : a < 18446744073709551616 := by omega
                              exact Nat.lt_of_lt_of_le h2 (by decide)
  have hb2 : b < 2 ^ 64 := by have h1 : (b : Int) < 18446744073709551616 := by omega
                              have h2 : b < 18446744073709551616 := by omega
                              exact Nat.lt_of_lt_of_le h2 (by decide)
  rw [hb', ha] at hb ⊢
  have c1 := (Go.bits_nat .u64 64 (by decide) hw a b ha2 hb2).2
  have c2 := (Go.bits_nat .u64 64 (by decide) hw b a hb2 ha2).2
  rw [c1, Nat.or_comm, ← c2, hb]; omega
theorem take_snoc (l : List Int) (a i : Nat) (h : a + i < l.length) : (l.drop a).take (i + 1) = (l.drop a).take i ++ [l[a + i]] := by
  rw [List.take_succ_eq_append_getElem (by simp; omega)]
  simp
theorem join_l (l : List Int) (a n : Nat) (hb : ∀ x ∈ l, 0 ≤ x ∧ x < 256) (hn : n ≤ 8) (hl : a + n ≤ l.length) (hs : l.length < 4611686018427387904) (d : Nat) :
    ∀ (k : Nat) (v : Int) (i : Nat), n - i = d → i ≤ n → v = lev ((l.drop a).take i) → d < k →
    word_join.l0 k l a v n i = some (lev ((l.drop a).take n), 0) := by
  induction d with
  | zero =>
    intro k v i hd hi hv hk
    obtain ⟨k, rfl⟩ : ∃ m, k = m + 1 := ⟨k - 1, by omega⟩
    simp only [word_join.l0]
    rw [if_neg (by omega), hv, show i = n from by omega]
  | succ d ih =>
    intro k v i hd hi hv hk
    have HV := Aside0.mk hv
    clear hv
    obtain ⟨k, rfl⟩ : ∃ m, k = m + 1 := ⟨k - 1, by omega⟩
    simp only [word_join.l0]
    rw [w64n (x := (a : Int) + i) (a + i) (by omega) (by omega), w64n (x := 8 * (i : Int)) (8 * i) (by omega) (by omega), w64n (x := (i : Int) + 1) (i + 1) (by omega) (by omega), if_pos (by omega), if_pos (by omega), if_pos (by omega), if_pos (by omega), rd_get l (a + i) (by omega)]
    have hbi := hb l[a + i] (List.getElem_mem _)
    have hlen : ((l.drop a).take i).length = i := by simp; omega
    have hr := lev_range ((l.drop a).take i) fun x hx => hb x (List.mem_of_mem_drop (List.mem_of_mem_take hx))
    rw [hlen] at hr
    have hp := p_pos (8 * i)
    have hle : l[a + i] * (2 : Int) ^ (8 * i) < 18446744073709551616 := by
      have h1 : l[a + i] * (2 : Int) ^ (8 * i) < 256 * 2 ^ (8 * i) := Int.mul_lt_mul_of_pos_right hbi.2 hp
      have h2 : 256 * (2 : Int) ^ (8 * i) = 2 ^ (8 + 8 * i) := by rw [p_add]; rfl
      have h3 : (2 : Int) ^ (8 + 8 * i) ≤ 18446744073709551616 := b64 (by omega)
      omega
    have e3 : shl .u64 (IntKind.u64.wrap l[a + i]) ((8 * i : Nat) : Int) = l[a + i] * 2 ^ (8 * i) := by
      unfold shl
      rw [show IntKind.u64.bits = 64 from rfl, show (((8 * i : Nat) : Int)).toNat = 8 * i from by omega, Nat.min_eq_left (by omega), wu64, wu64,
        Int.emod_eq_of_lt hbi.1 (by omega), Int.emod_eq_of_lt (Int.mul_nonneg hbi.1 (Int.le_of_lt hp)) hle]
    rw [e3, HV.out, or64 hr.1 hr.2 hbi.1 hle (by omega)]
    refine ih k _ (i + 1) (by omega) (by omega) ?_ (by omega)
    rw [take_snoc l a i (by omega), lev_snoc, hlen]
theorem join_f (k : Nat) (l : List Int) (a n : Int) (hb : ∀ x ∈ l, 0 ≤ x ∧ x < 256) (hn0 : 0 ≤ n) (hn : n ≤ 8) (hs : l.length < 4611686018427387904) (hk : 20 < k) :
    word_join.f k l a n = some (if 0 ≤ a ∧ a + n ≤ l.length then (lev ((l.drop a.toNat).take n.toNat), 0) else (0, 4)) := by
  obtain ⟨k, rfl⟩ : ∃ m, k = m + 1 := ⟨k - 1, by omega⟩
  unfold word_join.f
  by_cases ha : a < 0
  · rw [if_pos ha, if_neg (by omega)]; simp only [word_join.j0]; simp
  · rw [if_neg ha, w64 (by omega) (by omega)]
    simp only [word_join.j0]
    by_cases hal : a > (l.length : Int) - n
    · rw [if_pos (by simpa using hal), if_neg (by omega)]
    · rw [if_neg (by simpa using hal), if_pos (by omega)]
      have := join_l l a.toNat n.toNat hb (by omega) (by omega) hs n.toNat k 0 0 (by omega) (by omega) (by simp [lev]) (by omega)
      rw [show ((a.toNat : Nat) : Int) = a from by omega, show ((n.toNat : Nat) : Int) = n from by omega] at this
      exact this
theorem word_f (k : Nat) (l : List Int) (a : Int) (hb : ∀ x ∈ l, 0 ≤ x ∧ x < 256) (hs : l.length < 4611686018427387904) (hk : 20 < k) :
    word_Word.f k l a = some (if 0 ≤ a ∧ a + 4 ≤ l.length then (lev ((l.drop a.toNat).take 4), 0) else (0, 4)) := by
  unfold word_Word.f
  rw [join_f k l a 4 hb (by decide) (by decide) hs hk]
  simp only [Option.bind_some]
  by_cases h : 0 ≤ a ∧ a + 4 ≤ l.length
  · rw [if_pos h, if_pos h]
    have hr := lev_range ((l.drop a.toNat).take 4) fun x hx => hb x (List.mem_of_mem_drop (List.mem_of_mem_take hx))
    have hlen : ((l.drop a.toNat).take 4).length = 4 := by simp; omega
    rw [hlen, show (2 : Int) ^ (8 * 4) = 4294967296 from by decide] at hr
    simp only [show (4 : Int).toNat = 4 from rfl]
    rw [Int.emod_eq_of_lt hr.1 hr.2]
  · rw [if_neg h, if_neg h]; rfl
theorem number_f (k : Nat) (l : List Int) (a : Int) (hb : ∀ x ∈ l, 0 ≤ x ∧ x < 256) (hs : l.length < 4611686018427387904) (hk : 20 < k) :
    word_Number.f k l a = some (if 0 ≤ a ∧ a + 8 ≤ l.length then (wrap64 (lev ((l.drop a.toNat).take 8)), 0) else (0, 4)) := by
  unfold word_Number.f
  rw [join_f k l a 8 hb (by decide) (by decide) hs hk]
  simp only [Option.bind_some]
  by_cases h : 0 ≤ a ∧ a + 8 ≤ l.length
  · rw [if_pos h, if_pos h]; rfl
  · rw [if_neg h, if_neg h]; simp only; rw [w64 (x := 0) (by decide) (by decide)]

theorem ref_bytes_l (d : Nat) : ∀ (k : Nat) (v n : Int) (l : List Int) (i : Int), 0 ≤ v → v < 18446744073709551616 → n ≤ 1000 → 0 ≤ i → n - i = d → d < k → l.length ≤ i →
    spinnakerref01_Bytes.l0 k v n l i = some (l ++ dig v d) := by
  induction d with
  | zero =>
    intro k v n l i h0 h1 hn hi hd hk hl
    obtain ⟨k, rfl⟩ : ∃ m, k = m + 1 := ⟨k - 1, by omega⟩
    simp only [spinnakerref01_Bytes.l0]
    rw [if_neg (by omega)]; simp [dig]
  | succ d ih =>
    intro k v n l i h0 h1 hn hi hd hk hl
    obtain ⟨k, rfl⟩ : ∃ m, k = m + 1 := ⟨k - 1, by omega⟩
    simp only [spinnakerref01_Bytes.l0]
    rw [if_pos (by omega), if_pos (by omega), Int.tdiv_eq_ediv_of_nonneg h0, Int.tmod_eq_emod_of_nonneg h0, wu64, w64 (x := i + 1) (by omega) (by omega)]
    rw [show v / 256 % 18446744073709551616 = v / 256 from by omega, show v % 256 % 256 = v % 256 from by omega]
    rw [ih k (v / 256) n _ (i + 1) (by omega) (by omega) hn (by omega) (by omega) (by omega) (by simp; omega), dig_succ, List.append_assoc]
    rfl
theorem ref_bytes (k : Nat) (v n : Int) (h0 : 0 ≤ v) (h1 : v < 18446744073709551616) (hn0 : 0 ≤ n) (hn : n ≤ 1000) (hk : n.toNat < k) :
    spinnakerref01_Bytes.f k v n = some (dig v n.toNat) := by
  unfold spinnakerref01_Bytes.f
  have := ref_bytes_l n.toNat k v n [] 0 h0 h1 hn (by omega) (by omega) hk (by simp)
  simpa using this

theorem ref_same_l (a b : List Int) (hab : a.length = b.length) (hn : a.length < 4611686018427387904) (d : Nat) : ∀ (k i : Nat), i ≤ a.length → a.length - i = d → d < k →
    spinnakerref01_Same.l0 k a b i = some (decide (a.drop i = b.drop i)) := by
  induction d with
  | zero =>
    intro k i hi hd hk
    obtain ⟨k, rfl⟩ : ∃ m, k = m + 1 := ⟨k - 1, by omega⟩
    simp only [spinnakerref01_Same.l0]
    rw [if_neg (by omega), List.drop_of_length_le (by omega), List.drop_of_length_le (by omega)]
    simp
  | succ d ih =>
    intro k i hi hd hk
    obtain ⟨k, rfl⟩ : ∃ m, k = m + 1 := ⟨k - 1, by omega⟩
    simp only [spinnakerref01_Same.l0]
    rw [if_pos (by omega), if_pos (by omega), if_pos (by omega)]
    have e : ∀ l : List Int, ∀ h : i < l.length, rd l (i : Int) = l[i] := by
      intro l h; unfold rd; simp [h]
    rw [e a (by omega), e b (by omega), List.drop_eq_getElem_cons (show i < a.length by omega), List.drop_eq_getElem_cons (show i < b.length by omega)]
    by_cases h : a[i] = b[i]
    · rw [if_pos h, w64n (x := (i : Int) + 1) (i + 1) (by omega) (by omega), ih k (i + 1) (by omega) (by omega) (by omega)]
      congr 1; rw [decide_eq_decide]
      exact ⟨fun hh => by rw [h, hh], fun hh => (List.cons.inj hh).2⟩
    · rw [if_neg h]; congr 1; symm; rw [decide_eq_false_iff_not]; intro hc; exact h (List.cons.inj hc).1
theorem ref_same (k : Nat) (a b : List Int) (hn : a.length < 4611686018427387904) (hk : a.length < k) :
    spinnakerref01_Same.f k a b = some (decide (a = b)) := by
  unfold spinnakerref01_Same.f
  by_cases h : a.length = b.length
  · rw [if_pos (by omega)]
    have := ref_same_l a b h hn a.length k 0 (by omega) (by omega) hk
    simpa using this
  · rw [if_neg (by omega)]
    have : a ≠ b := fun e => h (by rw [e])
    simp [this]

theorem WordBytes : spinnakerlaw01_WordBytes.Pure := by
  intro w v hw hv
  have hw := wf_u32 hw
  have hv := wf_i64 hv
  refine ⟨1000, ?_⟩
  unfold spinnakerlaw01_WordBytes.f
  have e1 : word_Long.f 1000 v = some (dig (v % 18446744073709551616) 8) := by
    unfold word_Long.f
    rw [wu64, split_f 1000 _ 8 (by decide) (by decide) (by decide)]; rfl
  have e2 : (dig w 4).take 4 = dig w 4 := List.take_of_length_le (by simp [dig_length])
  have e3 : (dig (v % 18446744073709551616) 8).take 8 = dig (v % 18446744073709551616) 8 := List.take_of_length_le (by simp [dig_length])
  have e4 : word_Word.f 1000 (dig w 4) 0 = some (w, 0) := by
    rw [word_f 1000 (dig w 4) 0 (dig_bytes w 4) (by simp [dig_length]) (by decide), if_pos (by simp [dig_length])]
    simp only [Int.toNat_zero, List.drop_zero]
    rw [e2, lev_dig, show (2 : Int) ^ (8 * 4) = 4294967296 from by decide, Int.emod_eq_of_lt hw.1 hw.2]
  have e5 : word_Number.f 1000 (dig (v % 18446744073709551616) 8) 0 = some (v, 0) := by
    rw [number_f 1000 _ 0 (dig_bytes _ 8) (by simp [dig_length]) (by decide), if_pos (by simp [dig_length])]
    simp only [Int.toNat_zero, List.drop_zero]
    rw [e3, lev_dig, show (2 : Int) ^ (8 * 8) = 18446744073709551616 from by decide]
    congr 2; unfold wrap64; omega
  rw [word_bytes_f 1000 w hw.1 (by omega) (by decide), e1]
  simp only [Option.bind_some]
  rw [e4, e5]
  simp only [Option.bind_some]
  rw [wu64, Int.emod_eq_of_lt hw.1 (by omega), ref_bytes 1000 w 4 hw.1 (by omega) (by decide) (by decide) (by decide)]
  simp only [Option.bind_some]
  rw [ref_same 1000 _ _ (by simp [dig_length]) (by simp [dig_length])]
  simp only [Option.bind_some]
  rw [if_pos (by simp), wu64, ref_bytes 1000 _ 8 (by omega) (by omega) (by decide) (by decide) (by decide)]
  simp only [Option.bind_some]
  rw [ref_same 1000 _ _ (by simp [dig_length]) (by simp [dig_length])]
  simp only [Option.bind_some]
  rw [if_pos (by simp), awake01 1000 (by decide)]
  simp

end Go.Proofs.Ytfjfmkobhbpelaa.Pure
