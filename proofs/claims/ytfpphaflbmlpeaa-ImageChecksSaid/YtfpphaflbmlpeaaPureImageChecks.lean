/- Check, Encode and Decode are right for every image of at most 2000 words, 5000 doublewords and 100 entries, and the chapter's example holds; for every image. -/
import Derived.Test.YtfpphaflbmlpeaaGImageChecksx7
import Derived.Test.YtfpphaflbmlpeaaOpenImageChecks
namespace Go.Proofs.Ytfpphaflbmlpeaa.Pure
open Go.RowKit Go.Proofs.Ytfpphaflbmlpeaa.GImageChecks Go.Proofs.YtfpphaflbmlpeaaW.PrintWords Go.Proofs.YtfpphaflbmlpeaaW.PrintLast Go.Proofs.YtfpphaflbmlpeaaW.PrintMore
set_option linter.unusedVariables false
set_option linter.unusedSimpArgs false
attribute [local irreducible] shl shr

/-- Numbers that need no wrapping, and two's complement by its lowest bits. -/
theorem w64 {x : Int} (h0 : -9223372036854775808 ≤ x) (h1 : x < 9223372036854775808) : wrap64 x = x := by
  unfold wrap64; omega
theorem w64n {x : Int} (n : Nat) (h : x = n) (hn : n < 9223372036854775808) : wrap64 x = (n : Int) := by
  rw [w64 (by omega) (by omega), h]
theorem wu64 (x : Int) : IntKind.u64.wrap x = x % 18446744073709551616 := by
  simp [IntKind.wrap, IntKind.bits, IntKind.signed]
theorem wf_i64 {x : Int} (h : (Lit.int .i64 x).wf = true) : -9223372036854775808 ≤ x ∧ x < 9223372036854775808 := by
  simp [Lit.wf, IntKind.min, IntKind.max, IntKind.bits, IntKind.signed] at h; omega
theorem wf_u32 {x : Int} (h : (Lit.int .u32 x).wf = true) : 0 ≤ x ∧ x < 4294967296 := by
  simp [Lit.wf, IntKind.min, IntKind.max, IntKind.bits, IntKind.signed] at h; omega
theorem p64 : (2 : Int) ^ 64 = 18446744073709551616 := by decide
theorem p_pos (n : Nat) : (0 : Int) < 2 ^ n := Int.pow_pos (by decide)
theorem p_add (a b : Nat) : (2 : Int) ^ (a + b) = 2 ^ a * 2 ^ b := Int.pow_add 2 a b
theorem p_le {a b : Nat} (h : a ≤ b) : (2 : Int) ^ a ≤ 2 ^ b := by
  obtain ⟨c, rfl⟩ := Nat.exists_eq_add_of_le h
  rw [p_add]
  have h1 : (2 : Int) ^ a * 1 ≤ 2 ^ a * 2 ^ c := Int.mul_le_mul_of_nonneg_left (by have := p_pos c; omega) (Int.le_of_lt (p_pos a))
  omega
theorem b64 {i : Nat} (h : i ≤ 64) : (2 : Int) ^ i ≤ 18446744073709551616 := by have := p_le h; rw [p64] at this; exact this
/-- The bytes of a number, and the number of bytes, the lowest one first. -/
def dig (v : Int) (n : Nat) : List Int := (List.range n).map fun j => v / 2 ^ (8 * j) % 256
def lev : List Int → Int
  | [] => 0
  | b :: t => b + 256 * lev t
theorem dig_length (v : Int) (n : Nat) : (dig v n).length = n := by simp [dig]
theorem dig_succ (v : Int) (n : Nat) : dig v (n + 1) = v % 256 :: dig (v / 256) n := by
  unfold dig
  rw [List.range_succ_eq_map, List.map_cons, List.map_map]
  congr 1
  · simp
  · apply List.map_congr_left
    intro j _
    simp only [Function.comp_apply]
    rw [show 8 * Nat.succ j = 8 + 8 * j from by omega, p_add, ← Int.ediv_ediv_of_nonneg (Int.le_of_lt (p_pos 8))]
    rfl
theorem lev_dig (n : Nat) : ∀ v : Int, lev (dig v n) = v % 2 ^ (8 * n) := by
  induction n with
  | zero => intro v; simp [dig, lev]
  | succ n ih =>
    intro v
    rw [dig_succ]
    simp only [lev]
    rw [ih, show 8 * (n + 1) = 8 + 8 * n from by omega, p_add, show (2 : Int) ^ 8 = 256 from by decide]
    have a := Int.mul_ediv_add_emod v (256 * 2 ^ (8 * n))
    have b := Int.mul_ediv_add_emod v 256
    have c := Int.mul_ediv_add_emod (v / 256) (2 ^ (8 * n))
    rw [Int.ediv_ediv_of_nonneg (by decide)] at c
    generalize v / (256 * 2 ^ (8 * n)) = q at a c
    rw [Int.mul_assoc] at a
    omega
theorem lev_range : ∀ l : List Int, (∀ x ∈ l, 0 ≤ x ∧ x < 256) → 0 ≤ lev l ∧ lev l < 2 ^ (8 * l.length)
  | [], _ => by simp [lev]
  | b :: t, h => by
    have ih := lev_range t fun x hx => h x (List.mem_cons_of_mem _ hx)
    have hb := h b List.mem_cons_self
    simp only [lev, List.length_cons]
    rw [show 8 * (t.length + 1) = 8 + 8 * t.length from by omega, p_add, show (2 : Int) ^ 8 = 256 from by decide]
    omega
theorem lev_snoc : ∀ (l : List Int) (b : Int), lev (l ++ [b]) = lev l + b * 2 ^ (8 * l.length)
  | [], b => by simp [lev]
  | c :: t, b => by
    rw [List.cons_append]
    simp only [lev, List.length_cons]
    rw [lev_snoc t b, show 8 * (t.length + 1) = 8 + 8 * t.length from by omega, p_add, show (2 : Int) ^ 8 = 256 from by decide, Int.mul_add,
      show b * (256 * 2 ^ (8 * t.length)) = 256 * (b * 2 ^ (8 * t.length)) from by rw [Int.mul_left_comm]]
    omega
theorem dig_bytes (v : Int) (n : Nat) : ∀ x ∈ dig v n, 0 ≤ x ∧ x < 256 := by
  intro x hx
  simp only [dig, List.mem_map] at hx
  obtain ⟨j, _, rfl⟩ := hx
  omega
attribute [local irreducible] lev dig

theorem split_l (d : Nat) : ∀ (k : Nat) (v n : Int) (l : List Int) (i : Nat), n ≤ 8 → n - i = d → d < k → l.length = i →
    word_split.l0 k v l n i = some (l ++ (List.range' i d).map fun j => v / 2 ^ (8 * j) % 256) := by
  induction d with
  | zero =>
    intro k v n l i hn hd hk hl
    obtain ⟨k, rfl⟩ : ∃ m, k = m + 1 := ⟨k - 1, by omega⟩
    simp only [word_split.l0]
    rw [if_neg (by omega)]; simp
  | succ d ih =>
    intro k v n l i hn hd hk hl
    obtain ⟨k, rfl⟩ : ∃ m, k = m + 1 := ⟨k - 1, by omega⟩
    simp only [word_split.l0]
    rw [w64 (x := 8 * (i : Int)) (by omega) (by omega), w64 (x := (i : Int) + 1) (by omega) (by omega), if_pos (by omega), if_pos (by omega), if_pos (by omega)]
    have e : shr .u64 v (8 * (i : Int)) = v / 2 ^ (8 * i) := by
      unfold shr
      rw [show IntKind.u64.bits = 64 from rfl, show (8 * (i : Int)).toNat = 8 * i from by omega, Nat.min_eq_left (by omega)]
    have e2 : (i : Int) + 1 = ((i + 1 : Nat) : Int) := by omega
    rw [e, e2, ih k v n _ (i + 1) hn (by omega) (by omega) (by simp [hl]), List.append_assoc]
    congr 1
theorem split_f (k : Nat) (v n : Int) (h0 : 0 ≤ n) (hn : n ≤ 8) (hk : 8 < k) :
    word_split.f k v n = some (dig v n.toNat) := by
  unfold word_split.f dig
  have := split_l n.toNat k v n [] 0 hn (by omega) (by omega) rfl
  rw [List.range_eq_range']
  simpa using this
theorem word_bytes_f (k : Nat) (v : Int) (h0 : 0 ≤ v) (h1 : v < 18446744073709551616) (hk : 8 < k) :
    word_Bytes.f k v = some (dig v 4) := by
  unfold word_Bytes.f
  rw [wu64, Int.emod_eq_of_lt h0 h1, split_f k v 4 (by decide) (by decide) hk]; rfl

theorem rd_get (l : List Int) (i : Nat) (h : i < l.length) : rd l (i : Int) = l[i] := by
  unfold rd; simp [h]
theorem or64 {x y : Int} {i : Nat} (hx0 : 0 ≤ x) (hx : x < 2 ^ i) (hy0 : 0 ≤ y) (hy : y * 2 ^ i < 18446744073709551616) (hi : i ≤ 64) :
    Go.bits .or .u64 x (y * 2 ^ i) = x + y * 2 ^ i := by
  have hw : ∀ n : Int, 0 ≤ n → n < 2 ^ 64 → IntKind.u64.wrap n = n := by
    intro n h0 h1; rw [wu64]; rw [p64] at h1; omega
  have hp := p_pos i
  have hyp : 0 ≤ y * 2 ^ i := Int.mul_nonneg hy0 (Int.le_of_lt hp)
  have hb := Go.bits_join .u64 64 (by decide) hw i (y * 2 ^ i) x hyp (Int.mul_emod_left _ _) (by rw [p64]; exact hy) hx0 hx (by rw [p64]; have := b64 hi; omega)
  obtain ⟨a, ha⟩ := Int.eq_ofNat_of_zero_le hx0
  obtain ⟨b, hb'⟩ := Int.eq_ofNat_of_zero_le hyp
  have hp64 := b64 hi
  have ha2 : a < 2 ^ 64 := by have h1 : (a : Int) < 18446744073709551616 := by omega
                              have h2 : a < 18446744073709551616 := by omega
                              exact Nat.lt_of_lt_of_le h2 (by decide)
  have hb2 : b < 2 ^ 64 := by have h1 : (b : Int) < 18446744073709551616 := by omega
                              have h2 : b < 18446744073709551616 := by omega
                              exact Nat.lt_of_lt_of_le h2 (by decide)
  rw [hb', ha] at hb ⊢
  have c1 := (Go.bits_nat .u64 64 (by decide) hw a b ha2 hb2).2
  have c2 := (Go.bits_nat .u64 64 (by decide) hw b a hb2 ha2).2
  rw [c1, Nat.or_comm, ← c2, hb]; omega
theorem take_snoc (l : List Int) (a i : Nat) (h : a + i < l.length) : (l.drop a).take (i + 1) = (l.drop a).take i ++ [l[a + i]] := by
  rw [List.take_succ_eq_append_getElem (by simp; omega)]
  simp
theorem join_l (l : List Int) (a n : Nat) (hb : ∀ x ∈ l, 0 ≤ x ∧ x < 256) (hn : n ≤ 8) (hl : a + n ≤ l.length) (hs : l.length < 4611686018427387904) (d : Nat) :
    ∀ (k : Nat) (v : Int) (i : Nat), n - i = d → i ≤ n → v = lev ((l.drop a).take i) → d < k →
    word_join.l0 k l a v n i = some (lev ((l.drop a).take n), 0) := by
  induction d with
  | zero =>
    intro k v i hd hi hv hk
    obtain ⟨k, rfl⟩ : ∃ m, k = m + 1 := ⟨k - 1, by omega⟩
    simp only [word_join.l0]
    rw [if_neg (by omega), hv, show i = n from by omega]
  | succ d ih =>
    intro k v i hd hi hv hk
    have HV := Aside0.mk hv
    clear hv
    obtain ⟨k, rfl⟩ : ∃ m, k = m + 1 := ⟨k - 1, by omega⟩
    simp only [word_join.l0]
    rw [w64n (x := (a : Int) + i) (a + i) (by omega) (by omega), w64n (x := 8 * (i : Int)) (8 * i) (by omega) (by omega), w64n (x := (i : Int) + 1) (i + 1) (by omega) (by omega), if_pos (by omega), if_pos (by omega), if_pos (by omega), if_pos (by omega), rd_get l (a + i) (by omega)]
    have hbi := hb l[a + i] (List.getElem_mem _)
    have hlen : ((l.drop a).take i).length = i := by simp; omega
    have hr := lev_range ((l.drop a).take i) fun x hx => hb x (List.mem_of_mem_drop (List.mem_of_mem_take hx))
    rw [hlen] at hr
    have hp := p_pos (8 * i)
    have hle : l[a + i] * (2 : Int) ^ (8 * i) < 18446744073709551616 := by
      have h1 : l[a + i] * (2 : Int) ^ (8 * i) < 256 * 2 ^ (8 * i) := Int.mul_lt_mul_of_pos_right hbi.2 hp
      have h2 : 256 * (2 : Int) ^ (8 * i) = 2 ^ (8 + 8 * i) := by rw [p_add]; rfl
      have h3 : (2 : Int) ^ (8 + 8 * i) ≤ 18446744073709551616 := b64 (by omega)
      omega
    have e3 : shl .u64 (IntKind.u64.wrap l[a + i]) ((8 * i : Nat) : Int) = l[a + i] * 2 ^ (8 * i) := by
      unfold shl
      rw [show IntKind.u64.bits = 64 from rfl, show (((8 * i : Nat) : Int)).toNat = 8 * i from by omega, Nat.min_eq_left (by omega), wu64, wu64,
        Int.emod_eq_of_lt hbi.1 (by omega), Int.emod_eq_of_lt (Int.mul_nonneg hbi.1 (Int.le_of_lt hp)) hle]
    rw [e3, HV.out, or64 hr.1 hr.2 hbi.1 hle (by omega)]
    refine ih k _ (i + 1) (by omega) (by omega) ?_ (by omega)
    rw [take_snoc l a i (by omega), lev_snoc, hlen]
theorem join_f (k : Nat) (l : List Int) (a n : Int) (hb : ∀ x ∈ l, 0 ≤ x ∧ x < 256) (hn0 : 0 ≤ n) (hn : n ≤ 8) (hs : l.length < 4611686018427387904) (hk : 20 < k) :
    word_join.f k l a n = some (if 0 ≤ a ∧ a + n ≤ l.length then (lev ((l.drop a.toNat).take n.toNat), 0) else (0, 4)) := by
  obtain ⟨k, rfl⟩ : ∃ m, k = m + 1 := ⟨k - 1, by omega⟩
  unfold word_join.f
  by_cases ha : a < 0
  · rw [if_pos ha, if_neg (by omega)]; simp only [word_join.j0]; simp
  · rw [if_neg ha, w64 (by omega) (by omega)]
    simp only [word_join.j0]
    by_cases hal : a > (l.length : Int) - n
    · rw [if_pos (by simpa using hal), if_neg (by omega)]
    · rw [if_neg (by simpa using hal), if_pos (by omega)]
      have := join_l l a.toNat n.toNat hb (by omega) (by omega) hs n.toNat k 0 0 (by omega) (by omega) (by simp [lev]) (by omega)
      rw [show ((a.toNat : Nat) : Int) = a from by omega, show ((n.toNat : Nat) : Int) = n from by omega] at this
      exact this
theorem word_f (k : Nat) (l : List Int) (a : Int) (hb : ∀ x ∈ l, 0 ≤ x ∧ x < 256) (hs : l.length < 4611686018427387904) (hk : 20 < k) :
    word_Word.f k l a = some (if 0 ≤ a ∧ a + 4 ≤ l.length then (lev ((l.drop a.toNat).take 4), 0) else (0, 4)) := by
  unfold word_Word.f
  rw [join_f k l a 4 hb (by decide) (by decide) hs hk]
  simp only [Option.bind_some]
  by_cases h : 0 ≤ a ∧ a + 4 ≤ l.length
  · rw [if_pos h, if_pos h]
    have hr := lev_range ((l.drop a.toNat).take 4) fun x hx => hb x (List.mem_of_mem_drop (List.mem_of_mem_take hx))
    have hlen : ((l.drop a.toNat).take 4).length = 4 := by simp; omega
    rw [hlen, show (2 : Int) ^ (8 * 4) = 4294967296 from by decide] at hr
    simp only [show (4 : Int).toNat = 4 from rfl]
    rw [Int.emod_eq_of_lt hr.1 hr.2]
  · rw [if_neg h, if_neg h]; rfl
theorem number_f (k : Nat) (l : List Int) (a : Int) (hb : ∀ x ∈ l, 0 ≤ x ∧ x < 256) (hs : l.length < 4611686018427387904) (hk : 20 < k) :
    word_Number.f k l a = some (if 0 ≤ a ∧ a + 8 ≤ l.length then (wrap64 (lev ((l.drop a.toNat).take 8)), 0) else (0, 4)) := by
  unfold word_Number.f
  rw [join_f k l a 8 hb (by decide) (by decide) hs hk]
  simp only [Option.bind_some]
  by_cases h : 0 ≤ a ∧ a + 8 ≤ l.length
  · rw [if_pos h, if_pos h]; rfl
  · rw [if_neg h, if_neg h]; simp only; rw [w64 (x := 0) (by decide) (by decide)]

theorem ref_bytes_l (d : Nat) : ∀ (k : Nat) (v n : Int) (l : List Int) (i : Int), 0 ≤ v → v < 18446744073709551616 → n ≤ 1000 → 0 ≤ i → n - i = d → d < k → l.length ≤ i →
    spinnakerref01_Bytes.l0 k v n l i = some (l ++ dig v d) := by
  induction d with
  | zero =>
    intro k v n l i h0 h1 hn hi hd hk hl
    obtain ⟨k, rfl⟩ : ∃ m, k = m + 1 := ⟨k - 1, by omega⟩
    simp only [spinnakerref01_Bytes.l0]
    rw [if_neg (by omega)]; simp [dig]
  | succ d ih =>
    intro k v n l i h0 h1 hn hi hd hk hl
    obtain ⟨k, rfl⟩ : ∃ m, k = m + 1 := ⟨k - 1, by omega⟩
    simp only [spinnakerref01_Bytes.l0]
    rw [if_pos (by omega), if_pos (by omega), Int.tdiv_eq_ediv_of_nonneg h0, Int.tmod_eq_emod_of_nonneg h0, wu64, w64 (x := i + 1) (by omega) (by omega)]
    rw [show v / 256 % 18446744073709551616 = v / 256 from by omega, show v % 256 % 256 = v % 256 from by omega]
    rw [ih k (v / 256) n _ (i + 1) (by omega) (by omega) hn (by omega) (by omega) (by omega) (by simp; omega), dig_succ, List.append_assoc]
    rfl
theorem ref_bytes (k : Nat) (v n : Int) (h0 : 0 ≤ v) (h1 : v < 18446744073709551616) (hn0 : 0 ≤ n) (hn : n ≤ 1000) (hk : n.toNat < k) :
    spinnakerref01_Bytes.f k v n = some (dig v n.toNat) := by
  unfold spinnakerref01_Bytes.f
  have := ref_bytes_l n.toNat k v n [] 0 h0 h1 hn (by omega) (by omega) hk (by simp)
  simpa using this

theorem ref_same_l (a b : List Int) (hab : a.length = b.length) (hn : a.length < 4611686018427387904) (d : Nat) : ∀ (k i : Nat), i ≤ a.length → a.length - i = d → d < k →
    spinnakerref01_Same.l0 k a b i = some (decide (a.drop i = b.drop i)) := by
  induction d with
  | zero =>
    intro k i hi hd hk
    obtain ⟨k, rfl⟩ : ∃ m, k = m + 1 := ⟨k - 1, by omega⟩
    simp only [spinnakerref01_Same.l0]
    rw [if_neg (by omega), List.drop_of_length_le (by omega), List.drop_of_length_le (by omega)]
    simp
  | succ d ih =>
    intro k i hi hd hk
    obtain ⟨k, rfl⟩ : ∃ m, k = m + 1 := ⟨k - 1, by omega⟩
    simp only [spinnakerref01_Same.l0]
    rw [if_pos (by omega), if_pos (by omega), if_pos (by omega)]
    have e : ∀ l : List Int, ∀ h : i < l.length, rd l (i : Int) = l[i] := by
      intro l h; unfold rd; simp [h]
    rw [e a (by omega), e b (by omega), List.drop_eq_getElem_cons (show i < a.length by omega), List.drop_eq_getElem_cons (show i < b.length by omega)]
    by_cases h : a[i] = b[i]
    · rw [if_pos h, w64n (x := (i : Int) + 1) (i + 1) (by omega) (by omega), ih k (i + 1) (by omega) (by omega) (by omega)]
      congr 1; rw [decide_eq_decide]
      exact ⟨fun hh => by rw [h, hh], fun hh => (List.cons.inj hh).2⟩
    · rw [if_neg h]; congr 1; symm; rw [decide_eq_false_iff_not]; intro hc; exact h (List.cons.inj hc).1
theorem ref_same (k : Nat) (a b : List Int) (hn : a.length < 4611686018427387904) (hk : a.length < k) :
    spinnakerref01_Same.f k a b = some (decide (a = b)) := by
  unfold spinnakerref01_Same.f
  by_cases h : a.length = b.length
  · rw [if_pos (by omega)]
    have := ref_same_l a b h hn a.length k 0 (by omega) (by omega) hk
    simpa using this
  · rw [if_neg (by omega)]
    have : a ≠ b := fun e => h (by rw [e])
    simp [this]

theorem bind_at {α β : Type} {o : Option α} {v : α} (h : o = some v) {g : α → Option β} {r : Option β} (hg : g v = r) : o.bind g = r := by
  rw [h]; exact hg

/-- Reading an image, plainly. -/
theorem awake08 (k : Nat) (hk : 600 ≤ k) : spinnakerlaw08_awake.f k = some true := by
  have h : spinnakerlaw08_awake.f 60 = some true := by decide +kernel
  exact at_rounds (fun k => spinnakerlaw08_awake.mono k) (show 60 ≤ k by omega) h
/-- What is wrong with an image. -/
def chk (C D E : List Int) : Int := if 262144 < C.length ∨ 4096 < D.length then 3 else if C.length = 0 ∨ E.length = 0 ∨ 8 < E.length then 2 else if ∀ x ∈ E, 0 ≤ x ∧ x < (C.length : Int) then 0 else 2
theorem drop_ok (E : List Int) (i n : Nat) (h : i < E.length) (p : Int → Prop) : (∀ x ∈ E.drop i, p x) ↔ (p E[i] ∧ ∀ x ∈ E.drop (i + 1), p x) := by
  rw [List.drop_eq_getElem_cons h]; simp only [List.mem_cons, forall_eq_or_imp]
theorem icheck_l (C D E : List Int) (hE : E.length ≤ 1000) (d : Nat) : ∀ (k i : Nat), i + d = E.length → d < k →
    image_Check.l0 k E E.length i C D E = some (if ∀ x ∈ E.drop i, 0 ≤ x ∧ x < (C.length : Int) then 0 else 2) := by
  induction d with
  | zero =>
    intro k i hi hk
    obtain ⟨k, rfl⟩ : ∃ m, k = m + 1 := ⟨k - 1, by omega⟩
    simp only [image_Check.l0]
    rw [if_neg (by omega), List.drop_of_length_le (by omega), if_pos (by simp)]
  | succ d ih =>
    intro k i hi hk
    obtain ⟨k, rfl⟩ : ∃ m, k = m + 1 := ⟨k - 1, by omega⟩
    have hil : i < E.length := by omega
    simp only [image_Check.l0]
    rw [if_pos (by omega), if_pos (by omega), if_pos (by omega), rd_get E i hil, show wrap64 ((i : Int) + 1) = ((i + 1 : Nat) : Int) from by rw [w64 (by omega) (by omega)]; omega, ih k (i + 1) (by omega) (by omega)]
    have hd := drop_ok E i 0 hil (fun x => 0 ≤ x ∧ x < (C.length : Int))
    by_cases h1 : E[i] < 0
    · rw [if_pos h1, if_neg (fun h => by have := (hd.1 h).1; omega)]
    · rw [if_neg h1]
      by_cases h2 : E[i] ≥ (C.length : Int)
      · rw [if_pos h2, if_neg (fun h => by have := (hd.1 h).1; omega)]
      · rw [if_neg h2]
        by_cases h3 : ∀ x ∈ E.drop (i + 1), 0 ≤ x ∧ x < (C.length : Int)
        · rw [if_pos h3, if_pos (hd.2 ⟨by omega, h3⟩)]
        · rw [if_neg h3, if_neg (fun h => h3 (hd.1 h).2)]
theorem icheck_f (k : Nat) (C D E : List Int) (hk : 20 < k) : image_Check.f k C D E = some (chk C D E) := by
  obtain ⟨k, rfl⟩ : ∃ m, k = m + 1 := ⟨k - 1, by omega⟩
  unfold image_Check.f chk
  have e3 : image_Check.j0 (k + 1) true C D E = some 3 := by simp only [image_Check.j0]; exact if_pos trivial
  by_cases h1 : (C.length : Int) > 262144
  · rw [if_pos h1, decide_eq_true h1, e3, if_pos (by omega)]
  · rw [if_neg h1]
    by_cases h2 : (D.length : Int) > 4096
    · rw [decide_eq_true h2, e3, if_pos (by omega)]
    · rw [decide_eq_false h2, if_neg (show ¬ (262144 < C.length ∨ 4096 < D.length) by omega)]
      simp only [image_Check.j0]
      rw [if_neg (by decide)]
      by_cases h3 : (C.length : Int) = 0
      · rw [if_pos h3, if_pos (by omega)]
      · rw [if_neg h3]
        by_cases h4 : (E.length : Int) = 0
        · rw [if_pos h4, if_pos (by omega)]
        · rw [if_neg h4]
          by_cases h5 : (E.length : Int) > 8
          · rw [if_pos h5, if_pos (by omega)]
          · rw [if_neg h5, if_neg (show ¬ (C.length = 0 ∨ E.length = 0 ∨ 8 < E.length) by omega)]
            have := icheck_l C D E (by omega) E.length k 0 (by omega) (by omega)
            exact this
theorem rcheck_l (C D E : List Int) (hE : E.length ≤ 1000) (hC : C.length ≤ 262144) (d : Nat) : ∀ (k i : Nat), i + d = E.length → d < k →
    spinnakerref08_Check.l0 k i C D E = some (if ∀ x ∈ E.drop i, 0 ≤ x ∧ x < (C.length : Int) then 0 else 2) := by
  induction d with
  | zero =>
    intro k i hi hk
    obtain ⟨k, rfl⟩ : ∃ m, k = m + 1 := ⟨k - 1, by omega⟩
    simp only [spinnakerref08_Check.l0]
    rw [if_neg (by omega), List.drop_of_length_le (by omega), if_pos (by simp)]
  | succ d ih =>
    intro k i hi hk
    obtain ⟨k, rfl⟩ : ∃ m, k = m + 1 := ⟨k - 1, by omega⟩
    have hil : i < E.length := by omega
    simp only [spinnakerref08_Check.l0]
    rw [if_pos (by omega), if_pos (by omega), rd_get E i hil, show wrap64 ((i : Int) + 1) = ((i + 1 : Nat) : Int) from by rw [w64 (by omega) (by omega)]; omega, ih k (i + 1) (by omega) (by omega), w64 (x := (C.length : Int) - 1) (by omega) (by omega)]
    have hd := drop_ok E i 0 hil (fun x => 0 ≤ x ∧ x < (C.length : Int))
    by_cases h1 : E[i] < 0
    · rw [if_pos h1, if_neg (fun h => by have := (hd.1 h).1; omega)]
    · rw [if_neg h1]
      by_cases h2 : E[i] > (C.length : Int) - 1
      · rw [if_pos h2, if_neg (fun h => by have := (hd.1 h).1; omega)]
      · rw [if_neg h2]
        by_cases h3 : ∀ x ∈ E.drop (i + 1), 0 ≤ x ∧ x < (C.length : Int)
        · rw [if_pos h3, if_pos (hd.2 ⟨by omega, h3⟩)]
        · rw [if_neg h3, if_neg (fun h => h3 (hd.1 h).2)]
theorem rcheck_f (k : Nat) (C D E : List Int) (hk : 20 < k) : spinnakerref08_Check.f k C D E = some (chk C D E) := by
  obtain ⟨k, rfl⟩ : ∃ m, k = m + 2 := ⟨k - 2, by omega⟩
  unfold spinnakerref08_Check.f chk
  have e3 : spinnakerref08_Check.j0 (k + 2) true C D E = some 3 := by simp only [spinnakerref08_Check.j0]; exact if_pos trivial
  have e2 : spinnakerref08_Check.j1 (k + 1) true C D E = some 2 := by simp only [spinnakerref08_Check.j1]; exact if_pos trivial
  by_cases h1 : (C.length : Int) > 262144
  · rw [if_pos h1, e3, if_pos (by omega)]
  · rw [if_neg h1]
    by_cases h2 : (D.length : Int) > 4096
    · rw [decide_eq_true h2, e3, if_pos (by omega)]
    · rw [decide_eq_false h2, if_neg (show ¬ (262144 < C.length ∨ 4096 < D.length) by omega)]
      simp only [spinnakerref08_Check.j0]
      rw [if_neg (by decide)]
      by_cases h3 : (C.length : Int) < 1
      · rw [if_pos h3, e2, if_pos (by omega)]
      · rw [if_neg h3]
        by_cases h4 : (E.length : Int) < 1
        · rw [if_pos h4, e2, if_pos (by omega)]
        · rw [if_neg h4]
          by_cases h5 : (E.length : Int) > 8
          · rw [decide_eq_true h5, e2, if_pos (by omega)]
          · rw [decide_eq_false h5, if_neg (show ¬ (C.length = 0 ∨ E.length = 0 ∨ 8 < E.length) by omega)]
            simp only [spinnakerref08_Check.j1]
            rw [if_neg (by decide)]
            have := rcheck_l C D E (by omega) (by omega) E.length k 0 (by omega) (by omega)
            exact this
/-- Words and numbers of bytes. -/
def w4 (b : List Int) (p : Nat) : Int := lev ((b.drop p).take 4)
def n8 (b : List Int) (p : Nat) : Int := wrap64 (lev ((b.drop p).take 8))
def wordsB (b : List Int) (p : Nat) : Nat → List Int
  | 0 => []
  | n + 1 => w4 b p :: wordsB b (p + 4) n
def longsB (b : List Int) (p : Nat) : Nat → List Int
  | 0 => []
  | n + 1 => n8 b p :: longsB b (p + 8) n
section
variable (b : List Int) (hb : ∀ x ∈ b, 0 ≤ x ∧ x < 256) (hs : b.length ≤ 100000)
include hb
theorem part_bytes (p n : Nat) : ∀ x ∈ (b.drop p).take n, 0 ≤ x ∧ x < 256 := fun x hx => hb x (List.mem_of_mem_drop (List.mem_of_mem_take hx))
theorem w4_range (p : Nat) : 0 ≤ w4 b p ∧ w4 b p < 4294967296 := by
  have h := lev_range _ (part_bytes b hb p 4)
  have hl : ((b.drop p).take 4).length ≤ 4 := by simp; omega
  have hp : (2 : Int) ^ (8 * ((b.drop p).take 4).length) ≤ 2 ^ 32 := p_le (by omega)
  rw [show (2 : Int) ^ 32 = 4294967296 from by decide] at hp
  unfold w4; omega
include hs
theorem four_f (p : Nat) (hp : p ≤ 1000000) (bad : Bool) : image_reader_four.f b p bad = some (if p + 4 ≤ b.length then w4 b p else 0, ((p + 4 : Nat) : Int), bad || !decide (p + 4 ≤ b.length)) := by
  unfold image_reader_four.f
  rw [word_f 100 b p hb (by omega) (by decide), show wrap64 ((p : Int) + 4) = ((p + 4 : Nat) : Int) from by rw [w64 (by omega) (by omega)]; omega]
  simp only [Option.bind_some]
  rw [show ((p : Int)).toNat = p from by omega]
  by_cases h : p + 4 ≤ b.length
  · rw [if_pos (show 0 ≤ (p : Int) ∧ (p : Int) + 4 ≤ b.length by omega), if_pos h, decide_eq_true h]
    cases bad <;> rfl
  · rw [if_neg (show ¬ (0 ≤ (p : Int) ∧ (p : Int) + 4 ≤ b.length) by omega), if_neg h, decide_eq_false h]
    cases bad <;> rfl
theorem eight_f (p : Nat) (hp : p ≤ 1000000) (bad : Bool) : image_reader_eight.f b p bad = some (if p + 8 ≤ b.length then n8 b p else 0, ((p + 8 : Nat) : Int), bad || !decide (p + 8 ≤ b.length)) := by
  unfold image_reader_eight.f
  rw [number_f 100 b p hb (by omega) (by decide), show wrap64 ((p : Int) + 8) = ((p + 8 : Nat) : Int) from by rw [w64 (by omega) (by omega)]; omega]
  simp only [Option.bind_some]
  rw [show ((p : Int)).toNat = p from by omega]
  by_cases h : p + 8 ≤ b.length
  · rw [if_pos (show 0 ≤ (p : Int) ∧ (p : Int) + 8 ≤ b.length by omega), if_pos h, decide_eq_true h]
    cases bad <;> rfl
  · rw [if_neg (show ¬ (0 ≤ (p : Int) ∧ (p : Int) + 8 ≤ b.length) by omega), if_neg h, decide_eq_false h]
    cases bad <;> rfl
theorem place_f (p : Nat) (hp : p ≤ 1000000) (bad : Bool) : image_reader_place.f b p bad = some (if p + 4 ≤ b.length then w4 b p else 0, ((p + 4 : Nat) : Int), bad || !decide (p + 4 ≤ b.length)) := by
  unfold image_reader_place.f
  rw [four_f b hb hs p hp bad]
  simp only [Option.bind_some]
  have hr := w4_range b hb p
  by_cases h : p + 4 ≤ b.length
  · rw [if_pos h, w64 (by omega) (by omega)]
  · rw [if_neg h, w64 (by decide) (by decide)]
theorem rowFour_l (n : Nat) (hn : n ≤ 100000) (d : Nat) : ∀ (k i p : Nat) (acc : List Int), p + 4 * d ≤ b.length → i + d = n → d < k → acc.length + d ≤ 1000000 →
    image_rowFour.l0 k acc n i b p false = some (acc ++ wordsB b p d, ((p + 4 * d : Nat) : Int), false) := by
  induction d with
  | zero =>
    intro k i p acc hp hi hk ha
    obtain ⟨k, rfl⟩ : ∃ m, k = m + 1 := ⟨k - 1, by omega⟩
    simp only [image_rowFour.l0]
    rw [if_neg (by omega)]
    simp [wordsB]
  | succ d ih =>
    intro k i p acc hp hi hk ha
    obtain ⟨k, rfl⟩ : ∃ m, k = m + 1 := ⟨k - 1, by omega⟩
    simp only [image_rowFour.l0]
    rw [if_pos (by omega), four_f b hb hs p (by omega) false, if_pos (show p + 4 ≤ b.length by omega), decide_eq_true (show p + 4 ≤ b.length by omega)]
    simp only [Option.bind_some]
    rw [if_pos (by omega), show wrap64 ((i : Int) + 1) = ((i + 1 : Nat) : Int) from by rw [w64 (by omega) (by omega)]; omega]
    have h := ih k (i + 1) (p + 4) (acc ++ [w4 b p]) (by omega) (by omega) (by omega) (by rw [List.length_append]; simp; omega)
    rw [show (false || !true) = false from rfl, h, List.append_assoc, show p + 4 + 4 * d = p + 4 * (d + 1) from by omega]
    rfl
theorem rowPlace_l (n : Nat) (hn : n ≤ 100000) (d : Nat) : ∀ (k i p : Nat) (acc : List Int), p + 4 * d ≤ b.length → i + d = n → d < k → acc.length + d ≤ 1000000 →
    image_rowPlace.l0 k acc n i b p false = some (acc ++ wordsB b p d, ((p + 4 * d : Nat) : Int), false) := by
  induction d with
  | zero =>
    intro k i p acc hp hi hk ha
    obtain ⟨k, rfl⟩ : ∃ m, k = m + 1 := ⟨k - 1, by omega⟩
    simp only [image_rowPlace.l0]
    rw [if_neg (by omega)]
    simp [wordsB]
  | succ d ih =>
    intro k i p acc hp hi hk ha
    obtain ⟨k, rfl⟩ : ∃ m, k = m + 1 := ⟨k - 1, by omega⟩
    simp only [image_rowPlace.l0]
    rw [if_pos (by omega), place_f b hb hs p (by omega) false, if_pos (show p + 4 ≤ b.length by omega), decide_eq_true (show p + 4 ≤ b.length by omega)]
    simp only [Option.bind_some]
    rw [if_pos (by omega), show wrap64 ((i : Int) + 1) = ((i + 1 : Nat) : Int) from by rw [w64 (by omega) (by omega)]; omega]
    have h := ih k (i + 1) (p + 4) (acc ++ [w4 b p]) (by omega) (by omega) (by omega) (by rw [List.length_append]; simp; omega)
    rw [show (false || !true) = false from rfl, h, List.append_assoc, show p + 4 + 4 * d = p + 4 * (d + 1) from by omega]
    rfl
theorem rowEight_l (n : Nat) (hn : n ≤ 100000) (d : Nat) : ∀ (k i p : Nat) (acc : List Int), p + 8 * d ≤ b.length → i + d = n → d < k → acc.length + d ≤ 1000000 →
    image_rowEight.l0 k acc n i b p false = some (acc ++ longsB b p d, ((p + 8 * d : Nat) : Int), false) := by
  induction d with
  | zero =>
    intro k i p acc hp hi hk ha
    obtain ⟨k, rfl⟩ : ∃ m, k = m + 1 := ⟨k - 1, by omega⟩
    simp only [image_rowEight.l0]
    rw [if_neg (by omega)]
    simp [longsB]
  | succ d ih =>
    intro k i p acc hp hi hk ha
    obtain ⟨k, rfl⟩ : ∃ m, k = m + 1 := ⟨k - 1, by omega⟩
    simp only [image_rowEight.l0]
    rw [if_pos (by omega), eight_f b hb hs p (by omega) false, if_pos (show p + 8 ≤ b.length by omega), decide_eq_true (show p + 8 ≤ b.length by omega)]
    simp only [Option.bind_some]
    rw [if_pos (by omega), show wrap64 ((i : Int) + 1) = ((i + 1 : Nat) : Int) from by rw [w64 (by omega) (by omega)]; omega]
    have h := ih k (i + 1) (p + 8) (acc ++ [n8 b p]) (by omega) (by omega) (by omega) (by rw [List.length_append]; simp; omega)
    rw [show (false || !true) = false from rfl, h, List.append_assoc, show p + 8 + 8 * d = p + 8 * (d + 1) from by omega]
    rfl
/-- A row: what it is, if there are so many bytes. -/
theorem rowFour_f (k p : Nat) (n : Int) (hn : 0 ≤ n ∧ n < 4294967296) (hp : p ≤ 1000000) (bad : Bool) (hbp : bad = false → p ≤ b.length) (hk : b.length + 10 < k) :
    image_rowFour.f k b p bad n 4 = some (if bad = true ∨ (b.length : Int) < p + 4 * n then ([], (p : Int), true) else (wordsB b p n.toNat, ((p + 4 * n.toNat : Nat) : Int), false)) := by
  obtain ⟨k, rfl⟩ : ∃ m, k = m + 1 := ⟨k - 1, by omega⟩
  unfold image_rowFour.f
  have e1 : ∀ bd, image_rowFour.j0 (k + 1) n true b p bd = some ([], (p : Int), true) := fun bd => by simp only [image_rowFour.j0]; exact if_pos trivial
  cases bad with
  | true => rw [if_pos rfl, e1, if_pos (Or.inl rfl)]
  | false =>
    have hpl := hbp rfl
    rw [if_neg (by decide), if_neg (by decide), w64 (x := (b.length : Int) - p) (by omega) (by omega), Int.tdiv_eq_ediv_of_nonneg (by omega), w64 (by omega) (by omega)]
    by_cases h : (b.length : Int) < p + 4 * n
    · rw [decide_eq_true (by omega), e1, if_pos (Or.inr h)]
    · rw [decide_eq_false (by omega), if_neg (by simp; omega)]
      simp only [image_rowFour.j0]
      rw [if_neg (by decide)]
      have := rowFour_l b hb hs n.toNat (by omega) n.toNat k 0 p [] (by omega) (by omega) (by omega) (by simp; omega)
      rw [show ((n.toNat : Nat) : Int) = n from by omega] at this
      simpa using this
theorem rowPlace_f (k p : Nat) (n : Int) (hn : 0 ≤ n ∧ n < 4294967296) (hp : p ≤ 1000000) (bad : Bool) (hbp : bad = false → p ≤ b.length) (hk : b.length + 10 < k) :
    image_rowPlace.f k b p bad n 4 = some (if bad = true ∨ (b.length : Int) < p + 4 * n then ([], (p : Int), true) else (wordsB b p n.toNat, ((p + 4 * n.toNat : Nat) : Int), false)) := by
  obtain ⟨k, rfl⟩ : ∃ m, k = m + 1 := ⟨k - 1, by omega⟩
  unfold image_rowPlace.f
  have e1 : ∀ bd, image_rowPlace.j0 (k + 1) n true b p bd = some ([], (p : Int), true) := fun bd => by simp only [image_rowPlace.j0]; exact if_pos trivial
  cases bad with
  | true => rw [if_pos rfl, e1, if_pos (Or.inl rfl)]
  | false =>
    have hpl := hbp rfl
    rw [if_neg (by decide), if_neg (by decide), w64 (x := (b.length : Int) - p) (by omega) (by omega), Int.tdiv_eq_ediv_of_nonneg (by omega), w64 (by omega) (by omega)]
    by_cases h : (b.length : Int) < p + 4 * n
    · rw [decide_eq_true (by omega), e1, if_pos (Or.inr h)]
    · rw [decide_eq_false (by omega), if_neg (by simp; omega)]
      simp only [image_rowPlace.j0]
      rw [if_neg (by decide)]
      have := rowPlace_l b hb hs n.toNat (by omega) n.toNat k 0 p [] (by omega) (by omega) (by omega) (by simp; omega)
      rw [show ((n.toNat : Nat) : Int) = n from by omega] at this
      simpa using this
theorem rowEight_f (k p : Nat) (n : Int) (hn : 0 ≤ n ∧ n < 4294967296) (hp : p ≤ 1000000) (bad : Bool) (hbp : bad = false → p ≤ b.length) (hk : b.length + 10 < k) :
    image_rowEight.f k b p bad n 8 = some (if bad = true ∨ (b.length : Int) < p + 8 * n then ([], (p : Int), true) else (longsB b p n.toNat, ((p + 8 * n.toNat : Nat) : Int), false)) := by
  obtain ⟨k, rfl⟩ : ∃ m, k = m + 1 := ⟨k - 1, by omega⟩
  unfold image_rowEight.f
  have e1 : ∀ bd, image_rowEight.j0 (k + 1) n true b p bd = some ([], (p : Int), true) := fun bd => by simp only [image_rowEight.j0]; exact if_pos trivial
  cases bad with
  | true => rw [if_pos rfl, e1, if_pos (Or.inl rfl)]
  | false =>
    have hpl := hbp rfl
    rw [if_neg (by decide), if_neg (by decide), w64 (x := (b.length : Int) - p) (by omega) (by omega), Int.tdiv_eq_ediv_of_nonneg (by omega), w64 (by omega) (by omega)]
    by_cases h : (b.length : Int) < p + 8 * n
    · rw [decide_eq_true (by omega), e1, if_pos (Or.inr h)]
    · rw [decide_eq_false (by omega), if_neg (by simp; omega)]
      simp only [image_rowEight.j0]
      rw [if_neg (by decide)]
      have := rowEight_l b hb hs n.toNat (by omega) n.toNat k 0 p [] (by omega) (by omega) (by omega) (by simp; omega)
      rw [show ((n.toNat : Nat) : Int) = n from by omega] at this
      simpa using this
end

/-- What bytes are decoded as. -/
def errS : List Int × List Int × List Int × Int := ([], [], [], 1)
def decB (b : List Int) : List Int × List Int × List Int × Int :=
  let c := (w4 b 0).toNat; let d := (w4 b 4).toNat; let e := (w4 b 8).toNat
  if b.length = 12 + 4 * c + 8 * d + 4 * e then
    if chk (wordsB b 12 c) (longsB b (12 + 4 * c) d) (wordsB b (12 + 4 * c + 8 * d) e) = 0 then (wordsB b 12 c, longsB b (12 + 4 * c) d, wordsB b (12 + 4 * c + 8 * d) e, 0) else errS
  else errS
def decS (l : List Int) : List Int × List Int × List Int × Int := if l.take 4 = [83, 80, 73, 78] then (if l.length < 16 then errS else decB (l.drop 4)) else errS
theorem str_inj : ∀ (x y : List Int), (∀ v ∈ x, 0 ≤ v ∧ v < 256) → (∀ v ∈ y, 0 ≤ v ∧ v < 256) → (x.map fun n => UInt8.ofNat n.toNat) = (y.map fun n => UInt8.ofNat n.toNat) → x = y
  | [], [], _, _, _ => rfl
  | [], _ :: _, _, _, h => by simp at h
  | _ :: _, [], _, _, h => by simp at h
  | a :: x, c :: y, hx, hy, h => by
    simp only [List.map_cons, List.cons.injEq] at h
    have h1 := hx a (by simp)
    have h2 := hy c (by simp)
    have e : a.toNat = c.toNat := by
      have := congrArg UInt8.toNat h.1
      simp only [UInt8.toNat_ofNat'] at this
      omega
    rw [str_inj x y (fun v hv => hx v (by simp [hv])) (fun v hv => hy v (by simp [hv])) h.2, show a = c from by omega]
theorem prefix_f (l : List Int) (hb : ∀ x ∈ l, 0 ≤ x ∧ x < 256) : bytes_HasPrefix.f l [83, 80, 73, 78] = some (decide (l.take 4 = [83, 80, 73, 78])) := by
  unfold bytes_HasPrefix.f
  rw [show ((([83, 80, 73, 78] : List Int).length : Nat) : Int) = 4 from rfl]
  by_cases h : (l.length : Int) ≥ 4
  · rw [if_pos h, if_pos (by decide), if_pos h]
    unfold bytes_Equal.f
    simp only [Option.bind_some]
    congr 1
    rw [show ((4 : Int)).toNat = 4 from rfl, ByteArray.toList_eq, ByteArray.toList_eq]
    unfold strOfNums
    simp only
    rw [Bool.eq_iff_iff, beq_iff_eq, decide_eq_true_eq]
    constructor
    · intro e
      refine str_inj _ _ (fun v hv => hb v (List.mem_of_mem_take hv)) (by intro v hv; simp at hv; omega) ?_
      exact e
    · intro e; rw [e]
  · rw [if_neg h, decide_eq_false]
    intro e
    have := congrArg List.length e
    simp at this
    omega
theorem decode_f (k : Nat) (l : List Int) (hb : ∀ x ∈ l, 0 ≤ x ∧ x < 256) (hs : l.length ≤ 100000) (hk : l.length + 30 < k) : image_Decode.f k l = some (decS l) := by
  unfold image_Decode.f
  refine bind_at (prefix_f l hb) ?_
  unfold decS
  by_cases h : l.take 4 = [83, 80, 73, 78]
  · rw [decide_eq_true h, if_pos rfl, if_pos h]
    have hl4 : 4 ≤ l.length := by
      have := congrArg List.length h
      simp at this
      omega
    rw [if_pos (by omega)]
    refine bind_at (v := (l.drop 4, 0, false)) rfl ?_
    have hL : (l.drop 4).length = l.length - 4 := by simp
    have hb' : ∀ x ∈ l.drop 4, 0 ≤ x ∧ x < 256 := fun x hx => hb x (List.mem_of_mem_drop hx)
    generalize l.drop 4 = b at hL hb'
    have hs' : b.length ≤ 100000 := by omega
    have P := fun p (hp : p ≤ 1000000) bad => place_f b hb' hs' p hp bad
    refine bind_at (P 0 (by decide) false) ?_
    refine bind_at (P 4 (by decide) _) ?_
    refine bind_at (P 8 (by decide) _) ?_
    simp only
    by_cases h12 : l.length < 16
    · rw [if_pos h12]
      -- too short
      have hbad : ((false || !decide (0 + 4 ≤ b.length)) || !decide (4 + 4 ≤ b.length) || !decide (8 + 4 ≤ b.length)) = true := by
        rw [decide_eq_false (show ¬ 8 + 4 ≤ b.length by omega)]; simp
      rw [hbad]
      have r0 : ∀ p : Nat, 0 ≤ (if p + 4 ≤ b.length then w4 b p else 0) ∧ (if p + 4 ≤ b.length then w4 b p else 0) < 4294967296 := fun p => by
        split
        · exact w4_range b hb' p
        · decide
      refine bind_at (rowFour_f b hb' hs' k 12 _ (r0 0) (by decide) true (fun c => by cases c) (by omega)) ?_
      rw [if_pos (Or.inl rfl)]
      refine bind_at (rowEight_f b hb' hs' k 12 _ (r0 4) (by decide) true (fun c => by cases c) (by omega)) ?_
      rw [if_pos (Or.inl rfl)]
      refine bind_at (rowPlace_f b hb' hs' k 12 _ (r0 8) (by decide) true (fun c => by cases c) (by omega)) ?_
      rw [if_pos (Or.inl rfl)]
      exact if_pos rfl
    · rw [if_neg h12]
      have g : ∀ p, p + 4 ≤ 12 → (decide (p + 4 ≤ b.length)) = true := fun p hp => decide_eq_true (by omega)
      have g2 : ∀ p, p + 4 ≤ 12 → (if p + 4 ≤ b.length then w4 b p else 0) = w4 b p := fun p hp => if_pos (by omega)
      rw [g 0 (by decide), g 4 (by decide), g 8 (by decide), g2 0 (by decide), g2 4 (by decide), g2 8 (by decide)]
      rw [show ((false || !true) || !true || !true) = false from rfl]
      have c0 := w4_range b hb' 0
      have d0 := w4_range b hb' 4
      have e0 := w4_range b hb' 8
      unfold decB
      simp only
      generalize w4 b 0 = c at c0
      generalize w4 b 4 = d at d0
      generalize w4 b 8 = e at e0
      obtain ⟨c, rfl⟩ := Int.eq_ofNat_of_zero_le c0.1
      obtain ⟨d, rfl⟩ := Int.eq_ofNat_of_zero_le d0.1
      obtain ⟨e, rfl⟩ := Int.eq_ofNat_of_zero_le e0.1
      simp only [Int.toNat_natCast]
      refine bind_at (rowFour_f b hb' hs' k 12 c c0 (by decide) false (fun _ => by omega) (by omega)) ?_
      -- once bad, bad for ever
      have dead : ∀ p : Nat, p ≤ 1000000 → ∀ (A B : List Int), ((image_rowPlace.f k b p true e 4).bind fun bt224 => (if bt224.2.2 = true then (some (([] : List Int), ([] : List Int), ([] : List Int), (1 : Int))) else (if bt224.2.1 = (b.length : Int) then ((image_Check.f k A B bt224.1).bind fun t230 => (if t230 = 0 then (some (A, B, bt224.1, 0)) else (some (([] : List Int), ([] : List Int), ([] : List Int), 1)))) else (some (([] : List Int), ([] : List Int), ([] : List Int), 1))))) = some errS := fun p hp A B => by
        refine bind_at (rowPlace_f b hb' hs' k p e e0 hp true (fun c => by cases c) (by omega)) ?_
        rw [if_pos (Or.inl rfl)]
        exact if_pos rfl
      by_cases hc : (b.length : Int) < (12 : Nat) + 4 * (c : Int)
      · rw [if_pos (Or.inr hc), if_neg (by omega)]
        refine bind_at (rowEight_f b hb' hs' k 12 d d0 (by decide) true (fun c => by cases c) (by omega)) ?_
        rw [if_pos (Or.inl rfl)]
        exact dead 12 (by decide) _ _
      · rw [if_neg (by simp; omega)]
        simp only [Int.toNat_natCast]
        refine bind_at (rowEight_f b hb' hs' k (12 + 4 * c) d d0 (by omega) false (fun _ => by omega) (by omega)) ?_
        by_cases hd : (b.length : Int) < ((12 + 4 * c : Nat) : Int) + 8 * (d : Int)
        · rw [if_pos (Or.inr hd), if_neg (by omega)]
          exact dead (12 + 4 * c) (by omega) _ _
        · rw [if_neg (by simp; omega)]
          simp only [Int.toNat_natCast]
          refine bind_at (rowPlace_f b hb' hs' k (12 + 4 * c + 8 * d) e e0 (by omega) false (fun _ => by omega) (by omega)) ?_
          by_cases he : (b.length : Int) < ((12 + 4 * c + 8 * d : Nat) : Int) + 4 * (e : Int)
          · rw [if_pos (Or.inr he), if_neg (show ¬ b.length = _ by omega)]
            exact if_pos rfl
          · rw [if_neg (show ¬ (false = true ∨ (b.length : Int) < ((12 + 4 * c + 8 * d : Nat) : Int) + 4 * (e : Int)) by simp; omega)]
            simp only [Int.toNat_natCast]
            rw [if_neg (show ¬ (false = true) by decide)]
            by_cases hl : b.length = 12 + 4 * c + 8 * d + 4 * e
            · rw [if_pos (by omega), if_pos hl]
              refine bind_at (icheck_f k _ _ _ (by omega)) ?_
              by_cases h0 : chk (wordsB b 12 c) (longsB b (12 + 4 * c) d) (wordsB b (12 + 4 * c + 8 * d) e) = 0
              · rw [if_pos h0, if_pos h0]
              · rw [if_neg h0, if_neg h0]; rfl
            · rw [if_neg (by omega), if_neg hl]; rfl
  · rw [decide_eq_false h, if_neg h]
    exact if_neg (by decide)

/-- An image's bytes, as defined. -/
def g4 (v : Int) : List Int := dig (v % 18446744073709551616) 4
def g8 (v : Int) : List Int := dig (v % 18446744073709551616) 8
def encS (C D E : List Int) : List Int := [83, 80, 73, 78] ++ dig C.length 4 ++ dig D.length 4 ++ dig E.length 4 ++ C.flatMap g4 ++ D.flatMap g8 ++ E.flatMap g4
theorem rb_of (k : Nat) (v n : Int) (hn0 : 0 ≤ n) (hn : n ≤ 8) (hk : 8 < k) : spinnakerref01_Bytes.f k (IntKind.u64.wrap v) n = some (dig (v % 18446744073709551616) n.toNat) := by
  rw [wu64, ref_bytes k _ n (by omega) (by omega) hn0 (by omega) (by omega)]
theorem rbytes_l2 (C D E : List Int) (hE : E.length ≤ 1000000) (d : Nat) : ∀ (k i : Nat) (acc : List Int), i + d = E.length → d + 10 < k → acc.length + 4 * d ≤ 1000000000000 →
    spinnakerref08_Bytes.l2 k acc i C D E = some (acc ++ (E.drop i).flatMap g4) := by
  induction d with
  | zero =>
    intro k i acc hi hk ha
    obtain ⟨k, rfl⟩ : ∃ m, k = m + 1 := ⟨k - 1, by omega⟩
    simp only [spinnakerref08_Bytes.l2]
    rw [if_neg (by omega), List.drop_of_length_le (by omega)]
    simp
  | succ d ih =>
    intro k i acc hi hk ha
    obtain ⟨k, rfl⟩ : ∃ m, k = m + 1 := ⟨k - 1, by omega⟩
    have hil : i < E.length := by omega
    simp only [spinnakerref08_Bytes.l2]
    rw [if_pos (by omega), if_pos (by omega), rd_get E i hil, rb_of k _ 4 (by decide) (by decide) (by omega)]
    simp only [Option.bind_some]
    rw [if_pos (by rw [dig_length, show (4 : Int).toNat = 4 from rfl]; omega), show wrap64 ((i : Int) + 1) = ((i + 1 : Nat) : Int) from by rw [w64 (by omega) (by omega)]; omega,
      ih k (i + 1) _ (by omega) (by omega) (by rw [List.length_append, dig_length, show (4 : Int).toNat = 4 from rfl]; omega), List.drop_eq_getElem_cons hil, List.flatMap_cons, List.append_assoc]
    rfl
theorem rbytes_l1 (C D E : List Int) (hD : D.length ≤ 1000000) (hE : E.length ≤ 1000000) (d : Nat) : ∀ (k i : Nat) (acc : List Int), i + d = D.length → d + E.length + 20 < k → acc.length + 8 * d + 4 * E.length ≤ 1000000000000 →
    spinnakerref08_Bytes.l1 k acc i C D E = some (acc ++ (D.drop i).flatMap g8 ++ E.flatMap g4) := by
  induction d with
  | zero =>
    intro k i acc hi hk ha
    obtain ⟨k, rfl⟩ : ∃ m, k = m + 1 := ⟨k - 1, by omega⟩
    simp only [spinnakerref08_Bytes.l1]
    rw [if_neg (by omega), List.drop_of_length_le (by omega)]
    have := rbytes_l2 C D E hE E.length k 0 acc (by omega) (by omega) (by omega)
    rw [show ((0 : Nat) : Int) = 0 from rfl] at this
    simpa using this
  | succ d ih =>
    intro k i acc hi hk ha
    obtain ⟨k, rfl⟩ : ∃ m, k = m + 1 := ⟨k - 1, by omega⟩
    have hil : i < D.length := by omega
    simp only [spinnakerref08_Bytes.l1]
    rw [if_pos (by omega), if_pos (by omega), rd_get D i hil, rb_of k _ 8 (by decide) (by decide) (by omega)]
    simp only [Option.bind_some]
    rw [if_pos (by rw [dig_length, show (8 : Int).toNat = 8 from rfl]; omega), show wrap64 ((i : Int) + 1) = ((i + 1 : Nat) : Int) from by rw [w64 (by omega) (by omega)]; omega,
      ih k (i + 1) _ (by omega) (by omega) (by rw [List.length_append, dig_length, show (8 : Int).toNat = 8 from rfl]; omega), List.drop_eq_getElem_cons hil, List.flatMap_cons]
    simp only [List.append_assoc]
    rfl
theorem rbytes_l0 (C D E : List Int) (hC : C.length ≤ 1000000) (hD : D.length ≤ 1000000) (hE : E.length ≤ 1000000) (d : Nat) : ∀ (k i : Nat) (acc : List Int), i + d = C.length → d + D.length + E.length + 30 < k → acc.length + 4 * d + 8 * D.length + 4 * E.length ≤ 1000000000000 →
    spinnakerref08_Bytes.l0 k acc i C D E = some (acc ++ (C.drop i).flatMap g4 ++ D.flatMap g8 ++ E.flatMap g4) := by
  induction d with
  | zero =>
    intro k i acc hi hk ha
    obtain ⟨k, rfl⟩ : ∃ m, k = m + 1 := ⟨k - 1, by omega⟩
    simp only [spinnakerref08_Bytes.l0]
    rw [if_neg (by omega), List.drop_of_length_le (by omega)]
    have := rbytes_l1 C D E hD hE D.length k 0 acc (by omega) (by omega) (by omega)
    rw [show ((0 : Nat) : Int) = 0 from rfl] at this
    simpa using this
  | succ d ih =>
    intro k i acc hi hk ha
    obtain ⟨k, rfl⟩ : ∃ m, k = m + 1 := ⟨k - 1, by omega⟩
    have hil : i < C.length := by omega
    simp only [spinnakerref08_Bytes.l0]
    rw [if_pos (by omega), if_pos (by omega), rd_get C i hil, rb_of k _ 4 (by decide) (by decide) (by omega)]
    simp only [Option.bind_some]
    rw [if_pos (by rw [dig_length, show (4 : Int).toNat = 4 from rfl]; omega), show wrap64 ((i : Int) + 1) = ((i + 1 : Nat) : Int) from by rw [w64 (by omega) (by omega)]; omega,
      ih k (i + 1) _ (by omega) (by omega) (by rw [List.length_append, dig_length, show (4 : Int).toNat = 4 from rfl]; omega), List.drop_eq_getElem_cons hil, List.flatMap_cons]
    simp only [List.append_assoc]
    rfl
theorem rbytes_f (k : Nat) (C D E : List Int) (hC : C.length ≤ 1000000) (hD : D.length ≤ 1000000) (hE : E.length ≤ 1000000) (hk : C.length + D.length + E.length + 40 < k) : spinnakerref08_Bytes.f k C D E = some (encS C D E) := by
  unfold spinnakerref08_Bytes.f
  refine bind_at (v := [83, 80, 73, 78]) rfl ?_
  refine bind_at (rb_of k _ 4 (by decide) (by decide) (by omega)) ?_
  rw [if_pos (by rw [dig_length]; decide)]
  refine bind_at rfl ?_
  refine bind_at (rb_of k _ 4 (by decide) (by decide) (by omega)) ?_
  rw [if_pos (by rw [List.length_append, dig_length, dig_length]; decide)]
  refine bind_at rfl ?_
  refine bind_at (rb_of k _ 4 (by decide) (by decide) (by omega)) ?_
  rw [if_pos (by rw [List.length_append, List.length_append, dig_length, dig_length, dig_length]; decide)]
  have := rbytes_l0 C D E hC hD hE C.length k 0 (([83, 80, 73, 78] ++ dig ((C.length : Int) % 18446744073709551616) (4 : Int).toNat) ++ dig ((D.length : Int) % 18446744073709551616) (4 : Int).toNat ++ dig ((E.length : Int) % 18446744073709551616) (4 : Int).toNat) (by omega) (by omega) (by
    simp only [List.length_append, dig_length]
    rw [show (4 : Int).toNat = 4 from rfl]
    simp; omega)
  rw [show ((0 : Nat) : Int) = 0 from rfl, List.drop_zero] at this
  rw [this]
  unfold encS
  rw [Int.emod_eq_of_lt (show (0 : Int) ≤ C.length by omega) (by omega), Int.emod_eq_of_lt (show (0 : Int) ≤ D.length by omega) (by omega), Int.emod_eq_of_lt (show (0 : Int) ≤ E.length by omega) (by omega)]
  rfl
/-- An image's bytes, as the program makes them. -/
theorem dig_low (v : Int) (n : Nat) (h : 0 ≤ v ∧ v < 18446744073709551616) : dig (v % 18446744073709551616) n = dig v n := by rw [Int.emod_eq_of_lt h.1 h.2]
theorem w32_of (v : Int) (h : 0 ≤ v ∧ v < 4294967296) : v % 4294967296 = v := Int.emod_eq_of_lt h.1 h.2
theorem ienc_l3 (E : List Int) (hE : E.length ≤ 1000000) (he : ∀ x ∈ E, 0 ≤ x ∧ x < 4294967296) (d : Nat) : ∀ (k i : Nat) (acc : List Int), i + d = E.length → d + 10 < k → acc.length + 4 * d ≤ 1000000000000 →
    image_Encode.l3 k acc E E.length i = some (acc ++ (E.drop i).flatMap g4, 0) := by
  induction d with
  | zero =>
    intro k i acc hi hk ha
    obtain ⟨k, rfl⟩ : ∃ m, k = m + 1 := ⟨k - 1, by omega⟩
    simp only [image_Encode.l3]
    rw [if_neg (by omega), List.drop_of_length_le (by omega)]
    simp
  | succ d ih =>
    intro k i acc hi hk ha
    obtain ⟨k, rfl⟩ : ∃ m, k = m + 1 := ⟨k - 1, by omega⟩
    have hil : i < E.length := by omega
    have hv := he E[i] (List.getElem_mem hil)
    simp only [image_Encode.l3]
    rw [if_pos (by omega), if_pos (by omega), if_pos (by omega), rd_get E i hil, w32_of _ hv, word_bytes_f k _ hv.1 (by omega) (by omega)]
    simp only [Option.bind_some]
    rw [if_pos (by rw [dig_length]; omega), show wrap64 ((i : Int) + 1) = ((i + 1 : Nat) : Int) from by rw [w64 (by omega) (by omega)]; omega,
      ih k (i + 1) _ (by omega) (by omega) (by rw [List.length_append, dig_length]; omega), List.drop_eq_getElem_cons hil, List.flatMap_cons, List.append_assoc]
    unfold g4
    rw [dig_low _ 4 ⟨hv.1, by omega⟩]
theorem ienc_l2 (C D E : List Int) (hD : D.length ≤ 1000000) (hE : E.length ≤ 1000000) (he : ∀ x ∈ E, 0 ≤ x ∧ x < 4294967296) (d : Nat) : ∀ (k i : Nat) (acc : List Int), i + d = D.length → d + E.length + 20 < k → acc.length + 8 * d + 4 * E.length ≤ 1000000000000 →
    image_Encode.l2 k acc D D.length i C D E = some (acc ++ (D.drop i).flatMap g8 ++ E.flatMap g4, 0) := by
  induction d with
  | zero =>
    intro k i acc hi hk ha
    obtain ⟨k, rfl⟩ : ∃ m, k = m + 1 := ⟨k - 1, by omega⟩
    simp only [image_Encode.l2]
    rw [if_neg (by omega), List.drop_of_length_le (by omega)]
    have := ienc_l3 E hE he E.length k 0 acc (by omega) (by omega) (by omega)
    rw [show ((0 : Nat) : Int) = 0 from rfl] at this
    simpa using this
  | succ d ih =>
    intro k i acc hi hk ha
    obtain ⟨k, rfl⟩ : ∃ m, k = m + 1 := ⟨k - 1, by omega⟩
    have hil : i < D.length := by omega
    have hl : word_Long.f k D[i] = some (g8 D[i]) := by
      unfold word_Long.f g8
      rw [wu64, split_f k _ 8 (by decide) (by decide) (by omega)]
      rfl
    simp only [image_Encode.l2]
    rw [if_pos (by omega), if_pos (by omega), if_pos (by omega), rd_get D i hil, hl]
    simp only [Option.bind_some]
    have hg : (g8 D[i]).length = 8 := dig_length _ _
    rw [if_pos (by omega), show wrap64 ((i : Int) + 1) = ((i + 1 : Nat) : Int) from by rw [w64 (by omega) (by omega)]; omega,
      ih k (i + 1) _ (by omega) (by omega) (by rw [List.length_append]; omega), List.drop_eq_getElem_cons hil, List.flatMap_cons]
    simp only [List.append_assoc]
theorem ienc_l1 (C D E : List Int) (hC : C.length ≤ 1000000) (hc : ∀ x ∈ C, 0 ≤ x ∧ x < 4294967296) (hD : D.length ≤ 1000000) (hE : E.length ≤ 1000000) (he : ∀ x ∈ E, 0 ≤ x ∧ x < 4294967296) (d : Nat) : ∀ (k i : Nat) (acc : List Int), i + d = C.length → d + D.length + E.length + 30 < k → acc.length + 4 * d + 8 * D.length + 4 * E.length ≤ 1000000000000 →
    image_Encode.l1 k acc C C.length i C D E = some (acc ++ (C.drop i).flatMap g4 ++ D.flatMap g8 ++ E.flatMap g4, 0) := by
  induction d with
  | zero =>
    intro k i acc hi hk ha
    obtain ⟨k, rfl⟩ : ∃ m, k = m + 1 := ⟨k - 1, by omega⟩
    simp only [image_Encode.l1]
    rw [if_neg (by omega), List.drop_of_length_le (by omega)]
    have := ienc_l2 C D E hD hE he D.length k 0 acc (by omega) (by omega) (by omega)
    rw [show ((0 : Nat) : Int) = 0 from rfl] at this
    simpa using this
  | succ d ih =>
    intro k i acc hi hk ha
    obtain ⟨k, rfl⟩ : ∃ m, k = m + 1 := ⟨k - 1, by omega⟩
    have hil : i < C.length := by omega
    have hv := hc C[i] (List.getElem_mem hil)
    simp only [image_Encode.l1]
    rw [if_pos (by omega), if_pos (by omega), if_pos (by omega), rd_get C i hil, word_bytes_f k _ hv.1 (by omega) (by omega)]
    simp only [Option.bind_some]
    rw [if_pos (by rw [dig_length]; omega), show wrap64 ((i : Int) + 1) = ((i + 1 : Nat) : Int) from by rw [w64 (by omega) (by omega)]; omega,
      ih k (i + 1) _ (by omega) (by omega) (by rw [List.length_append, dig_length]; omega), List.drop_eq_getElem_cons hil, List.flatMap_cons]
    simp only [List.append_assoc]
    unfold g4
    rw [dig_low _ 4 ⟨hv.1, by omega⟩]
theorem ienc_f (k : Nat) (C D E : List Int) (hC : C.length ≤ 1000000) (hc : ∀ x ∈ C, 0 ≤ x ∧ x < 4294967296) (hD : D.length ≤ 1000000) (hE : E.length ≤ 1000000) (hk : C.length + D.length + E.length + 50 < k) :
    image_Encode.f k C D E = some (if chk C D E = 0 then (encS C D E, 0) else ([], chk C D E)) := by
  obtain ⟨k, rfl⟩ : ∃ m, k = m + 4 := ⟨k - 4, by omega⟩
  unfold image_Encode.f
  refine bind_at (icheck_f _ C D E (by omega)) ?_
  by_cases h0 : chk C D E = 0
  · rw [if_pos h0, if_pos h0]
    refine bind_at rfl ?_
    have he : ∀ x ∈ E, 0 ≤ x ∧ x < 4294967296 := by
      unfold chk at h0
      split at h0
      · cases h0
      · split at h0
        · cases h0
        · split at h0
          · rename_i h3; intro x hx; have := h3 x hx; omega
          · cases h0
    have L1 := ienc_l1 C D E hC hc hD hE he C.length k 0 (([83, 80, 73, 78] ++ dig C.length 4 ++ dig D.length 4) ++ dig E.length 4) (by omega) (by omega) (by simp only [List.length_append, dig_length]; simp; omega)
    have b3 : ∀ (k : Nat) (v : Int), 0 ≤ v → v < 4294967296 → 8 < k → word_Bytes.f k (v % 4294967296) = some (dig v 4) := fun k v h1 h2 hk => by rw [w32_of v ⟨h1, h2⟩, word_bytes_f k v h1 (by omega) hk]
    generalize hy : ([(C.length : Int), (D.length : Int), (E.length : Int)] : List Int) = y
    have hyl : y.length = 3 := by rw [← hy]; rfl
    have y0 : rd y 0 = C.length := by rw [← hy]; rfl
    have y1 : rd y 1 = D.length := by rw [← hy]; rfl
    have y2 : rd y 2 = E.length := by rw [← hy]; rfl
    have s0 : wrap64 (0 + 1) = 1 := by unfold wrap64; decide
    have s1 : wrap64 (1 + 1) = 2 := by unfold wrap64; decide
    have s2 : wrap64 (2 + 1) = 3 := by unfold wrap64; decide
    rw [hyl]
    show image_Encode.l0 (k + 3 + 1) [83, 80, 73, 78] y ((3 : Nat) : Int) 0 C D E = _
    simp only [image_Encode.l0]
    rw [if_pos (by decide), if_pos (by decide), if_pos (by rw [hyl]; decide), y0, b3 _ _ (by omega) (by omega) (by omega)]
    simp only [Option.bind_some]
    rw [if_pos (by rw [dig_length]; decide), s0]
    show image_Encode.l0 (k + 2 + 1) _ y ((3 : Nat) : Int) 1 C D E = _
    simp only [image_Encode.l0]
    rw [if_pos (by decide), if_pos (by decide), if_pos (by rw [hyl]; decide), y1, b3 _ _ (by omega) (by omega) (by omega)]
    simp only [Option.bind_some]
    rw [if_pos (by rw [List.length_append, dig_length, dig_length]; decide), s1]
    show image_Encode.l0 (k + 1 + 1) _ y ((3 : Nat) : Int) 2 C D E = _
    simp only [image_Encode.l0]
    rw [if_pos (by decide), if_pos (by decide), if_pos (by rw [hyl]; decide), y2, b3 _ _ (by omega) (by omega) (by omega)]
    simp only [Option.bind_some]
    rw [if_pos (by rw [List.length_append, List.length_append, dig_length, dig_length, dig_length]; decide), s2]
    show image_Encode.l0 (k + 1) _ y ((3 : Nat) : Int) 3 C D E = _
    simp only [image_Encode.l0]
    rw [if_neg (by decide)]
    rw [show ((0 : Nat) : Int) = 0 from rfl, List.drop_zero] at L1
    exact L1
  · rw [if_neg h0, if_neg h0]
/-- What was made of an image is read as it. -/
theorem drop_at (pre suf : List Int) (n : Nat) (h : pre.length = n) : (pre ++ suf).drop n = suf := by subst h; simp
theorem words_fwd : ∀ (C pre suf : List Int) (n : Nat), pre.length = n → (∀ x ∈ C, 0 ≤ x ∧ x < 4294967296) → wordsB (pre ++ (C.flatMap g4 ++ suf)) n C.length = C
  | [], _, _, _, _, _ => rfl
  | v :: C, pre, suf, n, hn, hc => by
    have hv := hc v (by simp)
    have hg : (g4 v).length = 4 := dig_length _ _
    have e : pre ++ ((v :: C).flatMap g4 ++ suf) = (pre ++ g4 v) ++ (C.flatMap g4 ++ suf) := by simp
    have ih := words_fwd C (pre ++ g4 v) suf (n + 4) (by rw [List.length_append, hn, hg]) (fun x hx => hc x (by simp [hx]))
    rw [← e] at ih
    show w4 _ n :: wordsB _ (n + 4) C.length = _
    rw [ih]
    congr 1
    unfold w4
    rw [drop_at pre _ n hn, List.flatMap_cons, List.append_assoc, List.take_append_of_le_length (by omega), List.take_of_length_le (by omega)]
    unfold g4
    rw [lev_dig, show (2 : Int) ^ (8 * 4) = 4294967296 from by decide]
    omega
theorem longs_fwd : ∀ (D pre suf : List Int) (n : Nat), pre.length = n → (∀ x ∈ D, -9223372036854775808 ≤ x ∧ x < 9223372036854775808) → longsB (pre ++ (D.flatMap g8 ++ suf)) n D.length = D
  | [], _, _, _, _, _ => rfl
  | v :: D, pre, suf, n, hn, hc => by
    have hv := hc v (by simp)
    have hg : (g8 v).length = 8 := dig_length _ _
    have e : pre ++ ((v :: D).flatMap g8 ++ suf) = (pre ++ g8 v) ++ (D.flatMap g8 ++ suf) := by simp
    have ih := longs_fwd D (pre ++ g8 v) suf (n + 8) (by rw [List.length_append, hn, hg]) (fun x hx => hc x (by simp [hx]))
    rw [← e] at ih
    show n8 _ n :: longsB _ (n + 8) D.length = _
    rw [ih]
    congr 1
    unfold n8
    rw [drop_at pre _ n hn, List.flatMap_cons, List.append_assoc, List.take_append_of_le_length (by omega), List.take_of_length_le (by omega)]
    unfold g8
    rw [lev_dig, show (2 : Int) ^ (8 * 8) = 18446744073709551616 from by decide]
    unfold wrap64
    omega
theorem w4_at (pre suf : List Int) (n : Nat) (v : Int) (hn : pre.length = n) (hv : 0 ≤ v ∧ v < 4294967296) : w4 (pre ++ (dig v 4 ++ suf)) n = v := by
  have hg := dig_length v 4
  unfold w4
  rw [drop_at pre _ n hn, List.take_append_of_le_length (by omega), List.take_of_length_le (by omega), lev_dig, show (2 : Int) ^ (8 * 4) = 4294967296 from by decide]
  omega
theorem flat4 (C : List Int) : (C.flatMap g4).length = 4 * C.length := by
  induction C with
  | nil => rfl
  | cons v C ih => rw [List.flatMap_cons, List.length_append, ih, show (g4 v).length = 4 from dig_length _ _, List.length_cons]; omega
theorem flat8 (D : List Int) : (D.flatMap g8).length = 8 * D.length := by
  induction D with
  | nil => rfl
  | cons v D ih => rw [List.flatMap_cons, List.length_append, ih, show (g8 v).length = 8 from dig_length _ _, List.length_cons]; omega
theorem encS_len (C D E : List Int) : (encS C D E).length = 16 + 4 * C.length + 8 * D.length + 4 * E.length := by
  unfold encS
  simp only [List.length_append, dig_length, flat4, flat8]
  rfl
theorem encS_bytes (C D E : List Int) : ∀ x ∈ encS C D E, 0 ≤ x ∧ x < 256 := by
  intro x hx
  unfold encS at hx
  simp only [List.mem_append, List.mem_flatMap] at hx
  rcases hx with (((((hx | hx) | hx) | hx) | ⟨v, _, hx⟩) | ⟨v, _, hx⟩) | ⟨v, _, hx⟩
  · simp at hx; omega
  · exact dig_bytes _ _ x hx
  · exact dig_bytes _ _ x hx
  · exact dig_bytes _ _ x hx
  · exact dig_bytes _ _ x hx
  · exact dig_bytes _ _ x hx
  · exact dig_bytes _ _ x hx
theorem dec_enc (C D E : List Int) (hC : C.length ≤ 1000000) (hc : ∀ x ∈ C, 0 ≤ x ∧ x < 4294967296) (hD : D.length ≤ 1000000) (hd : ∀ x ∈ D, -9223372036854775808 ≤ x ∧ x < 9223372036854775808) (hE : E.length ≤ 1000000) (h0 : chk C D E = 0) : decS (encS C D E) = (C, D, E, 0) := by
  have he : ∀ x ∈ E, 0 ≤ x ∧ x < 4294967296 := by
    have h1 := h0
    unfold chk at h1
    split at h1
    · cases h1
    · split at h1
      · cases h1
      · split at h1
        · rename_i h3; intro x hx; have := h3 x hx; omega
        · cases h1
  have hb : (encS C D E).drop 4 = dig C.length 4 ++ (dig D.length 4 ++ (dig E.length 4 ++ (C.flatMap g4 ++ (D.flatMap g8 ++ E.flatMap g4)))) := by unfold encS; simp
  have ht : (encS C D E).take 4 = [83, 80, 73, 78] := by unfold encS; simp
  have hl := encS_len C D E
  unfold decS
  rw [if_pos ht, if_neg (by omega)]
  have hbl : ((encS C D E).drop 4).length = 12 + 4 * C.length + 8 * D.length + 4 * E.length := by rw [List.length_drop, hl]; omega
  generalize (encS C D E).drop 4 = b at hb hbl
  have w0 : w4 b 0 = C.length := by rw [hb]; exact w4_at [] _ 0 _ rfl (by omega)
  have w1 : w4 b 4 = D.length := by rw [hb]; exact w4_at (dig C.length 4) _ 4 _ (dig_length _ _) (by omega)
  have w2 : w4 b 8 = E.length := by
    have e : b = (dig C.length 4 ++ dig D.length 4) ++ (dig E.length 4 ++ (C.flatMap g4 ++ (D.flatMap g8 ++ E.flatMap g4))) := by rw [hb]; simp
    rw [e]; exact w4_at _ _ 8 _ (by rw [List.length_append, dig_length, dig_length]) (by omega)
  have f0 : wordsB b 12 C.length = C := by
    have e : b = (dig C.length 4 ++ dig D.length 4 ++ dig E.length 4) ++ (C.flatMap g4 ++ (D.flatMap g8 ++ E.flatMap g4)) := by rw [hb]; simp
    rw [e]; exact words_fwd C _ _ 12 (by simp only [List.length_append, dig_length]) hc
  have f1 : longsB b (12 + 4 * C.length) D.length = D := by
    have e : b = (dig C.length 4 ++ dig D.length 4 ++ dig E.length 4 ++ C.flatMap g4) ++ (D.flatMap g8 ++ E.flatMap g4) := by rw [hb]; simp
    rw [e]; exact longs_fwd D _ _ _ (by simp only [List.length_append, dig_length, flat4]) hd
  have f2 : wordsB b (12 + 4 * C.length + 8 * D.length) E.length = E := by
    have e : b = (dig C.length 4 ++ dig D.length 4 ++ dig E.length 4 ++ C.flatMap g4 ++ D.flatMap g8) ++ (E.flatMap g4 ++ []) := by rw [hb]; simp
    rw [e]; exact words_fwd E _ [] _ (by simp only [List.length_append, dig_length, flat4, flat8]) he
  unfold decB
  simp only [w0, w1, w2, Int.toNat_natCast]
  rw [if_pos hbl, f0, f1, f2, if_pos h0]
/-- An image is the same as itself. -/
theorem ints_l (l : List Int) (hl : l.length ≤ 1000000) (d : Nat) : ∀ k i : Nat, i + d = l.length → d < k → spinnakerref01_Ints.l0 k l l i = some true := by
  induction d with
  | zero =>
    intro k i hi hk
    obtain ⟨k, rfl⟩ : ∃ m, k = m + 1 := ⟨k - 1, by omega⟩
    simp only [spinnakerref01_Ints.l0]
    rw [if_neg (by omega)]
  | succ d ih =>
    intro k i hi hk
    obtain ⟨k, rfl⟩ : ∃ m, k = m + 1 := ⟨k - 1, by omega⟩
    simp only [spinnakerref01_Ints.l0]
    rw [if_pos (by omega), if_pos (by omega), if_pos (by omega), show wrap64 ((i : Int) + 1) = ((i + 1 : Nat) : Int) from by rw [w64 (by omega) (by omega)]; omega]
    refine (if_pos ?_).trans (ih k (i + 1) (by omega) (by omega))
    first | rfl | trivial
theorem ints_f (k : Nat) (l : List Int) (hl : l.length ≤ 1000000) (hk : l.length < k) : spinnakerref01_Ints.f k l l = some true := by
  unfold spinnakerref01_Ints.f
  rw [if_pos rfl]
  exact ints_l l hl l.length k 0 (by omega) hk
theorem same_l (C D E : List Int) (hl : C.length ≤ 1000000) (d : Nat) : ∀ k i : Nat, i + d = C.length → d < k → spinnakerref08_Same.l0 k i C D E C D E = some true := by
  induction d with
  | zero =>
    intro k i hi hk
    obtain ⟨k, rfl⟩ : ∃ m, k = m + 1 := ⟨k - 1, by omega⟩
    simp only [spinnakerref08_Same.l0]
    rw [if_neg (by omega)]
  | succ d ih =>
    intro k i hi hk
    obtain ⟨k, rfl⟩ : ∃ m, k = m + 1 := ⟨k - 1, by omega⟩
    simp only [spinnakerref08_Same.l0]
    rw [if_pos (by omega), if_pos (by omega), if_pos (by omega), show wrap64 ((i : Int) + 1) = ((i + 1 : Nat) : Int) from by rw [w64 (by omega) (by omega)]; omega]
    refine (if_pos ?_).trans (ih k (i + 1) (by omega) (by omega))
    first | rfl | trivial
theorem same_f (k : Nat) (C D E : List Int) (hC : C.length ≤ 1000000) (hD : D.length ≤ 1000000) (hE : E.length ≤ 1000000) (hk : C.length + D.length + E.length + 5 < k) : spinnakerref08_Same.f k C D E C D E = some true := by
  obtain ⟨k, rfl⟩ : ∃ m, k = m + 1 := ⟨k - 1, by omega⟩
  unfold spinnakerref08_Same.f
  rw [if_pos rfl]
  refine bind_at (ints_f _ D hD (by omega)) ?_
  rw [if_pos rfl]
  refine bind_at (ints_f _ E hE (by omega)) ?_
  simp only [spinnakerref08_Same.j0]
  rw [if_neg (by decide)]
  exact same_l C D E hC C.length k 0 (by omega) (by omega)

theorem ImageChecks (x0 : (List Int) × (List Int) × (List Int)) (q0 : Q25 x0) : ∃ k, spinnakerlaw08_ImageChecks.f k x0.1 x0.2.1 x0.2.2 = some true := by
  obtain ⟨C, D, E⟩ := x0
  have hc : ∀ y ∈ C, 0 ≤ y ∧ y < 4294967296 := fun y hy => wf_u32 (q0.1.2 y hy)
  have hd : ∀ y ∈ D, -9223372036854775808 ≤ y ∧ y < 9223372036854775808 := fun y hy => wf_i64 (q0.2.1.2 y hy)
  clear q0
  refine ⟨200000, ?_⟩
  show spinnakerlaw08_ImageChecks.f 200000 C D E = some true
  unfold spinnakerlaw08_ImageChecks.f
  have hlg : ∃ b, spinnakerlaw08_large.f C D E = some b ∧ (b = false → (C.length : Int) ≤ 2000 ∧ (D.length : Int) ≤ 5000 ∧ (E.length : Int) ≤ 100) := by
    unfold spinnakerlaw08_large.f
    by_cases h1 : (C.length : Int) > 2000
    · rw [if_pos h1]; exact ⟨_, rfl, fun h => by cases h⟩
    rw [if_neg h1]
    by_cases h2 : (D.length : Int) > 5000
    · rw [if_pos h2]; exact ⟨_, rfl, fun h => by cases h⟩
    rw [if_neg h2]
    refine ⟨_, rfl, fun h => ⟨by omega, by omega, ?_⟩⟩
    rw [decide_eq_false_iff_not] at h
    omega
  obtain ⟨b, hb, hs⟩ := hlg
  refine bind_at hb ?_
  cases b
  · obtain ⟨h1, h2, h3⟩ := hs rfl
    rw [if_neg (by decide)]
    refine bind_at (rcheck_f _ C D E (by decide)) ?_
    refine bind_at (ienc_f _ C D E (by omega) hc (by omega) (by omega) (by omega)) ?_
    refine bind_at (icheck_f _ C D E (by decide)) ?_
    rw [if_pos rfl]
    show spinnakerlaw08_ImageChecks.j0 (199999 + 1) _ _ _ C D E = _
    simp only [spinnakerlaw08_ImageChecks.j0]
    by_cases h0 : chk C D E = 0
    · rw [if_pos h0, if_neg (by simp [h0]), if_pos h0]
      have hl := encS_len C D E
      refine bind_at (decode_f 199999 (encS C D E) (encS_bytes C D E) (by omega) (by omega)) ?_
      rw [dec_enc C D E (by omega) hc (by omega) hd (by omega) h0]
      refine bind_at (rbytes_f 199999 C D E (by omega) (by omega) (by omega) (by omega)) ?_
      refine bind_at (ref_same 199999 (encS C D E) (encS C D E) (by omega) (by omega)) ?_
      rw [if_pos (by simp)]
      simp only
      refine (if_pos trivial).trans ?_
      refine bind_at (same_f 199999 C D E (by omega) (by omega) (by omega) (by omega)) ?_
      rw [if_pos rfl]
      exact bind_at (awake08 199999 (by decide)) rfl
    · rw [if_neg h0, if_neg (by simp), if_neg h0]
      refine (if_pos (by rfl)).trans ?_
      exact bind_at (awake08 199999 (by decide)) rfl
  · rw [if_pos rfl]
    exact bind_at (awake08 200000 (by decide)) rfl

end Go.Proofs.Ytfpphaflbmlpeaa.Pure
