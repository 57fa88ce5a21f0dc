/- Parse answers the register of every text, or false; the listed tables are tied to the program's text; no other condition. -/
import Derived.Test.YtbmjbidekmkboaaDoorGRegParsesx2
namespace Go.Proofs.YtbmjbidekmkboaaDoor.Pure
open Go.RowKit Go.Proofs.YtbmjbidekmkboaaDoor.GRegParses Go.Proofs.YtbmjbidekmkboaaDoorW.PrintWords Go.Proofs.YtbmjbidekmkboaaDoorW.PrintLast Go.Proofs.YtbmjbidekmkboaaDoorW.PrintMore
set_option linter.unusedVariables false
set_option linter.unusedSimpArgs false
attribute [local irreducible] shl shr

theorem toList_d (s : ByteArray) : s.toList = s.data.toList := ByteArray.toList_eq s
/-- The first place, from i on, of a text in a list of texts; -1: there is none. -/
def idx (s : ByteArray) : List ByteArray → Int → Int
  | [], _ => -1
  | x :: t, i => if s.data.toList = x.data.toList then i else idx s t (i + 1)
theorem index_f (s : ByteArray) (l : List ByteArray) (hl : l.length < 1000) (d : Nat) : ∀ (k i : Nat), l.length - i = d → i ≤ l.length → d < k →
    slices_Index_string_string.l0 k l s l.length i = some (idx s (l.drop i) i) := by
  induction d with
  | zero =>
    intro k i hd hi hk
    obtain ⟨k, rfl⟩ : ∃ m, k = m + 1 := ⟨k - 1, by omega⟩
    simp only [slices_Index_string_string.l0]
    rw [if_neg (by omega), List.drop_of_length_le (by omega)]; rfl
  | succ d ih =>
    intro k i hd hi hk
    obtain ⟨k, rfl⟩ : ∃ m, k = m + 1 := ⟨k - 1, by omega⟩
    simp only [slices_Index_string_string.l0]
    rw [if_pos (by omega), if_pos (by omega), if_pos (by omega), toList_d, toList_d, List.drop_eq_getElem_cons (show i < l.length by omega)]
    have e : rdOf ByteArray.empty l (i : Int) = l[i] := by unfold rdOf; simp [show i < l.length by omega]
    simp only [idx]
    rw [e]
    by_cases he : s.data.toList = l[i].data.toList
    · rw [if_pos he, if_pos he]
    · rw [if_neg he, if_neg he, show wrap64 ((i : Int) + 1) = ((i + 1 : Nat) : Int) from by unfold wrap64; omega, ih k (i + 1) (by omega) (by omega) (by omega)]
      rfl
theorem regIdx_eq (s : ByteArray) : regIdx s = idx s regUses 0 := by
  unfold regIdx slices_Index_string_string.f
  have := index_f s regUses (by rw [regUses_length]; decide) 32 100 0 (by rw [regUses_length]) (by omega) (by omega)
  rw [show ((0 : Nat) : Int) = 0 from rfl] at this
  rw [this]; rfl
/-- The plain names. -/
def xNames : List ByteArray := (List.range 32).map fun (r : Nat) => (reg_Name.f (r : Int)).getD ⟨#[]⟩
theorem xNames_length : xNames.length = 32 := by simp [xNames]
theorem name_at (n : Nat) (hn : n < 32) : reg_Name.f (n : Int) = some (rdOf ByteArray.empty xNames n) := by
  revert hn; revert n; decide +kernel
theorem parse_l (s : ByteArray) (d : Nat) : ∀ (k i : Nat), 32 - i = d → i ≤ 32 → d < k →
    reg_Parse.l0 k s i = some (if idx s (xNames.drop i) i = -1 then (mx (regIdx s) 0, decide (regIdx s ≥ 0)) else (idx s (xNames.drop i) i, true)) := by
  have hl := xNames_length
  induction d with
  | zero =>
    intro k i hd hi hk
    obtain ⟨k, rfl⟩ : ∃ m, k = m + 1 := ⟨k - 1, by omega⟩
    simp only [reg_Parse.l0]
    rw [if_neg (by omega), List.drop_of_length_le (by omega)]
    rfl
  | succ d ih =>
    intro k i hd hi hk
    obtain ⟨k, rfl⟩ : ∃ m, k = m + 1 := ⟨k - 1, by omega⟩
    simp only [reg_Parse.l0]
    rw [if_pos (by omega), name_at i (by omega)]
    simp only [Option.bind_some]
    have e : rdOf ByteArray.empty xNames (i : Int) = xNames[i] := by unfold rdOf; simp [show i < xNames.length by omega]
    rw [e, toList_d, toList_d, List.drop_eq_getElem_cons (show i < xNames.length by omega)]
    by_cases he : s.data.toList = xNames[i].data.toList
    · have e2 : idx s (xNames[i] :: List.drop (i + 1) xNames) i = i := by simp only [idx]; rw [if_pos he]
      rw [if_pos he.symm]; simp only [e2]; rw [if_neg (by omega)]
    · have e2 : idx s (xNames[i] :: List.drop (i + 1) xNames) i = idx s (List.drop (i + 1) xNames) ((i + 1 : Nat) : Int) := by simp only [idx]; rw [if_neg he]; rfl
      rw [if_neg (fun h => he h.symm), show wrap64 ((i : Int) + 1) = ((i + 1 : Nat) : Int) from by unfold wrap64; omega, ih k (i + 1) (by omega) (by omega) (by omega)]
      simp only [e2]
theorem parse_f (k : Nat) (s : ByteArray) (hk : 40 ≤ k) :
    reg_Parse.f k s = some (if idx s xNames 0 = -1 then (mx (idx s regUses 0) 0, decide (idx s regUses 0 ≥ 0)) else (idx s xNames 0, true)) := by
  unfold reg_Parse.f
  have := parse_l s 32 k 0 rfl (by omega) (by omega)
  rw [show ((0 : Nat) : Int) = 0 from rfl, List.drop_zero, regIdx_eq] at this
  exact this
theorem awake02_of (k : Nat) (hk : 40 ≤ k) : reg_Of.f k (([3, 1, 40] : List Int)) = some 10 := by
  refine at_rounds (fun k => reg_Of.mono _ k) hk ?_
  decide +kernel
theorem awake02 (k : Nat) (hk : 40 ≤ k) : spinnakerlaw02_awake.f k = some true := by
  unfold spinnakerlaw02_awake.f
  rw [parse_f k _ hk, awake02_of k hk, show idx (⟨#[97, 48]⟩ : ByteArray) xNames 0 = -1 from by decide +kernel, show idx (⟨#[97, 48]⟩ : ByteArray) regUses 0 = 10 from by decide +kernel]
  decide +kernel
theorem name_out {a : Int} (h : ¬ (0 ≤ a ∧ a < 32)) : reg_Name.f a = some (⟨#[]⟩ : ByteArray) := by unfold reg_Name.f; rw [if_neg h]

theorem ref_name_at (n : Nat) (hn : n < 32) : spinnakerref02_Name.f (n : Int) = some (rdOf ByteArray.empty xNames n) := by
  revert hn; revert n; decide +kernel
theorem ref_use_at (k n : Nat) (hk : 5 ≤ k) (hn : n < 32) : spinnakerref02_Use.f k (n : Int) = some (rdOf ByteArray.empty regUses n) := by
  refine at_rounds (fun k => spinnakerref02_Use.mono _ k) hk ?_
  revert hn; revert n; decide +kernel

/-- The first place, from i on, at which one of two texts stands. -/
def idx2 (s : ByteArray) : List ByteArray → List ByteArray → Int → Int
  | x :: t, u :: v, i => if x.data.toList = s.data.toList then i else if u.data.toList = s.data.toList then i else idx2 s t v (i + 1)
  | _, _, _ => -1
theorem ref_parse_l (s : ByteArray) (d : Nat) : ∀ (k i : Nat), 32 - i = d → i ≤ 32 → d + 10 < k →
    spinnakerref02_Parse.l0 k s i = some (idx2 s (xNames.drop i) (regUses.drop i) i) := by
  have hl := xNames_length
  have hu := regUses_length
  induction d with
  | zero =>
    intro k i hd hi hk
    obtain ⟨k, rfl⟩ : ∃ m, k = m + 1 := ⟨k - 1, by omega⟩
    simp only [spinnakerref02_Parse.l0]
    rw [if_neg (by omega), List.drop_of_length_le (by omega), List.drop_of_length_le (by omega)]
    rfl
  | succ d ih =>
    intro k i hd hi hk
    obtain ⟨k, rfl⟩ : ∃ m, k = m + 1 := ⟨k - 1, by omega⟩
    simp only [spinnakerref02_Parse.l0]
    rw [if_pos (by omega), ref_name_at i (by omega), ref_use_at k i (by omega) (by omega)]
    simp only [Option.bind_some]
    have e : rdOf ByteArray.empty xNames (i : Int) = xNames[i] := by unfold rdOf; simp [show i < xNames.length by omega]
    have e' : rdOf ByteArray.empty regUses (i : Int) = regUses[i] := by unfold rdOf; simp [show i < regUses.length by omega]
    rw [e, e', toList_d, toList_d, toList_d, List.drop_eq_getElem_cons (show i < xNames.length by omega), List.drop_eq_getElem_cons (show i < regUses.length by omega)]
    simp only [idx2]
    by_cases h1 : xNames[i].data.toList = s.data.toList
    · rw [if_pos h1, if_pos h1]
    · rw [if_neg h1, if_neg h1]
      by_cases h2 : regUses[i].data.toList = s.data.toList
      · rw [if_pos h2, if_pos h2]
      · rw [if_neg h2, if_neg h2, show wrap64 ((i : Int) + 1) = ((i + 1 : Nat) : Int) from by unfold wrap64; omega, ih k (i + 1) (by omega) (by omega) (by omega)]
        rfl
theorem idx_none (s : ByteArray) : ∀ (l : List ByteArray) (i : Int), (∀ x ∈ l, x.data.toList ≠ s.data.toList) → idx s l i = -1
  | [], _, _ => rfl
  | x :: t, i, h => by
    simp only [idx]
    rw [if_neg (fun e => h x List.mem_cons_self e.symm)]
    exact idx_none s t (i + 1) fun y hy => h y (List.mem_cons_of_mem _ hy)
theorem idx2_none (s : ByteArray) : ∀ (l m : List ByteArray) (i : Int), (∀ x ∈ l, x.data.toList ≠ s.data.toList) → (∀ x ∈ m, x.data.toList ≠ s.data.toList) → idx2 s l m i = -1
  | [], _, _, _, _ => rfl
  | _ :: _, [], _, _, _ => rfl
  | x :: t, u :: v, i, h, h' => by
    simp only [idx2]
    rw [if_neg (h x List.mem_cons_self), if_neg (h' u List.mem_cons_self)]
    exact idx2_none s t v (i + 1) (fun y hy => h y (List.mem_cons_of_mem _ hy)) fun y hy => h' y (List.mem_cons_of_mem _ hy)
theorem known_all : ∀ t ∈ xNames ++ regUses, (idx t xNames 0 ≠ -1 → idx2 t xNames regUses 0 = idx t xNames 0 ∧ 0 ≤ idx t xNames 0) ∧ (idx t xNames 0 = -1 → idx2 t xNames regUses 0 = idx t regUses 0) := by decide +kernel
theorem both (s : ByteArray) : (idx s xNames 0 ≠ -1 → idx2 s xNames regUses 0 = idx s xNames 0 ∧ 0 ≤ idx s xNames 0) ∧ (idx s xNames 0 = -1 → idx2 s xNames regUses 0 = idx s regUses 0) := by
  by_cases h : ∃ t ∈ xNames ++ regUses, t.data.toList = s.data.toList
  · obtain ⟨t, ht, he⟩ := h
    obtain rfl : t = s := ByteArray.ext (Array.ext' he)
    exact known_all t ht
  · have h1 : ∀ x ∈ xNames, x.data.toList ≠ s.data.toList := fun x hx e => h ⟨x, List.mem_append_left _ hx, e⟩
    have h2 : ∀ x ∈ regUses, x.data.toList ≠ s.data.toList := fun x hx e => h ⟨x, List.mem_append_right _ hx, e⟩
    rw [idx_none s _ 0 h1, idx_none s _ 0 h2, idx2_none s _ _ 0 h1 h2]
    simp
theorem RegParses : spinnakerlaw02_RegParses.Pure := by
  intro s hs
  refine ⟨200, ?_⟩
  unfold spinnakerlaw02_RegParses.f
  rw [awake02 200 (by decide)]
  by_cases hz : (s.size : Int) > 100
  · rw [if_pos hz]; rfl
  · rw [if_neg hz, parse_f 200 s (by decide)]
    have hr : spinnakerref02_Parse.f 200 s = some (idx2 s xNames regUses 0) := by
      unfold spinnakerref02_Parse.f
      have := ref_parse_l s 32 200 0 rfl (by omega) (by omega)
      rw [show ((0 : Nat) : Int) = 0 from rfl, List.drop_zero, List.drop_zero] at this
      exact this
    rw [hr]
    simp only [Option.bind_some]
    obtain ⟨h1, h2⟩ := both s
    by_cases hj : idx s xNames 0 = -1
    · rw [if_pos hj, h2 hj]
      simp only
      rw [if_pos (by simp)]
      by_cases hu : idx s regUses 0 ≥ 0
      · rw [if_pos (by simpa using hu), if_pos (by unfold mx; rw [if_neg (by omega)])]
      · rw [if_neg (by simpa using hu), if_pos (by unfold mx; rw [if_pos (by omega)])]
    · obtain ⟨h3, h4⟩ := h1 hj
      rw [if_neg hj, h3]
      simp only
      rw [if_pos (by simp; omega)]
      simp

end Go.Proofs.YtbmjbidekmkboaaDoor.Pure
