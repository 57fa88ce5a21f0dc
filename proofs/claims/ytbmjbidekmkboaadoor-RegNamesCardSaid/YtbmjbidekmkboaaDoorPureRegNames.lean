/- Both names of every register are the document's and are parsed as this register; the listed tables are tied to the program's text; no other condition. -/
import Derived.Test.YtbmjbidekmkboaaDoorGRegNamesx2
namespace Go.Proofs.YtbmjbidekmkboaaDoor.Pure
open Go.RowKit Go.Proofs.YtbmjbidekmkboaaDoor.GRegNames Go.Proofs.YtbmjbidekmkboaaDoorW.PrintWords Go.Proofs.YtbmjbidekmkboaaDoorW.PrintLast Go.Proofs.YtbmjbidekmkboaaDoorW.PrintMore
set_option linter.unusedVariables false
set_option linter.unusedSimpArgs false
attribute [local irreducible] shl shr

theorem toList_d (s : ByteArray) : s.toList = s.data.toList := ByteArray.toList_eq s
/-- The first place, from i on, of a text in a list of texts; -1: there is none. -/
def idx (s : ByteArray) : List ByteArray → Int → Int
  | [], _ => -1
  | x :: t, i => if s.data.toList = x.data.toList then i else idx s t (i + 1)
theorem index_f (s : ByteArray) (l : List ByteArray) (hl : l.length < 1000) (d : Nat) : ∀ (k i : Nat), l.length - i = d → i ≤ l.length → d < k →
    slices_Index_string_string.l0 k l s l.length i = some (idx s (l.drop i) i) := by
  induction d with
  | zero =>
    intro k i hd hi hk
    obtain ⟨k, rfl⟩ : ∃ m, k = m + 1 := ⟨k - 1, by omega⟩
    simp only [slices_Index_string_string.l0]
    rw [if_neg (by omega), List.drop_of_length_le (by omega)]; rfl
  | succ d ih =>
    intro k i hd hi hk
    obtain ⟨k, rfl⟩ : ∃ m, k = m + 1 := ⟨k - 1, by omega⟩
    simp only [slices_Index_string_string.l0]
    rw [if_pos (by omega), if_pos (by omega), if_pos (by omega), toList_d, toList_d, List.drop_eq_getElem_cons (show i < l.length by omega)]
    have e : rdOf ByteArray.empty l (i : Int) = l[i] := by unfold rdOf; simp [show i < l.length by omega]
    simp only [idx]
    rw [e]
    by_cases he : s.data.toList = l[i].data.toList
    · rw [if_pos he, if_pos he]
    · rw [if_neg he, if_neg he, show wrap64 ((i : Int) + 1) = ((i + 1 : Nat) : Int) from by unfold wrap64; omega, ih k (i + 1) (by omega) (by omega) (by omega)]
      rfl
theorem regIdx_eq (s : ByteArray) : regIdx s = idx s regUses 0 := by
  unfold regIdx slices_Index_string_string.f
  have := index_f s regUses (by rw [regUses_length]; decide) 32 100 0 (by rw [regUses_length]) (by omega) (by omega)
  rw [show ((0 : Nat) : Int) = 0 from rfl] at this
  rw [this]; rfl
/-- The plain names. -/
def xNames : List ByteArray := (List.range 32).map fun (r : Nat) => (reg_Name.f (r : Int)).getD ⟨#[]⟩
theorem xNames_length : xNames.length = 32 := by simp [xNames]
theorem name_at (n : Nat) (hn : n < 32) : reg_Name.f (n : Int) = some (rdOf ByteArray.empty xNames n) := by
  revert hn; revert n; decide +kernel
theorem parse_l (s : ByteArray) (d : Nat) : ∀ (k i : Nat), 32 - i = d → i ≤ 32 → d < k →
    reg_Parse.l0 k s i = some (if idx s (xNames.drop i) i = -1 then (mx (regIdx s) 0, decide (regIdx s ≥ 0)) else (idx s (xNames.drop i) i, true)) := by
  have hl := xNames_length
  induction d with
  | zero =>
    intro k i hd hi hk
    obtain ⟨k, rfl⟩ : ∃ m, k = m + 1 := ⟨k - 1, by omega⟩
    simp only [reg_Parse.l0]
    rw [if_neg (by omega), List.drop_of_length_le (by omega)]
    rfl
  | succ d ih =>
    intro k i hd hi hk
    obtain ⟨k, rfl⟩ : ∃ m, k = m + 1 := ⟨k - 1, by omega⟩
    simp only [reg_Parse.l0]
    rw [if_pos (by omega), name_at i (by omega)]
    simp only [Option.bind_some]
    have e : rdOf ByteArray.empty xNames (i : Int) = xNames[i] := by unfold rdOf; simp [show i < xNames.length by omega]
    rw [e, toList_d, toList_d, List.drop_eq_getElem_cons (show i < xNames.length by omega)]
    by_cases he : s.data.toList = xNames[i].data.toList
    · have e2 : idx s (xNames[i] :: List.drop (i + 1) xNames) i = i := by simp only [idx]; rw [if_pos he]
      rw [if_pos he.symm]; simp only [e2]; rw [if_neg (by omega)]
    · have e2 : idx s (xNames[i] :: List.drop (i + 1) xNames) i = idx s (List.drop (i + 1) xNames) ((i + 1 : Nat) : Int) := by simp only [idx]; rw [if_neg he]; rfl
      rw [if_neg (fun h => he h.symm), show wrap64 ((i : Int) + 1) = ((i + 1 : Nat) : Int) from by unfold wrap64; omega, ih k (i + 1) (by omega) (by omega) (by omega)]
      simp only [e2]
theorem parse_f (k : Nat) (s : ByteArray) (hk : 40 ≤ k) :
    reg_Parse.f k s = some (if idx s xNames 0 = -1 then (mx (idx s regUses 0) 0, decide (idx s regUses 0 ≥ 0)) else (idx s xNames 0, true)) := by
  unfold reg_Parse.f
  have := parse_l s 32 k 0 rfl (by omega) (by omega)
  rw [show ((0 : Nat) : Int) = 0 from rfl, List.drop_zero, regIdx_eq] at this
  exact this
theorem awake02_of (k : Nat) (hk : 40 ≤ k) : reg_Of.f k (([3, 1, 40] : List Int)) = some 10 := by
  refine at_rounds (fun k => reg_Of.mono _ k) hk ?_
  decide +kernel
theorem awake02 (k : Nat) (hk : 40 ≤ k) : spinnakerlaw02_awake.f k = some true := by
  unfold spinnakerlaw02_awake.f
  rw [parse_f k _ hk, awake02_of k hk, show idx (⟨#[97, 48]⟩ : ByteArray) xNames 0 = -1 from by decide +kernel, show idx (⟨#[97, 48]⟩ : ByteArray) regUses 0 = 10 from by decide +kernel]
  decide +kernel
theorem name_out {a : Int} (h : ¬ (0 ≤ a ∧ a < 32)) : reg_Name.f a = some (⟨#[]⟩ : ByteArray) := by unfold reg_Name.f; rw [if_neg h]

theorem ref_name_at (n : Nat) (hn : n < 32) : spinnakerref02_Name.f (n : Int) = some (rdOf ByteArray.empty xNames n) := by
  revert hn; revert n; decide +kernel
theorem ref_use_at (k n : Nat) (hk : 5 ≤ k) (hn : n < 32) : spinnakerref02_Use.f k (n : Int) = some (rdOf ByteArray.empty regUses n) := by
  refine at_rounds (fun k => spinnakerref02_Use.mono _ k) hk ?_
  revert hn; revert n; decide +kernel

theorem use_f (a : Int) : reg_Use.f a = some (if 0 ≤ a ∧ a < 32 then rdOf ByteArray.empty regUses a else (⟨#[]⟩ : ByteArray)) := rfl
theorem RegNames : spinnakerlaw02_RegNames.Pure := by
  intro a ha
  refine ⟨200, ?_⟩
  unfold spinnakerlaw02_RegNames.f
  by_cases h : 0 ≤ a ∧ a < 32
  · obtain ⟨n, rfl⟩ := Int.eq_ofNat_of_zero_le h.1
    have hn : n < 32 := by omega
    rw [name_at n hn, use_f, if_pos h, ref_name_at n hn, ref_use_at 200 n (by decide) hn]
    simp only [Option.bind_some, if_true, bne_self_eq_false]
    simp only [spinnakerlaw02_RegNames.j0]
    rw [if_neg (by decide), if_neg (by omega), decide_eq_false (by omega)]
    simp only [spinnakerlaw02_RegNames.j1]
    rw [if_neg (by decide), parse_f 198 _ (by decide), parse_f 198 _ (by decide), awake02 198 (by decide)]
    clear ha h
    revert hn; revert n
    decide +kernel
  · rw [name_out h, use_f, if_neg h]
    have e1 : spinnakerref02_Name.f a = some (⟨#[]⟩ : ByteArray) := by
      unfold spinnakerref02_Name.f
      by_cases h1 : a < 0
      · rw [if_pos h1]
      · rw [if_neg h1, if_pos (by omega)]
    have e2 : spinnakerref02_Use.f 200 a = some (⟨#[]⟩ : ByteArray) := by
      unfold spinnakerref02_Use.f
      by_cases h1 : a < 0
      · rw [if_pos h1]; simp only [spinnakerref02_Use.j0, if_true]
      · rw [if_neg h1, decide_eq_true (by omega)]; simp only [spinnakerref02_Use.j0, if_true]
    rw [e1, e2]
    simp only [Option.bind_some, if_true, bne_self_eq_false]
    simp only [spinnakerlaw02_RegNames.j0]
    rw [if_neg (by decide)]
    have e : ∀ t, t = true → spinnakerlaw02_RegNames.j1 199 a (⟨#[]⟩ : ByteArray) (⟨#[]⟩ : ByteArray) t = some true := by
      rintro t rfl
      simp only [spinnakerlaw02_RegNames.j1, if_true]
      rw [awake02 198 (by decide)]; rfl
    by_cases h1 : a < 0
    · rw [if_pos h1]; exact e _ rfl
    · rw [if_neg h1]; exact e _ (by simp; omega)

end Go.Proofs.YtbmjbidekmkboaaDoor.Pure
