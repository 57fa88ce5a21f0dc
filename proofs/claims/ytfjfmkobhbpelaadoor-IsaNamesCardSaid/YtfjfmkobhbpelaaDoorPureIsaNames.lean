/- An operation's name and form are the document's, for every number, and the name leads back to the operation; the listed table isa.names is tied to the program's text; no other condition. -/
import Derived.Test.YtfjfmkobhbpelaaDoorGIsaNamesx2
namespace Go.Proofs.YtfjfmkobhbpelaaDoor.Pure
open Go.RowKit Go.Proofs.YtfjfmkobhbpelaaDoor.GIsaNames Go.Proofs.YtfjfmkobhbpelaaDoorW.PrintWords Go.Proofs.YtfjfmkobhbpelaaDoorW.PrintLast Go.Proofs.YtfjfmkobhbpelaaDoorW.PrintMore
set_option linter.unusedVariables false
set_option linter.unusedSimpArgs false
attribute [local irreducible] shl shr

theorem toList_d (s : ByteArray) : s.toList = s.data.toList := ByteArray.toList_eq s
theorem name_in {a : Int} (h : 1 ≤ a ∧ a ≤ 87) : isa_Name.f a = some (rdOf ByteArray.empty isaNames a) := by
  unfold isa_Name.f; rw [if_pos h]
theorem name_out {a : Int} (h : ¬ (1 ≤ a ∧ a ≤ 87)) : isa_Name.f a = some (⟨#[]⟩ : ByteArray) := by
  unfold isa_Name.f; rw [if_neg h]
theorem name_ne {a : Int} (h : 1 ≤ a ∧ a ≤ 87) : ¬ (rdOf ByteArray.empty isaNames a).toList = ([] : List UInt8) := by
  rw [toList_d]
  obtain ⟨n, rfl⟩ := Int.eq_ofNat_of_zero_le (show 0 ≤ a by omega)
  have hn : n < 88 := by omega
  have h1 := h.1
  clear h
  revert h1; revert hn; revert n
  decide +kernel
theorem nil_d : (⟨#[]⟩ : ByteArray).toList = ([] : List UInt8) := by rw [toList_d]
/-- An operation's form, plainly. -/
def formOf (a : Int) : Int :=
  if ¬ (1 ≤ a ∧ a ≤ 87) then -1 else if a ≤ 2 then 1 else if a = 3 then 2 else if 5 ≤ a ∧ a ≤ 10 then 4 else if 18 ≤ a ∧ a ≤ 21 then 5
  else if 35 ≤ a ∧ a ≤ 62 then 6 else if 28 ≤ a ∧ a ≤ 30 then 7 else if 32 ≤ a ∧ a ≤ 34 then 8 else if a = 63 then 9 else if a = 64 ∨ a = 65 then 0
  else if a = 66 ∨ a = 77 then 10 else if a > 66 then 11 else 3
theorem form_f {a : Int} (k : Nat) (hk : 10 ≤ k) : isa_Form.f k a = some (formOf a) := by
  by_cases h : 1 ≤ a ∧ a ≤ 87
  · refine at_rounds (fun k => isa_Form.mono a k) hk ?_
    unfold isa_Form.f
    rw [name_in h]
    simp only [Option.bind_some]
    rw [if_neg (name_ne h)]
    obtain ⟨n, rfl⟩ := Int.eq_ofNat_of_zero_le (show 0 ≤ a by omega)
    have hn : n < 88 := by omega
    have h1 := h.1
    clear h hk
    revert h1; revert hn; revert n
    decide +kernel
  · unfold isa_Form.f formOf
    rw [name_out h, if_pos h]
    simp only [Option.bind_some]
    rw [if_pos nil_d]

/-- The first place, from i on, of a text in a list of texts; -1: there is none. -/
def idx (s : ByteArray) : List ByteArray → Int → Int
  | [], _ => -1
  | x :: t, i => if s.data.toList = x.data.toList then i else idx s t (i + 1)
theorem index_f (s : ByteArray) (l : List ByteArray) (hl : l.length < 1000) (d : Nat) : ∀ (k i : Nat), l.length - i = d → i ≤ l.length → d < k →
    slices_Index_string_string.l0 k l s l.length i = some (idx s (l.drop i) i) := by
  induction d with
  | zero =>
    intro k i hd hi hk
    obtain ⟨k, rfl⟩ : ∃ m, k = m + 1 := ⟨k - 1, by omega⟩
    simp only [slices_Index_string_string.l0]
    rw [if_neg (by omega), List.drop_of_length_le (by omega)]; rfl
  | succ d ih =>
    intro k i hd hi hk
    obtain ⟨k, rfl⟩ : ∃ m, k = m + 1 := ⟨k - 1, by omega⟩
    simp only [slices_Index_string_string.l0]
    rw [if_pos (by omega), if_pos (by omega), if_pos (by omega), toList_d, toList_d, List.drop_eq_getElem_cons (show i < l.length by omega)]
    have e : rdOf ByteArray.empty l (i : Int) = l[i] := by unfold rdOf; simp [show i < l.length by omega]
    simp only [idx]
    rw [e]
    by_cases he : s.data.toList = l[i].data.toList
    · rw [if_pos he, if_pos he]
    · rw [if_neg he, if_neg he, show wrap64 ((i : Int) + 1) = ((i + 1 : Nat) : Int) from by unfold wrap64; omega, ih k (i + 1) (by omega) (by omega) (by omega)]
      rfl
theorem isaIndex_eq (s : ByteArray) : isaIndex s = idx s isaNames 0 := by
  unfold isaIndex slices_Index_string_string.f
  have := index_f s isaNames (by rw [isaNames_length]; decide) 88 100 0 (by rw [isaNames_length]) (by omega) (by omega)
  rw [show ((0 : Nat) : Int) = 0 from rfl] at this
  rw [this]; rfl
theorem find_f (s : ByteArray) : isa_Find.f s = some (if 0 < idx s isaNames 0 then (idx s isaNames 0, true) else (0, false)) := by
  unfold isa_Find.f; rw [isaIndex_eq]
theorem find_name {a : Int} (h : 1 ≤ a ∧ a ≤ 87) : isa_Find.f (rdOf ByteArray.empty isaNames a) = some (a, true) := by
  rw [find_f]
  have e : idx (rdOf ByteArray.empty isaNames a) isaNames 0 = a := by
    obtain ⟨n, rfl⟩ := Int.eq_ofNat_of_zero_le (show 0 ≤ a by omega)
    have hn : n < 88 := by omega
    have h1 := h.1
    clear h
    revert h1; revert hn; revert n
    decide +kernel
  rw [e, if_pos (by omega)]
theorem find_nil : isa_Find.f (⟨#[]⟩ : ByteArray) = some (0, false) := by
  rw [find_f, show idx (⟨#[]⟩ : ByteArray) isaNames 0 = 0 from by decide +kernel]; rfl
theorem awake03 (k : Nat) (hk : 10 ≤ k) : spinnakerlaw03_awake.f k = some true := by
  unfold spinnakerlaw03_awake.f
  rw [find_f, show idx (⟨#[97, 109, 111, 97, 100, 100, 46, 100]⟩ : ByteArray) isaNames 0 = 80 from by decide +kernel]
  simp only [Option.bind_some, show (0 : Int) < 80 from by decide, if_true]
  rw [form_f k hk]
  rfl

theorem ref_name_in {a : Int} (h : 1 ≤ a ∧ a ≤ 87) : spinnakerref03_Name.f a = some (rdOf ByteArray.empty isaNames a) := by
  unfold spinnakerref03_Name.f
  rw [if_neg (by omega), if_neg (by omega)]
  obtain ⟨n, rfl⟩ := Int.eq_ofNat_of_zero_le (show 0 ≤ a by omega)
  have hn : n < 88 := by omega
  have h1 := h.1
  clear h
  revert h1; revert hn; revert n
  decide +kernel
theorem ref_name_out {a : Int} (h : ¬ (1 ≤ a ∧ a ≤ 87)) : spinnakerref03_Name.f a = some (⟨#[]⟩ : ByteArray) := by
  unfold spinnakerref03_Name.f
  by_cases h1 : a < 1
  · rw [if_pos h1]
  · rw [if_neg h1, if_pos (by omega)]
theorem ref_form {a : Int} : spinnakerref03_Form.f a = some (formOf a) := by
  unfold spinnakerref03_Form.f
  by_cases h : 1 ≤ a ∧ a ≤ 87
  · unfold spinnakerref03_letter.f
    obtain ⟨n, rfl⟩ := Int.eq_ofNat_of_zero_le (show 0 ≤ a by omega)
    have hn : n < 88 := by omega
    have h1 := h.1
    clear h
    revert h1; revert hn; revert n
    decide +kernel
  · have e : spinnakerref03_letter.f a = some 0 := by
      unfold spinnakerref03_letter.f
      by_cases h1 : a < 1
      · rw [if_pos h1]
      · rw [if_neg h1, if_pos (by omega)]
    rw [e]; unfold formOf; rw [if_pos h]; rfl
theorem IsaNames : spinnakerlaw03_IsaNames.Pure := by
  intro a ha
  refine ⟨200, ?_⟩
  unfold spinnakerlaw03_IsaNames.f
  rw [form_f 200 (by decide), ref_form]
  by_cases h : 1 ≤ a ∧ a ≤ 87
  · rw [name_in h, ref_name_in h]
    simp only [Option.bind_some, if_true, bne_self_eq_false]
    simp only [spinnakerlaw03_IsaNames.j0]
    rw [if_neg (by decide), find_name h]
    simp only [Option.bind_some]
    rw [if_pos (by simp [name_ne h]), awake03 199 (by decide)]
    simp
  · rw [name_out h, ref_name_out h]
    simp only [Option.bind_some, if_true, bne_self_eq_false]
    simp only [spinnakerlaw03_IsaNames.j0]
    rw [if_neg (by decide), find_nil]
    simp only [Option.bind_some]
    rw [if_pos (by rw [nil_d]; rfl), if_neg (by decide), awake03 199 (by decide)]
    rfl

end Go.Proofs.YtfjfmkobhbpelaaDoor.Pure
