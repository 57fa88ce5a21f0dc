/- Find answers the document's operation of every text, or false; the listed table isa.names is tied to the program's text; no other condition. -/
import Derived.Test.YtfjfmkobhbpelaaDoorGIsaFindsx2
namespace Go.Proofs.YtfjfmkobhbpelaaDoor.Pure
open Go.RowKit Go.Proofs.YtfjfmkobhbpelaaDoor.GIsaFinds Go.Proofs.YtfjfmkobhbpelaaDoorW.PrintWords Go.Proofs.YtfjfmkobhbpelaaDoorW.PrintLast Go.Proofs.YtfjfmkobhbpelaaDoorW.PrintMore
set_option linter.unusedVariables false
set_option linter.unusedSimpArgs false
attribute [local irreducible] shl shr

theorem toList_d (s : ByteArray) : s.toList = s.data.toList := ByteArray.toList_eq s
theorem name_in {a : Int} (h : 1 ≤ a ∧ a ≤ 87) : isa_Name.f a = some (rdOf ByteArray.empty isaNames a) := by
  unfold isa_Name.f; rw [if_pos h]
theorem name_out {a : Int} (h : ¬ (1 ≤ a ∧ a ≤ 87)) : isa_Name.f a = some (⟨#[]⟩ : ByteArray) := by
  unfold isa_Name.f; rw [if_neg h]
theorem name_ne {a : Int} (h : 1 ≤ a ∧ a ≤ 87) : ¬ (rdOf ByteArray.empty isaNames a).toList = ([] : List UInt8) := by
  rw [toList_d]
  obtain ⟨n, rfl⟩ := Int.eq_ofNat_of_zero_le (show 0 ≤ a by omega)
  have hn : n < 88 := by omega
  have h1 := h.1
  clear h
  revert h1; revert hn; revert n
  decide +kernel
theorem nil_d : (⟨#[]⟩ : ByteArray).toList = ([] : List UInt8) := by rw [toList_d]
/-- An operation's form, plainly. -/
def formOf (a : Int) : Int :=
  if ¬ (1 ≤ a ∧ a ≤ 87) then -1 else if a ≤ 2 then 1 else if a = 3 then 2 else if 5 ≤ a ∧ a ≤ 10 then 4 else if 18 ≤ a ∧ a ≤ 21 then 5
  else if 35 ≤ a ∧ a ≤ 62 then 6 else if 28 ≤ a ∧ a ≤ 30 then 7 else if 32 ≤ a ∧ a ≤ 34 then 8 else if a = 63 then 9 else if a = 64 ∨ a = 65 then 0
  else if a = 66 ∨ a = 77 then 10 else if a > 66 then 11 else 3
theorem form_f {a : Int} (k : Nat) (hk : 10 ≤ k) : isa_Form.f k a = some (formOf a) := by
  by_cases h : 1 ≤ a ∧ a ≤ 87
  · refine at_rounds (fun k => isa_Form.mono a k) hk ?_
    unfold isa_Form.f
    rw [name_in h]
    simp only [Option.bind_some]
    rw [if_neg (name_ne h)]
    obtain ⟨n, rfl⟩ := Int.eq_ofNat_of_zero_le (show 0 ≤ a by omega)
    have hn : n < 88 := by omega
    have h1 := h.1
    clear h hk
    revert h1; revert hn; revert n
    decide +kernel
  · unfold isa_Form.f formOf
    rw [name_out h, if_pos h]
    simp only [Option.bind_some]
    rw [if_pos nil_d]

/-- The first place, from i on, of a text in a list of texts; -1: there is none. -/
def idx (s : ByteArray) : List ByteArray → Int → Int
  | [], _ => -1
  | x :: t, i => if s.data.toList = x.data.toList then i else idx s t (i + 1)
theorem index_f (s : ByteArray) (l : List ByteArray) (hl : l.length < 1000) (d : Nat) : ∀ (k i : Nat), l.length - i = d → i ≤ l.length → d < k →
    slices_Index_string_string.l0 k l s l.length i = some (idx s (l.drop i) i) := by
  induction d with
  | zero =>
    intro k i hd hi hk
    obtain ⟨k, rfl⟩ : ∃ m, k = m + 1 := ⟨k - 1, by omega⟩
    simp only [slices_Index_string_string.l0]
    rw [if_neg (by omega), List.drop_of_length_le (by omega)]; rfl
  | succ d ih =>
    intro k i hd hi hk
    obtain ⟨k, rfl⟩ : ∃ m, k = m + 1 := ⟨k - 1, by omega⟩
    simp only [slices_Index_string_string.l0]
    rw [if_pos (by omega), if_pos (by omega), if_pos (by omega), toList_d, toList_d, List.drop_eq_getElem_cons (show i < l.length by omega)]
    have e : rdOf ByteArray.empty l (i : Int) = l[i] := by unfold rdOf; simp [show i < l.length by omega]
    simp only [idx]
    rw [e]
    by_cases he : s.data.toList = l[i].data.toList
    · rw [if_pos he, if_pos he]
    · rw [if_neg he, if_neg he, show wrap64 ((i : Int) + 1) = ((i + 1 : Nat) : Int) from by unfold wrap64; omega, ih k (i + 1) (by omega) (by omega) (by omega)]
      rfl
theorem isaIndex_eq (s : ByteArray) : isaIndex s = idx s isaNames 0 := by
  unfold isaIndex slices_Index_string_string.f
  have := index_f s isaNames (by rw [isaNames_length]; decide) 88 100 0 (by rw [isaNames_length]) (by omega) (by omega)
  rw [show ((0 : Nat) : Int) = 0 from rfl] at this
  rw [this]; rfl
theorem find_f (s : ByteArray) : isa_Find.f s = some (if 0 < idx s isaNames 0 then (idx s isaNames 0, true) else (0, false)) := by
  unfold isa_Find.f; rw [isaIndex_eq]
theorem find_name {a : Int} (h : 1 ≤ a ∧ a ≤ 87) : isa_Find.f (rdOf ByteArray.empty isaNames a) = some (a, true) := by
  rw [find_f]
  have e : idx (rdOf ByteArray.empty isaNames a) isaNames 0 = a := by
    obtain ⟨n, rfl⟩ := Int.eq_ofNat_of_zero_le (show 0 ≤ a by omega)
    have hn : n < 88 := by omega
    have h1 := h.1
    clear h
    revert h1; revert hn; revert n
    decide +kernel
  rw [e, if_pos (by omega)]
theorem find_nil : isa_Find.f (⟨#[]⟩ : ByteArray) = some (0, false) := by
  rw [find_f, show idx (⟨#[]⟩ : ByteArray) isaNames 0 = 0 from by decide +kernel]; rfl
theorem awake03 (k : Nat) (hk : 10 ≤ k) : spinnakerlaw03_awake.f k = some true := by
  unfold spinnakerlaw03_awake.f
  rw [find_f, show idx (⟨#[97, 109, 111, 97, 100, 100, 46, 100]⟩ : ByteArray) isaNames 0 = 80 from by decide +kernel]
  simp only [Option.bind_some, show (0 : Int) < 80 from by decide, if_true]
  rw [form_f k hk]
  rfl

theorem idx_ge (s : ByteArray) : ∀ (l : List ByteArray) (i : Int), idx s l i = -1 ∨ i ≤ idx s l i
  | [], i => .inl rfl
  | x :: t, i => by
    simp only [idx]
    split
    · exact .inr (by omega)
    · rcases idx_ge s t (i + 1) with h | h
      · exact .inl h
      · exact .inr (by omega)
theorem ref_find_l (s : ByteArray) (l : List ByteArray) (hl : l.length < 1000) (d : Nat) : ∀ (k i : Nat), l.length - i = d → i ≤ l.length → d < k →
    spinnakerref03_Find.l0 k s l i = some (if idx s (l.drop i) (i + 1) = -1 then 0 else idx s (l.drop i) (i + 1)) := by
  induction d with
  | zero =>
    intro k i hd hi hk
    obtain ⟨k, rfl⟩ : ∃ m, k = m + 1 := ⟨k - 1, by omega⟩
    simp only [spinnakerref03_Find.l0]
    rw [if_neg (by omega), List.drop_of_length_le (by omega)]; rfl
  | succ d ih =>
    intro k i hd hi hk
    obtain ⟨k, rfl⟩ : ∃ m, k = m + 1 := ⟨k - 1, by omega⟩
    simp only [spinnakerref03_Find.l0]
    rw [if_pos (by omega), if_pos (by omega), toList_d, toList_d, List.drop_eq_getElem_cons (show i < l.length by omega)]
    have e : rdOf ByteArray.empty l (i : Int) = l[i] := by unfold rdOf; simp [show i < l.length by omega]
    rw [e, show wrap64 ((i : Int) + 1) = ((i + 1 : Nat) : Int) from by unfold wrap64; omega]
    by_cases he : l[i].data.toList = s.data.toList
    · have e2 : idx s (l[i] :: List.drop (i + 1) l) ((i : Int) + 1) = (i : Int) + 1 := by simp only [idx]; rw [if_pos he.symm]
      rw [if_pos he]; simp only [e2]; rw [if_neg (by omega)]; rfl
    · have e2 : idx s (l[i] :: List.drop (i + 1) l) ((i : Int) + 1) = idx s (List.drop (i + 1) l) ((i + 1 : Nat) + 1) := by simp only [idx]; rw [if_neg (fun h => he h.symm)]; rfl
      rw [if_neg he, ih k (i + 1) (by omega) (by omega) (by omega)]; simp only [e2]
theorem IsaFinds : spinnakerlaw03_IsaFinds.Pure := by
  intro s hs
  refine ⟨200, ?_⟩
  unfold spinnakerlaw03_IsaFinds.f
  rw [awake03 200 (by decide)]
  by_cases hz : (s.size : Int) > 100
  · rw [if_pos hz]; rfl
  · rw [if_neg hz, find_f]
    obtain ⟨l, hl, hn, hc⟩ : ∃ l, spinnakerref03_Names.f = some l ∧ l.length < 100 ∧ isaNames = (⟨#[]⟩ : ByteArray) :: l := ⟨_, rfl, by decide +kernel, by unfold isaNames; rfl⟩
    have hr : spinnakerref03_Find.f 200 s = some (if idx s l 1 = -1 then 0 else idx s l 1) := by
      unfold spinnakerref03_Find.f
      rw [hl]
      simp only [Option.bind_some]
      exact ref_find_l s l (by omega) l.length 200 0 (by omega) (by omega) (by omega)
    rw [hr]
    simp only [Option.bind_some]
    have hi : idx s isaNames 0 = if s.data.toList = [] then 0 else idx s l 1 := by rw [hc]; rfl
    by_cases he : s.data.toList = []
    · have e1 : idx s l 1 = -1 := by
        have e2 : ∀ i, idx s l i = idx (⟨#[]⟩ : ByteArray) l i := by
          intro i
          have : s = (⟨#[]⟩ : ByteArray) := ByteArray.ext (Array.ext' he)
          rw [this]
        rw [e2, ← Option.some.inj hl]
        decide +kernel
      rw [hi, if_pos he, e1]; rfl
    · rw [hi, if_neg he]
      rcases idx_ge s l 1 with h | h
      · rw [h]; rfl
      · rw [if_pos (show 0 < idx s l 1 by omega), if_neg (show ¬ idx s l 1 = -1 by omega)]
        simp only [if_true]
        rw [if_pos (by simp; omega)]

end Go.Proofs.YtfjfmkobhbpelaaDoor.Pure
