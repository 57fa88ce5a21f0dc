/- Access, Wide and Branch are right for every number of an operation; the listed table isa.names is tied to the program's text; no other condition. -/
import Derived.Test.YtfjfmkobhbpelaaDoorGIsaKindsx3
namespace Go.Proofs.YtfjfmkobhbpelaaDoor.Pure
open Go.RowKit Go.Proofs.YtfjfmkobhbpelaaDoor.GIsaKinds Go.Proofs.YtfjfmkobhbpelaaDoorW.PrintWords Go.Proofs.YtfjfmkobhbpelaaDoorW.PrintLast Go.Proofs.YtfjfmkobhbpelaaDoorW.PrintMore
set_option linter.unusedVariables false
set_option linter.unusedSimpArgs false
attribute [local irreducible] shl shr

theorem toList_d (s : ByteArray) : s.toList = s.data.toList := ByteArray.toList_eq s
theorem name_in {a : Int} (h : 1 ≤ a ∧ a ≤ 87) : isa_Name.f a = some (rdOf ByteArray.empty isaNames a) := by
  unfold isa_Name.f; rw [if_pos h]
theorem name_out {a : Int} (h : ¬ (1 ≤ a ∧ a ≤ 87)) : isa_Name.f a = some (⟨#[]⟩ : ByteArray) := by
  unfold isa_Name.f; rw [if_neg h]
theorem name_ne {a : Int} (h : 1 ≤ a ∧ a ≤ 87) : ¬ (rdOf ByteArray.empty isaNames a).toList = ([] : List UInt8) := by
  rw [toList_d]
  obtain ⟨n, rfl⟩ := Int.eq_ofNat_of_zero_le (show 0 ≤ a by omega)
  have hn : n < 88 := by omega
  have h1 := h.1
  clear h
  revert h1; revert hn; revert n
  decide +kernel
theorem nil_d : (⟨#[]⟩ : ByteArray).toList = ([] : List UInt8) := by rw [toList_d]
/-- An operation's form, plainly. -/
def formOf (a : Int) : Int :=
  if ¬ (1 ≤ a ∧ a ≤ 87) then -1 else if a ≤ 2 then 1 else if a = 3 then 2 else if 5 ≤ a ∧ a ≤ 10 then 4 else if 18 ≤ a ∧ a ≤ 21 then 5
  else if 35 ≤ a ∧ a ≤ 62 then 6 else if 28 ≤ a ∧ a ≤ 30 then 7 else if 32 ≤ a ∧ a ≤ 34 then 8 else if a = 63 then 9 else if a = 64 ∨ a = 65 then 0
  else if a = 66 ∨ a = 77 then 10 else if a > 66 then 11 else 3
theorem form_f {a : Int} (k : Nat) (hk : 10 ≤ k) : isa_Form.f k a = some (formOf a) := by
  by_cases h : 1 ≤ a ∧ a ≤ 87
  · refine at_rounds (fun k => isa_Form.mono a k) hk ?_
    unfold isa_Form.f
    rw [name_in h]
    simp only [Option.bind_some]
    rw [if_neg (name_ne h)]
    obtain ⟨n, rfl⟩ := Int.eq_ofNat_of_zero_le (show 0 ≤ a by omega)
    have hn : n < 88 := by omega
    have h1 := h.1
    clear h hk
    revert h1; revert hn; revert n
    decide +kernel
  · unfold isa_Form.f formOf
    rw [name_out h, if_pos h]
    simp only [Option.bind_some]
    rw [if_pos nil_d]

/-- The first place, from i on, of a text in a list of texts; -1: there is none. -/
def idx (s : ByteArray) : List ByteArray → Int → Int
  | [], _ => -1
  | x :: t, i => if s.data.toList = x.data.toList then i else idx s t (i + 1)
theorem index_f (s : ByteArray) (l : List ByteArray) (hl : l.length < 1000) (d : Nat) : ∀ (k i : Nat), l.length - i = d → i ≤ l.length → d < k →
    slices_Index_string_string.l0 k l s l.length i = some (idx s (l.drop i) i) := by
  induction d with
  | zero =>
    intro k i hd hi hk
    obtain ⟨k, rfl⟩ : ∃ m, k = m + 1 := ⟨k - 1, by omega⟩
    simp only [slices_Index_string_string.l0]
    rw [if_neg (by omega), List.drop_of_length_le (by omega)]; rfl
  | succ d ih =>
    intro k i hd hi hk
    obtain ⟨k, rfl⟩ : ∃ m, k = m + 1 := ⟨k - 1, by omega⟩
    simp only [slices_Index_string_string.l0]
    rw [if_pos (by omega), if_pos (by omega), if_pos (by omega), toList_d, toList_d, List.drop_eq_getElem_cons (show i < l.length by omega)]
    have e : rdOf ByteArray.empty l (i : Int) = l[i] := by unfold rdOf; simp [show i < l.length by omega]
    simp only [idx]
    rw [e]
    by_cases he : s.data.toList = l[i].data.toList
    · rw [if_pos he, if_pos he]
    · rw [if_neg he, if_neg he, show wrap64 ((i : Int) + 1) = ((i + 1 : Nat) : Int) from by unfold wrap64; omega, ih k (i + 1) (by omega) (by omega) (by omega)]
      rfl
theorem isaIndex_eq (s : ByteArray) : isaIndex s = idx s isaNames 0 := by
  unfold isaIndex slices_Index_string_string.f
  have := index_f s isaNames (by rw [isaNames_length]; decide) 88 100 0 (by rw [isaNames_length]) (by omega) (by omega)
  rw [show ((0 : Nat) : Int) = 0 from rfl] at this
  rw [this]; rfl
theorem find_f (s : ByteArray) : isa_Find.f s = some (if 0 < idx s isaNames 0 then (idx s isaNames 0, true) else (0, false)) := by
  unfold isa_Find.f; rw [isaIndex_eq]
theorem find_name {a : Int} (h : 1 ≤ a ∧ a ≤ 87) : isa_Find.f (rdOf ByteArray.empty isaNames a) = some (a, true) := by
  rw [find_f]
  have e : idx (rdOf ByteArray.empty isaNames a) isaNames 0 = a := by
    obtain ⟨n, rfl⟩ := Int.eq_ofNat_of_zero_le (show 0 ≤ a by omega)
    have hn : n < 88 := by omega
    have h1 := h.1
    clear h
    revert h1; revert hn; revert n
    decide +kernel
  rw [e, if_pos (by omega)]
theorem find_nil : isa_Find.f (⟨#[]⟩ : ByteArray) = some (0, false) := by
  rw [find_f, show idx (⟨#[]⟩ : ByteArray) isaNames 0 = 0 from by decide +kernel]; rfl
theorem awake03 (k : Nat) (hk : 10 ≤ k) : spinnakerlaw03_awake.f k = some true := by
  unfold spinnakerlaw03_awake.f
  rw [find_f, show idx (⟨#[97, 109, 111, 97, 100, 100, 46, 100]⟩ : ByteArray) isaNames 0 = 80 from by decide +kernel]
  simp only [Option.bind_some, show (0 : Int) < 80 from by decide, if_true]
  rw [form_f k hk]
  rfl

theorem letter_out {a : Int} (h : ¬ (1 ≤ a ∧ a ≤ 87)) : spinnakerref03_letter.f a = some 0 := by
  unfold spinnakerref03_letter.f
  by_cases h1 : a < 1
  · rw [if_pos h1]
  · rw [if_neg h1, if_pos (by omega)]

theorem ref_form {a : Int} : spinnakerref03_Form.f a = some (formOf a) := by
  unfold spinnakerref03_Form.f
  by_cases h : 1 ≤ a ∧ a ≤ 87
  · unfold spinnakerref03_letter.f
    obtain ⟨n, rfl⟩ := Int.eq_ofNat_of_zero_le (show 0 ≤ a by omega)
    have hn : n < 88 := by omega
    have h1 := h.1
    clear h
    revert h1; revert hn; revert n
    decide +kernel
  · rw [letter_out h]; unfold formOf; rw [if_pos h]; rfl

theorem bt_get (s : ByteArray) (i : Nat) (h : i < s.data.toList.length) : bt s (i : Int) = (s.data.toList[i].toNat : Int) := by
  have h' : i < s.size := by simpa using h
  unfold bt
  rw [dif_pos (show ((i : Int)).toNat < s.size by simpa using h')]
  rfl
theorem has_l (a : Int) (s : ByteArray) (v : Int) (hv : spinnakerref03_letter.f a = some v) (hs : s.size < 1000) (d : Nat) : ∀ (k i : Nat), s.size - i = d → i ≤ s.size → d < k →
    spinnakerref03_has.l0 k a s i = some ((s.data.toList.drop i).any fun c => v == (c.toNat : Int)) := by
  have hz : s.data.toList.length = s.size := by simp
  induction d with
  | zero =>
    intro k i hd hi hk
    obtain ⟨k, rfl⟩ : ∃ m, k = m + 1 := ⟨k - 1, by omega⟩
    simp only [spinnakerref03_has.l0]
    rw [if_neg (by omega), List.drop_of_length_le (by omega)]; rfl
  | succ d ih =>
    intro k i hd hi hk
    obtain ⟨k, rfl⟩ : ∃ m, k = m + 1 := ⟨k - 1, by omega⟩
    simp only [spinnakerref03_has.l0]
    have hi' : i < s.data.toList.length := by omega
    rw [if_pos (by omega), hv]
    simp only [Option.bind_some]
    rw [if_pos (by omega), bt_get s i hi', List.drop_eq_getElem_cons hi', List.any_cons]
    by_cases he : v = (s.data.toList[i].toNat : Int)
    · rw [if_pos he]; simp [he]
    · rw [if_neg he, show wrap64 ((i : Int) + 1) = ((i + 1 : Nat) : Int) from by unfold wrap64; omega, ih k (i + 1) (by omega) (by omega) (by omega), beq_eq_false_iff_ne.mpr he, Bool.false_or]
theorem has_f (k : Nat) (a : Int) (s : ByteArray) (v : Int) (hv : spinnakerref03_letter.f a = some v) (hs : s.size < k) (hk : s.size < 1000) :
    spinnakerref03_has.f k a s = some (s.data.toList.any fun c => v == (c.toNat : Int)) := by
  unfold spinnakerref03_has.f
  exact has_l a s v hv hk s.size k 0 (by omega) (by omega) hs

/-- What an operation does with memory, plainly. -/
def accessOf (a : Int) : Bool × Bool :=
  if ¬ (1 ≤ a ∧ a ≤ 87) then (false, false) else if 11 ≤ a ∧ a ≤ 17 ∨ a = 66 ∨ a = 77 then (true, false)
  else if 18 ≤ a ∧ a ≤ 21 ∨ a = 67 ∨ a = 78 then (false, true) else (formOf a == 11, formOf a == 11)
theorem access_f {a : Int} (k : Nat) (hk : 12 ≤ k) : isa_Access.f k a = some (accessOf a) := by
  by_cases h : 1 ≤ a ∧ a ≤ 87
  · refine at_rounds (fun k => isa_Access.mono a k) hk ?_
    unfold isa_Access.f
    rw [name_in h, form_f 12 (by decide)]
    simp only [Option.bind_some]
    rw [if_neg (name_ne h)]
    simp only [isa_Access.j0, form_f 11 (show 10 ≤ 11 by decide)]
    obtain ⟨n, rfl⟩ := Int.eq_ofNat_of_zero_le (show 0 ≤ a by omega)
    have hn : n < 88 := by omega
    have h1 := h.1
    clear h hk
    revert h1; revert hn; revert n
    decide +kernel
  · unfold isa_Access.f accessOf
    rw [name_out h, if_pos h]
    simp only [Option.bind_some]
    rw [if_pos nil_d]

theorem in_f (a x y : Int) : isa_in.f a x y = some (decide (x ≤ a ∧ a ≤ y)) := by
  unfold isa_in.f
  by_cases h : a ≥ x
  · rw [if_pos h]; congr 1; rw [decide_eq_decide]; omega
  · rw [if_neg h]; congr 1; symm; rw [decide_eq_false_iff_not]; omega

theorem IsaKinds : spinnakerlaw03_IsaKinds.Pure := by
  intro a ha
  refine ⟨200, ?_⟩
  unfold spinnakerlaw03_IsaKinds.f
  rw [access_f 200 (by decide), ref_form, awake03 200 (by decide)]
  by_cases h : 1 ≤ a ∧ a ≤ 87
  · obtain ⟨n, rfl⟩ := Int.eq_ofNat_of_zero_le (show 0 ≤ a by omega)
    have hn : n < 88 := by omega
    have h1 := h.1
    clear h ha
    revert h1; revert hn; revert n
    decide +kernel
  · have e1 : accessOf a = (false, false) := by unfold accessOf; rw [if_pos h]
    have e0 : formOf a = -1 := by unfold formOf; rw [if_pos h]
    have e2 : spinnakerref03_Reader.f 200 a = some false := by
      unfold spinnakerref03_Reader.f
      rw [has_f 200 a _ 0 (letter_out h) (by decide) (by decide), has_f 200 a _ 0 (letter_out h) (by decide) (by decide)]
      by_cases h11 : a ≥ 11
      · rw [if_pos h11, if_neg (by omega)]; rfl
      · rw [if_neg h11]; rfl
    have e3 : spinnakerref03_Writer.f 200 a = some false := by
      unfold spinnakerref03_Writer.f
      rw [has_f 200 a _ 0 (letter_out h) (by decide) (by decide), has_f 200 a _ 0 (letter_out h) (by decide) (by decide)]; rfl
    have e4 : isa_Wide.f a = some false := by
      unfold isa_Wide.f
      rw [if_neg (by omega), if_neg (by omega), in_f, show decide (77 ≤ a ∧ a ≤ 87) = false from decide_eq_false (by omega)]; rfl
    have e5 : spinnakerref03_Wide.f a = some false := by
      unfold spinnakerref03_Wide.f
      rw [if_neg (by omega), if_neg (by omega)]
      by_cases h77 : a ≥ 77
      · rw [if_pos h77, show decide (a ≤ 87) = false from decide_eq_false (by omega)]
      · rw [if_neg h77]
    have e6 : isa_Branch.f a = some false := by
      unfold isa_Branch.f
      rw [in_f, show decide (5 ≤ a ∧ a ≤ 10) = false from decide_eq_false (by omega)]; rfl
    rw [e0, e1, e2, e3, e4, e5, e6]; rfl

end Go.Proofs.YtfjfmkobhbpelaaDoor.Pure
