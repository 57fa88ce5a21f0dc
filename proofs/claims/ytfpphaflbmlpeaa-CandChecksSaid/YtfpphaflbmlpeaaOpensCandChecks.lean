/- How an argument that reads as data lies in memory: by its type's shape, any depth. -/
import Derived.Test.YtfpphaflbmlpeaaUCandChecks
import Derived.OpenShut
import Derived.WideShapes
import Derived.SizedLaws
namespace Go.Proofs.Ytfpphaflbmlpeaa.Opens
open Go.RowKit Go.WideShapes Go.Proofs.YtfpphaflbmlpeaaW.PrintWords
set_option linter.unusedVariables false
section
variable {H : Type} (enc : TypeId × Value → H) (P : Program) (W : World) (base : Nat) (sp : Nat → Bool) (held : Bool)

def Opens {α : Type} (t : TypeId) (d : Kd α) (Q : α → Prop) : Prop :=
  ∀ (n : Nat) (cs : List Value) (x : DataW H × List MemPlace), DataW.trod enc P W base sp held n t cs = some x → (∀ m ∈ x.1.weights P t, m ≤ reachBytes) → ∃ v, d.K W v cs ∧ Q v
theorem weights_all {P : Program} {e : TypeId} : ∀ {l : List (DataW H)} {i : Nat} {d : DataW H}, l[i]? = some d → ∀ m ∈ d.weights P e, m ∈ DataW.weightsAll P e l
  | [], i, d, h, _, _ => by simp at h
  | a :: l, 0, d, h, m, hm => by
    simp only [List.getElem?_cons_zero, Option.some.injEq] at h
    subst h
    simp only [DataW.weightsAll, List.mem_append]
    exact Or.inl hm
  | a :: l, i + 1, d, h, m, hm => by
    simp only [List.getElem?_cons_succ] at h
    simp only [DataW.weightsAll, List.mem_append]
    exact Or.inr (weights_all h m hm)
end
section
variable {H : Type} {enc : TypeId × Value → H} {P : Program} {W : World} {base : Nat} {sp : Nat → Bool} {held : Bool}

theorem opens_int {t : TypeId} {k : IntKind} (ht : P.underlying t = some (.int k)) : Opens enc P W base sp held t (Kd.int k) (fun n => (Lit.int k n).wf = true) := by
  intro n cs x h _
  obtain ⟨v, rfl, _, hw⟩ := DataW.trod_int ht h
  exact ⟨v, rfl, hw⟩
theorem opens_bool {t : TypeId} (ht : P.underlying t = some .bool) : Opens enc P W base sp held t Kd.bool (fun _ => True) := by
  intro n cs x h _
  obtain ⟨v, rfl, _⟩ := DataW.trod_bool ht h
  exact ⟨v, rfl, trivial⟩
theorem opens_string {t : TypeId} (ht : P.underlying t = some .string) : Opens enc P W base sp held t Kd.string (fun s => s.size ≤ maxLen) := by
  intro n cs x h _
  obtain ⟨v, rfl, _, hs⟩ := DataW.trod_string ht h
  exact ⟨v, rfl, hs⟩
theorem list_of {α : Type} {R : Nat → α → Prop} : ∀ n : Nat, (∀ i, i < n → ∃ p, R i p) → ∃ l : List α, l.length = n ∧ ∀ j p, l[j]? = some p → R j p
  | 0, _ => ⟨[], rfl, fun j p h => by simp at h⟩
  | n + 1, h => by
    obtain ⟨l, hl, hr⟩ := list_of n fun i hi => h i (by omega)
    obtain ⟨p, hp⟩ := h n (by omega)
    refine ⟨l ++ [p], by simp [hl], fun j q hq => ?_⟩
    by_cases hj : j < n
    · rw [List.getElem?_append_left (by omega)] at hq; exact hr j q hq
    · have hjn : j = n := by
        have : j < (l ++ [p]).length := by
          rcases Nat.lt_or_ge j (l ++ [p]).length with h | h
          · exact h
          · rw [List.getElem?_eq_none h] at hq; cases hq
        simp [hl] at this; omega
      subst hjn
      rw [List.getElem?_append_right (by omega), hl, Nat.sub_self] at hq
      obtain rfl := Option.some.inj hq
      exact hp
theorem opens_slice {α : Type} {t e : TypeId} {B : Nat} {d : Kd α} {Q : α → Prop} (ht : P.underlying t = some (.slice e)) (hs : P.cellsOf e = d.sz) (hB : P.bytesOf e = B) (hd : Opens enc P W base sp held e d Q) :
    Opens enc P W base sp held t (Kd.slice e d) (fun l => l.length * B ≤ 140737488351232 ∧ ∀ x ∈ l, Q x) := by
  intro n cs x h hz
  rcases DataW.trod_slice ht h with ⟨rfl, _⟩ | ⟨a, len, cap, elems, rest, m, _, rfl, rfl, hb, hl, hm, he, hel, _, _⟩
  · exact ⟨[], ⟨none, 0, rfl, Nat.le_refl _, Kd.C_nil d W⟩, by simp⟩
  · replace hz : ∀ m ∈ (DataW.slice (elems.map (·.1)) (rest.map (·.1))).weights P t, m ≤ reachBytes := hz
    simp only [DataW.weights, ht, List.mem_cons, List.mem_append] at hz
    have hz0 := hz _ (Or.inl rfl)
    rw [List.length_map, he, hB] at hz0
    have hrb : reachBytes = 140737488351232 := rfl
    have hz1 : len * B ≤ 140737488351232 := Nat.le_trans (Nat.mul_le_mul_right B (Nat.le_add_right _ _)) (hrb ▸ hz0)
    obtain ⟨l, hll, hlr⟩ := list_of (R := fun i (p : α) => ∃ c, W.cells? base (a.add (i * P.cellsOf e)) (P.cellsOf e) = some c ∧ d.K W p c ∧ Q p) len fun i hi => by
      have h1 := hel i hi
      rw [List.getElem?_eq_getElem (by omega)] at h1
      obtain ⟨c, hc, hx⟩ := Option.bind_eq_some_iff.1 h1
      obtain ⟨v, hv, hq⟩ := hd _ _ _ hx fun m hm => hz m (Or.inr (Or.inl (weights_all (i := i) (by rw [List.getElem?_map, List.getElem?_eq_getElem (by omega)]; rfl) m hm)))
      exact ⟨v, c, hc, hv, hq⟩
    subst hll
    refine ⟨l, ⟨some a, cap, rfl, hl, rfl, ?_, fun _ => ⟨a, rfl, fun j p hp => ?_⟩⟩, hz1, fun y hy => ?_⟩
    · have : maxLen = 9223372036854775807 := by unfold maxLen; rfl
      omega
    · obtain ⟨c, hc, hk, _⟩ := hlr j p hp
      obtain ⟨_, hcl, hcell⟩ := World.cells?_some hc
      refine ⟨c, hcl.trans hs, hk, fun i u hu => ?_⟩
      have hi : i < P.cellsOf e := by
        rcases Nat.lt_or_ge i c.length with h | h
        · omega
        · rw [List.getElem?_eq_none h] at hu; cases hu
      rw [← hs, ← Addr.add_add, hcell i hi, hu]
    · obtain ⟨j, hj, rfl⟩ := List.getElem_of_mem hy
      obtain ⟨_, _, _, hq⟩ := hlr j _ (List.getElem?_eq_getElem hj)
      exact hq
/-- Some neighbouring fields of a struct. -/
def Seg {α : Type} (enc : TypeId × Value → H) (P : Program) (W : World) (base : Nat) (sp : Nat → Bool) (held : Bool) (fs : List Field) (off tot : Nat) (d : Kd α) (Q : α → Prop) : Prop :=
  ∀ (m : Nat) (cs : List Value), off + tot ≤ cs.length → (∀ f ∈ fs, ∃ y, DataW.trod enc P W base sp held m f.type ((cs.drop f.offset).take (P.cellsOf f.type)) = some y ∧ ∀ q ∈ y.1.weights P f.type, q ≤ reachBytes) → ∃ v, d.K W v ((cs.drop off).take tot) ∧ Q v
theorem seg_one {α : Type} {f : Field} {d : Kd α} {Q : α → Prop} {off tot : Nat} (ho : f.offset = off) (hc : P.cellsOf f.type = tot) (h : Opens enc P W base sp held f.type d Q) : Seg enc P W base sp held [f] off tot d Q := by
  intro m cs hl hf
  obtain ⟨y, hy, hw⟩ := hf f List.mem_cons_self
  rw [ho, hc] at hy
  exact h _ _ _ hy hw
theorem seg_cons {α β : Type} {f : Field} {fs : List Field} {d : Kd α} {d' : Kd β} {Q : α → Prop} {Q' : β → Prop} {off s tot : Nat} (ho : f.offset = off) (hc : P.cellsOf f.type = s) (h : Opens enc P W base sp held f.type d Q)
    (hr : Seg enc P W base sp held fs (off + s) tot d' Q') : Seg enc P W base sp held (f :: fs) off (s + tot) (Kd.pair d d') (fun p => Q p.1 ∧ Q' p.2) := by
  intro m cs hl hf
  obtain ⟨y, hy, hw⟩ := hf f List.mem_cons_self
  rw [ho, hc] at hy
  obtain ⟨v, hv, hq⟩ := h _ _ _ hy hw
  obtain ⟨v', hv', hq'⟩ := hr m cs (by omega) fun g hg => hf g (List.mem_cons_of_mem _ hg)
  refine ⟨(v, v'), ⟨_, _, ?_, hv, hv'⟩, hq, hq'⟩
  rw [List.take_add, List.drop_drop]
theorem opens_struct {α β : Type} {t : TypeId} {fs : Array Field} {l : List Field} {tot : Nat} {d : Kd α} {Q : α → Prop} {f : β → α} (g : α → β) (hfg : ∀ a, f (g a) = a) (ht : P.underlying t = some (.struct fs)) (hl : fs.toList = l) (hc : P.cellsOf t = tot)
    (h : Seg enc P W base sp held l 0 tot d Q) : Opens enc P W base sp held t (Kd.iso d f) (fun b => Q (f b)) := by
  intro n cs x hx hz
  obtain ⟨xs, m, _, ex, hlen, hxs, hf⟩ := DataW.trod_struct ht hx
  subst ex
  replace hz : ∀ m ∈ (DataW.agg (xs.map (·.1))).weights P t, m ≤ reachBytes := hz
  simp only [DataW.weights, ht] at hz
  obtain ⟨v, hv, hq⟩ := h m cs (by omega) fun fd hfd => by
    rw [← hl] at hfd
    obtain ⟨i, hi, rfl⟩ := List.getElem_of_mem hfd
    have hi' : i < fs.size := by simpa using hi
    have h1 := hf i fs[i] (by simp [hi'])
    rw [List.getElem?_eq_getElem (by omega)] at h1
    exact ⟨_, by simpa using h1, fun q hq => hz q (DataW.weights_mem_each (j := i) (by simp [hi']) (by rw [List.getElem?_map, List.getElem?_eq_getElem (by omega)]; rfl) q hq)⟩
  refine ⟨g v, ?_, show Q (f (g v)) by rw [hfg]; exact hq⟩
  have e : (cs.drop 0).take tot = cs := by rw [List.drop_zero, List.take_of_length_le (by omega)]
  rw [e] at hv
  show d.K W (f (g v)) cs
  rw [hfg]; exact hv
/-- An array, as a struct of alike fields. -/
theorem opens_array {α β : Type} {t e : TypeId} {n : Nat} {l : List Field} {tot : Nat} {d : Kd α} {Q : α → Prop} {f : β → α} (g : α → β) (hfg : ∀ a, f (g a) = a) (ht : P.underlying t = some (.array n e)) (hc : P.cellsOf t = tot)
    (hl : ∀ fd ∈ l, ∃ i, i < n ∧ fd.type = e ∧ fd.offset = i * P.cellsOf e) (h : Seg enc P W base sp held l 0 tot d Q) : Opens enc P W base sp held t (Kd.iso d f) (fun b => Q (f b)) := by
  intro k cs x hx hz
  obtain ⟨xs, m, _, ex, hlen, hxs, hf⟩ := DataW.trod_array ht hx
  subst ex
  replace hz : ∀ m ∈ (DataW.agg (xs.map (·.1))).weights P t, m ≤ reachBytes := hz
  simp only [DataW.weights, ht] at hz
  obtain ⟨v, hv, hq⟩ := h m cs (by omega) fun fd hfd => by
    obtain ⟨i, hi, h1, h2⟩ := hl fd hfd
    have h3 := hf i hi
    rw [List.getElem?_eq_getElem (by omega)] at h3
    rw [h1, h2]
    exact ⟨_, h3, fun q hq => hz q (weights_all (i := i) (by rw [List.getElem?_map, List.getElem?_eq_getElem (by omega)]; rfl) q hq)⟩
  refine ⟨g v, ?_, show Q (f (g v)) by rw [hfg]; exact hq⟩
  have e : (cs.drop 0).take tot = cs := by rw [List.drop_zero, List.take_of_length_le (by omega)]
  rw [e] at hv
  show d.K W (f (g v)) cs
  rw [hfg]; exact hv
theorem okWide_array {n : Nat} {e t : TypeId} {v : Value} {b0 : Nat} {r : Reach} (ht : P.underlying t = some (.array n e)) (h : Value.okWide P W r b0 t v) : ∃ cs, v = .agg cs ∧ cs.size = P.cellsOf t := by
  simp only [Value.okWide, ht] at h
  obtain ⟨cs, h1, h2, _⟩ := h
  exact ⟨cs, h1, h2⟩
theorem arg_array {α : Type} {t e : TypeId} {n : Nat} {d : Kd α} {Q : α → Prop} {v : Value} {dd : DataW H} {p : List MemPlace} {b0 : Nat} {r : Reach} (ht : P.underlying t = some (.array n e)) (hd : Opens enc P W base sp held t d Q)
    (hv : Value.okWide P W r b0 t v) (h : DataW.Trod enc P W base sp held t v dd p) (hz : ∀ m ∈ dd.weights P t, m ≤ reachBytes) :
    ∃ (x : α) (cs : Array Value), v = .agg cs ∧ d.K W x cs.toList ∧ Q x := by
  obtain ⟨cs, rfl, _⟩ := okWide_array ht hv
  obtain ⟨k, hk⟩ := h
  obtain ⟨x, hK, hq⟩ := hd _ _ _ hk hz
  exact ⟨x, cs, rfl, hK, hq⟩
/-- An argument: a slice. -/
theorem arg_slice {α : Type} {t e : TypeId} {B : Nat} {d : Kd α} {Q : α → Prop} {v : Value} {dd : DataW H} {p : List MemPlace} {b0 : Nat} {r : Reach} (ht : P.underlying t = some (.slice e)) (hs : P.cellsOf e = d.sz) (hB : P.bytesOf e = B) (hd : Opens enc P W base sp held e d Q)
    (hv : Value.okWide P W r b0 t v) (h : DataW.Trod enc P W base sp held t v dd p) (hz : ∀ m ∈ dd.weights P t, m ≤ reachBytes) :
    ∃ (A : Option Addr) (l : List α) (c : Nat), v = .slice A l.length c ∧ l.length ≤ c ∧ d.C W A l.length l ∧ l.length * B ≤ 140737488351232 ∧ ∀ x ∈ l, Q x := by
  obtain ⟨a, len, cap, rfl⟩ := okWide_slice ht hv
  obtain ⟨n, hn⟩ := h
  obtain ⟨l, ⟨A, c, he, hle, hC⟩, hm, hq⟩ := opens_slice ht hs hB hd _ _ _ hn hz
  simp [Value.cells] at he
  obtain ⟨rfl, rfl, rfl⟩ := he
  exact ⟨a, l, cap, rfl, hle, hC, hm, hq⟩
/-- An argument: a struct. -/
theorem arg_struct {α : Type} {t : TypeId} {fs : Array Field} {d : Kd α} {Q : α → Prop} {v : Value} {dd : DataW H} {p : List MemPlace} {b0 : Nat} {r : Reach} (ht : P.underlying t = some (.struct fs)) (hd : Opens enc P W base sp held t d Q)
    (hv : Value.okWide P W r b0 t v) (h : DataW.Trod enc P W base sp held t v dd p) (hz : ∀ m ∈ dd.weights P t, m ≤ reachBytes) :
    ∃ (x : α) (cs : Array Value), v = .agg cs ∧ d.K W x cs.toList ∧ Q x := by
  obtain ⟨cs, rfl, _⟩ := okWide_struct ht hv
  obtain ⟨n, hn⟩ := h
  obtain ⟨x, hk, hq⟩ := hd _ _ _ hn hz
  exact ⟨x, cs, rfl, hk, hq⟩
theorem lt_of_trod {t : TypeId} {v : Value} {dd : DataW H} {p : List MemPlace} (h : DataW.Trod enc P W base sp held t v dd p) : ∀ x ∈ p, x.block < W.heap.size := by
  obtain ⟨m, hm⟩ := h
  exact DataW.trod_lt m _ _ _ hm
/-- A listed table of texts, or of numbers: its cells. -/
theorem table_strings {name : String} {g : Nat} {t e : TypeId} {n fuel : Nat} {cs : Array Value} {d : DataW H} {p : List MemPlace} {l : List ByteArray} (hg : P.globalNamed name = some g) (hv : W.var? P name = some cs)
    (ht : P.underlying t = some (.array n e)) (he : P.underlying e = some .string) (hc : P.cellsOf e = 1) (hd : DataW.trod enc P W base sp held fuel t cs.toList = some (d, p)) (hl : d = .agg (l.map fun s => DataW.lit (.string s.data.toList))) (hn : l.length = n)
    (hb : n ≤ 9223372036854775807) : Kd.string.C W (some ⟨g, 0, none⟩) l.length l := by
  obtain ⟨xs, m, _, ex, _, hxl, hel⟩ := DataW.trod_array ht hd
  have e3 : (xs.map (·.1)) = l.map fun s => (DataW.lit (.string s.data.toList) : DataW H) := by
    have e5 := (Prod.mk.inj ex).1
    rw [hl] at e5
    exact (DataW.agg.inj e5).symm
  refine Kd.C_of_reads (d := ByteArray.empty) ⟨rfl, by omega, fun _ => ⟨_, rfl, fun r hr => ?_⟩⟩
  have hE := hel r (by omega)
  rw [hc, Nat.mul_one, List.getElem?_eq_getElem (by omega)] at hE
  obtain ⟨z, e1, e2, _⟩ := DataW.trod_string he hE
  have e4 : (xs.map (·.1))[r]? = (l.map fun s => (DataW.lit (.string s.data.toList) : DataW H))[r]? := by rw [e3]
  rw [List.getElem?_map, List.getElem?_map, List.getElem?_eq_getElem (by omega : r < xs.length), List.getElem?_eq_getElem hr, e2] at e4
  have hz : z = l.getD r ByteArray.empty := by
    simp only [Option.map_some, Option.some.injEq, DataW.lit.injEq, Lit.string.injEq] at e4
    rw [List.getD, List.getElem?_eq_getElem hr]
    exact ByteArray.ext (Array.ext' e4)
  rw [show (({ block := g, off := 0 } : Addr).add r) = { block := g, off := r } from by simp [Addr.add]; exact fun h => h.symm, World.var?_cell hg hv r, ← hz]
  have : cs.toList[r]? = some (.string z) := by
    have h0 : ((cs.toList.drop r).take 1)[0]? = some (.string z) := by rw [e1]; rfl
    simpa using h0
  simpa using this
theorem table_ints {name : String} {g : Nat} {t e : TypeId} {k : IntKind} {n fuel : Nat} {cs : Array Value} {d : DataW H} {p : List MemPlace} {l : List Int} (hg : P.globalNamed name = some g) (hv : W.var? P name = some cs)
    (ht : P.underlying t = some (.array n e)) (he : P.underlying e = some (.int k)) (hc : P.cellsOf e = 1) (hd : DataW.trod enc P W base sp held fuel t cs.toList = some (d, p)) (hl : d = .agg (l.map fun s => DataW.lit (.int k s))) (hn : l.length = n)
    (hb : n ≤ 9223372036854775807) : (Kd.int k).C W (some ⟨g, 0, none⟩) l.length l := by
  obtain ⟨xs, m, _, ex, _, hxl, hel⟩ := DataW.trod_array ht hd
  have e3 : (xs.map (·.1)) = l.map fun s => (DataW.lit (.int k s) : DataW H) := by
    have e5 := (Prod.mk.inj ex).1
    rw [hl] at e5
    exact (DataW.agg.inj e5).symm
  refine Kd.C_of_reads (d := 0) ⟨rfl, by omega, fun _ => ⟨_, rfl, fun r hr => ?_⟩⟩
  have hE := hel r (by omega)
  rw [hc, Nat.mul_one, List.getElem?_eq_getElem (by omega)] at hE
  obtain ⟨z, e1, e2, _⟩ := DataW.trod_int he hE
  have e4 : (xs.map (·.1))[r]? = (l.map fun s => (DataW.lit (.int k s) : DataW H))[r]? := by rw [e3]
  rw [List.getElem?_map, List.getElem?_map, List.getElem?_eq_getElem (by omega : r < xs.length), List.getElem?_eq_getElem hr, e2] at e4
  have hz : z = l.getD r 0 := by
    simp only [Option.map_some, Option.some.injEq, DataW.lit.injEq, Lit.int.injEq, true_and] at e4
    rw [List.getD, List.getElem?_eq_getElem hr, e4]; rfl
  rw [show (({ block := g, off := 0 } : Addr).add r) = { block := g, off := r } from by simp [Addr.add]; exact fun h => h.symm, World.var?_cell hg hv r, ← hz]
  have : cs.toList[r]? = some (.int k z) := by
    have h0 : ((cs.toList.drop r).take 1)[0]? = some (.int k z) := by rw [e1]; rfl
    simpa using h0
  simpa using this
end
end Go.Proofs.Ytfpphaflbmlpeaa.Opens
