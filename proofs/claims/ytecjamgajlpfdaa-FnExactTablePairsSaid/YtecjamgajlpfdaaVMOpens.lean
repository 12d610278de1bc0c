/-
  What is read as data of a Go type is told as a value of a kind (Kd), with what its reading says of it: for laws whose parameters are structs, or slices of anything. Nothing is assumed.
-/
import Derived.Test.YtecjamgajlpfdaaVWords
import Derived.Deep.Slices
import Derived.Deep.Fields
import Derived.ChangeArms
import Derived.WideShapes
import Derived.WideLaws
namespace Go.Proofs.Ytecjamgajlpfdaa.MOpens
open Go.RowKit Go.ChangeShapes Go.WideShapes Go.Proofs.YtecjamgajlpfdaaW.PrintWords
variable {α β : Type} {P : Program}
def Opens (P : Program) (t : TypeId) (d : Kd α) (F : α → Prop) : Prop :=
  ∀ (H : Type) (enc : TypeId × Value → H) (w : World) (fuel : Nat) (cs : List Value) (x : DataW H × List MemPlace),
    DataW.trod enc P w 0 (fun _ => true) true fuel t cs = some x → ∃ a, d.K w a cs ∧ F a
theorem Opens.int {t : TypeId} {k : IntKind} (ht : P.underlying t = some (.int k)) : Opens P t (Kd.int k) (fun n => (Lit.int k n).wf = true) := by
  intro H enc w fuel cs x h
  obtain ⟨n, rfl, _, hw⟩ := DataW.trod_int ht h
  exact ⟨n, rfl, hw⟩
theorem Opens.bool {t : TypeId} (ht : P.underlying t = some .bool) : Opens P t Kd.bool (fun _ => True) := by
  intro H enc w fuel cs x h
  obtain ⟨b, rfl, _⟩ := DataW.trod_bool ht h
  exact ⟨b, rfl, trivial⟩
theorem Opens.string {t : TypeId} (ht : P.underlying t = some .string) : Opens P t Kd.string (fun s => s.size ≤ maxLen) := by
  intro H enc w fuel cs x h
  obtain ⟨s, rfl, _, hs⟩ := DataW.trod_string ht h
  exact ⟨s, rfl, hs⟩
theorem chosen {Q : Nat → α → Prop} : ∀ n, (∀ i, i < n → ∃ a, Q i a) → ∃ xs : List α, xs.length = n ∧ ∀ j p, xs[j]? = some p → Q j p
  | 0, _ => ⟨[], rfl, fun j p h => by simp at h⟩
  | n + 1, h => by
    obtain ⟨xs, hl, hx⟩ := chosen n (fun i hi => h i (by omega))
    obtain ⟨a, ha⟩ := h n (by omega)
    refine ⟨xs ++ [a], by simp [hl], fun j p hj => ?_⟩
    rcases Nat.lt_or_ge j xs.length with hlt | hge
    · rw [List.getElem?_append_left hlt] at hj
      exact hx j p hj
    · rw [List.getElem?_append_right hge] at hj
      have : j = n := by
        rcases Nat.eq_zero_or_pos (j - xs.length) with h0 | h0
        · omega
        · rw [List.getElem?_eq_none (by simp; omega)] at hj
          cases hj
      subst this
      simp [hl] at hj
      rw [← hj]
      exact ha
theorem Opens.slice {t e : TypeId} {d : Kd α} {F : α → Prop} (ht : P.underlying t = some (.slice e)) (hc : P.cellsOf e = d.sz) (he : Opens P e d F) :
    Opens P t (Kd.slice e d) (fun xs => xs.length ≤ maxLen ∧ ∀ x ∈ xs, F x) := by
  intro H enc w fuel cs x h
  rcases Deep.open_slice ht h with ⟨rfl, _⟩ | ⟨a, len, cap, m, n, D, Pl, rfl, _, hl, hm, hmm, _, hi⟩
  · exact ⟨[], ⟨none, 0, rfl, Nat.le_refl _, Kd.C_nil d w⟩, by simp, by simp⟩
  · simp at hmm
    subst hmm
    obtain ⟨xs, hxl, hx⟩ := chosen (α := α) (Q := fun i p => ∃ c, c.length = d.sz ∧ (d.K w p c ∧ F p) ∧ ∀ j u, c[j]? = some u → w.cell? (a.add (i * d.sz + j)) = some u) len (fun i hil => by
      obtain ⟨cs', hcs, htr⟩ := hi i (by omega)
      obtain ⟨_, hcl, hat⟩ := World.cells?_some hcs
      obtain ⟨p, hp, hF⟩ := he H enc w _ _ _ htr
      refine ⟨p, cs', by rw [hcl, hc], ⟨hp, hF⟩, fun j u hj => ?_⟩
      have hjl : j < cs'.length := (List.getElem?_eq_some_iff.1 hj).1
      have h1 := hat j (by omega)
      rw [Go.Deep.add_add, hc] at h1
      rw [h1, hj])
    subst hxl
    refine ⟨xs, ⟨some a, m, rfl, hl, rfl, ?_, fun _ => ⟨a, rfl, fun j p hj => ?_⟩⟩, by unfold maxLen at *; omega, fun p hp => ?_⟩
    · have : maxLen = 9223372036854775807 := rfl
      omega
    · obtain ⟨c, h1, h2, h3⟩ := hx j p hj
      exact ⟨c, h1, h2.1, h3⟩
    · obtain ⟨j, hj, rfl⟩ := List.mem_iff_getElem.1 hp
      obtain ⟨_, _, h2, _⟩ := hx j _ (List.getElem?_eq_getElem hj)
      exact h2.2
theorem Opens.iso {t : TypeId} {d : Kd α} {F : α → Prop} {F' : β → Prop} (f : β → α) (g : α → β) (h : Opens P t d F) (hfg : ∀ a, f (g a) = a) (hF : ∀ a, F a → F' (g a)) : Opens P t (Kd.iso d f) F' := by
  intro H enc w fuel cs x hx
  obtain ⟨a, ha, hFa⟩ := h H enc w fuel cs x hx
  exact ⟨g a, (by rw [← hfg a] at ha; exact ha), hF a hFa⟩
/-- The fields from one on, which lie from cell 'off' on. -/
def OpensF (P : Program) (fs : List Field) (off : Nat) (d : Kd α) (F : α → Prop) : Prop :=
  ∀ (H : Type) (enc : TypeId × Value → H) (w : World) (n : Nat) (cs : List Value), cs.length = off + d.sz →
    (∀ (i : Nat) (f : Field), fs[i]? = some f → ∃ y, DataW.trod enc P w 0 (fun _ => true) true n f.type ((cs.drop f.offset).take (P.cellsOf f.type)) = some y) → ∃ a, d.K w a (cs.drop off) ∧ F a
theorem OpensF.last {f : Field} {off : Nat} {d : Kd α} {F : α → Prop} (ho : f.offset = off) (hc : P.cellsOf f.type = d.sz) (h : Opens P f.type d F) : OpensF P [f] off d F := by
  intro H enc w n cs hl hy
  obtain ⟨y, hy⟩ := hy 0 f rfl
  rw [ho, hc, List.take_of_length_le (by rw [List.length_drop]; omega)] at hy
  exact h H enc w n _ _ hy
theorem OpensF.cons {f : Field} {fs : List Field} {off off' : Nat} {d : Kd α} {d' : Kd β} {F : α → Prop} {F' : β → Prop} (ho : f.offset = off) (hc : P.cellsOf f.type = d.sz) (h : Opens P f.type d F) (hs : OpensF P fs off' d' F') (ho' : off' = off + d.sz) :
    OpensF P (f :: fs) off (Kd.pair d d') (fun x => F x.1 ∧ F' x.2) := by
  intro H enc w n cs hl hy
  have hl : cs.length = off + (d.sz + d'.sz) := hl
  subst ho'
  obtain ⟨y, hy0⟩ := hy 0 f rfl
  rw [ho, hc] at hy0
  obtain ⟨a, ha, hFa⟩ := h H enc w n _ _ hy0
  obtain ⟨b, hb, hFb⟩ := hs H enc w n cs (by omega) (fun i g hg => hy (i + 1) g (by simpa using hg))
  refine ⟨(a, b), ⟨(cs.drop off).take d.sz, cs.drop (off + d.sz), ?_, ha, hb⟩, hFa, hFb⟩
  rw [← List.drop_drop, List.take_append_drop]
theorem Opens.struct {t : TypeId} {fs : Array Field} {d : Kd α} {F : α → Prop} (ht : P.underlying t = some (.struct fs)) (hc : P.cellsOf t = d.sz) (h : OpensF P fs.toList 0 d F) : Opens P t d F := by
  intro H enc w fuel cs x hx
  obtain ⟨xs, n, _, _, hl, hlen, hf⟩ := DataW.trod_struct ht hx
  obtain ⟨a, ha, hFa⟩ := h H enc w n cs (by omega) (fun i f hi => by
    have hi' : fs[i]? = some f := by simpa using hi
    have h1 := hf i f hi'
    have hil : i < fs.size := (Array.getElem?_eq_some_iff.1 hi').1
    rw [List.getElem?_eq_getElem (by omega)] at h1
    exact ⟨_, h1⟩)
  exact ⟨a, by simpa using ha, hFa⟩
theorem Opens.use {H : Type} {enc : TypeId × Value → H} {w : World} {t : TypeId} {d : Kd α} {F : α → Prop} {v : Value} {y : DataW H} {p : List MemPlace} (h : Opens P t d F) (ht : DataW.Trod enc P w 0 (fun _ => true) true t v y p) : ∃ a, d.K w a v.cells.toList ∧ F a := by
  obtain ⟨fuel, hf⟩ := ht
  exact h H enc w fuel _ _ hf
theorem slice_use {e : Nat} {d : Kd α} {w : World} {a : Option Addr} {len cap : Nat} {xs : List α} (h : (Kd.slice e d).K w xs (Value.slice a len cap).cells.toList) : len = xs.length ∧ xs.length ≤ cap ∧ d.C w a xs.length xs := by
  obtain ⟨A, c, he, hl, hC⟩ := h
  simp [Value.cells] at he
  obtain ⟨rfl, rfl, rfl⟩ := he
  exact ⟨rfl, hl, hC⟩
theorem agg_use {cs : Array Value} {l : List Value} (h : (Value.agg cs).cells.toList = l) : cs = l.toArray := by
  simp [Value.cells] at h
  rw [← h]
end Go.Proofs.Ytecjamgajlpfdaa.MOpens
