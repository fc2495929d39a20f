/- A value that reads as data of a type reads as a value of that type's kind: for whole numbers, bools, strings, structs and slices, put together piece by piece. -/
import Derived.Test.YtkdemainohfgfaaWWords
import Derived.Deep.Slices
import Derived.ChangeArms
namespace Go.Proofs.Ytkdemainohfgfaa.Opens
open Go.RowKit Go.Deep Go.ChangeShapes Go.WideShapes Go.Proofs.YtkdemainohfgfaaW.PrintWords

/-- What reads as data of type t reads as a value of kind d, of which G holds. -/
def Opens {α : Type} (P : Program) (t : TypeId) (d : Kd α) (G : α → Prop) : Prop :=
  ∀ (H : Type) (enc : TypeId × Value → H) (w : World) (base : Nat) (spare : Nat → Bool) (held : Bool) (fuel : Nat) (cs : List Value) (x : DataW H × List MemPlace),
    DataW.trod enc P w base spare held fuel t cs = some x → ∃ a, d.K w a cs ∧ G a

/-- The same of a struct's fields from field i on, whose cells begin at o. -/
def OpensFrom {α : Type} (P : Program) (fs : Array Field) (i o : Nat) (d : Kd α) (G : α → Prop) : Prop :=
  ∀ (H : Type) (enc : TypeId × Value → H) (w : World) (base : Nat) (spare : Nat → Bool) (held : Bool) (n : Nat) (cs : List Value),
    (∀ (j : Nat) (f : Field), i ≤ j → fs[j]? = some f → ∃ x : DataW H × List MemPlace, DataW.trod enc P w base spare held n f.type ((cs.drop f.offset).take (P.cellsOf f.type)) = some x) →
    cs.length = o + d.sz → ∃ a, d.K w a (cs.drop o) ∧ G a

section
variable {P : Program}
theorem opens_int {t : TypeId} {k : IntKind} (ht : P.underlying t = some (.int k)) : Opens P t (Kd.int k) (fun a => (Lit.int k a).wf = true) := by
  intro H enc w base spare held fuel cs x h
  obtain ⟨n, rfl, _, hw⟩ := DataW.trod_int ht h
  exact ⟨n, rfl, hw⟩
theorem opens_bool {t : TypeId} (ht : P.underlying t = some .bool) : Opens P t Kd.bool (fun _ => True) := by
  intro H enc w base spare held fuel cs x h
  obtain ⟨b, rfl, _⟩ := DataW.trod_bool ht h
  exact ⟨b, rfl, trivial⟩
theorem opens_string {t : TypeId} (ht : P.underlying t = some .string) : Opens P t Kd.string (fun s => s.size ≤ maxLen) := by
  intro H enc w base spare held fuel cs x h
  obtain ⟨s, rfl, _, hs⟩ := DataW.trod_string ht h
  exact ⟨s, rfl, hs⟩
theorem opens_last {α : Type} {fs : Array Field} {i o : Nat} {d : Kd α} {G : α → Prop} (f : Field) (hf : fs[i]? = some f) (ho : f.offset = o) (hc : P.cellsOf f.type = d.sz) (h : Opens P f.type d G) : OpensFrom P fs i o d G := by
  intro H enc w base spare held n cs hr hl
  obtain ⟨x, hx⟩ := hr i f (Nat.le_refl _) hf
  rw [ho, hc, List.take_of_length_le (by rw [List.length_drop]; omega)] at hx
  exact h H enc w base spare held n _ x hx
theorem opens_pair {α β : Type} {fs : Array Field} {i o : Nat} {d : Kd α} {d' : Kd β} {G : α → Prop} {G' : β → Prop} (f : Field) (hf : fs[i]? = some f) (ho : f.offset = o) (hc : P.cellsOf f.type = d.sz) (h : Opens P f.type d G)
    (h' : OpensFrom P fs (i + 1) (o + d.sz) d' G') : OpensFrom P fs i o (Kd.pair d d') (fun a => G a.1 ∧ G' a.2) := by
  intro H enc w base spare held n cs hr hl
  have hl' : cs.length = o + (d.sz + d'.sz) := hl
  obtain ⟨x, hx⟩ := hr i f (Nat.le_refl _) hf
  rw [ho, hc] at hx
  obtain ⟨a, ha, hG⟩ := h H enc w base spare held n _ x hx
  obtain ⟨b, hb, hG'⟩ := h' H enc w base spare held n cs (fun j g hj hg => hr j g (by omega) hg) (by omega)
  refine ⟨(a, b), ⟨(cs.drop o).take d.sz, cs.drop (o + d.sz), ?_, ha, hb⟩, hG, hG'⟩
  rw [← List.drop_drop]
  exact (List.take_append_drop _ _).symm
theorem opens_struct {α : Type} {t : TypeId} {fs : Array Field} {d : Kd α} {G : α → Prop} (ht : P.underlying t = some (.struct fs)) (hc : P.cellsOf t = d.sz) (h : OpensFrom P fs 0 0 d G) : Opens P t d G := by
  intro H enc w base spare held fuel cs x hx
  obtain ⟨xs, n, _, _, hl, hlen, hf⟩ := DataW.trod_struct ht hx
  obtain ⟨a, ha, hG⟩ := h H enc w base spare held n cs (fun j f _ hj => by
    have hjl : j < xs.length := by rw [hlen]; exact (Array.getElem?_eq_some_iff.1 hj).1
    exact ⟨xs[j], (hf j f hj).trans (List.getElem?_eq_getElem hjl)⟩) (by omega)
  exact ⟨a, by simpa using ha, hG⟩
theorem opens_iso {α β : Type} {t : TypeId} {d : Kd α} {G : α → Prop} (f : β → α) (g : α → β) (hfg : ∀ a, f (g a) = a) (h : Opens P t d G) : Opens P t (Kd.iso d f) (fun b => G (f b)) := by
  intro H enc w base spare held fuel cs x hx
  obtain ⟨a, ha, hG⟩ := h H enc w base spare held fuel cs x hx
  exact ⟨g a, by show d.K w (f (g a)) cs; rw [hfg]; exact ha, by show G (f (g a)); rw [hfg]; exact hG⟩
theorem opens_slice {α : Type} {t : TypeId} {e : Nat} {d : Kd α} {G : α → Prop} (ht : P.underlying t = some (.slice e)) (hc : P.cellsOf e = d.sz) (h : Opens P e d G) : Opens P t (Kd.slice e d) (fun xs => ∀ x ∈ xs, G x) := by
  intro H enc w base spare held fuel cs x hx
  rcases open_slice ht hx with ⟨rfl, _⟩ | ⟨a, len, cap, m, n, D, Pl, rfl, hb, hl, hm, hmm, _, hi⟩
  · exact ⟨[], ⟨none, 0, rfl, Nat.le_refl _, rfl, Nat.zero_le _, fun h0 => absurd h0 (Nat.lt_irrefl _)⟩, fun y hy => by cases hy⟩
  · have hle : len ≤ m := by rw [hmm]; split <;> omega
    have hex : ∀ i, i < len → ∃ p : List Value × α, w.cells? base (a.add (i * P.cellsOf e)) (P.cellsOf e) = some p.1 ∧ d.K w p.2 p.1 ∧ G p.2 := fun i hil => by
      obtain ⟨cs', h1, h2⟩ := hi i (by omega)
      obtain ⟨y, hK, hG⟩ := h H enc w base spare held n cs' _ h2
      exact ⟨(cs', y), h1, hK, hG⟩
    rcases Nat.eq_zero_or_pos len with h0 | h0
    · subst h0
      exact ⟨[], ⟨some a, cap, rfl, Nat.zero_le _, rfl, Nat.zero_le _, fun h0 => absurd h0 (Nat.lt_irrefl _)⟩, fun y hy => by cases hy⟩
    · obtain ⟨p0, _⟩ := hex 0 h0
      haveI : Inhabited (List Value × α) := ⟨p0⟩
      obtain ⟨F, hF⟩ := choose_lt hex
      have hlen : ((List.range len).map fun i => (F i).2).length = len := by simp
      refine ⟨(List.range len).map fun i => (F i).2, ⟨some a, cap, by rw [hlen], by omega, hlen ▸ rfl, by rw [hlen]; unfold maxLen at hm; omega, fun _ => ⟨a, rfl, fun j q hj => ?_⟩⟩, fun y hy => ?_⟩
      · have hjl : j < len := by have := (List.getElem?_eq_some_iff.1 hj).1; omega
        obtain ⟨h1, hK, _⟩ := hF j hjl
        have hq : (F j).2 = q := by simpa [hjl] using hj
        subst hq
        obtain ⟨_, hcl, hat⟩ := World.cells?_some h1
        refine ⟨(F j).1, by rw [hcl, hc], hK, fun i u hu => ?_⟩
        have hil : i < P.cellsOf e := by have := (List.getElem?_eq_some_iff.1 hu).1; omega
        rw [← hc, ← Go.Deep.add_add, hat i hil]
        exact hu
      · obtain ⟨i, hil, rfl⟩ := List.mem_map.1 hy
        exact (hF i (List.mem_range.1 hil)).2.2
/-- The same, with the row's length. -/
theorem opens_sliceL {α : Type} {t : TypeId} {e : Nat} {d : Kd α} {G : α → Prop} (ht : P.underlying t = some (.slice e)) (hc : P.cellsOf e = d.sz) (h : Opens P e d G) : Opens P t (Kd.slice e d) (fun xs => xs.length ≤ 9223372036854775807 ∧ ∀ x ∈ xs, G x) := by
  intro H enc w base spare held fuel cs x hx
  obtain ⟨a, hK, hG⟩ := opens_slice ht hc h H enc w base spare held fuel cs x hx
  refine ⟨a, hK, ?_, hG⟩
  obtain ⟨_, _, _, _, hC⟩ := hK
  exact hC.2.1
end
end Go.Proofs.Ytkdemainohfgfaa.Opens
