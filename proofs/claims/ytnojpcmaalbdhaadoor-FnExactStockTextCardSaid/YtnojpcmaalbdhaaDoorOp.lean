/- What a datum that came in reads as: of whole numbers, bools, strings, slices and structs of these, one value of the printed kind, whose numbers fit their kinds and whose slices are no longer than Go allows. -/
import Derived.Test.YtnojpcmaalbdhaaDoorV
import Derived.Deep.Slices
import Derived.ChangeArms
namespace Go.Proofs.YtnojpcmaalbdhaaDoor.Op
open Go.RowKit Go.ChangeShapes Go.WideShapes Go.Proofs.YtnojpcmaalbdhaaDoorW.PrintWords

/-- Whatever is read at type t is a value of kind d that meets Q. -/
structure Opens (P : Program) {α : Type} (t : TypeId) (d : Kd α) (Q : α → Prop) : Prop where
  sz : P.cellsOf t = d.sz
  out : ∀ {H : Type} {enc : TypeId × Value → H} {w : World} {base : Nat} {spare : Nat → Bool} {held : Bool} {fuel : Nat} {cs : List Value} {x : DataW H × List MemPlace},
    DataW.trod enc P w base spare held fuel t cs = some x → ∃ y, d.K w y cs ∧ Q y

theorem opens_int {P : Program} {t : TypeId} {k : IntKind} (hu : P.underlying t = some (.int k)) (hc : P.cellsOf t = 1) : Opens P t (Kd.int k) (fun n => (Lit.int k n).wf = true) := by
  refine ⟨hc, fun h => ?_⟩
  obtain ⟨n, rfl, _, hw⟩ := DataW.trod_int hu h
  exact ⟨n, rfl, hw⟩

theorem opens_bool {P : Program} {t : TypeId} (hu : P.underlying t = some .bool) (hc : P.cellsOf t = 1) : Opens P t Kd.bool (fun _ => True) := by
  refine ⟨hc, fun h => ?_⟩
  obtain ⟨b, rfl, _⟩ := DataW.trod_bool hu h
  exact ⟨b, rfl, trivial⟩

theorem opens_string {P : Program} {t : TypeId} (hu : P.underlying t = some .string) (hc : P.cellsOf t = 1) : Opens P t Kd.string (fun s => s.size ≤ maxLen) := by
  refine ⟨hc, fun h => ?_⟩
  obtain ⟨s, rfl, _, hs⟩ := DataW.trod_string hu h
  exact ⟨s, rfl, hs⟩

/-- One list of values out of one for each place. -/
theorem list_of {α : Type} (n : Nat) (p : Nat → α → Prop) (h : ∀ i, i < n → ∃ x, p i x) : ∃ xs : List α, xs.length = n ∧ ∀ i x, xs[i]? = some x → p i x := by
  induction n with
  | zero => exact ⟨[], rfl, fun i x hx => by simp at hx⟩
  | succ n ih =>
    obtain ⟨xs, hl, hx⟩ := ih (fun i hi => h i (by omega))
    obtain ⟨x, hn⟩ := h n (by omega)
    refine ⟨xs ++ [x], by simp [hl], fun i y hy => ?_⟩
    by_cases hi : i < xs.length
    · rw [List.getElem?_append_left hi] at hy
      exact hx i y hy
    · rw [List.getElem?_append_right (by omega)] at hy
      by_cases hz : i - xs.length = 0
      · rw [hz] at hy
        simp at hy
        subst hy
        have : i = n := by omega
        subst this
        exact hn
      · rw [List.getElem?_eq_none (by simp; omega)] at hy
        simp at hy

theorem opens_slice {P : Program} {t e : TypeId} {α : Type} {d : Kd α} {Q : α → Prop} (hu : P.underlying t = some (.slice e)) (hc : P.cellsOf t = 1) (hd : Opens P e d Q) :
    Opens P t (Kd.slice e d) (fun xs => xs.length ≤ maxLen ∧ ∀ x, x ∈ xs → Q x) := by
  refine ⟨hc, ?_⟩
  intro H enc w base spare held fuel cs x h
  rcases Go.Deep.open_slice hu h with ⟨rfl, _⟩ | ⟨a, len, cap, m, n, D, Pl, rfl, _, hl, hm, hmm, _, hx⟩
  · exact ⟨[], ⟨none, 0, rfl, Nat.le_refl _, by
      refine ⟨rfl, by simp, fun hn => absurd hn (by simp)⟩⟩, by simp, fun x hx => by simp at hx⟩
  · have hml : len ≤ m := by rw [hmm]; split <;> omega
    obtain ⟨xs, hxl, hxs⟩ := list_of len (fun i y => ∃ c, w.cells? base (a.add (i * P.cellsOf e)) (P.cellsOf e) = some c ∧ d.K w y c ∧ Q y) (fun i hi => by
      obtain ⟨c, h1, h2⟩ := hx i (by omega)
      obtain ⟨y, hy, hq⟩ := hd.out h2
      exact ⟨y, c, h1, hy, hq⟩)
    subst hxl
    refine ⟨xs, ⟨some a, cap, rfl, hl, ?_⟩, by omega, fun x hx => ?_⟩
    · refine ⟨rfl, by have := hm; simp only [maxLen] at this; omega, fun _ => ⟨a, rfl, ?_⟩⟩
      intro j p hj
      obtain ⟨c, h1, hk, _⟩ := hxs j p hj
      obtain ⟨_, hl2, hc2⟩ := World.cells?_some h1
      refine ⟨c, hl2.trans hd.sz, hk, fun i u hu => ?_⟩
      have hi : i < P.cellsOf e := by have := (List.getElem?_eq_some_iff.1 hu).1; omega
      have hq := hc2 i hi
      rw [Go.Deep.add_add, hd.sz] at hq
      rw [hq, hu]
    · obtain ⟨i, hi⟩ := List.mem_iff_getElem?.1 hx
      obtain ⟨c, _, _, hq⟩ := hxs i x hi
      exact hq

/-- Fields that are read one behind the other, from place o on. -/
structure Fields (P : Program) {α : Type} (fs : List Field) (o : Nat) (d : Kd α) (Q : α → Prop) : Prop where
  out : ∀ {H : Type} {enc : TypeId × Value → H} {w : World} {base : Nat} {spare : Nat → Bool} {held : Bool} {n : Nat} {cs : List Value},
    (∀ f, f ∈ fs → ∃ x, DataW.trod enc P w base spare held n f.type ((cs.drop f.offset).take (P.cellsOf f.type)) = some x) → ∃ y, d.K w y ((cs.drop o).take d.sz) ∧ Q y

theorem fields_one {P : Program} {α : Type} {d : Kd α} {Q : α → Prop} {f : Field} {o : Nat} (hd : Opens P f.type d Q) (ho : f.offset = o) : Fields P [f] o d Q := by
  refine ⟨?_⟩
  intro H enc w base spare held n cs h
  obtain ⟨x, hx⟩ := h f (by simp)
  rw [ho, hd.sz] at hx
  exact hd.out hx

theorem fields_cons {P : Program} {α β : Type} {a : Kd α} {b : Kd β} {Qa : α → Prop} {Qb : β → Prop} {f : Field} {fs : List Field} {o : Nat} (ha : Opens P f.type a Qa) (ho : f.offset = o) (hb : Fields P fs (o + a.sz) b Qb) :
    Fields P (f :: fs) o (Kd.pair a b) (fun x => Qa x.1 ∧ Qb x.2) := by
  refine ⟨?_⟩
  intro H enc w base spare held n cs h
  obtain ⟨x, hx⟩ := h f (by simp)
  rw [ho, ha.sz] at hx
  obtain ⟨y, hy, hq⟩ := ha.out hx
  obtain ⟨z, hz, hr⟩ := hb.out (fun g hg => h g (by simp [hg]))
  refine ⟨(y, z), ⟨_, _, ?_, hy, hz⟩, hq, hr⟩
  show (cs.drop o).take (a.sz + b.sz) = _
  rw [List.take_add, List.drop_drop]

theorem opens_struct {P : Program} {t : TypeId} {fs : Array Field} {α β : Type} {d : Kd α} {Q : α → Prop} (hu : P.underlying t = some (.struct fs)) (hc : P.cellsOf t = d.sz) (hf : Fields P fs.toList 0 d Q) (g : β → α) (g' : α → β) (hg : ∀ x, g (g' x) = x) :
    Opens P t (Kd.iso d g) (fun y => Q (g y)) := by
  refine ⟨hc, ?_⟩
  intro H enc w base spare held fuel cs x h
  obtain ⟨xs, n, _, _, hl, hxl, hx⟩ := DataW.trod_struct hu h
  obtain ⟨y, hy, hq⟩ := hf.out (enc := enc) (w := w) (base := base) (spare := spare) (held := held) (n := n) (cs := cs) (fun f hm => by
    obtain ⟨i, hi⟩ := List.mem_iff_getElem?.1 hm
    have hi' : fs[i]? = some f := by rw [← Array.getElem?_toList]; exact hi
    have := hx i f hi'
    have hlt : i < xs.length := by have h2 := (Array.getElem?_eq_some_iff.1 hi').1; omega
    rw [List.getElem?_eq_getElem hlt] at this
    exact ⟨_, this⟩)
  refine ⟨g' y, ?_, by show Q (g (g' y)); rw [hg]; exact hq⟩
  show d.K w (g (g' y)) cs
  rw [hg]
  have e : (cs.drop 0).take d.sz = cs := by rw [List.drop_zero, ← hc, ← hl, List.take_length]
  rw [e] at hy
  exact hy
end Go.Proofs.YtnojpcmaalbdhaaDoor.Op
