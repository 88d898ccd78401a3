/- Arguments of any printed kind (structs, slices of structs, rows of rows) are opened out of what a row reads. -/
import Derived.Test.YtjjlcmfjmdfedaaWWords
import Derived.ChangeSlices
import Derived.ChangeArms
import Derived.OpenShut
import Derived.DataElems
namespace Go.Proofs.Ytjjlcmfjmdfedaa.Opener
open Go Go.ChangeShapes Go.WideShapes Go.RowKit Go.Proofs.YtjjlcmfjmdfedaaW.PrintWords
set_option linter.unusedVariables false
set_option linter.unusedSimpArgs false

/-- What is told of values, by their kinds. -/
def QI (k : IntKind) : Int → Prop := fun n => (Lit.int k n).wf = true
def QB : Bool → Prop := fun _ => True
def QS : ByteArray → Prop := fun s => s.size ≤ maxLen
def QL {α : Type} (q : α → Prop) : List α → Prop := fun l => l.length ≤ 9223372036854775807 ∧ ∀ x ∈ l, q x
def QP {α β : Type} (q : α → Prop) (q2 : β → Prop) : α × β → Prop := fun y => q y.1 ∧ q2 y.2
def QF {α β : Type} (q : α → Prop) (f : β → α) : β → Prop := fun y => q (f y)

/-- A value of type t, whatever is read of it, is one of kind d with q. -/
def Opens (P : Program) (t : TypeId) {α : Type} (d : Kd α) (q : α → Prop) : Prop :=
  P.cellsOf t = d.sz ∧ ∀ (H : Type) (enc : TypeId × Value → H) (W : World) (fuel : Nat) (cs : List Value) (x : DataW H × List MemPlace),
    DataW.trod enc P W 0 (fun _ => true) true fuel t cs = some x → ∃ y : α, d.K W y cs ∧ q y

def OpensFs (P : Program) (fs : List Field) (o : Nat) {α : Type} (d : Kd α) (q : α → Prop) : Prop :=
  ∀ (H : Type) (enc : TypeId × Value → H) (W : World) (n : Nat) (cs : List Value), cs.length = o + d.sz →
    (∀ f ∈ fs, ∃ x, DataW.trod enc P W 0 (fun _ => true) true n f.type ((cs.drop f.offset).take (P.cellsOf f.type)) = some x) → ∃ y : α, d.K W y (cs.drop o) ∧ q y

theorem Opens.int {P : Program} {t : TypeId} {k : IntKind} (ht : P.underlying t = some (.int k)) (hc : P.cellsOf t = 1) : Opens P t (Kd.int k) (QI k) :=
  ⟨hc, fun H enc W fuel cs x h => by
    obtain ⟨n, rfl, _, hw⟩ := DataW.trod_int ht h
    exact ⟨n, rfl, hw⟩⟩

theorem Opens.bool {P : Program} {t : TypeId} (ht : P.underlying t = some .bool) (hc : P.cellsOf t = 1) : Opens P t Kd.bool QB :=
  ⟨hc, fun H enc W fuel cs x h => by
    obtain ⟨n, rfl, _⟩ := DataW.trod_bool ht h
    exact ⟨n, rfl, trivial⟩⟩

theorem Opens.string {P : Program} {t : TypeId} (ht : P.underlying t = some .string) (hc : P.cellsOf t = 1) : Opens P t Kd.string QS :=
  ⟨hc, fun H enc W fuel cs x h => by
    obtain ⟨n, rfl, _, hw⟩ := DataW.trod_string ht h
    exact ⟨n, rfl, hw⟩⟩

theorem Opens.slice {P : Program} {t e : TypeId} {α : Type} {d : Kd α} {q : α → Prop} (ht : P.underlying t = some (.slice e)) (hc : P.cellsOf t = 1) (h : Opens P e d q) :
    Opens P t (Kd.slice e d) (QL q) :=
  ⟨hc, fun H enc W fuel cs x hx => by
    rcases DataW.trod_slice ht hx with ⟨rfl, _⟩ | ⟨a, len, cap, elems, rest, n, _, rfl, _, hb, hl, hm, hlen, hel, h5, h6⟩
    · exact ⟨[], ⟨none, 0, rfl, Nat.le_refl _, Kd.C_nil d W⟩, by simp, fun x hx => by simp at hx⟩
    · clear h5 h6
      have each : ∀ i, i < len → ∃ y : α, (∃ c, c.length = d.sz ∧ d.K W y c ∧ ∀ j u, c[j]? = some u → W.cell? (a.add (i * d.sz + j)) = some u) ∧ q y := by
        intro i hi
        have he := hel i hi
        rw [List.getElem?_eq_getElem (by omega)] at he
        obtain ⟨c, hcs, hy⟩ := Option.bind_eq_some_iff.mp he
        obtain ⟨y, hK, hq⟩ := h.2 H enc W n c _ hy
        obtain ⟨_, hcl, hcell⟩ := World.cells?_some hcs
        rw [h.1] at hcl hcell
        refine ⟨y, ⟨c, hcl, hK, fun j u hj => ?_⟩, hq⟩
        have hjl : j < d.sz := by
          have := (List.getElem?_eq_some_iff.1 hj).1
          omega
        have := hcell j hjl
        rw [hj] at this
        rw [← this, Addr.add_add]
      have hex : ∃ ys : List α, ys.length = len ∧ ∀ i (y : α), ys[i]? = some y → (∃ c, c.length = d.sz ∧ d.K W y c ∧ ∀ j u, c[j]? = some u → W.cell? (a.add (i * d.sz + j)) = some u) ∧ q y := by
        clear hx hel hlen hm hl hb
        induction len with
        | zero => exact ⟨[], rfl, fun i y hy => by simp at hy⟩
        | succ m ih =>
          obtain ⟨ys, hl, hys⟩ := ih (fun i hi => each i (by omega))
          obtain ⟨y, hy, hq⟩ := each m (by omega)
          refine ⟨ys ++ [y], by simp [hl], fun i z hz => ?_⟩
          by_cases hi : i < ys.length
          · rw [List.getElem?_append_left hi] at hz
            exact hys i z hz
          · rw [List.getElem?_append_right (by omega)] at hz
            have hi0 : i - ys.length = 0 := by
              have := (List.getElem?_eq_some_iff.1 hz).1
              simp at this
              omega
            rw [hi0] at hz
            simp at hz
            subst hz
            have : i = m := by omega
            subst this
            exact ⟨hy, hq⟩
      obtain ⟨ys, hyl, hys⟩ := hex
      refine ⟨ys, ⟨some a, cap, by rw [hyl], by omega, ⟨rfl, by rw [hyl]; unfold maxLen at hm; omega, fun _ => ⟨a, rfl, fun j p hj => (hys j p hj).1⟩⟩⟩, by rw [hyl]; unfold maxLen at hm; omega, fun x hx => ?_⟩
      obtain ⟨i, hi⟩ := List.getElem?_of_mem hx
      exact (hys i x hi).2⟩

theorem OpensFs.one {P : Program} {f : Field} {o : Nat} {α : Type} {d : Kd α} {q : α → Prop} (ho : f.offset = o) (h : Opens P f.type d q) : OpensFs P [f] o d q := by
  intro H enc W n cs hcs hfs
  obtain ⟨x, hx⟩ := hfs f (by simp)
  obtain ⟨y, hK, hq⟩ := h.2 H enc W n _ x hx
  rw [ho, h.1, List.take_of_length_le (by simp; omega)] at hK
  exact ⟨y, hK, hq⟩

theorem OpensFs.cons {P : Program} {f : Field} {fs : List Field} {o : Nat} {α β : Type} {d : Kd α} {q : α → Prop} {d2 : Kd β} {q2 : β → Prop} (ho : f.offset = o) (h : Opens P f.type d q)
    (r : OpensFs P fs (o + d.sz) d2 q2) : OpensFs P (f :: fs) o (Kd.pair d d2) (QP q q2) := by
  intro H enc W n cs hcs hfs
  obtain ⟨x, hx⟩ := hfs f (by simp)
  obtain ⟨y, hK, hq⟩ := h.2 H enc W n _ x hx
  have hs : (Kd.pair d d2).sz = d.sz + d2.sz := rfl
  obtain ⟨y2, hK2, hq2⟩ := r H enc W n cs (by omega) (fun g hg => hfs g (by simp [hg]))
  rw [ho, h.1] at hK
  refine ⟨(y, y2), ⟨_, _, ?_, hK, hK2⟩, hq, hq2⟩
  rw [← List.drop_drop, List.take_append_drop]

theorem Opens.struct {P : Program} {t : TypeId} {fs : List Field} {α : Type} {d : Kd α} {q : α → Prop} (ht : P.underlying t = some (.struct fs.toArray)) (m : Nat) (hm : P.cellsOf t = m) (hs : m = d.sz) (h : OpensFs P fs 0 d q) : Opens P t d q :=
  have hc : P.cellsOf t = d.sz := hm.trans hs
  ⟨hc, fun H enc W fuel cs x hx => by
    obtain ⟨xs, n, _, _, hl, hxl, hf⟩ := DataW.trod_struct ht hx
    have := h H enc W n cs (by omega) (fun f hf' => by
      obtain ⟨i, hi⟩ := List.getElem?_of_mem hf'
      have hi' : fs.toArray[i]? = some f := by simpa using hi
      have hil : i < fs.length := (List.getElem?_eq_some_iff.1 hi).1
      have hxl' : xs.length = fs.length := by simpa using hxl
      exact ⟨xs[i], by rw [hf i f hi', List.getElem?_eq_getElem (by omega)]⟩)
    simpa using this⟩

theorem Opens.iso {P : Program} {t : TypeId} {α β : Type} {d : Kd α} {q : α → Prop} (f : β → α) (g : α → β) (hfg : ∀ x, f (g x) = x) (h : Opens P t d q) : Opens P t (Kd.iso d f) (QF q f) :=
  ⟨h.1, fun H enc W fuel cs x hx => by
    obtain ⟨y, hK, hq⟩ := h.2 H enc W fuel cs x hx
    refine ⟨g y, ?_, by show q (f (g y)); rw [hfg]; exact hq⟩
    show d.K W (f (g y)) cs
    rw [hfg]
    exact hK⟩

theorem OpensFs.iso {P : Program} {fs : List Field} {o : Nat} {α β : Type} {d : Kd α} {q : α → Prop} (f : β → α) (g : α → β) (hfg : ∀ x, f (g x) = x) (h : OpensFs P fs o d q) : OpensFs P fs o (Kd.iso d f) (QF q f) := by
  intro H enc W n cs hcs hfs
  obtain ⟨y, hK, hq⟩ := h H enc W n cs hcs hfs
  refine ⟨g y, ?_, by show q (f (g y)); rw [hfg]; exact hq⟩
  show d.K W (f (g y)) _
  rw [hfg]
  exact hK

theorem trod_agg {P : Program} {t : TypeId} {α : Type} {d : Kd α} {q : α → Prop} (h : Opens P t d q) {H : Type} {enc : TypeId × Value → H} {W : World} {v : Value} {x : DataW H} {ps : List MemPlace} (hx : DataW.Trod enc P W 0 (fun _ => true) true t v x ps) :
    ∃ y : α, d.K W y v.cells.toList ∧ q y := by
  obtain ⟨fuel, hf⟩ := hx
  exact h.2 H enc W fuel _ _ hf

end Go.Proofs.Ytjjlcmfjmdfedaa.Opener
