/- The first place of a row at which a function says yes; -1 of none: what slices.IndexFunc computes. -/
import Derived.Test.YtjjlcmfjmdfedaaWMore
namespace Go.Proofs.YtjjlcmfjmdfedaaW.PrintMore
open Go Go.RowKit Go.Proofs.YtjjlcmfjmdfedaaW.PrintWords
set_option linter.unusedVariables false

def idxG {α : Type} (p : α → Option Bool) : List α → Int → Option Int
  | [], _ => some (-1)
  | x :: xs, i => (p x).bind fun t => if t = true then some i else idxG p xs (i + 1)
theorem idxG_mono {α : Type} {p q : α → Option Bool} (h : ∀ x, LeO (p x) (q x)) : ∀ (l : List α) (i : Int), LeO (idxG p l i) (idxG q l i)
  | [], _ => fun r hr => hr
  | x :: xs, i => fun r hr => by
    simp only [idxG] at hr ⊢
    obtain ⟨t, ht, hr⟩ := Option.bind_eq_some_iff.mp hr
    rw [h x t ht]
    simp only [Option.bind_some]
    cases t with
    | true => exact hr
    | false => exact idxG_mono h xs (i + 1) r hr
theorem idxG_bound {α : Type} (p : α → Option Bool) : ∀ (l : List α) (i r : Int), 0 ≤ i → idxG p l i = some r → -1 ≤ r ∧ r < i + l.length
  | [], i, r, h, hr => by
    simp only [idxG] at hr
    obtain rfl := Option.some.inj hr
    simp only [List.length_nil]
    omega
  | x :: xs, i, r, h, hr => by
    simp only [idxG] at hr
    obtain ⟨t, ht, hr⟩ := Option.bind_eq_some_iff.mp hr
    simp only [List.length_cons]
    cases t with
    | true =>
      rw [if_pos rfl] at hr
      obtain rfl := Option.some.inj hr
      omega
    | false =>
      rw [if_neg (by decide)] at hr
      have := idxG_bound p xs (i + 1) r (by omega) hr
      omega
theorem idxG_drop {α : Type} (p : α → Option Bool) (l : List α) (k : Nat) (h : k < l.length) (z : α) (r : Int) (hr : idxG p (l.drop k) k = some r) :
    ∃ t, p (l.getD k z) = some t ∧ (t = true → r = (k : Int)) ∧ (t = false → idxG p (l.drop (k + 1)) ((k + 1 : Nat) : Int) = some r) := by
  rw [List.drop_eq_getElem_cons h] at hr
  simp only [idxG] at hr
  obtain ⟨t, ht, hr⟩ := Option.bind_eq_some_iff.mp hr
  rw [List.getD_eq_getElem?_getD, List.getElem?_eq_getElem h]
  refine ⟨t, ht, fun e => ?_, fun e => ?_⟩
  · subst e
    rw [if_pos rfl] at hr
    exact (Option.some.inj hr).symm
  · subst e
    rw [if_neg (by decide)] at hr
    exact hr

end Go.Proofs.YtjjlcmfjmdfedaaW.PrintMore
