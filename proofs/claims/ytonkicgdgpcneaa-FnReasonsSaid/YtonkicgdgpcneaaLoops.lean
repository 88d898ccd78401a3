/- Loops told by what stands at each round: general laws on rounds, for printed functions. -/
import Derived.Test.YtonkicgdgpcneaaWMore
import Derived.Lib.Strings
namespace Go.Proofs.Ytonkicgdgpcneaa.Loops
open Go Go.RowKit Go.Proofs.YtonkicgdgpcneaaW.PrintWords Go.Proofs.YtonkicgdgpcneaaW.PrintMore
set_option linter.unusedVariables false
set_option linter.unusedSimpArgs false

theorem Ev.uniq {α : Type} {g : Nat → Option α} {a b : α} (h : Ev g a) (k : Ev g b) : a = b := by
  obtain ⟨K, h⟩ := h
  obtain ⟨K', k⟩ := k
  have h1 := h (max K K') (by omega)
  have h2 := k (max K K') (by omega)
  rw [h1] at h2
  exact Option.some.inj h2

theorem Ev.binds {α : Type} {F : Nat → Option α} {v : α} (h : Ev F v) : ∃ K, ∀ k, K ≤ k → ∀ (β : Type) (g : α → Option β), (F k).bind g = g v := by
  obtain ⟨K, h⟩ := h
  exact ⟨K, fun k hk β g => by rw [h k hk]; rfl⟩
/-- A loop that goes up, st i being what stands when i is reached. -/
theorem up_from {σ γ : Type} (n : Nat) (st : Nat → σ) (L : Nat → σ → Int → Option γ)
    (hstep : ∀ i, i < n → ∀ r, Ev (fun k => L k (st (i + 1)) ((i : Int) + 1)) r → Ev (fun k => L k (st i) (i : Int)) r) (r : γ) (hend : Ev (fun k => L k (st n) (n : Int)) r) :
    ∀ d i, n - i = d → i ≤ n → Ev (fun k => L k (st i) (i : Int)) r := by
  intro d
  induction d with
  | zero =>
    intro i hd hi
    have : i = n := by omega
    subst this
    exact hend
  | succ d ih =>
    intro i hd hi
    have := ih (i + 1) (by omega) (by omega)
    exact hstep i (by omega) r (by rwa [Int.natCast_add] at this)
theorem up_loop {σ γ : Type} (n : Nat) (st : Nat → σ) (L : Nat → σ → Int → Option γ)
    (hstep : ∀ i, i < n → ∀ r, Ev (fun k => L k (st (i + 1)) ((i : Int) + 1)) r → Ev (fun k => L k (st i) (i : Int)) r) (r : γ) (hend : Ev (fun k => L k (st n) (n : Int)) r) : Ev (fun k => L k (st 0) 0) r :=
  up_from n st L hstep r hend n 0 (by omega) (by omega)

/-- A loop that goes up, I i being what holds of what stands when i is reached. -/
theorem inv_loop {σ γ : Type} (n : Nat) (I : Nat → σ → Prop) (L : Nat → σ → Int → Option γ)
    (hstep : ∀ i, i < n → ∀ s, I i s → ∃ s', I (i + 1) s' ∧ ∀ r, Ev (fun k => L k s' ((i : Int) + 1)) r → Ev (fun k => L k s (i : Int)) r) :
    ∀ s0, I 0 s0 → ∃ s, I n s ∧ ∀ r, Ev (fun k => L k s (n : Int)) r → Ev (fun k => L k s0 0) r := by
  have main : ∀ d i s0, n - i = d → i ≤ n → I i s0 → ∃ s, I n s ∧ ∀ r, Ev (fun k => L k s (n : Int)) r → Ev (fun k => L k s0 (i : Int)) r := by
    intro d
    induction d with
    | zero =>
      intro i s0 hd hi h
      have : i = n := by omega
      subst this
      exact ⟨s0, h, fun r hr => hr⟩
    | succ d ih =>
      intro i s0 hd hi h
      obtain ⟨s', h', hs⟩ := hstep i (by omega) s0 h
      obtain ⟨s, hI, hr⟩ := ih (i + 1) s' (by omega) (by omega) h'
      refine ⟨s, hI, fun r hend => hs r ?_⟩
      have := hr r hend
      rwa [Int.natCast_add] at this
  intro s0 h0
  exact main n 0 s0 (by omega) (by omega) h0
theorem getElem?_rd {l : List Int} {i : Nat} (h : i < l.length) : l[i]? = some (rd l i) := by
  unfold rd
  rw [List.getD_eq_getElem?_getD, Int.toNat_natCast, List.getElem?_eq_getElem h]; rfl
/-- What stands when i elements of a row of n are filled. -/
def filled {β : Type} (conv : Nat → β) (z : List β) (i : Nat) : List β := (List.range i).map conv ++ z.drop i
theorem filled_zero {β : Type} (conv : Nat → β) (z : List β) : filled conv z 0 = z := by simp [filled]
theorem filled_len {β : Type} (conv : Nat → β) (z : List β) {i : Nat} (h : i ≤ z.length) : (filled conv z i).length = z.length := by simp [filled]; omega
theorem filled_all {β : Type} (conv : Nat → β) (z : List β) {n : Nat} (h : z.length = n) : filled conv z n = (List.range n).map conv := by simp [filled, ← h]
theorem filled_set {β : Type} (conv : Nat → β) (z : List β) {i : Nat} (h : i < z.length) : (filled conv z i).set i (conv i) = filled conv z (i + 1) := by
  unfold filled
  have e : ((List.range i).map conv).length = i := by simp
  rw [List.set_append_right _ _ (by omega), e, Nat.sub_self, List.range_succ, List.map_append, List.append_assoc]
  congr 1
  rw [List.drop_eq_getElem_cons h, List.set_cons_zero]
  simp

end Go.Proofs.Ytonkicgdgpcneaa.Loops
