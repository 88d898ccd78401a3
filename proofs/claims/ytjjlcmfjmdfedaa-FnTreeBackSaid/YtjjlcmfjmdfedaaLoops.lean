/- Loops told by what stands at each round: general laws on rounds, for printed functions. -/
import Derived.Test.YtjjlcmfjmdfedaaWMore
import Derived.Lib.Strings
namespace Go.Proofs.Ytjjlcmfjmdfedaa.Loops
open Go Go.RowKit Go.Proofs.YtjjlcmfjmdfedaaW.PrintWords Go.Proofs.YtjjlcmfjmdfedaaW.PrintMore
set_option linter.unusedVariables false
set_option linter.unusedSimpArgs false

theorem Ev.uniq {α : Type} {g : Nat → Option α} {a b : α} (h : Ev g a) (k : Ev g b) : a = b := by
  obtain ⟨K, h⟩ := h
  obtain ⟨K', k⟩ := k
  have h1 := h (max K K') (by omega)
  have h2 := k (max K K') (by omega)
  rw [h1] at h2
  exact Option.some.inj h2

theorem Ev.binds {α : Type} {F : Nat → Option α} {v : α} (h : Ev F v) : ∃ K, ∀ k, K ≤ k → ∀ (β : Type) (g : α → Option β), (F k).bind g = g v := by
  obtain ⟨K, h⟩ := h
  exact ⟨K, fun k hk β g => by rw [h k hk]; rfl⟩
/-- A loop that goes up, I i being what holds of what stands when i is reached. -/
theorem inv_loop {σ γ : Type} (n : Nat) (I : Nat → σ → Prop) (L : Nat → σ → Int → Option γ)
    (hstep : ∀ i, i < n → ∀ s, I i s → ∃ s', I (i + 1) s' ∧ ∀ r, Ev (fun k => L k s' ((i : Int) + 1)) r → Ev (fun k => L k s (i : Int)) r) :
    ∀ s0, I 0 s0 → ∃ s, I n s ∧ ∀ r, Ev (fun k => L k s (n : Int)) r → Ev (fun k => L k s0 0) r := by
  have main : ∀ d i s0, n - i = d → i ≤ n → I i s0 → ∃ s, I n s ∧ ∀ r, Ev (fun k => L k s (n : Int)) r → Ev (fun k => L k s0 (i : Int)) r := by
    intro d
    induction d with
    | zero =>
      intro i s0 hd hi h
      have : i = n := by omega
      subst this
      exact ⟨s0, h, fun r hr => hr⟩
    | succ d ih =>
      intro i s0 hd hi h
      obtain ⟨s', h', hs⟩ := hstep i (by omega) s0 h
      obtain ⟨s, hI, hr⟩ := ih (i + 1) s' (by omega) (by omega) h'
      refine ⟨s, hI, fun r hend => hs r ?_⟩
      have := hr r hend
      rwa [Int.natCast_add] at this
  intro s0 h0
  exact main n 0 s0 (by omega) (by omega) h0
theorem toList_nil (s : ByteArray) : s.toList = [] ↔ s.size = 0 := by
  rw [Go.Lib.toList_data]
  constructor
  · intro h
    have := congrArg List.length h
    simpa using this
  · intro h
    apply List.eq_nil_of_length_eq_zero
    simpa using h
end Go.Proofs.Ytjjlcmfjmdfedaa.Loops
