/- Loops told by what stands at each round: general laws on rounds, for printed functions. -/
import Derived.Test.YtjjlcmfjmdfedaaWMore
import Derived.Lib.Strings
namespace Go.Proofs.Ytjjlcmfjmdfedaa.Loops
open Go Go.RowKit Go.Proofs.YtjjlcmfjmdfedaaW.PrintWords Go.Proofs.YtjjlcmfjmdfedaaW.PrintMore
set_option linter.unusedVariables false
set_option linter.unusedSimpArgs false

theorem Ev.uniq {α : Type} {g : Nat → Option α} {a b : α} (h : Ev g a) (k : Ev g b) : a = b := by
  obtain ⟨K, h⟩ := h
  obtain ⟨K', k⟩ := k
  have h1 := h (max K K') (by omega)
  have h2 := k (max K K') (by omega)
  rw [h1] at h2
  exact Option.some.inj h2

theorem Ev.binds {α : Type} {F : Nat → Option α} {v : α} (h : Ev F v) : ∃ K, ∀ k, K ≤ k → ∀ (β : Type) (g : α → Option β), (F k).bind g = g v := by
  obtain ⟨K, h⟩ := h
  exact ⟨K, fun k hk β g => by rw [h k hk]; rfl⟩
theorem some_binds {α : Type} {o : Option α} {v : α} (h : o = some v) (β : Type) (g : α → Option β) : o.bind g = g v := by rw [h]; rfl
theorem nn1 (n : Nat) : ((1 : Int) + (n : Int) < 0) = False := eq_false (by omega)

/-- A loop that goes up, st i being what stands when i is reached. -/
theorem up_from {σ γ : Type} (n : Nat) (st : Nat → σ) (L : Nat → σ → Int → Option γ)
    (hstep : ∀ i, i < n → ∀ r, Ev (fun k => L k (st (i + 1)) ((i : Int) + 1)) r → Ev (fun k => L k (st i) (i : Int)) r) (r : γ) (hend : Ev (fun k => L k (st n) (n : Int)) r) :
    ∀ d i, n - i = d → i ≤ n → Ev (fun k => L k (st i) (i : Int)) r := by
  intro d
  induction d with
  | zero =>
    intro i hd hi
    have : i = n := by omega
    subst this
    exact hend
  | succ d ih =>
    intro i hd hi
    have := ih (i + 1) (by omega) (by omega)
    exact hstep i (by omega) r (by rwa [Int.natCast_add] at this)
theorem up_loop {σ γ : Type} (n : Nat) (st : Nat → σ) (L : Nat → σ → Int → Option γ)
    (hstep : ∀ i, i < n → ∀ r, Ev (fun k => L k (st (i + 1)) ((i : Int) + 1)) r → Ev (fun k => L k (st i) (i : Int)) r) (r : γ) (hend : Ev (fun k => L k (st n) (n : Int)) r) : Ev (fun k => L k (st 0) 0) r :=
  up_from n st L hstep r hend n 0 (by omega) (by omega)

/-- A loop that goes down to 0: at i, it stands at st i; it ends at -1. -/
theorem down_loop {σ γ : Type} (n : Nat) (st : Nat → σ) (L : Nat → σ → Int → Option γ)
    (hstep : ∀ i, i < n → ∀ r, Ev (fun k => L k (st i) ((i : Int) - 1)) r → Ev (fun k => L k (st (i + 1)) (i : Int)) r) (r : γ) (hend : Ev (fun k => L k (st 0) (-1)) r) : Ev (fun k => L k (st n) ((n : Int) - 1)) r := by
  induction n with
  | zero => exact hend
  | succ n ih =>
    have h1 := ih (fun i hi => hstep i (by omega))
    have h2 := hstep n (by omega) r h1
    have e : ((n + 1 : Nat) : Int) - 1 = (n : Int) := by omega
    rw [e]
    exact h2

/-- A loop that goes up and stops at the first place at which p holds. -/
theorem find_loop {γ : Type} (n : Nat) (p : Nat → Bool) (L : Nat → Int → Option γ) (hit : Nat → γ) (miss : γ)
    (hhit : ∀ i, i < n → p i = true → Ev (fun k => L k (i : Int)) (hit i))
    (hgo : ∀ i, i < n → p i = false → ∀ r, Ev (fun k => L k ((i : Int) + 1)) r → Ev (fun k => L k (i : Int)) r)
    (hend : Ev (fun k => L k (n : Int)) miss) :
    (∃ i, i < n ∧ p i = true ∧ (∀ j, j < i → p j = false) ∧ Ev (fun k => L k 0) (hit i)) ∨ ((∀ j, j < n → p j = false) ∧ Ev (fun k => L k 0) miss) := by
  have main : ∀ d i, n - i = d → i ≤ n → (∃ i', i ≤ i' ∧ i' < n ∧ p i' = true ∧ (∀ j, i ≤ j → j < i' → p j = false) ∧ Ev (fun k => L k (i : Int)) (hit i')) ∨ ((∀ j, i ≤ j → j < n → p j = false) ∧ Ev (fun k => L k (i : Int)) miss) := by
    intro d
    induction d with
    | zero =>
      intro i hd hi
      have : i = n := by omega
      subst this
      exact .inr ⟨fun j h1 h2 => by omega, hend⟩
    | succ d ih =>
      intro i hd hi
      cases hp : p i with
      | true => exact .inl ⟨i, by omega, by omega, hp, fun j h1 h2 => by omega, hhit i (by omega) hp⟩
      | false =>
        rcases ih (i + 1) (by omega) (by omega) with ⟨i', h1, h2, h3, h4, h5⟩ | ⟨h4, h5⟩
        · refine .inl ⟨i', by omega, h2, h3, fun j hj1 hj2 => ?_, hgo i (by omega) hp _ (by rwa [Int.natCast_add] at h5)⟩
          by_cases e : j = i
          · rw [e]; exact hp
          · exact h4 j (by omega) hj2
        · refine .inr ⟨fun j hj1 hj2 => ?_, hgo i (by omega) hp _ (by rwa [Int.natCast_add] at h5)⟩
          by_cases e : j = i
          · rw [e]; exact hp
          · exact h4 j (by omega) hj2
  rcases main n 0 (by omega) (by omega) with ⟨i', _, h2, h3, h4, h5⟩ | ⟨h4, h5⟩
  · exact .inl ⟨i', h2, h3, fun j hj => h4 j (by omega) hj, h5⟩
  · exact .inr ⟨fun j hj => h4 j (by omega) hj, h5⟩

/-- The same where both ends are fixed answers. -/
theorem all_loop {γ : Type} (n : Nat) (P : Prop) [Decidable P] (p : Nat → Bool) (L : Nat → Int → Option γ) (hit miss : γ)
    (hhit : ∀ i, i < n → p i = true → Ev (fun k => L k (i : Int)) hit)
    (hgo : ∀ i, i < n → p i = false → ∀ r, Ev (fun k => L k ((i : Int) + 1)) r → Ev (fun k => L k (i : Int)) r)
    (hend : Ev (fun k => L k (n : Int)) miss) (hP : P ↔ ∀ j, j < n → p j = false) : Ev (fun k => L k 0) (if P then miss else hit) := by
  rcases find_loop n p L (fun _ => hit) miss hhit hgo hend with ⟨i, h1, h2, _, h⟩ | ⟨h1, h⟩
  · rw [if_neg (fun hp => by have := hP.1 hp i h1; rw [h2] at this; cases this)]
    exact h
  · rw [if_pos (hP.2 h1)]
    exact h


/-- A loop that goes up, I i being what holds of what stands when i is reached. -/
theorem inv_loop {σ γ : Type} (n : Nat) (I : Nat → σ → Prop) (L : Nat → σ → Int → Option γ)
    (hstep : ∀ i, i < n → ∀ s, I i s → ∃ s', I (i + 1) s' ∧ ∀ r, Ev (fun k => L k s' ((i : Int) + 1)) r → Ev (fun k => L k s (i : Int)) r) :
    ∀ s0, I 0 s0 → ∃ s, I n s ∧ ∀ r, Ev (fun k => L k s (n : Int)) r → Ev (fun k => L k s0 0) r := by
  have main : ∀ d i s0, n - i = d → i ≤ n → I i s0 → ∃ s, I n s ∧ ∀ r, Ev (fun k => L k s (n : Int)) r → Ev (fun k => L k s0 (i : Int)) r := by
    intro d
    induction d with
    | zero =>
      intro i s0 hd hi h
      have : i = n := by omega
      subst this
      exact ⟨s0, h, fun r hr => hr⟩
    | succ d ih =>
      intro i s0 hd hi h
      obtain ⟨s', h', hs⟩ := hstep i (by omega) s0 h
      obtain ⟨s, hI, hr⟩ := ih (i + 1) s' (by omega) (by omega) h'
      refine ⟨s, hI, fun r hend => hs r ?_⟩
      have := hr r hend
      rwa [Int.natCast_add] at this
  intro s0 h0
  exact main n 0 s0 (by omega) (by omega) h0
/-- The same, downwards. -/
theorem inv_down {σ γ : Type} (n : Nat) (I : Nat → σ → Prop) (L : Nat → σ → Int → Option γ)
    (hstep : ∀ i, i < n → ∀ s, I (i + 1) s → ∃ s', I i s' ∧ ∀ r, Ev (fun k => L k s' ((i : Int) - 1)) r → Ev (fun k => L k s (i : Int)) r) :
    ∀ s0, I n s0 → ∃ s, I 0 s ∧ ∀ r, Ev (fun k => L k s (-1)) r → Ev (fun k => L k s0 ((n : Int) - 1)) r := by
  induction n with
  | zero => exact fun s0 h => ⟨s0, h, fun r hr => hr⟩
  | succ n ih =>
    intro s0 h0
    obtain ⟨s', h', hs⟩ := hstep n (by omega) s0 h0
    obtain ⟨s, hI, hr⟩ := ih (fun i hi => hstep i (by omega)) s' h'
    refine ⟨s, hI, fun r hend => ?_⟩
    have := hs r (hr r hend)
    have e : ((n + 1 : Nat) : Int) - 1 = (n : Int) := by omega
    rwa [e]

theorem toList_nil (s : ByteArray) : s.toList = [] ↔ s.size = 0 := by
  rw [Go.Lib.toList_data]
  constructor
  · intro h
    have := congrArg List.length h
    simpa using this
  · intro h
    apply List.eq_nil_of_length_eq_zero
    simpa using h
theorem eq_of_toList {s t : ByteArray} (h : s.toList = t.toList) : s = t := by
  rw [Go.Lib.toList_data, Go.Lib.toList_data] at h
  cases s; cases t
  congr 1
  exact Array.toList_inj.1 h

theorem getElem?_rd {l : List Int} {i : Nat} (h : i < l.length) : l[i]? = some (rd l i) := by
  unfold rd
  rw [List.getD_eq_getElem?_getD, Int.toNat_natCast, List.getElem?_eq_getElem h]; rfl
theorem list_of_rd (l : List Int) : (List.range l.length).map (fun (i : Nat) => rd l (i : Int)) = l := by
  apply List.ext_getElem?
  intro i
  by_cases h : i < l.length
  · rw [getElem?_rd h]; simp [h]
  · rw [List.getElem?_eq_none (by simp; omega), List.getElem?_eq_none (by omega)]
theorem ext_rd {l m : List Int} (hl : l.length = m.length) (h : ∀ i : Nat, i < l.length → rd l i = rd m i) : l = m := by
  apply List.ext_getElem?
  intro i
  by_cases hi : i < l.length
  · rw [getElem?_rd hi, getElem?_rd (by omega), h i hi]
  · rw [List.getElem?_eq_none (by omega), List.getElem?_eq_none (by omega)]

/-- What stands when i elements of a row of n are filled. -/
def filled {β : Type} (conv : Nat → β) (z : List β) (i : Nat) : List β := (List.range i).map conv ++ z.drop i
theorem filled_zero {β : Type} (conv : Nat → β) (z : List β) : filled conv z 0 = z := by simp [filled]
theorem filled_len {β : Type} (conv : Nat → β) (z : List β) {i : Nat} (h : i ≤ z.length) : (filled conv z i).length = z.length := by simp [filled]; omega
theorem filled_all {β : Type} (conv : Nat → β) (z : List β) {n : Nat} (h : z.length = n) : filled conv z n = (List.range n).map conv := by simp [filled, ← h]
theorem filled_set {β : Type} (conv : Nat → β) (z : List β) {i : Nat} (h : i < z.length) : (filled conv z i).set i (conv i) = filled conv z (i + 1) := by
  unfold filled
  have e : ((List.range i).map conv).length = i := by simp
  rw [List.set_append_right _ _ (by omega), e, Nat.sub_self, List.range_succ, List.map_append, List.append_assoc]
  congr 1
  rw [List.drop_eq_getElem_cons h, List.set_cons_zero]
  simp

end Go.Proofs.Ytjjlcmfjmdfedaa.Loops
