/- For every code: the forest drawn of it and what Join makes of it answer as the law says. -/
import Derived.Test.YtkjlplcdjdenkaaPFnForestx11
import Derived.Test.YtkjlplcdjdenkaaBits
import Derived.Test.YtkjlplcdjdenkaaLoops
namespace Go.Proofs.Ytkjlplcdjdenkaa.Pure
open Go Go.RowKit Go.Proofs.Ytkjlplcdjdenkaa.PFnForest Go.Proofs.YtkjlplcdjdenkaaW.PrintWords Go.Proofs.YtkjlplcdjdenkaaW.PrintLast Go.Proofs.YtkjlplcdjdenkaaW.PrintMore Go.Proofs.Ytkjlplcdjdenkaa.BitsLib Go.Proofs.Ytkjlplcdjdenkaa.Loops
set_option linter.unusedVariables false
set_option linter.unusedSimpArgs false
set_option maxRecDepth 4000

/-! wrap_next -/
theorem wrap_next (i : Nat) (h : i < 4611686018427387904) : wrap64 ((i : Int) + 1) = ((i + 1 : Nat) : Int) := by
  rw [wrap64_id (by omega) (by omega)]; rfl

/-! implInside -/
theorem inside_eq (a b c : Int) : impl_inside.f a b c = some (decide (b ≤ a ∧ a ≤ c)) := by
  unfold impl_inside.f
  by_cases h1 : b ≤ a
  · rw [if_pos h1]; simp [h1]
  · rw [if_neg h1]; simp [h1]

/-! specIn -/
theorem l1In_eq (a b c : Int) : spec_l1In.f a b c = some (decide (b ≤ a ∧ a ≤ c)) := by
  unfold spec_l1In.f
  by_cases h1 : b ≤ a
  · rw [if_pos h1]; simp [h1]
  · rw [if_neg h1]; simp [h1]

/-! merges -/
/-- What element i is when y has become x. -/
def mg (ls : List Int) (x y : Int) (i : Nat) : Int := if rd ls (i : Int) = y then x else rd ls (i : Int)
def mergeL (ls : List Int) (x y : Int) : List Int := (List.range ls.length).map (mg ls x y)
theorem mergeL_len (ls : List Int) (x y : Int) : (mergeL ls x y).length = ls.length := by simp [mergeL]
theorem filled_rd (conv : Nat → Int) (z : List Int) {i : Nat} (h : i < z.length) : rd (filled conv z i) (i : Int) = rd z (i : Int) := by
  have h1 : i < (filled conv z i).length := by rw [filled_len _ _ (by omega)]; exact h
  have e := getElem?_rd h1
  have e2 := getElem?_rd h
  unfold filled at e ⊢
  rw [List.getElem?_append_right (by simp), List.length_map, List.length_range, Nat.sub_self, List.getElem?_drop, Nat.add_zero, e2] at e
  exact (Option.some.inj e).symm
theorem filled_skip (conv : Nat → Int) (z : List Int) {i : Nat} (h : i < z.length) (hc : conv i = rd z (i : Int)) : filled conv z i = filled conv z (i + 1) := by
  rw [← filled_set conv z h]
  apply List.ext_getElem?
  intro j
  by_cases e : j = i
  · subst e
    have h1 : j < (filled conv z j).length := by rw [filled_len _ _ (by omega)]; exact h
    rw [List.getElem?_set_self h1, getElem?_rd h1, filled_rd conv z h, hc]
  · rw [List.getElem?_set_ne (Ne.symm e)]
/-- The lists of numbers 0 .. n - 1. -/
def idL (n : Nat) : List Int := (List.range n).map fun (i : Nat) => (i : Int)
theorem idL_len (n : Nat) : (idL n).length = n := by simp [idL]
theorem idL_succ (n : Nat) : idL (n + 1) = idL n ++ [(n : Int)] := by simp [idL, List.range_succ]

/-! steps -/
def stepL (ls : List Int) (e : S51) : List Int := mergeL ls (mn (rd ls e.f0) (rd ls e.f1)) (mx (rd ls e.f0) (rd ls e.f1))
theorem stepL_len (ls : List Int) (e : S51) : (stepL ls e).length = ls.length := mergeL_len _ _ _
theorem merge_spec (ls : List Int) (x y : Int) (hl : ls.length ≤ 1000000) : Ev (fun k => spec_l7Merge.l0 k ls x y 0) (mergeL ls x y) := by
  have main := up_loop ls.length (filled (mg ls x y) ls) (fun k s i => spec_l7Merge.l0 k s x y i)
    (fun i hi r h => by
      have h1 : (i : Int) < ((filled (mg ls x y) ls i).length : Int) := by rw [filled_len _ _ (by omega)]; omega
      by_cases c : rd ls (i : Int) = y
      · refine Ev.step (fun k => ?_) h
        simp only [spec_l7Merge.l0]
        rw [if_pos h1, if_pos (by omega), filled_rd _ _ hi, if_pos c, Int.toNat_natCast, wrap64_id (by omega) (by omega), ← filled_set _ _ hi, mg, if_pos c]
      · refine Ev.step (fun k => ?_) h
        simp only [spec_l7Merge.l0]
        rw [if_pos h1, if_pos (by omega), filled_rd _ _ hi, if_neg c, wrap64_id (by omega) (by omega), ← filled_skip _ _ hi (by rw [mg, if_neg c])])
    (mergeL ls x y) (Ev.step (f := fun _ => some (mergeL ls x y)) (fun k => by
      simp only [spec_l7Merge.l0]
      rw [if_neg (by rw [filled_len _ _ (Nat.le_refl _)]; omega), filled_all _ _ rfl]; rfl) (Ev.now _))
  rwa [filled_zero] at main
theorem l7Merge_ev (ls : List Int) (e : S51) (hl : ls.length ≤ 1000000) (ha : 0 ≤ e.f0 ∧ e.f0 < ls.length) (hb : 0 ≤ e.f1 ∧ e.f1 < ls.length) : Ev (fun k => spec_l7Merge.f k ls e.f0 e.f1) (stepL ls e) :=
  Ev.congr (fun k => by simp (disch := omega) only [spec_l7Merge.f, ↓if_pos]) (merge_spec ls _ _ hl)

/-! rdELink -/
theorem rdE_T51 (xs : List S51) (i : Nat) (h : i < xs.length) : rd_T51 xs (i : Int) = xs[i] := by
  unfold rd_T51
  rw [List.getD_eq_getElem?_getD, Int.toNat_natCast, List.getElem?_eq_getElem h]
  rfl

/-! roots -/
def InL (n : Int) (e : S51) : Prop := 0 ≤ e.f0 ∧ e.f0 ≤ n - 1 ∧ 0 ≤ e.f1 ∧ e.f1 ≤ n - 1
theorem merge_impl (n : Int) (es : List S51) (j : Int) (ls : List Int) (x y : Int) (hl : ls.length ≤ 1000000) (r : List Int × Bool)
    (hend : Ev (fun k => impl_roots.l1 k (mergeL ls x y) es (es.length : Int) (wrap64 (j + 1)) n es) r) : Ev (fun k => impl_roots.l2 k ls x y es (es.length : Int) j (ls.length : Int) 0 n es) r := by
  have main := up_loop ls.length (filled (mg ls x y) ls) (fun k s i => impl_roots.l2 k s x y es (es.length : Int) j (ls.length : Int) i n es)
    (fun i hi r h => by
      have h1 : (i : Int) < ((filled (mg ls x y) ls i).length : Int) := by rw [filled_len _ _ (by omega)]; omega
      by_cases c : rd ls (i : Int) = y
      · refine Ev.step (fun k => ?_) h
        simp only [impl_roots.l2]
        rw [if_pos (by omega), if_pos (by omega), if_pos h1, filled_rd _ _ hi, if_pos c, Int.toNat_natCast, wrap64_id (by omega) (by omega), ← filled_set _ _ hi, mg, if_pos c]
      · refine Ev.step (fun k => ?_) h
        simp only [impl_roots.l2]
        rw [if_pos (by omega), if_pos (by omega), if_pos h1, filled_rd _ _ hi, if_neg c, wrap64_id (by omega) (by omega), ← filled_skip _ _ hi (by rw [mg, if_neg c])])
    r (Ev.step (fun k => by
      simp only [impl_roots.l2]
      rw [if_neg (by omega), filled_all _ _ rfl]; rfl) hend)
  rwa [filled_zero] at main
theorem roots_loop (n : Nat) (hn : n ≤ 1000) (es : List S51) (hes : es.length ≤ 1000) :
    ∀ d i, es.length - i = d → i ≤ es.length → ∀ ls : List Int, ls.length = n →
      (Ev (fun k => spec_ForestOk.l0 k ls (i : Int) (n : Int) es) true ∧ Ev (fun k => impl_roots.l1 k ls es (es.length : Int) (i : Int) (n : Int) es) ((es.drop i).foldl stepL ls, true) ∧ ∀ e ∈ es.drop i, InL n e) ∨
      (Ev (fun k => spec_ForestOk.l0 k ls (i : Int) (n : Int) es) false ∧ Ev (fun k => impl_roots.l1 k ls es (es.length : Int) (i : Int) (n : Int) es) ([], false)) := by
  intro d
  induction d with
  | zero =>
    intro i hd hi ls hls
    left
    have e : es.drop i = [] := List.drop_eq_nil_of_le (by omega)
    rw [e]
    refine ⟨Ev.step (f := fun _ => some true) (fun k => ?_) (Ev.now _), Ev.step (f := fun _ => some (ls, true)) (fun k => ?_) (Ev.now _), fun e he => by cases he⟩
    · simp (disch := omega) only [spec_ForestOk.l0, ↓if_neg]
    · simp (disch := omega) only [impl_roots.l1, ↓if_neg]
  | succ d ih =>
    intro i hd hi ls hls
    have hil : i < es.length := by omega
    obtain ⟨x, hx⟩ : ∃ x, x = rd_T51 es (i : Int) := ⟨_, rfl⟩
    have hdrop : es.drop i = x :: es.drop (i + 1) := by rw [List.drop_eq_getElem_cons hil, hx, rdE_T51 es i hil]
    have hw : True → wrap64 ((n : Int) - 1) = (n : Int) - 1 := fun _ => wrap64_id (by omega) (by omega)
    have hwi : True → wrap64 ((i : Int) + 1) = ((i + 1 : Nat) : Int) := fun _ => wrap_next i (by omega)
    by_cases ca : 0 ≤ x.f0 ∧ x.f0 ≤ (n : Int) - 1
    · have da := decide_eq_true ca
      by_cases cb : 0 ≤ x.f1 ∧ x.f1 ≤ (n : Int) - 1
      · have db := decide_eq_true cb
        by_cases cw : 0 ≤ x.f2 ∧ x.f2 ≤ 1000000
        · have dw := decide_eq_true cw
          by_cases ce : rd ls x.f0 = rd ls x.f1
          · right
            have be : (rd ls x.f0 == rd ls x.f1) = true := beq_iff_eq.2 ce
            refine ⟨Ev.step (f := fun _ => some false) (fun k => ?_) (Ev.now _), ⟨2, fun k hk => ?_⟩⟩
            · simp (disch := first | omega | trivial) only [spec_ForestOk.l0, ← hx, ↓if_pos, l1In_eq, hw, da, db, dw, Option.bind_some, ↓reduceIte, ce]
            · obtain ⟨m, rfl⟩ : ∃ m, k = m + 1 + 1 := ⟨k - 2, by omega⟩
              simp (disch := first | omega | trivial) only [impl_roots.l1, impl_roots.j3, ← hx, ↓if_pos, inside_eq, hw, da, db, dw, Option.bind_some, ↓reduceIte, be]
          · have be : (rd ls x.f0 == rd ls x.f1) = false := beq_eq_false_iff_ne.2 ce
            obtain ⟨K1, h1⟩ := Ev.binds (l7Merge_ev ls x (by omega) (by omega) (by omega))
            have s1 : ∀ z, Ev (fun k => spec_ForestOk.l0 k (stepL ls x) ((i + 1 : Nat) : Int) (n : Int) es) z → Ev (fun k => spec_ForestOk.l0 k ls (i : Int) (n : Int) es) z := by
              rintro z ⟨K, h⟩
              refine ⟨K + K1 + 1, fun k hk => ?_⟩
              obtain ⟨m, rfl⟩ : ∃ m, k = m + 1 := ⟨k - 1, by omega⟩
              have h := h m (by omega)
              simp (disch := first | omega | trivial) only [spec_ForestOk.l0, ← hx, ↓if_pos, l1In_eq, hw, da, db, dw, Option.bind_some, ↓reduceIte, if_neg ce, ↓h1, hwi]
              exact h
            have s2 : ∀ z, Ev (fun k => impl_roots.l1 k (stepL ls x) es (es.length : Int) ((i + 1 : Nat) : Int) (n : Int) es) z → Ev (fun k => impl_roots.l1 k ls es (es.length : Int) (i : Int) (n : Int) es) z := by
              intro z hz
              have hm := merge_impl (n : Int) es (i : Int) ls (mn (rd ls x.f0) (rd ls x.f1)) (mx (rd ls x.f0) (rd ls x.f1)) (by omega) z (by rw [hwi trivial]; exact hz)
              obtain ⟨K, h⟩ := hm
              refine ⟨K + 2, fun k hk => ?_⟩
              obtain ⟨m, rfl⟩ : ∃ m, k = m + 1 + 1 := ⟨k - 2, by omega⟩
              have h := h m (by omega)
              simp (disch := first | omega | trivial) only [impl_roots.l1, impl_roots.j3, ← hx, ↓if_pos, inside_eq, hw, da, db, dw, Option.bind_some, ↓reduceIte, be, Bool.false_eq_true]
              exact h
            rcases ih (i + 1) (by omega) (by omega) (stepL ls x) (by rw [stepL_len]; exact hls) with ⟨a1, a2, a3⟩ | ⟨a1, a2⟩
            · left
              rw [hdrop]
              refine ⟨s1 _ a1, s2 _ a2, fun e he => ?_⟩
              rcases List.mem_cons.1 he with rfl | he
              · exact ⟨ca.1, ca.2, cb.1, cb.2⟩
              · exact a3 e he
            · exact .inr ⟨s1 _ a1, s2 _ a2⟩
        · have dw := decide_eq_false cw
          right
          refine ⟨Ev.step (f := fun _ => some false) (fun k => ?_) (Ev.now _), ⟨2, fun k hk => ?_⟩⟩
          · simp (disch := first | omega | trivial) only [spec_ForestOk.l0, ← hx, ↓if_pos, l1In_eq, hw, da, db, dw, Option.bind_some, ↓reduceIte, Bool.false_eq_true]
          · obtain ⟨m, rfl⟩ : ∃ m, k = m + 1 + 1 := ⟨k - 2, by omega⟩
            simp (disch := first | omega | trivial) only [impl_roots.l1, impl_roots.j3, ← hx, ↓if_pos, inside_eq, hw, da, db, dw, Option.bind_some, ↓reduceIte, Bool.false_eq_true]
      · have db := decide_eq_false cb
        right
        refine ⟨Ev.step (f := fun _ => some false) (fun k => ?_) (Ev.now _), ⟨2, fun k hk => ?_⟩⟩
        · simp (disch := first | omega | trivial) only [spec_ForestOk.l0, ← hx, ↓if_pos, l1In_eq, hw, da, db, Option.bind_some, ↓reduceIte, Bool.false_eq_true]
        · obtain ⟨m, rfl⟩ : ∃ m, k = m + 1 + 1 := ⟨k - 2, by omega⟩
          simp (disch := first | omega | trivial) only [impl_roots.l1, impl_roots.j3, ← hx, ↓if_pos, inside_eq, hw, da, db, Option.bind_some, ↓reduceIte, Bool.false_eq_true]
    · have da := decide_eq_false ca
      right
      refine ⟨Ev.step (f := fun _ => some false) (fun k => ?_) (Ev.now _), ⟨2, fun k hk => ?_⟩⟩
      · simp (disch := first | omega | trivial) only [spec_ForestOk.l0, ← hx, ↓if_pos, l1In_eq, hw, da, Option.bind_some, ↓reduceIte, Bool.false_eq_true]
      · obtain ⟨m, rfl⟩ : ∃ m, k = m + 1 + 1 := ⟨k - 2, by omega⟩
        simp (disch := first | omega | trivial) only [impl_roots.l1, impl_roots.j3, ← hx, ↓if_pos, inside_eq, hw, da, Option.bind_some, ↓reduceIte, Bool.false_eq_true]
theorem least_start (n : Nat) (hn : n ≤ 1000) (es : List S51) (r : List Int) (h : Ev (fun k => spec_l7Least.l1 k es (idL n) 0) r) : Ev (fun k => spec_l7Least.f k (n : Int) es) r := by
  have main := up_loop n (fun i => idL i) (fun k s i => spec_l7Least.l0 k (n : Int) es s i)
    (fun i hi r h => Ev.step (fun k => by
      simp only [spec_l7Least.l0]
      rw [if_pos (by omega), if_pos (by rw [idL_len]; omega), wrap64_id (by omega) (by omega), ← idL_succ]) h)
    r (Ev.step (fun k => by
      simp only [spec_l7Least.l0]
      rw [if_neg (by omega)]) h)
  exact Ev.congr (fun k => rfl) main
theorem least_loop (n : Nat) (hn : n ≤ 1000) (es : List S51) (hes : es.length ≤ 1000) :
    ∀ d i, es.length - i = d → i ≤ es.length → ∀ ls : List Int, ls.length = n → (∀ e ∈ es.drop i, InL n e) → Ev (fun k => spec_l7Least.l1 k es ls (i : Int)) ((es.drop i).foldl stepL ls) := by
  intro d
  induction d with
  | zero =>
    intro i hd hi ls hls _
    have e : es.drop i = [] := List.drop_eq_nil_of_le (by omega)
    rw [e]
    exact Ev.step (f := fun _ => some ls) (fun k => by simp (disch := omega) only [spec_l7Least.l1, ↓if_neg]) (Ev.now _)
  | succ d ih =>
    intro i hd hi ls hls hin
    have hil : i < es.length := by omega
    obtain ⟨x, hx⟩ : ∃ x, x = rd_T51 es (i : Int) := ⟨_, rfl⟩
    have hdrop : es.drop i = x :: es.drop (i + 1) := by rw [List.drop_eq_getElem_cons hil, hx, rdE_T51 es i hil]
    rw [hdrop] at hin ⊢
    obtain ⟨a1, a2, a3, a4⟩ := hin x (by simp)
    obtain ⟨K1, h1⟩ := Ev.binds (l7Merge_ev ls x (by omega) (by omega) (by omega))
    obtain ⟨K, h⟩ := ih (i + 1) (by omega) (by omega) (stepL ls x) (by rw [stepL_len]; exact hls) (fun e he => hin e (by simp [he]))
    refine ⟨K + K1 + 1, fun k hk => ?_⟩
    obtain ⟨m, rfl⟩ : ∃ m, k = m + 1 := ⟨k - 1, by omega⟩
    have h := h m (by omega)
    simp (disch := omega) only [spec_l7Least.l1, ← hx, ↓if_pos, ↓h1, wrap_next]
    exact h
/-- What both say of a forest. -/
theorem forest_core (size : Int) (es : List S51) :
    (Ev (fun k => spec_ForestOk.f k size es) true ∧ 0 ≤ size ∧ size ≤ 1000 ∧ (es.length : Int) ≤ size ∧ (∀ e ∈ es, InL size e) ∧ Ev (fun k => impl_roots.f k size es) (es.foldl stepL (idL size.toNat), true) ∧ Ev (fun k => spec_l7Least.f k size es) (es.foldl stepL (idL size.toNat))) ∨
    (Ev (fun k => spec_ForestOk.f k size es) false ∧ Ev (fun k => impl_roots.f k size es) ([], false)) := by
  by_cases cs : 0 ≤ size ∧ size ≤ 1000
  · have ds := decide_eq_true cs
    obtain ⟨n, rfl⟩ := Int.eq_ofNat_of_zero_le cs.1
    by_cases cl : (es.length : Int) > (n : Int)
    · have dl := decide_eq_true cl
      right
      refine ⟨⟨1, fun k hk => ?_⟩, ⟨1, fun k hk => ?_⟩⟩
      · obtain ⟨m, rfl⟩ : ∃ m, k = m + 1 := ⟨k - 1, by omega⟩
        simp (disch := omega) only [spec_ForestOk.f, l1In_eq, ds, Option.bind_some, ↓reduceIte, dl, spec_ForestOk.j0]
      · obtain ⟨m, rfl⟩ : ∃ m, k = m + 1 := ⟨k - 1, by omega⟩
        simp (disch := omega) only [impl_roots.f, inside_eq, ds, Option.bind_some, ↓reduceIte, dl, impl_roots.j0]
    · have dl := decide_eq_false cl
      obtain ⟨K0, h0⟩ := Ev.binds (least_start n (by omega) [] (idL n) (Ev.step (f := fun _ => some (idL n)) (fun k => by simp (disch := first | omega | simp) only [spec_l7Least.l1, ↓if_neg, List.length_nil]) (Ev.now _)))
      have s1 : ∀ z, Ev (fun k => spec_ForestOk.l0 k (idL n) ((0 : Nat) : Int) (n : Int) es) z → Ev (fun k => spec_ForestOk.f k (n : Int) es) z := by
        rintro z ⟨K, h⟩
        refine ⟨K + K0 + 1, fun k hk => ?_⟩
        obtain ⟨m, rfl⟩ : ∃ m, k = m + 1 := ⟨k - 1, by omega⟩
        have h := h m (by omega)
        simp (disch := omega) only [spec_ForestOk.f, l1In_eq, ds, Option.bind_some, ↓reduceIte, dl, spec_ForestOk.j0, Bool.false_eq_true, ↓h0]
        exact h
      have s2 : ∀ z, Ev (fun k => impl_roots.l1 k (idL n) es (es.length : Int) ((0 : Nat) : Int) (n : Int) es) z → Ev (fun k => impl_roots.f k (n : Int) es) z := by
        intro z hz
        have main := up_loop n (filled (fun (i : Nat) => (i : Int)) (List.replicate n 0)) (fun k s i => impl_roots.l0 k s (n : Int) i (n : Int) es)
          (fun i hi r h => Ev.step (fun k => by
            simp only [impl_roots.l0]
            rw [if_pos (by omega), if_pos (by omega), if_pos (by rw [filled_len _ _ (by simp; omega)]; simp; omega), Int.toNat_natCast, wrap64_id (by omega) (by omega), ← filled_set _ _ (by simpa using hi)]) h)
          z (Ev.step (fun k => by
            simp only [impl_roots.l0]
            rw [if_neg (by omega), filled_all _ _ (by simp)]; rfl) hz)
        rw [filled_zero] at main
        obtain ⟨K, h⟩ := main
        refine ⟨K + 1, fun k hk => ?_⟩
        obtain ⟨m, rfl⟩ : ∃ m, k = m + 1 := ⟨k - 1, by omega⟩
        have h := h m (by omega)
        simp (disch := omega) only [impl_roots.f, inside_eq, ds, Option.bind_some, ↓reduceIte, dl, impl_roots.j0, Bool.false_eq_true, ↓if_pos, Int.toNat_natCast, List.length_replicate]
        exact h
      rcases roots_loop n (by omega) es (by omega) es.length 0 (by omega) (by omega) (idL n) (idL_len n) with ⟨a1, a2, a3⟩ | ⟨a1, a2⟩
      · left
        have hl := least_loop n (by omega) es (by omega) es.length 0 (by omega) (by omega) (idL n) (idL_len n) a3
        rw [List.drop_zero] at a2 a3 hl
        exact ⟨s1 _ a1, cs.1, cs.2, by omega, a3, s2 _ a2, least_start n (by omega) es _ hl⟩
      · exact .inr ⟨s1 _ a1, s2 _ a2⟩
  · have ds := decide_eq_false cs
    right
    refine ⟨⟨1, fun k hk => ?_⟩, ⟨1, fun k hk => ?_⟩⟩
    · obtain ⟨m, rfl⟩ : ∃ m, k = m + 1 := ⟨k - 1, by omega⟩
      simp (disch := omega) only [spec_ForestOk.f, l1In_eq, ds, Option.bind_some, ↓reduceIte, Bool.false_eq_true, spec_ForestOk.j0]
    · obtain ⟨m, rfl⟩ : ∃ m, k = m + 1 := ⟨k - 1, by omega⟩
      simp (disch := omega) only [impl_roots.f, inside_eq, ds, Option.bind_some, ↓reduceIte, Bool.false_eq_true, impl_roots.j0]
theorem foldL_len (es : List S51) : ∀ ls : List Int, (es.foldl stepL ls).length = ls.length := by
  induction es with
  | nil => exact fun _ => rfl
  | cons e es ih => exact fun ls => by rw [List.foldl_cons, ih, stepL_len]

/-! groupsI -/
/-- Each element's least leads to itself. -/
def Rooted (ls : List Int) : Prop := ∀ i : Nat, i < ls.length → 0 ≤ rd ls (i : Int) ∧ rd ls (i : Int) ≤ (i : Int) ∧ rd ls (rd ls (i : Int)) = rd ls (i : Int)
theorem mergeL_rd (ls : List Int) (x y : Int) {i : Nat} (h : i < ls.length) : rd (mergeL ls x y) (i : Int) = mg ls x y i := by
  simp [rd, mergeL, List.getD_eq_getElem?_getD, h]
theorem rooted_id (n : Nat) : Rooted (idL n) := by
  have e : ∀ i : Nat, i < n → rd (idL n) (i : Int) = (i : Int) := fun i h => by simp [rd, idL, List.getD_eq_getElem?_getD, h]
  intro i hi
  rw [idL_len] at hi
  rw [e i hi, e i hi]
  exact ⟨by omega, by omega, rfl⟩
theorem rooted_step (ls : List Int) (h : Rooted ls) (e : S51) (ha : 0 ≤ e.f0 ∧ e.f0 < ls.length) (hb : 0 ≤ e.f1 ∧ e.f1 < ls.length) : Rooted (stepL ls e) := by
  obtain ⟨a, ea⟩ := Int.eq_ofNat_of_zero_le ha.1
  obtain ⟨b, eb⟩ := Int.eq_ofNat_of_zero_le hb.1
  have hA := h a (by omega)
  have hB := h b (by omega)
  rw [← ea] at hA
  rw [← eb] at hB
  obtain ⟨x, hx⟩ : ∃ x, x = mn (rd ls e.f0) (rd ls e.f1) := ⟨_, rfl⟩
  obtain ⟨y, hy⟩ : ∃ y, y = mx (rd ls e.f0) (rd ls e.f1) := ⟨_, rfl⟩
  have hm : 0 ≤ x ∧ x ≤ y ∧ x < ls.length ∧ rd ls x = x := by
    unfold mn at hx
    unfold mx at hy
    split at hx <;> split at hy <;> subst hx <;> subst hy <;> first | exact ⟨by omega, by omega, by omega, hA.2.2⟩ | exact ⟨by omega, by omega, by omega, hB.2.2⟩
  intro i hi
  rw [stepL_len] at hi
  unfold stepL
  rw [← hx, ← hy, mergeL_rd ls x y hi]
  have hI := h i hi
  unfold mg
  by_cases c : rd ls (i : Int) = y
  · rw [if_pos c]
    obtain ⟨n, hn⟩ := Int.eq_ofNat_of_zero_le hm.1
    refine ⟨hm.1, by omega, ?_⟩
    have h1 := mergeL_rd ls x y (i := n) (by omega)
    rw [← hn] at h1
    rw [h1]
    unfold mg
    rw [← hn]
    by_cases c2 : rd ls x = y
    · rw [if_pos c2]
    · rw [if_neg c2]; exact hm.2.2.2
  · rw [if_neg c]
    refine ⟨hI.1, hI.2.1, ?_⟩
    obtain ⟨q, hq⟩ := Int.eq_ofNat_of_zero_le hI.1
    have h2 := hI.2.2
    rw [hq] at h2 c ⊢
    rw [mergeL_rd ls x y (by omega)]
    unfold mg
    rw [h2, if_neg c]
theorem rooted_fold : ∀ (es : List S51) (ls : List Int), Rooted ls → (∀ e ∈ es, InL (ls.length : Int) e) → Rooted (es.foldl stepL ls)
  | [], _, h, _ => h
  | e :: es, ls, h, hin => by
    obtain ⟨a1, a2, a3, a4⟩ := hin e (by simp)
    exact rooted_fold es (stepL ls e) (rooted_step ls h e (by omega) (by omega)) (fun e' he => by rw [stepL_len]; exact hin e' (by simp [he]))
/-- The elements below m whose least is a. -/
def grp (ls : List Int) (a m : Nat) : List Int := ((List.range m).filter fun (i : Nat) => decide (rd ls (i : Int) = (a : Int))).map fun (i : Nat) => (i : Int)
theorem grp_pos (ls : List Int) (a m : Nat) (c : rd ls (m : Int) = (a : Int)) : grp ls a (m + 1) = grp ls a m ++ [(m : Int)] := by
  unfold grp
  rw [List.range_succ, List.filter_append, List.map_append]
  simp [c]
theorem grp_neg (ls : List Int) (a m : Nat) (c : ¬ rd ls (m : Int) = (a : Int)) : grp ls a (m + 1) = grp ls a m := by
  unfold grp
  rw [List.range_succ, List.filter_append, List.map_append]
  simp [c]
theorem grp_len (ls : List Int) (a m : Nat) : (grp ls a m).length ≤ m := by
  unfold grp
  rw [List.length_map]
  exact Nat.le_trans (List.length_filter_le ..) (by simp)
theorem grp_none (ls : List Int) (a m : Nat) (h : ∀ i : Nat, i < m → ¬ rd ls (i : Int) = (a : Int)) : grp ls a m = [] := by
  unfold grp
  rw [List.map_eq_nil_iff, List.filter_eq_nil_iff]
  intro i hi
  simpa using h i (List.mem_range.1 hi)
def grps (ls : List Int) (m : Nat) : List (List Int) := (List.range ls.length).map fun a => grp ls a m
theorem grps_len (ls : List Int) (m : Nat) : (grps ls m).length = ls.length := by simp [grps]
theorem grps_at (ls : List Int) (m a : Nat) (h : a < ls.length) : (grps ls m).getD a [] = grp ls a m := by
  simp [grps, List.getD_eq_getElem?_getD, h]
theorem grps_step (ls : List Int) (m a : Nat) (h : a < ls.length) (c : rd ls (m : Int) = (a : Int)) : (grps ls m).set a (grp ls a m ++ [(m : Int)]) = grps ls (m + 1) := by
  apply List.ext_getElem?
  intro j
  by_cases e : j = a
  · subst e
    rw [List.getElem?_set_self (by rw [grps_len]; exact h)]
    simp [grps, h, grp_pos ls j m c]
  · rw [List.getElem?_set_ne (Ne.symm e)]
    by_cases hj : j < ls.length
    · simp [grps, hj, grp_neg ls j m (show ¬ rd ls (m : Int) = (j : Int) by omega)]
    · simp [grps, hj]
theorem groups_impl (ls : List Int) (n : Nat) (hl : ls.length = n) (hn : n ≤ 1000) (hr : Rooted ls) : Ev (fun k => impl_GroupsOf.l0 k (List.replicate n []) ls 0) (grps ls n) := by
  have main := up_loop n (fun i => grps ls i) (fun k s i => impl_GroupsOf.l0 k s ls i)
    (fun i hi r h => by
      obtain ⟨r0, r1, _⟩ := hr i (by omega)
      obtain ⟨a, ha⟩ := Int.eq_ofNat_of_zero_le r0
      refine Ev.step (fun k => ?_) h
      have hg : impl_GroupsOf.g (grps ls i) (rd ls (i : Int)) = grp ls a i := by
        unfold impl_GroupsOf.g
        rw [ha]
        exact grps_at ls i a (by omega)
      simp only [impl_GroupsOf.l0]
      rw [hg, if_pos (by omega), if_pos (by omega), if_pos r0, if_pos (by rw [grps_len]; omega), if_pos (by have := grp_len ls a i; omega), wrap64_id (by omega) (by omega), show (rd ls (i : Int)).toNat = a by omega, grps_step ls i a (by omega) ha])
    (grps ls n) (Ev.step (f := fun _ => some (grps ls n)) (fun k => by
      simp only [impl_GroupsOf.l0]
      rw [if_neg (by omega)]) (Ev.now _))
  have e0 : grps ls 0 = List.replicate n [] := by
    apply List.ext_getElem?
    intro j
    by_cases hj : j < n
    · simp [grps, hl, hj, grp]
    · simp [grps, hl, hj]
  rw [← e0]
  exact main

/-! draws -/
/-- A code that draws are made of. -/
structure Code (b : List Int) : Prop where
  len : b.length ≤ 1048576
  byte : ∀ i : Nat, i < b.length → 0 ≤ rd b (i : Int) ∧ rd b (i : Int) ≤ 255
def At (b : List Int) (p : Int) : Prop := 0 ≤ p ∧ p ≤ (b.length : Int)
theorem next_ev (b : List Int) (hb : Code b) (p : Int) (hp : At b p) : ∃ v q, spec_l1Rd_next.f b p = some (v, q) ∧ 0 ≤ v ∧ v ≤ 255 ∧ At b q := by
  have hl := hb.len
  obtain ⟨h0, h1⟩ := hp
  obtain ⟨i, rfl⟩ := Int.eq_ofNat_of_zero_le h0
  unfold spec_l1Rd_next.f
  by_cases c : (i : Int) ≥ (b.length : Int)
  · rw [if_pos c]
    exact ⟨0, i, rfl, by omega, by omega, h0, h1⟩
  · rw [if_neg c]
    have e1 : wrap64 ((i : Int) + 1) = (i : Int) + 1 := wrap64_id (by omega) (by omega)
    have e2 : wrap64 ((i : Int) + 1 - 1) = (i : Int) := by rw [wrap64_id (by omega) (by omega)]; omega
    have hby := hb.byte i (by omega)
    have e3 : wrap64 (rd b (i : Int)) = rd b (i : Int) := wrap64_id (by omega) (by omega)
    rw [e1, e2, if_pos (by omega), if_pos (by omega), e3]
    exact ⟨_, _, rfl, hby.1, hby.2, by omega, by omega⟩
theorem below_ev (b : List Int) (hb : Code b) (p : Int) (hp : At b p) (n : Int) (hn : n ≤ 65536) : ∃ v q, spec_l1Rd_below.f b p n = some (v, q) ∧ 0 ≤ v ∧ (v < n ∨ (n ≤ 1 ∧ v = 0)) ∧ At b q := by
  unfold spec_l1Rd_below.f
  by_cases c : n ≤ 1
  · rw [if_pos c]
    exact ⟨0, p, rfl, by omega, .inr ⟨c, rfl⟩, hp⟩
  · rw [if_neg c]
    obtain ⟨m, rfl⟩ := Int.eq_ofNat_of_zero_le (show 0 ≤ n by omega)
    by_cases c2 : ((m : Nat) : Int) ≤ 256
    · rw [if_pos c2]
      obtain ⟨v, q, e, v0, v1, hq⟩ := next_ev b hb p hp
      obtain ⟨u, rfl⟩ := Int.eq_ofNat_of_zero_le v0
      rw [e]
      simp only [Option.bind_some]
      rw [if_neg (by omega)]
      refine ⟨_, _, rfl, ?_, .inl ?_, hq⟩
      · rw [← Int.ofNat_tmod]; exact Int.natCast_nonneg _
      · rw [← Int.ofNat_tmod]; exact Int.ofNat_lt.2 (Nat.mod_lt _ (by omega))
    · rw [if_neg c2]
      obtain ⟨v, q, e, v0, v1, hq⟩ := next_ev b hb p hp
      obtain ⟨v', q', e', v0', v1', hq'⟩ := next_ev b hb q hq
      obtain ⟨u, rfl⟩ := Int.eq_ofNat_of_zero_le v0
      obtain ⟨u', rfl⟩ := Int.eq_ofNat_of_zero_le v0'
      have w1 : wrap64 ((u : Int) * 256) = ((u * 256 : Nat) : Int) := by rw [wrap64_id (by omega) (by omega)]; omega
      have w2 : wrap64 (((u * 256 : Nat) : Int) + (u' : Int)) = ((u * 256 + u' : Nat) : Int) := by rw [wrap64_id (by omega) (by omega)]; omega
      rw [e]
      simp only [Option.bind_some]
      rw [e']
      simp only [Option.bind_some]
      rw [if_neg (by omega), w1, w2]
      refine ⟨_, _, rfl, ?_, .inl ?_, hq'⟩
      · rw [← Int.ofNat_tmod]; exact Int.natCast_nonneg _
      · rw [← Int.ofNat_tmod]; exact Int.ofNat_lt.2 (Nat.mod_lt _ (by omega))
theorem once_ev (b : List Int) (hb : Code b) (p : Int) (hp : At b p) (n : Int) (hn : n ≤ 65536) : ∃ v q, spec_l1Rd_once.f b p n = some (v, q) ∧ At b q := by
  obtain ⟨v, q, e, _, _, hq⟩ := below_ev b hb p hp n hn
  unfold spec_l1Rd_once.f
  rw [e]
  exact ⟨_, _, rfl, hq⟩

/-! drawsOff -/
theorem wrapU_w64 (x : Int) : W64 (IntKind.u64.wrap x) := by
  unfold W64
  rw [wrap_u64]
  omega
theorem word_ev (b : List Int) (hb : Code b) (p : Int) (hp : At b p) : ∃ v q, Ev (fun k => spec_l1Rd_word.f k b p) (v, q) ∧ 0 ≤ v ∧ v < 18446744073709551616 ∧ At b q := by
  obtain ⟨s, ⟨h0, h1, h2⟩, hr⟩ := inv_loop 8 (fun i (s : Int × Int) => 0 ≤ s.1 ∧ s.1 < 18446744073709551616 ∧ At b s.2) (fun k s i => spec_l1Rd_word.l0 k s.1 i b s.2)
    (fun i hi s ⟨h0, h1, h2⟩ => by
      obtain ⟨v, q, e, v0, v1, hq⟩ := next_ev b hb s.2 h2
      have hw : W64 (Go.bits .or .u64 (IntKind.u64.wrap (s.1 * 256)) (IntKind.u64.wrap v)) := (or_w64 (wrapU_w64 _) (wrapU_w64 _)).1
      unfold W64 at hw
      refine ⟨(Go.bits .or .u64 (IntKind.u64.wrap (s.1 * 256)) (IntKind.u64.wrap v), q), ⟨by omega, by omega, hq⟩, fun r h => Ev.step (fun k => ?_) h⟩
      simp only [spec_l1Rd_word.l0]
      rw [if_pos (by omega), e]
      simp only [Option.bind_some]
      rw [wrap64_id (by omega) (by omega)])
    (0, p) ⟨Int.le_refl _, show (0 : Int) < 18446744073709551616 by omega, hp⟩
  refine ⟨s.1, s.2, Ev.congr (fun k => rfl) (hr (s.1, s.2) (Ev.step (f := fun _ => some (s.1, s.2)) (fun k => ?_) (Ev.now _))), h0, h1, h2⟩
  simp only [spec_l1Rd_word.l0]
  rw [if_neg (by omega)]
def I64 (v : Int) : Prop := -9223372036854775808 ≤ v ∧ v ≤ 9223372036854775807
theorem I64.wrap (v : Int) : I64 (wrap64 v) := by
  unfold I64 wrap64
  omega
theorem near_ev (b : List Int) (hb : Code b) (p : Int) (hp : At b p) (lo hi : Int) (hlo : -4611686018427387904 ≤ lo ∧ lo ≤ 4611686018427387904) (hhi : I64 hi) :
    ∃ v q, Ev (fun k => spec_l1Rd_near.f k b p lo hi) (v, q) ∧ I64 v ∧ At b q := by
  obtain ⟨v, q, e, v0, v1, hq⟩ := below_ev b hb p hp 8 (by omega)
  have hlo2 : I64 lo := by unfold I64; omega
  by_cases c0 : v = 0
  · exact ⟨lo, q, ⟨0, fun k _ => by unfold spec_l1Rd_near.f; rw [e]; simp only [Option.bind_some]; rw [if_pos c0]⟩, hlo2, hq⟩
  · by_cases c1 : v = 1
    · exact ⟨hi, q, ⟨0, fun k _ => by unfold spec_l1Rd_near.f; rw [e]; simp only [Option.bind_some]; rw [if_neg c0, if_pos c1]⟩, hhi, hq⟩
    · by_cases c2 : hi < lo
      · exact ⟨lo, q, ⟨0, fun k _ => by unfold spec_l1Rd_near.f; rw [e]; simp only [Option.bind_some]; rw [if_neg c0, if_neg c1, if_pos c2]⟩, hlo2, hq⟩
      · obtain ⟨x, q', ⟨K, hx⟩, x0, x1, hq'⟩ := word_ev b hb q hq
        have w3 : IntKind.u64.wrap (wrap64 (wrap64 (hi - lo) + 1)) = hi - lo + 1 := by
          obtain ⟨j0, j1⟩ := hhi
          rw [wrap_u64]
          unfold wrap64
          omega
        refine ⟨wrap64 (lo + wrap64 (Int.tmod (x / 2) (hi - lo + 1))), q', ⟨K, fun k hk => ?_⟩, I64.wrap _, hq'⟩
        have hx := hx k hk
        dsimp only at hx ⊢
        unfold spec_l1Rd_near.f
        rw [e]
        simp only [Option.bind_some]
        rw [if_neg c0, if_neg c1, if_neg c2, hx]
        simp only [Option.bind_some]
        rw [w3, if_neg (by omega)]
theorem off_ev (b : List Int) (hb : Code b) (p : Int) (hp : At b p) (lo hi : Int) (hlo : -4611686018427387904 ≤ lo ∧ lo ≤ 4611686018427387904) (hhi : I64 hi) :
    ∃ v q, Ev (fun k => spec_l1Rd_off.f k b p lo hi) (v, q) ∧ I64 v ∧ At b q := by
  obtain ⟨t, q, e, hq⟩ := once_ev b hb p hp 24 (by omega)
  cases t with
  | true =>
    obtain ⟨v, q', e', v0, v1, hq'⟩ := below_ev b hb q hq 4 (by omega)
    have hv : I64 (rd [wrap64 (lo - 1), wrap64 (hi + 1), (-9223372036854775808), 9223372036854775807] v) := by
      have h4 : v = 0 ∨ v = 1 ∨ v = 2 ∨ v = 3 := by omega
      rcases h4 with rfl | rfl | rfl | rfl
      · exact I64.wrap _
      · exact I64.wrap _
      · show I64 (-9223372036854775808)
        unfold I64
        omega
      · show I64 9223372036854775807
        unfold I64
        omega
    refine ⟨_, q', ⟨0, fun k _ => ?_⟩, hv, hq'⟩
    unfold spec_l1Rd_off.f
    rw [e]
    simp only [Option.bind_some, if_true]
    rw [e']
    simp only [Option.bind_some]
    rw [if_pos v0, if_pos (by simp; omega)]
  | false =>
    obtain ⟨v, q', ⟨K, hv⟩, hi2, hq'⟩ := near_ev b hb q hq lo hi hlo hhi
    refine ⟨v, q', ⟨K, fun k hk => ?_⟩, hi2, hq'⟩
    have hv := hv k hk
    dsimp only at hv ⊢
    unfold spec_l1Rd_off.f
    rw [e]
    simp only [Option.bind_some, Bool.false_eq_true, if_false]
    rw [hv]
    rfl

/-! joinFull -/
/-- What both answer of a link laid into a forest. -/
theorem join_full (size : Int) (es : List S51) (a b c : Int) :
    (0 ≤ size ∧ size ≤ 1000 ∧ (es.length : Int) ≤ size ∧ (∀ e ∈ es, InL size e) ∧ (0 ≤ a ∧ a ≤ size - 1) ∧ (0 ≤ b ∧ b ≤ size - 1) ∧ (0 ≤ c ∧ c ≤ 1000000) ∧ Ev (fun k => spec_ForestOk.f k size es) true ∧ Ev (fun k => impl_roots.f k size es) (es.foldl stepL (idL size.toNat), true) ∧
      ((rd (es.foldl stepL (idL size.toNat)) a = rd (es.foldl stepL (idL size.toNat)) b ∧ Ev (fun k => spec_Join.f k size es a b c) (size, es, false, true) ∧ Ev (fun k => impl_Join.f k size es a b c) (size, es, false, true)) ∨
       (rd (es.foldl stepL (idL size.toNat)) a ≠ rd (es.foldl stepL (idL size.toNat)) b ∧ Ev (fun k => spec_Join.f k size es a b c) (size, es ++ [⟨a, b, c⟩], true, true) ∧ Ev (fun k => impl_Join.f k size es a b c) (size, es ++ [⟨a, b, c⟩], true, true)))) ∨
    (Ev (fun k => spec_Join.f k size es a b c) (0, [], false, false) ∧ Ev (fun k => impl_Join.f k size es a b c) (0, [], false, false)) := by
  rcases forest_core size es with ⟨h1, s0, s1, s2, s3, h2, h3⟩ | ⟨h1, h2⟩
  · have g1 := h1
    have g2 := h2
    obtain ⟨K1, h1⟩ := Ev.binds h1
    obtain ⟨K2, h2⟩ := Ev.binds h2
    obtain ⟨K3, h3⟩ := Ev.binds h3
    have hw : True → wrap64 (size - 1) = size - 1 := fun _ => wrap64_id (by omega) (by omega)
    have hlen : (es.foldl stepL (idL size.toNat)).length = size.toNat := by rw [foldL_len, idL_len]
    have no : ∀ (P Q : Nat → Option (Int × List S51 × Bool × Bool)), (∀ m, P (m + 1) = some (0, [], false, false)) → (∀ m, Q (m + 1) = some (0, [], false, false)) → (∀ k, K1 ≤ k → spec_Join.f k size es a b c = P k) → (∀ k, K2 ≤ k → impl_Join.f k size es a b c = Q k) →
        Ev (fun k => spec_Join.f k size es a b c) (0, [], false, false) ∧ Ev (fun k => impl_Join.f k size es a b c) (0, [], false, false) := fun P Q hP hQ e1 e2 =>
      ⟨⟨K1 + 1, fun k hk => by
        obtain ⟨m, rfl⟩ : ∃ m, k = m + 1 := ⟨k - 1, by omega⟩
        exact (e1 _ (by omega)).trans (hP m)⟩, ⟨K2 + 1, fun k hk => by
        obtain ⟨m, rfl⟩ : ∃ m, k = m + 1 := ⟨k - 1, by omega⟩
        exact (e2 _ (by omega)).trans (hQ m)⟩⟩
    by_cases ca : 0 ≤ a ∧ a ≤ size - 1
    · have da := decide_eq_true ca
      by_cases cb : 0 ≤ b ∧ b ≤ size - 1
      · have db := decide_eq_true cb
        by_cases cc : 0 ≤ c ∧ c ≤ 1000000
        · have dc := decide_eq_true cc
          refine .inl ⟨s0, s1, s2, s3, ca, cb, cc, g1, g2, ?_⟩
          by_cases ce : rd (es.foldl stepL (idL size.toNat)) a = rd (es.foldl stepL (idL size.toNat)) b
          · refine .inl ⟨ce, ⟨K1 + K3 + 1, fun k hk => ?_⟩, ⟨K2 + 1, fun k hk => ?_⟩⟩
            · obtain ⟨m, rfl⟩ : ∃ m, k = m + 1 := ⟨k - 1, by omega⟩
              simp (disch := first | omega | trivial | (simp only [List.length_nil]; omega)) only [spec_Join.f, spec_Join.j0, ↓h1, ↓h3, ↓reduceIte, spec_l7Node.f, l1In_eq, hw, da, db, dc, Option.bind_some, ↓if_pos, spec_l7Copy.f, List.nil_append, Bool.not_true, Bool.false_eq_true, ce]
            · obtain ⟨m, rfl⟩ : ∃ m, k = m + 1 := ⟨k - 1, by omega⟩
              simp (disch := first | omega | trivial) only [impl_Join.f, impl_Join.j0, impl_cloneForest.f, impl_Link.f, ↓h2, ↓reduceIte, inside_eq, hw, da, db, dc, Option.bind_some, ↓if_pos, Bool.not_true, Bool.false_eq_true, ce]
          · refine .inr ⟨ce, ⟨K1 + K3 + 1, fun k hk => ?_⟩, ⟨K2 + 1, fun k hk => ?_⟩⟩
            · obtain ⟨m, rfl⟩ : ∃ m, k = m + 1 := ⟨k - 1, by omega⟩
              simp (disch := first | omega | trivial | (simp only [List.length_nil]; omega)) only [spec_Join.f, spec_Join.j0, ↓h1, ↓h3, ↓reduceIte, spec_l7Node.f, l1In_eq, hw, da, db, dc, Option.bind_some, ↓if_pos, spec_l7Copy.f, List.nil_append, Bool.not_true, Bool.false_eq_true, if_neg ce]
            · obtain ⟨m, rfl⟩ : ∃ m, k = m + 1 := ⟨k - 1, by omega⟩
              simp (disch := first | omega | trivial) only [impl_Join.f, impl_Join.j0, impl_cloneForest.f, impl_Link.f, ↓h2, ↓reduceIte, inside_eq, hw, da, db, dc, Option.bind_some, ↓if_pos, Bool.not_true, Bool.false_eq_true, if_neg ce]
        · have dc := decide_eq_false cc
          refine .inr (no (fun k => spec_Join.j0 k a b c true size es) (fun k => impl_Join.j0 k a b c (es.foldl stepL (idL size.toNat)) true size es) (fun m => by simp only [spec_Join.j0, ↓reduceIte]) (fun m => by simp only [impl_Join.j0, ↓reduceIte]) (fun k hk => ?_) (fun k hk => ?_))
          · simp (disch := first | omega | trivial) only [spec_Join.f, ↓h1, ↓reduceIte, spec_l7Node.f, l1In_eq, hw, da, db, dc, Option.bind_some, Bool.not_false]
          · simp (disch := first | omega | trivial) only [impl_Join.f, ↓h2, ↓reduceIte, inside_eq, hw, da, db, dc, Option.bind_some, Bool.not_false]
      · have db := decide_eq_false cb
        refine .inr (no (fun k => spec_Join.j0 k a b c true size es) (fun k => impl_Join.j0 k a b c (es.foldl stepL (idL size.toNat)) true size es) (fun m => by simp only [spec_Join.j0, ↓reduceIte]) (fun m => by simp only [impl_Join.j0, ↓reduceIte]) (fun k hk => ?_) (fun k hk => ?_))
        · simp (disch := first | omega | trivial) only [spec_Join.f, ↓h1, ↓reduceIte, spec_l7Node.f, l1In_eq, hw, da, db, Option.bind_some, Bool.false_eq_true]
        · simp (disch := first | omega | trivial) only [impl_Join.f, ↓h2, ↓reduceIte, inside_eq, hw, da, db, Option.bind_some, Bool.false_eq_true]
    · have da := decide_eq_false ca
      refine .inr (no (fun k => spec_Join.j0 k a b c true size es) (fun k => impl_Join.j0 k a b c (es.foldl stepL (idL size.toNat)) true size es) (fun m => by simp only [spec_Join.j0, ↓reduceIte]) (fun m => by simp only [impl_Join.j0, ↓reduceIte]) (fun k hk => ?_) (fun k hk => ?_))
      · simp (disch := first | omega | trivial) only [spec_Join.f, ↓h1, ↓reduceIte, spec_l7Node.f, l1In_eq, hw, da, Option.bind_some, Bool.false_eq_true]
      · simp (disch := first | omega | trivial) only [impl_Join.f, ↓h2, ↓reduceIte, inside_eq, hw, da, Option.bind_some, Bool.false_eq_true]
  · obtain ⟨K1, h1⟩ := Ev.binds h1
    obtain ⟨K2, h2⟩ := Ev.binds h2
    refine .inr ⟨⟨K1 + 1, fun k hk => ?_⟩, ⟨K2 + 1, fun k hk => ?_⟩⟩
    · obtain ⟨m, rfl⟩ : ∃ m, k = m + 1 := ⟨k - 1, by omega⟩
      simp (disch := omega) only [spec_Join.f, ↓h1, ↓reduceIte, Bool.false_eq_true, spec_Join.j0]
    · obtain ⟨m, rfl⟩ : ∃ m, k = m + 1 := ⟨k - 1, by omega⟩
      simp (disch := omega) only [impl_Join.f, ↓h2, ↓reduceIte, Bool.false_eq_true, impl_Join.j0]

/-! drawForest -/
theorem forest_end (b : List Int) (hb : Code b) (size : Int) (hs : 1 ≤ size ∧ size ≤ 16) (es : List S51) (p : Int) (hp : At b p) (hes : es.length ≤ 64) :
    ∃ y0 y1 q, Ev (fun k => spec_l1Rd_forest.l0 k 0 b p size es) (y0, y1, q) ∧ I64 y0 ∧ y1.length ≤ 65 ∧ At b q := by
  have hI : I64 size := by unfold I64; omega
  have hw : wrap64 (size - 1) = size - 1 := wrap64_id (by omega) (by omega)
  have hI1 : I64 (size - 1) := by unfold I64; omega
  obtain ⟨v, p1, e1, v0, v1, hp1⟩ := below_ev b hb p hp 30 (by omega)
  by_cases c0 : v = 0
  · obtain ⟨x, p2, ⟨K2, e2⟩, _, hp2⟩ := off_ev b hb p1 hp1 0 (size - 1) (by omega) hI1
    obtain ⟨y, p3, ⟨K3, e3⟩, _, hp3⟩ := off_ev b hb p2 hp2 0 (size - 1) (by omega) hI1
    refine ⟨size, es ++ [⟨x, y, 0⟩], p3, ⟨K2 + K3 + 1, fun k hk => ?_⟩, hI, by simp only [List.length_append, List.length_singleton]; omega, hp3⟩
    obtain ⟨m, rfl⟩ : ∃ m, k = m + 1 := ⟨k - 1, by omega⟩
    have e2 := e2 m (by omega)
    have e3 := e3 m (by omega)
    dsimp only at e2 e3 ⊢
    simp only [spec_l1Rd_forest.l0]
    rw [if_neg (by omega), e1]
    simp only [Option.bind_some]
    rw [if_pos c0, hw, e2]
    simp only [Option.bind_some]
    rw [e3]
    simp only [Option.bind_some]
    rw [if_pos (by omega)]
  · by_cases c1 : v = 1
    · obtain ⟨x, p2, ⟨K2, e2⟩, hx, hp2⟩ := off_ev b hb p1 hp1 0 size (by omega) hI
      refine ⟨x, es, p2, ⟨K2 + 1, fun k hk => ?_⟩, hx, by omega, hp2⟩
      obtain ⟨m, rfl⟩ : ∃ m, k = m + 1 := ⟨k - 1, by omega⟩
      have e2 := e2 m (by omega)
      dsimp only at e2 ⊢
      simp only [spec_l1Rd_forest.l0]
      rw [if_neg (by omega), e1]
      simp only [Option.bind_some]
      rw [if_neg c0, if_pos c1, e2]
      rfl
    · by_cases c2 : v = 2
      · by_cases cl : (es.length : Int) > 0
        · obtain ⟨x, p2, ⟨K2, e2⟩, _, hp2⟩ := off_ev b hb p1 hp1 0 1000000 (by omega) (by unfold I64; omega)
          refine ⟨size, es.set 0 ⟨(rd_T51 es 0).f0, (rd_T51 es 0).f1, x⟩, p2, ⟨K2 + 1, fun k hk => ?_⟩, hI, by rw [List.length_set]; omega, hp2⟩
          obtain ⟨m, rfl⟩ : ∃ m, k = m + 1 := ⟨k - 1, by omega⟩
          have e2 := e2 m (by omega)
          dsimp only at e2 ⊢
          simp only [spec_l1Rd_forest.l0]
          rw [if_neg (by omega), e1]
          simp only [Option.bind_some]
          rw [if_neg c0, if_neg c1, if_pos c2, if_pos cl, e2]
          simp only [Option.bind_some]
          rw [if_pos (by omega)]
          rfl
        · refine ⟨size, es, p1, ⟨1, fun k hk => ?_⟩, hI, by omega, hp1⟩
          obtain ⟨m, rfl⟩ : ∃ m, k = m + 1 := ⟨k - 1, by omega⟩
          dsimp only
          simp only [spec_l1Rd_forest.l0]
          rw [if_neg (by omega), e1]
          simp only [Option.bind_some]
          rw [if_neg c0, if_neg c1, if_pos c2, if_neg cl]
      · by_cases c3 : v = 3
        · obtain ⟨x, p2, e2, x0, x1, hp2⟩ := below_ev b hb p1 hp1 2 (by omega)
          refine ⟨wrap64 (1000 + x), es, p2, ⟨1, fun k hk => ?_⟩, I64.wrap _, by omega, hp2⟩
          obtain ⟨m, rfl⟩ : ∃ m, k = m + 1 := ⟨k - 1, by omega⟩
          dsimp only
          simp only [spec_l1Rd_forest.l0]
          rw [if_neg (by omega), e1]
          simp only [Option.bind_some]
          rw [if_neg c0, if_neg c1, if_neg c2, if_pos c3, e2]
          rfl
        · refine ⟨size, es, p1, ⟨1, fun k hk => ?_⟩, hI, by omega, hp1⟩
          obtain ⟨m, rfl⟩ : ∃ m, k = m + 1 := ⟨k - 1, by omega⟩
          dsimp only
          simp only [spec_l1Rd_forest.l0]
          rw [if_neg (by omega), e1]
          simp only [Option.bind_some]
          rw [if_neg c0, if_neg c1, if_neg c2, if_neg c3]
theorem forest_loop (b : List Int) (hb : Code b) (size : Int) (hs : 1 ≤ size ∧ size ≤ 16) : ∀ (d : Nat) (es : List S51) (p : Int), es.length + d ≤ 64 → At b p →
    ∃ y0 y1 q, Ev (fun k => spec_l1Rd_forest.l0 k (d : Int) b p size es) (y0, y1, q) ∧ I64 y0 ∧ y1.length ≤ 65 ∧ At b q := by
  intro d
  induction d with
  | zero => intro es p hd hp; exact forest_end b hb size hs es p hp (by omega)
  | succ d ih =>
    intro es p hd hp
    obtain ⟨va, p1, e1, a0, a1, hp1⟩ := below_ev b hb p hp size (by omega)
    obtain ⟨vb, p2, e2, b0, b1, hp2⟩ := below_ev b hb p1 hp1 size (by omega)
    obtain ⟨vc, p3, e3, c0, c1, hp3⟩ := below_ev b hb p2 hp2 9 (by omega)
    have hw : wrap64 (((d + 1 : Nat) : Int) - 1) = (d : Int) := by rw [wrap64_id (by omega) (by omega)]; omega
    have go : ∀ (s' : Int) (es' : List S51) (n' ok' : Bool), Ev (fun k => spec_Join.f k size es va vb vc) (s', es', n', ok') → (ok' = true → s' = size ∧ es'.length + d ≤ 64) →
        ∃ y0 y1 q, Ev (fun k => spec_l1Rd_forest.l0 k ((d + 1 : Nat) : Int) b p size es) (y0, y1, q) ∧ I64 y0 ∧ y1.length ≤ 65 ∧ At b q := by
      intro s' es' n' ok' hJ hok
      obtain ⟨K1, hJ⟩ := hJ
      cases ok' with
      | true =>
        obtain ⟨rfl, hl⟩ := hok rfl
        obtain ⟨y0, y1, q, ⟨K2, g⟩, h1, h2, h3⟩ := ih es' p3 hl hp3
        refine ⟨y0, y1, q, ⟨K1 + K2 + 1, fun k hk => ?_⟩, h1, h2, h3⟩
        obtain ⟨m, rfl⟩ : ∃ m, k = m + 1 := ⟨k - 1, by omega⟩
        have hJ := hJ m (by omega)
        have g := g m (by omega)
        dsimp only at hJ g ⊢
        simp only [spec_l1Rd_forest.l0]
        rw [if_pos (by omega), e1]
        simp only [Option.bind_some]
        rw [e2]
        simp only [Option.bind_some]
        rw [e3]
        simp only [Option.bind_some]
        rw [hJ]
        simp only [Option.bind_some, if_true]
        rw [hw]
        exact g
      | false =>
        obtain ⟨y0, y1, q, ⟨K2, g⟩, h1, h2, h3⟩ := ih es p3 (by omega) hp3
        refine ⟨y0, y1, q, ⟨K1 + K2 + 1, fun k hk => ?_⟩, h1, h2, h3⟩
        obtain ⟨m, rfl⟩ : ∃ m, k = m + 1 := ⟨k - 1, by omega⟩
        have hJ := hJ m (by omega)
        have g := g m (by omega)
        dsimp only at hJ g ⊢
        simp only [spec_l1Rd_forest.l0]
        rw [if_pos (by omega), e1]
        simp only [Option.bind_some]
        rw [e2]
        simp only [Option.bind_some]
        rw [e3]
        simp only [Option.bind_some]
        rw [hJ]
        simp only [Option.bind_some, Bool.false_eq_true, if_false]
        rw [hw]
        exact g
    rcases join_full size es va vb vc with ⟨_, _, _, _, _, _, _, _, _, ⟨_, hJ, _⟩ | ⟨_, hJ, _⟩⟩ | ⟨hJ, _⟩
    · exact go _ _ _ _ hJ (fun _ => ⟨rfl, by omega⟩)
    · exact go _ _ _ _ hJ (fun _ => ⟨rfl, by simp only [List.length_append, List.length_singleton]; omega⟩)
    · exact go _ _ _ _ hJ (fun h => by cases h)
theorem forest_ev (b : List Int) (hb : Code b) (p : Int) (hp : At b p) : ∃ y0 y1 q, Ev (fun k => spec_l1Rd_forest.f k b p) (y0, y1, q) ∧ I64 y0 ∧ y1.length ≤ 65 ∧ At b q := by
  have hn : mn 14 (wrap64 (2 + wrap64 ((b.length : Int) / 4))) ≤ 14 := by unfold mn; split <;> omega
  obtain ⟨v, p1, e1, v0, v1, hp1⟩ := below_ev b hb p hp (mn 14 (wrap64 (2 + wrap64 ((b.length : Int) / 4)))) (by omega)
  have hv : v ≤ 13 := by omega
  have w1 : wrap64 (1 + v) = 1 + v := wrap64_id (by omega) (by omega)
  have w2 : wrap64 (1 + v + 2) = 1 + v + 2 := wrap64_id (by omega) (by omega)
  obtain ⟨n, p2, e2, n0, n1, hp2⟩ := below_ev b hb p1 hp1 (1 + v + 2) (by omega)
  obtain ⟨d, rfl⟩ := Int.eq_ofNat_of_zero_le n0
  obtain ⟨y0, y1, q, ⟨K, g⟩, h1, h2, h3⟩ := forest_loop b hb (1 + v) (by omega) d [] p2 (by simp only [List.length_nil]; omega) hp2
  refine ⟨y0, y1, q, ⟨K, fun k hk => ?_⟩, h1, h2, h3⟩
  have g := g k hk
  dsimp only at g ⊢
  unfold spec_l1Rd_forest.f
  rw [e1]
  simp only [Option.bind_some]
  rw [w1, w2, e2]
  exact g

/-! has -/
theorem has_ev (l : List Int) (x : Int) (hl : l.length ≤ 1048576) : Ev (fun k => laws_has.f k l x) (decide (x ∈ l)) := by
  have main : ∀ d i, l.length - i = d → i ≤ l.length → Ev (fun k => laws_has.l0 k l x (i : Int)) (decide (x ∈ l.drop i)) := by
    intro d
    induction d with
    | zero =>
      intro i hd hi
      have e : l.drop i = [] := List.drop_eq_nil_of_le (by omega)
      rw [e]
      refine Ev.step (f := fun _ => some false) (fun k => ?_) (Ev.now _)
      simp only [laws_has.l0]
      rw [if_neg (by omega)]
    | succ d ih =>
      intro i hd hi
      have hil : i < l.length := by omega
      have hdrop : l.drop i = rd l (i : Int) :: l.drop (i + 1) := by
        rw [List.drop_eq_getElem_cons hil]
        congr 1
        unfold rd
        rw [List.getD_eq_getElem?_getD, Int.toNat_natCast, List.getElem?_eq_getElem hil]
        rfl
      by_cases c : rd l (i : Int) = x
      · have e : decide (x ∈ l.drop i) = true := decide_eq_true (by rw [hdrop, c]; exact List.mem_cons_self ..)
        rw [e]
        refine Ev.step (f := fun _ => some true) (fun k => ?_) (Ev.now _)
        simp only [laws_has.l0]
        rw [if_pos (by omega), if_pos (by omega), if_pos c]
      · have e : decide (x ∈ l.drop i) = decide (x ∈ l.drop (i + 1)) := by
          rw [hdrop]
          have : x ≠ rd l (i : Int) := fun h => c h.symm
          simp [this]
        rw [e]
        refine Ev.step (fun k => ?_) (ih (i + 1) (by omega) (by omega))
        simp only [laws_has.l0]
        rw [if_pos (by omega), if_pos (by omega), if_neg c, wrap64_id (by omega) (by omega)]
        rfl
  have h := main l.length 0 (by omega) (by omega)
  rw [List.drop_zero] at h
  exact Ev.congr (fun k => rfl) h

/-! foundL -/
/-- What the law's last loop tells: b stood, or some row has both. -/
theorem found_ev (a b : Int) (gs : List (List Int)) (hg : gs.length ≤ 1048576) (hx : ∀ x ∈ gs, x.length ≤ 1048576) : ∀ d i, gs.length - i = d → i ≤ gs.length → ∀ t : Bool, (t = true ∨ ∃ x ∈ gs.drop i, a ∈ x ∧ b ∈ x) → Ev (fun k => laws_FnForest.l1 k a b gs t (i : Int)) true := by
  intro d
  induction d with
  | zero =>
    intro i hd hi t ht
    have e : gs.drop i = [] := List.drop_eq_nil_of_le (by omega)
    rw [e] at ht
    have htt : t = true := by rcases ht with h | ⟨x, hx, _⟩; exact h; cases hx
    refine Ev.step (f := fun _ => some true) (fun k => ?_) (Ev.now _)
    simp only [laws_FnForest.l1]
    rw [if_neg (by omega), htt]
  | succ d ih =>
    intro i hd hi t ht
    have hil : i < gs.length := by omega
    have hdrop : gs.drop i = rd_L3 gs (i : Int) :: gs.drop (i + 1) := by
      rw [List.drop_eq_getElem_cons hil]
      congr 1
      unfold rd_L3
      rw [List.getD_eq_getElem?_getD, Int.toNat_natCast, List.getElem?_eq_getElem hil]
      rfl
    have hw : wrap64 ((i : Int) + 1) = ((i + 1 : Nat) : Int) := by rw [wrap64_id (by omega) (by omega)]; rfl
    cases t with
    | true =>
      refine Ev.step (fun k => ?_) (ih (i + 1) (by omega) (by omega) true (.inl rfl))
      simp only [laws_FnForest.l1]
      rw [if_pos (by omega), if_pos trivial, hw]
    | false =>
      have ht2 : ∃ x ∈ gs.drop i, a ∈ x ∧ b ∈ x := by rcases ht with h | h; cases h; exact h
      rw [hdrop] at ht2
      obtain ⟨row, hrow⟩ : ∃ row, row = rd_L3 gs (i : Int) := ⟨_, rfl⟩
      have hrl : row.length ≤ 1048576 := hx row (List.mem_of_mem_drop (hdrop ▸ (by rw [hrow]; exact List.mem_cons_self ..) : row ∈ gs.drop i))
      rw [← hrow] at ht2
      obtain ⟨K1, h1⟩ := Ev.binds (has_ev row a hrl)
      obtain ⟨K2, h2⟩ := Ev.binds (has_ev row b hrl)
      by_cases ca : a ∈ row
      · have da := decide_eq_true ca
        have hnext : decide (b ∈ row) = true ∨ ∃ x ∈ gs.drop (i + 1), a ∈ x ∧ b ∈ x := by
          obtain ⟨x, hx, h3, h4⟩ := ht2
          rcases List.mem_cons.1 hx with rfl | hx
          · exact .inl (decide_eq_true h4)
          · exact .inr ⟨x, hx, h3, h4⟩
        obtain ⟨K3, h3⟩ := ih (i + 1) (by omega) (by omega) (decide (b ∈ row)) hnext
        refine ⟨K1 + K2 + K3 + 1, fun k hk => ?_⟩
        obtain ⟨m, rfl⟩ : ∃ m, k = m + 1 := ⟨k - 1, by omega⟩
        have h3 := h3 m (by omega)
        dsimp only at h3 ⊢
        simp only [laws_FnForest.l1]
        rw [if_pos (by omega), if_neg (by decide), if_pos (by omega), ← hrow, h1 m (by omega), da, if_pos rfl, h2 m (by omega), hw]
        exact h3
      · have da := decide_eq_false ca
        have hnext : false = true ∨ ∃ x ∈ gs.drop (i + 1), a ∈ x ∧ b ∈ x := by
          obtain ⟨x, hx, h3, h4⟩ := ht2
          rcases List.mem_cons.1 hx with rfl | hx
          · exact absurd h3 ca
          · exact .inr ⟨x, hx, h3, h4⟩
        obtain ⟨K3, h3⟩ := ih (i + 1) (by omega) (by omega) false hnext
        refine ⟨K1 + K3 + 1, fun k hk => ?_⟩
        obtain ⟨m, rfl⟩ : ∃ m, k = m + 1 := ⟨k - 1, by omega⟩
        have h3 := h3 m (by omega)
        dsimp only at h3 ⊢
        simp only [laws_FnForest.l1]
        rw [if_pos (by omega), if_neg (by decide), if_pos (by omega), ← hrow, h1 m (by omega), da, if_neg (by decide), hw]
        exact h3

/-! okLinks -/
/-- The links of a right forest, one behind the other: in range, each between two classes of what stands. -/
def okL (n : Int) : List S51 → List Int → Prop
  | [], _ => True
  | e :: es, ls => InL n e ∧ (0 ≤ e.f2 ∧ e.f2 ≤ 1000000) ∧ rd ls e.f0 ≠ rd ls e.f1 ∧ okL n es (stepL ls e)
theorem okL_snoc (n : Int) (e : S51) : ∀ (es : List S51) (ls : List Int), okL n es ls → InL n e → (0 ≤ e.f2 ∧ e.f2 ≤ 1000000) → rd (es.foldl stepL ls) e.f0 ≠ rd (es.foldl stepL ls) e.f1 → okL n (es ++ [e]) ls
  | [], ls, _, h1, h2, h3 => ⟨h1, h2, h3, True.intro⟩
  | x :: es, ls, h, h1, h2, h3 => ⟨h.1, h.2.1, h.2.2.1, okL_snoc n e es (stepL ls x) h.2.2.2 h1 h2 h3⟩
theorem roots_loop2 (n : Nat) (hn : n ≤ 1000) (es : List S51) (hes : es.length ≤ 1000) :
    ∀ d i, es.length - i = d → i ≤ es.length → ∀ ls : List Int, ls.length = n →
      (Ev (fun k => spec_ForestOk.l0 k ls (i : Int) (n : Int) es) true ∧ Ev (fun k => impl_roots.l1 k ls es (es.length : Int) (i : Int) (n : Int) es) ((es.drop i).foldl stepL ls, true) ∧ okL (n : Int) (es.drop i) ls) ∨
      (Ev (fun k => spec_ForestOk.l0 k ls (i : Int) (n : Int) es) false ∧ Ev (fun k => impl_roots.l1 k ls es (es.length : Int) (i : Int) (n : Int) es) ([], false) ∧ ¬ okL (n : Int) (es.drop i) ls) := by
  intro d
  induction d with
  | zero =>
    intro i hd hi ls hls
    left
    have e : es.drop i = [] := List.drop_eq_nil_of_le (by omega)
    rw [e]
    refine ⟨Ev.step (f := fun _ => some true) (fun k => ?_) (Ev.now _), Ev.step (f := fun _ => some (ls, true)) (fun k => ?_) (Ev.now _), True.intro⟩
    · simp (disch := omega) only [spec_ForestOk.l0, ↓if_neg]
    · simp (disch := omega) only [impl_roots.l1, ↓if_neg]
  | succ d ih =>
    intro i hd hi ls hls
    have hil : i < es.length := by omega
    obtain ⟨x, hx⟩ : ∃ x, x = rd_T51 es (i : Int) := ⟨_, rfl⟩
    have hdrop : es.drop i = x :: es.drop (i + 1) := by rw [List.drop_eq_getElem_cons hil, hx, rdE_T51 es i hil]
    have hw : True → wrap64 ((n : Int) - 1) = (n : Int) - 1 := fun _ => wrap64_id (by omega) (by omega)
    have hwi : True → wrap64 ((i : Int) + 1) = ((i + 1 : Nat) : Int) := fun _ => wrap_next i (by omega)
    by_cases ca : 0 ≤ x.f0 ∧ x.f0 ≤ (n : Int) - 1
    · have da := decide_eq_true ca
      by_cases cb : 0 ≤ x.f1 ∧ x.f1 ≤ (n : Int) - 1
      · have db := decide_eq_true cb
        by_cases cw : 0 ≤ x.f2 ∧ x.f2 ≤ 1000000
        · have dw := decide_eq_true cw
          by_cases ce : rd ls x.f0 = rd ls x.f1
          · right
            have be : (rd ls x.f0 == rd ls x.f1) = true := beq_iff_eq.2 ce
            refine ⟨Ev.step (f := fun _ => some false) (fun k => ?_) (Ev.now _), ⟨2, fun k hk => ?_⟩, fun ho => by rw [hdrop] at ho; exact ho.2.2.1 ce⟩
            · simp (disch := first | omega | trivial) only [spec_ForestOk.l0, ← hx, ↓if_pos, l1In_eq, hw, da, db, dw, Option.bind_some, ↓reduceIte, ce]
            · obtain ⟨m, rfl⟩ : ∃ m, k = m + 1 + 1 := ⟨k - 2, by omega⟩
              simp (disch := first | omega | trivial) only [impl_roots.l1, impl_roots.j3, ← hx, ↓if_pos, inside_eq, hw, da, db, dw, Option.bind_some, ↓reduceIte, be]
          · have be : (rd ls x.f0 == rd ls x.f1) = false := beq_eq_false_iff_ne.2 ce
            obtain ⟨K1, h1⟩ := Ev.binds (l7Merge_ev ls x (by omega) (by omega) (by omega))
            have s1 : ∀ z, Ev (fun k => spec_ForestOk.l0 k (stepL ls x) ((i + 1 : Nat) : Int) (n : Int) es) z → Ev (fun k => spec_ForestOk.l0 k ls (i : Int) (n : Int) es) z := by
              rintro z ⟨K, h⟩
              refine ⟨K + K1 + 1, fun k hk => ?_⟩
              obtain ⟨m, rfl⟩ : ∃ m, k = m + 1 := ⟨k - 1, by omega⟩
              have h := h m (by omega)
              simp (disch := first | omega | trivial) only [spec_ForestOk.l0, ← hx, ↓if_pos, l1In_eq, hw, da, db, dw, Option.bind_some, ↓reduceIte, if_neg ce, ↓h1, hwi]
              exact h
            have s2 : ∀ z, Ev (fun k => impl_roots.l1 k (stepL ls x) es (es.length : Int) ((i + 1 : Nat) : Int) (n : Int) es) z → Ev (fun k => impl_roots.l1 k ls es (es.length : Int) (i : Int) (n : Int) es) z := by
              intro z hz
              have hm := merge_impl (n : Int) es (i : Int) ls (mn (rd ls x.f0) (rd ls x.f1)) (mx (rd ls x.f0) (rd ls x.f1)) (by omega) z (by rw [hwi trivial]; exact hz)
              obtain ⟨K, h⟩ := hm
              refine ⟨K + 2, fun k hk => ?_⟩
              obtain ⟨m, rfl⟩ : ∃ m, k = m + 1 + 1 := ⟨k - 2, by omega⟩
              have h := h m (by omega)
              simp (disch := first | omega | trivial) only [impl_roots.l1, impl_roots.j3, ← hx, ↓if_pos, inside_eq, hw, da, db, dw, Option.bind_some, ↓reduceIte, be, Bool.false_eq_true]
              exact h
            rcases ih (i + 1) (by omega) (by omega) (stepL ls x) (by rw [stepL_len]; exact hls) with ⟨a1, a2, a3⟩ | ⟨a1, a2, a3⟩
            · left
              rw [hdrop]
              exact ⟨s1 _ a1, s2 _ a2, ⟨ca.1, ca.2, cb.1, cb.2⟩, cw, ce, a3⟩
            · exact .inr ⟨s1 _ a1, s2 _ a2, fun ho => by rw [hdrop] at ho; exact a3 ho.2.2.2⟩
        · have dw := decide_eq_false cw
          right
          refine ⟨Ev.step (f := fun _ => some false) (fun k => ?_) (Ev.now _), ⟨2, fun k hk => ?_⟩, fun ho => by rw [hdrop] at ho; exact cw ho.2.1⟩
          · simp (disch := first | omega | trivial) only [spec_ForestOk.l0, ← hx, ↓if_pos, l1In_eq, hw, da, db, dw, Option.bind_some, ↓reduceIte, Bool.false_eq_true]
          · obtain ⟨m, rfl⟩ : ∃ m, k = m + 1 + 1 := ⟨k - 2, by omega⟩
            simp (disch := first | omega | trivial) only [impl_roots.l1, impl_roots.j3, ← hx, ↓if_pos, inside_eq, hw, da, db, dw, Option.bind_some, ↓reduceIte, Bool.false_eq_true]
      · have db := decide_eq_false cb
        right
        refine ⟨Ev.step (f := fun _ => some false) (fun k => ?_) (Ev.now _), ⟨2, fun k hk => ?_⟩, fun ho => by rw [hdrop] at ho; exact cb ⟨ho.1.2.2.1, ho.1.2.2.2⟩⟩
        · simp (disch := first | omega | trivial) only [spec_ForestOk.l0, ← hx, ↓if_pos, l1In_eq, hw, da, db, Option.bind_some, ↓reduceIte, Bool.false_eq_true]
        · obtain ⟨m, rfl⟩ : ∃ m, k = m + 1 + 1 := ⟨k - 2, by omega⟩
          simp (disch := first | omega | trivial) only [impl_roots.l1, impl_roots.j3, ← hx, ↓if_pos, inside_eq, hw, da, db, Option.bind_some, ↓reduceIte, Bool.false_eq_true]
    · have da := decide_eq_false ca
      right
      refine ⟨Ev.step (f := fun _ => some false) (fun k => ?_) (Ev.now _), ⟨2, fun k hk => ?_⟩, fun ho => by rw [hdrop] at ho; exact ca ⟨ho.1.1, ho.1.2.1⟩⟩
      · simp (disch := first | omega | trivial) only [spec_ForestOk.l0, ← hx, ↓if_pos, l1In_eq, hw, da, Option.bind_some, ↓reduceIte, Bool.false_eq_true]
      · obtain ⟨m, rfl⟩ : ∃ m, k = m + 1 + 1 := ⟨k - 2, by omega⟩
        simp (disch := first | omega | trivial) only [impl_roots.l1, impl_roots.j3, ← hx, ↓if_pos, inside_eq, hw, da, Option.bind_some, ↓reduceIte, Bool.false_eq_true]

/-! rightForest -/
theorem forestOk_start (n : Nat) (hn : n ≤ 1000) (es : List S51) (hes : es.length ≤ n) (z : Bool) (h : Ev (fun k => spec_ForestOk.l0 k (idL n) ((0 : Nat) : Int) (n : Int) es) z) : Ev (fun k => spec_ForestOk.f k (n : Int) es) z := by
  have ds := decide_eq_true (show (0 : Int) ≤ (n : Int) ∧ (n : Int) ≤ 1000 by omega)
  have dl := decide_eq_false (show ¬ (es.length : Int) > (n : Int) by omega)
  obtain ⟨K0, h0⟩ := Ev.binds (least_start n (by omega) [] (idL n) (Ev.step (f := fun _ => some (idL n)) (fun k => by simp (disch := first | omega | simp) only [spec_l7Least.l1, ↓if_neg, List.length_nil]) (Ev.now _)))
  obtain ⟨K, h⟩ := h
  refine ⟨K + K0 + 1, fun k hk => ?_⟩
  obtain ⟨m, rfl⟩ : ∃ m, k = m + 1 := ⟨k - 1, by omega⟩
  have h := h m (by omega)
  simp (disch := omega) only [spec_ForestOk.f, l1In_eq, ds, Option.bind_some, ↓reduceIte, dl, spec_ForestOk.j0, Bool.false_eq_true, ↓h0]
  exact h
theorem right_okL (n : Nat) (hn : n ≤ 1000) (es : List S51) (hes : es.length ≤ n) (h : Ev (fun k => spec_ForestOk.f k (n : Int) es) true) : okL (n : Int) es (idL n) := by
  rcases roots_loop2 n hn es (by omega) es.length 0 (by omega) (by omega) (idL n) (idL_len n) with ⟨_, _, a3⟩ | ⟨a1, _, _⟩
  · rw [List.drop_zero] at a3; exact a3
  · have e := Ev.uniq (forestOk_start n hn es hes false a1) h
    cases e
theorem okL_right (n : Nat) (hn : n ≤ 1000) (es : List S51) (hes : es.length ≤ n) (h : okL (n : Int) es (idL n)) : Ev (fun k => spec_ForestOk.f k (n : Int) es) true := by
  rcases roots_loop2 n hn es (by omega) es.length 0 (by omega) (by omega) (idL n) (idL_len n) with ⟨a1, _, _⟩ | ⟨_, _, a3⟩
  · exact forestOk_start n hn es hes true a1
  · rw [List.drop_zero] at a3; exact absurd h a3

/-! countRoots -/
/-- How many classes there are. -/
def cnt (ls : List Int) : Nat := ((List.range ls.length).filter fun (i : Nat) => decide (rd ls (i : Int) = (i : Int))).length
theorem filter_less (y : Nat) (p : Nat → Bool) : ∀ (l : List Nat), l.Nodup → y ∈ l → p y = true → (l.filter p).length = (l.filter fun i => p i && !decide (i = y)).length + 1
  | [], _, h, _ => by cases h
  | a :: l, hn, hy, hp => by
    have hn2 := List.nodup_cons.1 hn
    by_cases e : a = y
    · subst e
      have h1 : l.filter (fun i => p i && !decide (i = a)) = l.filter p := by
        apply List.filter_congr
        intro i hi
        have : i ≠ a := fun h => hn2.1 (h ▸ hi)
        simp [this]
      simp [List.filter_cons, hp, h1]
    · have hy2 : y ∈ l := by
        rcases List.mem_cons.1 hy with h | h
        · exact absurd h.symm e
        · exact h
      have ih := filter_less y p l hn2.2 hy2 hp
      cases hpa : p a with
      | true => simp [List.filter_cons, hpa, e, ih]
      | false => simp [List.filter_cons, hpa, ih]
theorem cnt_id (n : Nat) : cnt (idL n) = n := by
  unfold cnt
  have e : ∀ i ∈ List.range (idL n).length, decide (rd (idL n) (i : Int) = (i : Int)) = true := fun i hi => by
    have h := List.mem_range.1 hi
    rw [idL_len] at h
    simp [rd, idL, List.getD_eq_getElem?_getD, h]
  rw [List.filter_eq_self.2 e, List.length_range, idL_len]
theorem cnt_step (ls : List Int) (h : Rooted ls) (e : S51) (ha : 0 ≤ e.f0 ∧ e.f0 < ls.length) (hb : 0 ≤ e.f1 ∧ e.f1 < ls.length) (hne : rd ls e.f0 ≠ rd ls e.f1) : cnt ls = cnt (stepL ls e) + 1 := by
  obtain ⟨a, ea⟩ := Int.eq_ofNat_of_zero_le ha.1
  obtain ⟨b, eb⟩ := Int.eq_ofNat_of_zero_le hb.1
  have hA := h a (by omega)
  have hB := h b (by omega)
  rw [← ea] at hA
  rw [← eb] at hB
  obtain ⟨x, hx⟩ : ∃ x, x = mn (rd ls e.f0) (rd ls e.f1) := ⟨_, rfl⟩
  obtain ⟨y, hy⟩ : ∃ y, y = mx (rd ls e.f0) (rd ls e.f1) := ⟨_, rfl⟩
  have hm : 0 ≤ y ∧ x < y ∧ y < ls.length ∧ rd ls y = y := by
    unfold mn at hx
    unfold mx at hy
    split at hx <;> split at hy <;> subst hx <;> subst hy <;> first | omega | exact ⟨by omega, by omega, by omega, hA.2.2⟩ | exact ⟨by omega, by omega, by omega, hB.2.2⟩
  obtain ⟨m, hym⟩ := Int.eq_ofNat_of_zero_le hm.1
  have h1 := filter_less m (fun i : Nat => decide (rd ls (i : Int) = (i : Int))) (List.range ls.length) List.nodup_range (List.mem_range.2 (by omega)) (decide_eq_true (by rw [← hym]; exact hm.2.2.2))
  unfold cnt
  rw [h1, stepL_len]
  congr 2
  apply List.filter_congr
  intro i hi
  have hil := List.mem_range.1 hi
  have hs : rd (stepL ls e) (i : Int) = mg ls x y i := by
    unfold stepL
    rw [← hx, ← hy]
    exact mergeL_rd ls x y hil
  rw [hs]
  unfold mg
  have hI := h i hil
  by_cases c : rd ls (i : Int) = y
  · rw [if_pos c]
    by_cases c2 : i = m
    · have : ¬ x = (i : Int) := by omega
      simp [c2, this]
      omega
    · have h3 : ¬ x = (i : Int) := by omega
      have h4 : ¬ rd ls (i : Int) = (i : Int) := by omega
      simp [h3, h4]
  · rw [if_neg c]
    have h5 : i ≠ m := fun h => c (by rw [h, ← hym]; exact hm.2.2.2)
    simp [h5]
theorem cnt_fold (n : Nat) : ∀ (es : List S51) (ls : List Int), ls.length = n → Rooted ls → okL (n : Int) es ls → cnt ls = cnt (es.foldl stepL ls) + es.length
  | [], ls, _, _, _ => rfl
  | e :: es, ls, hl, hr, ho => by
    obtain ⟨⟨a1, a2, a3, a4⟩, _, hne, ho2⟩ := ho
    have h1 := cnt_step ls hr e (by omega) (by omega) hne
    have h2 := cnt_fold n es (stepL ls e) (by rw [stepL_len]; exact hl) (rooted_step ls hr e (by omega) (by omega)) ho2
    rw [h1, h2]
    simp only [List.foldl_cons, List.length_cons]
    omega
theorem two_mem {l : List Nat} {x y : Nat} (hx : x ∈ l) (hy : y ∈ l) (hne : x ≠ y) : 2 ≤ l.length := by
  match l, hx, hy with
  | [a], hx, hy => exact absurd ((List.mem_singleton.1 hx).trans (List.mem_singleton.1 hy).symm) hne
  | _ :: _ :: _, _, _ => simp
theorem room (n : Nat) (es : List S51) (ho : okL (n : Int) es (idL n)) (a b : Nat) (ha : a < n) (hb : b < n) (hne : rd (es.foldl stepL (idL n)) (a : Int) ≠ rd (es.foldl stepL (idL n)) (b : Int)) : es.length + 2 ≤ n := by
  have hin : ∀ (es : List S51) (ls : List Int), okL (n : Int) es ls → ∀ e ∈ es, InL (n : Int) e := by
    intro es
    induction es with
    | nil => intro ls _ e he; cases he
    | cons x es ih =>
      intro ls h e he
      rcases List.mem_cons.1 he with rfl | he
      · exact h.1
      · exact ih _ h.2.2.2 e he
  have hr : Rooted (es.foldl stepL (idL n)) := rooted_fold es _ (rooted_id n) (by rw [idL_len]; exact hin es _ ho)
  have hlen : (es.foldl stepL (idL n)).length = n := by rw [foldL_len, idL_len]
  have h1 := cnt_fold n es (idL n) (idL_len n) (rooted_id n) ho
  rw [cnt_id] at h1
  obtain ⟨ls, hls⟩ : ∃ ls, ls = es.foldl stepL (idL n) := ⟨_, rfl⟩
  rw [← hls] at hr hlen h1 hne
  have hA := hr a (by omega)
  have hB := hr b (by omega)
  obtain ⟨x, hx⟩ := Int.eq_ofNat_of_zero_le hA.1
  obtain ⟨y, hy⟩ := Int.eq_ofNat_of_zero_le hB.1
  rw [hx] at hA hne
  rw [hy] at hB hne
  have h2 : 2 ≤ cnt ls := by
    unfold cnt
    refine two_mem (x := x) (y := y) (List.mem_filter.2 ⟨List.mem_range.2 (by omega), decide_eq_true hA.2.2⟩) (List.mem_filter.2 ⟨List.mem_range.2 (by omega), decide_eq_true hB.2.2⟩) (by omega)
  omega

/-! forestTail -/
theorem root_val (n : Nat) (hn : n ≤ 1000) (es : List S51) (ls : List Int) (hlen : ls.length = n) (h : Ev (fun k => impl_roots.f k (n : Int) es) (ls, true)) (a : Nat) (ha : a < n) : Ev (fun k => impl_Root.f k (n : Int) es (a : Int)) (rd ls (a : Int)) := by
  obtain ⟨K, h⟩ := Ev.binds h
  have hw : True → wrap64 ((n : Int) - 1) = (n : Int) - 1 := fun _ => wrap64_id (by omega) (by omega)
  have da := decide_eq_true (show (0 : Int) ≤ (a : Int) ∧ (a : Int) ≤ (n : Int) - 1 by omega)
  exact ⟨K, fun k hk => by simp (disch := first | omega | trivial) only [impl_Root.f, ↓h, ↓reduceIte, inside_eq, hw, da, Option.bind_some, ↓if_pos]⟩
theorem ok_val (n : Nat) (es : List S51) (ls : List Int) (h : Ev (fun k => impl_roots.f k (n : Int) es) (ls, true)) : Ev (fun k => impl_ForestOk.f k (n : Int) es) true := by
  obtain ⟨K, h⟩ := Ev.binds h
  exact ⟨K, fun k hk => by simp (disch := omega) only [impl_ForestOk.f, ↓h]⟩
theorem undo_val (n : Nat) (es : List S51) (ls : List Int) (hes : es.length ≤ 1000) (h : Ev (fun k => impl_roots.f k (n : Int) es) (ls, true)) (m : Nat) (hm : m ≤ es.length) : Ev (fun k => impl_Undo.f k (n : Int) es (m : Int)) ((n : Int), es.take m) := by
  obtain ⟨K, h⟩ := Ev.binds h
  have da := decide_eq_true (show (0 : Int) ≤ (m : Int) ∧ (m : Int) ≤ (es.length : Int) by omega)
  have hl : (es.take m).length ≤ 1000 := by rw [List.length_take]; omega
  exact ⟨K, fun k hk => by simp (disch := omega) only [impl_Undo.f, impl_ForestOk.f, ↓h, Option.bind_some, ↓reduceIte, inside_eq, da, ↓if_pos, impl_Link.f, Int.toNat_natCast]⟩
theorem groups_val (n : Nat) (hn : n ≤ 1000) (es : List S51) (ls : List Int) (hlen : ls.length = n) (hr : Rooted ls) (h : Ev (fun k => impl_roots.f k (n : Int) es) (ls, true)) : Ev (fun k => impl_GroupsOf.f k (n : Int) es) ((grps ls n).filter fun x => decide (2 ≤ x.length)) := by
  obtain ⟨K, h⟩ := Ev.binds h
  obtain ⟨K5, h5⟩ := Ev.binds (groups_impl ls n hlen hn hr)
  exact ⟨K + K5, fun k hk => by simp (disch := omega) only [impl_GroupsOf.f, ↓h, ↓reduceIte, ↓if_pos, Int.toNat_natCast, ↓h5]⟩
theorem grp_mem (ls : List Int) (r m a : Nat) (ha : a < m) (h : rd ls (a : Int) = (r : Int)) : (a : Int) ∈ grp ls r m := by
  unfold grp
  exact List.mem_map.2 ⟨a, List.mem_filter.2 ⟨List.mem_range.2 ha, decide_eq_true h⟩, rfl⟩
theorem two_memI {l : List Int} {x y : Int} (hx : x ∈ l) (hy : y ∈ l) (hne : x ≠ y) : 2 ≤ l.length := by
  match l, hx, hy with
  | [a], hx, hy => exact absurd ((List.mem_singleton.1 hx).trans (List.mem_singleton.1 hy).symm) hne
  | _ :: _ :: _, _, _ => simp
theorem same_loop (a b : Int) (n : Int) (es g : List S51) (hes : es.length ≤ 1000) (r : Bool) (hend : Ev (fun k => laws_FnForest.l0 k a b (es.length : Int) n es n g n es) r) : ∀ d i, es.length - i = d → i ≤ es.length → Ev (fun k => laws_FnForest.l0 k a b (i : Int) n es n g n es) r := by
  intro d
  induction d with
  | zero =>
    intro i hd hi
    have e : i = es.length := by omega
    subst e
    exact hend
  | succ d ih =>
    intro i hd hi
    refine Ev.step (fun k => ?_) (ih (i + 1) (by omega) (by omega))
    simp only [laws_FnForest.l0]
    rw [if_pos (by omega), if_pos (by omega), if_pos (by omega), if_neg (by simp), wrap64_id (by omega) (by omega)]
    rfl
theorem forest_tail (n : Nat) (hn : n ≤ 1000) (es g : List S51) (a b : Nat) (ls ls' : List Int) (isNew : Bool) (h : Ev (fun k => impl_roots.f k (n : Int) es) (ls, true)) (h' : Ev (fun k => impl_roots.f k (n : Int) g) (ls', true)) (hlen : ls.length = n) (hlen' : ls'.length = n) (hr : Rooted ls') (ha : a < n) (hb : b < n)
    (e1 : rd ls' (a : Int) = mn (rd ls (a : Int)) (rd ls (b : Int))) (e2 : rd ls' (b : Int) = mn (rd ls (a : Int)) (rd ls (b : Int))) (hnew : ((rd ls (a : Int) == rd ls (b : Int)) != !isNew) = false) (htake : g.take es.length = es) (hle : es.length ≤ g.length) (hg : g.length ≤ 1000) :
    Ev (fun k => laws_FnForest.j0 k (a : Int) (b : Int) isNew true false (n : Int) es (n : Int) g) true := by
  obtain ⟨K1, r1⟩ := Ev.binds (root_val n hn es ls hlen h a ha)
  obtain ⟨K2, r2⟩ := Ev.binds (root_val n hn es ls hlen h b hb)
  obtain ⟨K3, r3⟩ := Ev.binds (root_val n hn g ls' hlen' h' a ha)
  obtain ⟨K4, r4⟩ := Ev.binds (root_val n hn g ls' hlen' h' b hb)
  obtain ⟨K5, r5⟩ := Ev.binds (ok_val n g ls' h')
  have hu := undo_val n g ls' hg h' es.length hle
  rw [htake] at hu
  obtain ⟨K6, r6⟩ := Ev.binds hu
  obtain ⟨K7, r7⟩ := Ev.binds (groups_val n hn g ls' hlen' hr h')
  have hfound : Ev (fun k => laws_FnForest.l1 k (a : Int) (b : Int) ((grps ls' n).filter fun x => decide (2 ≤ x.length)) ((a : Int) == (b : Int)) ((0 : Nat) : Int)) true := by
    refine found_ev (a : Int) (b : Int) _ ?_ ?_ _ 0 rfl (by omega) _ ?_
    · have h1 := List.length_filter_le (fun x : List Int => decide (2 ≤ x.length)) (grps ls' n)
      rw [grps_len, hlen'] at h1
      omega
    · intro x hx
      obtain ⟨i, _, rfl⟩ := List.mem_map.1 (List.mem_filter.1 hx).1
      have := grp_len ls' i n
      omega
    · by_cases c : (a : Int) = (b : Int)
      · exact .inl (beq_iff_eq.2 c)
      · right
        obtain ⟨r0, r9, _⟩ := hr a (by omega)
        obtain ⟨r, hr2⟩ := Int.eq_ofNat_of_zero_le r0
        have m1 := grp_mem ls' r n a ha hr2
        have m2 := grp_mem ls' r n b hb (by rw [e2, ← e1, hr2])
        rw [List.drop_zero]
        refine ⟨grp ls' r n, List.mem_filter.2 ⟨?_, decide_eq_true (two_memI m1 m2 c)⟩, m1, m2⟩
        unfold grps
        exact List.mem_map.2 ⟨r, List.mem_range.2 (by omega), rfl⟩
  obtain ⟨K8, hfound⟩ := hfound
  have hend : Ev (fun k => laws_FnForest.l0 k (a : Int) (b : Int) (es.length : Int) (n : Int) es (n : Int) g (n : Int) es) true := by
    refine ⟨K7 + K8 + 1, fun k hk => ?_⟩
    obtain ⟨m, rfl⟩ : ∃ m, k = m + 1 := ⟨k - 1, by omega⟩
    have hf := hfound m (by omega)
    dsimp only at hf ⊢
    simp only [laws_FnForest.l0]
    rw [if_neg (by omega), r7 m (by omega)]
    exact hf
  obtain ⟨K9, hl⟩ := same_loop (a : Int) (b : Int) (n : Int) es g (by omega) true hend es.length 0 (by omega) (by omega)
  refine ⟨K1 + K2 + K3 + K4 + K5 + K6 + K9 + 3, fun k hk => ?_⟩
  obtain ⟨m, rfl⟩ : ∃ m, k = m + 1 + 1 + 1 := ⟨k - 3, by omega⟩
  have hl := hl m (by omega)
  dsimp only at hl ⊢
  simp only [laws_FnForest.j0]
  rw [if_neg (by decide), if_pos trivial, r1 _ (by omega), r2 _ (by omega), r3 _ (by omega), if_pos e1, r4 _ (by omega), if_pos e2, r5 _ (by omega), if_pos rfl, hnew]
  simp only [laws_FnForest.j1]
  rw [if_neg (by decide), r6 _ (by omega), if_pos rfl]
  simp only [laws_FnForest.j2, bne_self_eq_false]
  rw [if_neg (by decide)]
  exact hl

/-! forestLaw -/
theorem wf_u8 {x : Int} (h : (Lit.int .u8 x).wf = true) : 0 ≤ x ∧ x ≤ 255 := by
  simp [Lit.wf, IntKind.min, IntKind.max, IntKind.signed, IntKind.bits] at h
  omega
theorem code_of (l : List Int) (q : ∀ x ∈ l, (Lit.int .u8 x).wf = true) (hl : l.length ≤ 1048576) : Code l := ⟨hl, fun i hi => by
  have e : rd l (i : Int) = l[i] := by
    unfold rd
    rw [List.getD_eq_getElem?_getD, Int.toNat_natCast, List.getElem?_eq_getElem hi]
    rfl
  rw [e]
  exact wf_u8 (q _ (List.getElem_mem hi))⟩
theorem drawJoin_ev (b : List Int) (hb : Code b) : ∃ size es x y z, Ev (fun k => spec_DrawJoin.f k b) (size, es, x, y, z) ∧ es.length ≤ 65 := by
  obtain ⟨size, es, p1, e1, i1, hel, hp1⟩ := forest_ev b hb 0 ⟨by omega, by omega⟩
  obtain ⟨x, p2, e2, _, hp2⟩ := off_ev b hb p1 hp1 0 (wrap64 (size - 1)) (by omega) (I64.wrap _)
  obtain ⟨y, p3, e3, _, hp3⟩ := off_ev b hb p2 hp2 0 (wrap64 (size - 1)) (by omega) (I64.wrap _)
  obtain ⟨z, p4, e4, _, hp4⟩ := off_ev b hb p3 hp3 0 9 (by omega) (by unfold I64; omega)
  obtain ⟨K1, h1⟩ := Ev.binds e1
  obtain ⟨K2, h2⟩ := Ev.binds e2
  obtain ⟨K3, h3⟩ := Ev.binds e3
  obtain ⟨K4, h4⟩ := Ev.binds e4
  refine ⟨size, es, x, y, z, ⟨K1 + K2 + K3 + K4, fun k hk => ?_⟩, hel⟩
  have h1 := h1 k (by omega)
  have h2 := h2 k (by omega)
  have h3 := h3 k (by omega)
  have h4 := h4 k (by omega)
  clear hk hel
  show spec_DrawJoin.f k b = some (size, es, x, y, z)
  unfold spec_DrawJoin.f spec_l1Open.f
  rw [Option.bind_some, h1, h2, h3, h4]
theorem law_end (l0 : List Int) (db : decide ((l0.length : Int) > 1048576) = false) {size a b c s : Int} {es e : List S51} {n o : Bool} (hd : Ev (fun k => spec_DrawJoin.f k l0) (size, es, a, b, c)) (j1 : Ev (fun k => spec_Join.f k size es a b c) (s, e, n, o)) (j2 : Ev (fun k => impl_Join.f k size es a b c) (s, e, n, o))
    (ht : Ev (fun k => laws_FnForest.j0 k a b n o false size es s e) true) : ∃ k, laws_FnForest.f k l0 = some true := by
  obtain ⟨K1, h1⟩ := Ev.binds hd
  obtain ⟨K2, h2⟩ := Ev.binds j1
  obtain ⟨K3, h3⟩ := Ev.binds j2
  obtain ⟨K4, ht⟩ := ht
  obtain ⟨K, hK⟩ : ∃ K, K = K1 + K2 + K3 + K4 := ⟨_, rfl⟩
  have ht := ht K (by omega)
  have h1 := fun β g => h1 K (by omega) β g
  have h2 := fun β g => h2 K (by omega) β g
  have h3 := fun β g => h3 K (by omega) β g
  clear hd j1 j2 hK
  dsimp only at ht
  exact ⟨K, by
    simp only [laws_FnForest.f, laws_big.f, db, Option.bind_some, Bool.false_eq_true, ↓reduceIte, ↓h1, ↓h2, ↓h3, bne_self_eq_false]
    exact ht⟩
-- SAYS: For every code: the forest drawn of it and what Join makes of it answer as the law says.
theorem FnForest (l0 : List Int) (q0 : ∀ x ∈ l0, (Lit.int .u8 x).wf = true) (hl0 : l0.length ≤ 9223372036854775807) : ∃ k, laws_FnForest.f k l0 = some true := by
  by_cases hbig : (l0.length : Int) > 1048576
  · have db := decide_eq_true hbig
    exact ⟨0, by unfold laws_FnForest.f laws_big.f; rw [db]; simp only [Option.bind_some, if_true]⟩
  · have db := decide_eq_false hbig
    obtain ⟨size, es, a, b, c, hd, hel⟩ := drawJoin_ev l0 (code_of l0 q0 (by omega))
    rcases join_full size es a b c with ⟨s0, s1, s2, s3, ca, cb, cc, g1, g2, hj⟩ | ⟨j1, j2⟩
    · obtain ⟨n, rfl⟩ := Int.eq_ofNat_of_zero_le s0
      obtain ⟨x, rfl⟩ := Int.eq_ofNat_of_zero_le ca.1
      obtain ⟨y, rfl⟩ := Int.eq_ofNat_of_zero_le cb.1
      have en : (n : Int).toNat = n := Int.toNat_natCast n
      rw [en] at g2 hj
      have hlen : (es.foldl stepL (idL n)).length = n := by rw [foldL_len, idL_len]
      have hroot : Rooted (es.foldl stepL (idL n)) := rooted_fold es _ (rooted_id n) (by rw [idL_len]; exact s3)
      rcases hj with ⟨ce, j1, j2⟩ | ⟨ce, j1, j2⟩
      · refine law_end l0 db hd j1 j2 (forest_tail n (by omega) es es x y _ _ false g2 g2 hlen hlen hroot (by omega) (by omega) ?_ ?_ ?_ List.take_length (Nat.le_refl _) (by omega))
        · rw [ce]; unfold mn; split <;> rfl
        · rw [ce]; unfold mn; split <;> rfl
        · rw [ce]; simp
      · have ho := right_okL n (by omega) es (by omega) g1
        have hroom := room n es ho x y (by omega) (by omega) ce
        obtain ⟨e, he⟩ : ∃ e : S51, e = ⟨(x : Int), (y : Int), c⟩ := ⟨_, rfl⟩
        have f0 : e.f0 = (x : Int) := by rw [he]
        have f1 : e.f1 = (y : Int) := by rw [he]
        have f2 : e.f2 = c := by rw [he]
        rw [← he] at j1 j2
        have ho2 := okL_snoc (n : Int) e es (idL n) ho ⟨by omega, by omega, by omega, by omega⟩ (by omega) (by rw [f0, f1]; exact ce)
        have hg := okL_right n (by omega) (es ++ [e]) (by simp only [List.length_append, List.length_singleton]; omega) ho2
        have g3 : Ev (fun k => impl_roots.f k (n : Int) (es ++ [e])) (stepL (es.foldl stepL (idL n)) e, true) := by
          rcases forest_core (n : Int) (es ++ [e]) with ⟨_, _, _, _, _, h2, _⟩ | ⟨h1, _⟩
          · rw [en, List.foldl_append] at h2
            exact h2
          · have ee := Ev.uniq h1 hg
            cases ee
        obtain ⟨ls, hls⟩ : ∃ ls, ls = es.foldl stepL (idL n) := ⟨_, rfl⟩
        rw [← hls] at g2 g3 hlen hroot ce
        have hst : ∀ i : Nat, i < n → (rd ls (i : Int) = rd ls (x : Int) ∨ rd ls (i : Int) = rd ls (y : Int)) → rd (stepL ls e) (i : Int) = mn (rd ls (x : Int)) (rd ls (y : Int)) := by
          intro i hi hc
          unfold stepL
          rw [f0, f1, mergeL_rd ls _ _ (by omega)]
          unfold mg mn mx
          rcases hc with hc | hc <;> rw [hc] <;> split <;> split <;> omega
        refine law_end l0 db hd j1 j2 (forest_tail n (by omega) es (es ++ [e]) x y ls (stepL ls e) true g2 g3 hlen (by rw [stepL_len]; exact hlen) (rooted_step ls hroot e (by omega) (by omega)) (by omega) (by omega) (hst x (by omega) (.inl rfl)) (hst y (by omega) (.inr rfl)) ?_ (by rw [List.take_left]) (by simp) (by simp only [List.length_append, List.length_singleton]; omega))
        have ene : (rd ls (x : Int) == rd ls (y : Int)) = false := beq_eq_false_iff_ne.2 ce
        rw [ene]
        rfl
    · refine law_end l0 db hd j1 j2 (Ev.step (f := fun _ => some true) (fun k => ?_) (Ev.now _))
      simp only [laws_FnForest.j0]
      rw [if_neg (by decide), if_neg (by decide)]

end Go.Proofs.Ytkjlplcdjdenkaa.Pure
