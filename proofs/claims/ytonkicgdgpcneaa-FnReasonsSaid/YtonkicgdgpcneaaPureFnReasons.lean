/- For every code: the reasons that are told of a drawn forest's nodes name links that join them alone; where none are told the list is empty. -/
import Derived.Test.YtonkicgdgpcneaaPFnReasonsx11
import Derived.Test.YtonkicgdgpcneaaBits
import Derived.Test.YtonkicgdgpcneaaLoops
namespace Go.Proofs.Ytonkicgdgpcneaa.Pure
open Go Go.RowKit Go.Proofs.Ytonkicgdgpcneaa.PFnReasons Go.Proofs.YtonkicgdgpcneaaW.PrintWords Go.Proofs.YtonkicgdgpcneaaW.PrintLast Go.Proofs.YtonkicgdgpcneaaW.PrintMore Go.Proofs.Ytonkicgdgpcneaa.BitsLib Go.Proofs.Ytonkicgdgpcneaa.Loops
set_option linter.unusedVariables false
set_option linter.unusedSimpArgs false
set_option maxRecDepth 4000

/-! wrap_next -/
theorem wrap_next (i : Nat) (h : i < 4611686018427387904) : wrap64 ((i : Int) + 1) = ((i + 1 : Nat) : Int) := by
  rw [wrap64_id (by omega) (by omega)]; rfl

/-! implInside -/
theorem inside_eq (a b c : Int) : impl_inside.f a b c = some (decide (b ≤ a ∧ a ≤ c)) := by
  unfold impl_inside.f
  by_cases h1 : b ≤ a
  · rw [if_pos h1]; simp [h1]
  · rw [if_neg h1]; simp [h1]

/-! specIn -/
theorem l1In_eq (a b c : Int) : spec_l1In.f a b c = some (decide (b ≤ a ∧ a ≤ c)) := by
  unfold spec_l1In.f
  by_cases h1 : b ≤ a
  · rw [if_pos h1]; simp [h1]
  · rw [if_neg h1]; simp [h1]

/-! merges -/
/-- What element i is when y has become x. -/
def mg (ls : List Int) (x y : Int) (i : Nat) : Int := if rd ls (i : Int) = y then x else rd ls (i : Int)
def mergeL (ls : List Int) (x y : Int) : List Int := (List.range ls.length).map (mg ls x y)
theorem mergeL_len (ls : List Int) (x y : Int) : (mergeL ls x y).length = ls.length := by simp [mergeL]
theorem filled_rd (conv : Nat → Int) (z : List Int) {i : Nat} (h : i < z.length) : rd (filled conv z i) (i : Int) = rd z (i : Int) := by
  have h1 : i < (filled conv z i).length := by rw [filled_len _ _ (by omega)]; exact h
  have e := getElem?_rd h1
  have e2 := getElem?_rd h
  unfold filled at e ⊢
  rw [List.getElem?_append_right (by simp), List.length_map, List.length_range, Nat.sub_self, List.getElem?_drop, Nat.add_zero, e2] at e
  exact (Option.some.inj e).symm
theorem filled_skip (conv : Nat → Int) (z : List Int) {i : Nat} (h : i < z.length) (hc : conv i = rd z (i : Int)) : filled conv z i = filled conv z (i + 1) := by
  rw [← filled_set conv z h]
  apply List.ext_getElem?
  intro j
  by_cases e : j = i
  · subst e
    have h1 : j < (filled conv z j).length := by rw [filled_len _ _ (by omega)]; exact h
    rw [List.getElem?_set_self h1, getElem?_rd h1, filled_rd conv z h, hc]
  · rw [List.getElem?_set_ne (Ne.symm e)]
/-- The lists of numbers 0 .. n - 1. -/
def idL (n : Nat) : List Int := (List.range n).map fun (i : Nat) => (i : Int)
theorem idL_len (n : Nat) : (idL n).length = n := by simp [idL]
theorem idL_succ (n : Nat) : idL (n + 1) = idL n ++ [(n : Int)] := by simp [idL, List.range_succ]

/-! steps -/
def stepL (ls : List Int) (e : S70) : List Int := mergeL ls (mn (rd ls e.f0) (rd ls e.f1)) (mx (rd ls e.f0) (rd ls e.f1))
theorem stepL_len (ls : List Int) (e : S70) : (stepL ls e).length = ls.length := mergeL_len _ _ _
theorem merge_spec (ls : List Int) (x y : Int) (hl : ls.length ≤ 1000000) : Ev (fun k => spec_l7Merge.l0 k ls x y 0) (mergeL ls x y) := by
  have main := up_loop ls.length (filled (mg ls x y) ls) (fun k s i => spec_l7Merge.l0 k s x y i)
    (fun i hi r h => by
      have h1 : (i : Int) < ((filled (mg ls x y) ls i).length : Int) := by rw [filled_len _ _ (by omega)]; omega
      by_cases c : rd ls (i : Int) = y
      · refine Ev.step (fun k => ?_) h
        simp only [spec_l7Merge.l0]
        rw [if_pos h1, if_pos (by omega), filled_rd _ _ hi, if_pos c, Int.toNat_natCast, wrap64_id (by omega) (by omega), ← filled_set _ _ hi, mg, if_pos c]
      · refine Ev.step (fun k => ?_) h
        simp only [spec_l7Merge.l0]
        rw [if_pos h1, if_pos (by omega), filled_rd _ _ hi, if_neg c, wrap64_id (by omega) (by omega), ← filled_skip _ _ hi (by rw [mg, if_neg c])])
    (mergeL ls x y) (Ev.step (f := fun _ => some (mergeL ls x y)) (fun k => by
      simp only [spec_l7Merge.l0]
      rw [if_neg (by rw [filled_len _ _ (Nat.le_refl _)]; omega), filled_all _ _ rfl]; rfl) (Ev.now _))
  rwa [filled_zero] at main
theorem l7Merge_ev (ls : List Int) (e : S70) (hl : ls.length ≤ 1000000) (ha : 0 ≤ e.f0 ∧ e.f0 < ls.length) (hb : 0 ≤ e.f1 ∧ e.f1 < ls.length) : Ev (fun k => spec_l7Merge.f k ls e.f0 e.f1) (stepL ls e) :=
  Ev.congr (fun k => by simp (disch := omega) only [spec_l7Merge.f, ↓if_pos]) (merge_spec ls _ _ hl)

/-! rdELink -/
theorem rdE_T70 (xs : List S70) (i : Nat) (h : i < xs.length) : rd_T70 xs (i : Int) = xs[i] := by
  unfold rd_T70
  rw [List.getD_eq_getElem?_getD, Int.toNat_natCast, List.getElem?_eq_getElem h]
  rfl

/-! roots -/
def InL (n : Int) (e : S70) : Prop := 0 ≤ e.f0 ∧ e.f0 ≤ n - 1 ∧ 0 ≤ e.f1 ∧ e.f1 ≤ n - 1
theorem merge_impl (n : Int) (es : List S70) (j : Int) (ls : List Int) (x y : Int) (hl : ls.length ≤ 1000000) (r : List Int × Bool)
    (hend : Ev (fun k => impl_roots.l1 k (mergeL ls x y) es (es.length : Int) (wrap64 (j + 1)) n es) r) : Ev (fun k => impl_roots.l2 k ls x y es (es.length : Int) j (ls.length : Int) 0 n es) r := by
  have main := up_loop ls.length (filled (mg ls x y) ls) (fun k s i => impl_roots.l2 k s x y es (es.length : Int) j (ls.length : Int) i n es)
    (fun i hi r h => by
      have h1 : (i : Int) < ((filled (mg ls x y) ls i).length : Int) := by rw [filled_len _ _ (by omega)]; omega
      by_cases c : rd ls (i : Int) = y
      · refine Ev.step (fun k => ?_) h
        simp only [impl_roots.l2]
        rw [if_pos (by omega), if_pos (by omega), if_pos h1, filled_rd _ _ hi, if_pos c, Int.toNat_natCast, wrap64_id (by omega) (by omega), ← filled_set _ _ hi, mg, if_pos c]
      · refine Ev.step (fun k => ?_) h
        simp only [impl_roots.l2]
        rw [if_pos (by omega), if_pos (by omega), if_pos h1, filled_rd _ _ hi, if_neg c, wrap64_id (by omega) (by omega), ← filled_skip _ _ hi (by rw [mg, if_neg c])])
    r (Ev.step (fun k => by
      simp only [impl_roots.l2]
      rw [if_neg (by omega), filled_all _ _ rfl]; rfl) hend)
  rwa [filled_zero] at main
theorem roots_loop (n : Nat) (hn : n ≤ 1000) (es : List S70) (hes : es.length ≤ 1000) :
    ∀ d i, es.length - i = d → i ≤ es.length → ∀ ls : List Int, ls.length = n →
      (Ev (fun k => spec_ForestOk.l0 k ls (i : Int) (n : Int) es) true ∧ Ev (fun k => impl_roots.l1 k ls es (es.length : Int) (i : Int) (n : Int) es) ((es.drop i).foldl stepL ls, true) ∧ ∀ e ∈ es.drop i, InL n e) ∨
      (Ev (fun k => spec_ForestOk.l0 k ls (i : Int) (n : Int) es) false ∧ Ev (fun k => impl_roots.l1 k ls es (es.length : Int) (i : Int) (n : Int) es) ([], false)) := by
  intro d
  induction d with
  | zero =>
    intro i hd hi ls hls
    left
    have e : es.drop i = [] := List.drop_eq_nil_of_le (by omega)
    rw [e]
    refine ⟨Ev.step (f := fun _ => some true) (fun k => ?_) (Ev.now _), Ev.step (f := fun _ => some (ls, true)) (fun k => ?_) (Ev.now _), fun e he => by cases he⟩
    · simp (disch := omega) only [spec_ForestOk.l0, ↓if_neg]
    · simp (disch := omega) only [impl_roots.l1, ↓if_neg]
  | succ d ih =>
    intro i hd hi ls hls
    have hil : i < es.length := by omega
    obtain ⟨x, hx⟩ : ∃ x, x = rd_T70 es (i : Int) := ⟨_, rfl⟩
    have hdrop : es.drop i = x :: es.drop (i + 1) := by rw [List.drop_eq_getElem_cons hil, hx, rdE_T70 es i hil]
    have hw : True → wrap64 ((n : Int) - 1) = (n : Int) - 1 := fun _ => wrap64_id (by omega) (by omega)
    have hwi : True → wrap64 ((i : Int) + 1) = ((i + 1 : Nat) : Int) := fun _ => wrap_next i (by omega)
    by_cases ca : 0 ≤ x.f0 ∧ x.f0 ≤ (n : Int) - 1
    · have da := decide_eq_true ca
      by_cases cb : 0 ≤ x.f1 ∧ x.f1 ≤ (n : Int) - 1
      · have db := decide_eq_true cb
        by_cases cw : 0 ≤ x.f2 ∧ x.f2 ≤ 1000000
        · have dw := decide_eq_true cw
          by_cases ce : rd ls x.f0 = rd ls x.f1
          · right
            have be : (rd ls x.f0 == rd ls x.f1) = true := beq_iff_eq.2 ce
            refine ⟨Ev.step (f := fun _ => some false) (fun k => ?_) (Ev.now _), ⟨2, fun k hk => ?_⟩⟩
            · simp (disch := first | omega | trivial) only [spec_ForestOk.l0, ← hx, ↓if_pos, l1In_eq, hw, da, db, dw, Option.bind_some, ↓reduceIte, ce]
            · obtain ⟨m, rfl⟩ : ∃ m, k = m + 1 + 1 := ⟨k - 2, by omega⟩
              simp (disch := first | omega | trivial) only [impl_roots.l1, impl_roots.j3, ← hx, ↓if_pos, inside_eq, hw, da, db, dw, Option.bind_some, ↓reduceIte, be]
          · have be : (rd ls x.f0 == rd ls x.f1) = false := beq_eq_false_iff_ne.2 ce
            obtain ⟨K1, h1⟩ := Ev.binds (l7Merge_ev ls x (by omega) (by omega) (by omega))
            have s1 : ∀ z, Ev (fun k => spec_ForestOk.l0 k (stepL ls x) ((i + 1 : Nat) : Int) (n : Int) es) z → Ev (fun k => spec_ForestOk.l0 k ls (i : Int) (n : Int) es) z := by
              rintro z ⟨K, h⟩
              refine ⟨K + K1 + 1, fun k hk => ?_⟩
              obtain ⟨m, rfl⟩ : ∃ m, k = m + 1 := ⟨k - 1, by omega⟩
              have h := h m (by omega)
              simp (disch := first | omega | trivial) only [spec_ForestOk.l0, ← hx, ↓if_pos, l1In_eq, hw, da, db, dw, Option.bind_some, ↓reduceIte, if_neg ce, ↓h1, hwi]
              exact h
            have s2 : ∀ z, Ev (fun k => impl_roots.l1 k (stepL ls x) es (es.length : Int) ((i + 1 : Nat) : Int) (n : Int) es) z → Ev (fun k => impl_roots.l1 k ls es (es.length : Int) (i : Int) (n : Int) es) z := by
              intro z hz
              have hm := merge_impl (n : Int) es (i : Int) ls (mn (rd ls x.f0) (rd ls x.f1)) (mx (rd ls x.f0) (rd ls x.f1)) (by omega) z (by rw [hwi trivial]; exact hz)
              obtain ⟨K, h⟩ := hm
              refine ⟨K + 2, fun k hk => ?_⟩
              obtain ⟨m, rfl⟩ : ∃ m, k = m + 1 + 1 := ⟨k - 2, by omega⟩
              have h := h m (by omega)
              simp (disch := first | omega | trivial) only [impl_roots.l1, impl_roots.j3, ← hx, ↓if_pos, inside_eq, hw, da, db, dw, Option.bind_some, ↓reduceIte, be, Bool.false_eq_true]
              exact h
            rcases ih (i + 1) (by omega) (by omega) (stepL ls x) (by rw [stepL_len]; exact hls) with ⟨a1, a2, a3⟩ | ⟨a1, a2⟩
            · left
              rw [hdrop]
              refine ⟨s1 _ a1, s2 _ a2, fun e he => ?_⟩
              rcases List.mem_cons.1 he with rfl | he
              · exact ⟨ca.1, ca.2, cb.1, cb.2⟩
              · exact a3 e he
            · exact .inr ⟨s1 _ a1, s2 _ a2⟩
        · have dw := decide_eq_false cw
          right
          refine ⟨Ev.step (f := fun _ => some false) (fun k => ?_) (Ev.now _), ⟨2, fun k hk => ?_⟩⟩
          · simp (disch := first | omega | trivial) only [spec_ForestOk.l0, ← hx, ↓if_pos, l1In_eq, hw, da, db, dw, Option.bind_some, ↓reduceIte, Bool.false_eq_true]
          · obtain ⟨m, rfl⟩ : ∃ m, k = m + 1 + 1 := ⟨k - 2, by omega⟩
            simp (disch := first | omega | trivial) only [impl_roots.l1, impl_roots.j3, ← hx, ↓if_pos, inside_eq, hw, da, db, dw, Option.bind_some, ↓reduceIte, Bool.false_eq_true]
      · have db := decide_eq_false cb
        right
        refine ⟨Ev.step (f := fun _ => some false) (fun k => ?_) (Ev.now _), ⟨2, fun k hk => ?_⟩⟩
        · simp (disch := first | omega | trivial) only [spec_ForestOk.l0, ← hx, ↓if_pos, l1In_eq, hw, da, db, Option.bind_some, ↓reduceIte, Bool.false_eq_true]
        · obtain ⟨m, rfl⟩ : ∃ m, k = m + 1 + 1 := ⟨k - 2, by omega⟩
          simp (disch := first | omega | trivial) only [impl_roots.l1, impl_roots.j3, ← hx, ↓if_pos, inside_eq, hw, da, db, Option.bind_some, ↓reduceIte, Bool.false_eq_true]
    · have da := decide_eq_false ca
      right
      refine ⟨Ev.step (f := fun _ => some false) (fun k => ?_) (Ev.now _), ⟨2, fun k hk => ?_⟩⟩
      · simp (disch := first | omega | trivial) only [spec_ForestOk.l0, ← hx, ↓if_pos, l1In_eq, hw, da, Option.bind_some, ↓reduceIte, Bool.false_eq_true]
      · obtain ⟨m, rfl⟩ : ∃ m, k = m + 1 + 1 := ⟨k - 2, by omega⟩
        simp (disch := first | omega | trivial) only [impl_roots.l1, impl_roots.j3, ← hx, ↓if_pos, inside_eq, hw, da, Option.bind_some, ↓reduceIte, Bool.false_eq_true]
theorem least_start (n : Nat) (hn : n ≤ 1000) (es : List S70) (r : List Int) (h : Ev (fun k => spec_l7Least.l1 k es (idL n) 0) r) : Ev (fun k => spec_l7Least.f k (n : Int) es) r := by
  have main := up_loop n (fun i => idL i) (fun k s i => spec_l7Least.l0 k (n : Int) es s i)
    (fun i hi r h => Ev.step (fun k => by
      simp only [spec_l7Least.l0]
      rw [if_pos (by omega), if_pos (by rw [idL_len]; omega), wrap64_id (by omega) (by omega), ← idL_succ]) h)
    r (Ev.step (fun k => by
      simp only [spec_l7Least.l0]
      rw [if_neg (by omega)]) h)
  exact Ev.congr (fun k => rfl) main
theorem least_loop (n : Nat) (hn : n ≤ 1000) (es : List S70) (hes : es.length ≤ 1000) :
    ∀ d i, es.length - i = d → i ≤ es.length → ∀ ls : List Int, ls.length = n → (∀ e ∈ es.drop i, InL n e) → Ev (fun k => spec_l7Least.l1 k es ls (i : Int)) ((es.drop i).foldl stepL ls) := by
  intro d
  induction d with
  | zero =>
    intro i hd hi ls hls _
    have e : es.drop i = [] := List.drop_eq_nil_of_le (by omega)
    rw [e]
    exact Ev.step (f := fun _ => some ls) (fun k => by simp (disch := omega) only [spec_l7Least.l1, ↓if_neg]) (Ev.now _)
  | succ d ih =>
    intro i hd hi ls hls hin
    have hil : i < es.length := by omega
    obtain ⟨x, hx⟩ : ∃ x, x = rd_T70 es (i : Int) := ⟨_, rfl⟩
    have hdrop : es.drop i = x :: es.drop (i + 1) := by rw [List.drop_eq_getElem_cons hil, hx, rdE_T70 es i hil]
    rw [hdrop] at hin ⊢
    obtain ⟨a1, a2, a3, a4⟩ := hin x (by simp)
    obtain ⟨K1, h1⟩ := Ev.binds (l7Merge_ev ls x (by omega) (by omega) (by omega))
    obtain ⟨K, h⟩ := ih (i + 1) (by omega) (by omega) (stepL ls x) (by rw [stepL_len]; exact hls) (fun e he => hin e (by simp [he]))
    refine ⟨K + K1 + 1, fun k hk => ?_⟩
    obtain ⟨m, rfl⟩ : ∃ m, k = m + 1 := ⟨k - 1, by omega⟩
    have h := h m (by omega)
    simp (disch := omega) only [spec_l7Least.l1, ← hx, ↓if_pos, ↓h1, wrap_next]
    exact h
/-- What both say of a forest. -/
theorem forest_core (size : Int) (es : List S70) :
    (Ev (fun k => spec_ForestOk.f k size es) true ∧ 0 ≤ size ∧ size ≤ 1000 ∧ (es.length : Int) ≤ size ∧ (∀ e ∈ es, InL size e) ∧ Ev (fun k => impl_roots.f k size es) (es.foldl stepL (idL size.toNat), true) ∧ Ev (fun k => spec_l7Least.f k size es) (es.foldl stepL (idL size.toNat))) ∨
    (Ev (fun k => spec_ForestOk.f k size es) false ∧ Ev (fun k => impl_roots.f k size es) ([], false)) := by
  by_cases cs : 0 ≤ size ∧ size ≤ 1000
  · have ds := decide_eq_true cs
    obtain ⟨n, rfl⟩ := Int.eq_ofNat_of_zero_le cs.1
    by_cases cl : (es.length : Int) > (n : Int)
    · have dl := decide_eq_true cl
      right
      refine ⟨⟨1, fun k hk => ?_⟩, ⟨1, fun k hk => ?_⟩⟩
      · obtain ⟨m, rfl⟩ : ∃ m, k = m + 1 := ⟨k - 1, by omega⟩
        simp (disch := omega) only [spec_ForestOk.f, l1In_eq, ds, Option.bind_some, ↓reduceIte, dl, spec_ForestOk.j0]
      · obtain ⟨m, rfl⟩ : ∃ m, k = m + 1 := ⟨k - 1, by omega⟩
        simp (disch := omega) only [impl_roots.f, inside_eq, ds, Option.bind_some, ↓reduceIte, dl, impl_roots.j0]
    · have dl := decide_eq_false cl
      obtain ⟨K0, h0⟩ := Ev.binds (least_start n (by omega) [] (idL n) (Ev.step (f := fun _ => some (idL n)) (fun k => by simp (disch := first | omega | simp) only [spec_l7Least.l1, ↓if_neg, List.length_nil]) (Ev.now _)))
      have s1 : ∀ z, Ev (fun k => spec_ForestOk.l0 k (idL n) ((0 : Nat) : Int) (n : Int) es) z → Ev (fun k => spec_ForestOk.f k (n : Int) es) z := by
        rintro z ⟨K, h⟩
        refine ⟨K + K0 + 1, fun k hk => ?_⟩
        obtain ⟨m, rfl⟩ : ∃ m, k = m + 1 := ⟨k - 1, by omega⟩
        have h := h m (by omega)
        simp (disch := omega) only [spec_ForestOk.f, l1In_eq, ds, Option.bind_some, ↓reduceIte, dl, spec_ForestOk.j0, Bool.false_eq_true, ↓h0]
        exact h
      have s2 : ∀ z, Ev (fun k => impl_roots.l1 k (idL n) es (es.length : Int) ((0 : Nat) : Int) (n : Int) es) z → Ev (fun k => impl_roots.f k (n : Int) es) z := by
        intro z hz
        have main := up_loop n (filled (fun (i : Nat) => (i : Int)) (List.replicate n 0)) (fun k s i => impl_roots.l0 k s (n : Int) i (n : Int) es)
          (fun i hi r h => Ev.step (fun k => by
            simp only [impl_roots.l0]
            rw [if_pos (by omega), if_pos (by omega), if_pos (by rw [filled_len _ _ (by simp; omega)]; simp; omega), Int.toNat_natCast, wrap64_id (by omega) (by omega), ← filled_set _ _ (by simpa using hi)]) h)
          z (Ev.step (fun k => by
            simp only [impl_roots.l0]
            rw [if_neg (by omega), filled_all _ _ (by simp)]; rfl) hz)
        rw [filled_zero] at main
        obtain ⟨K, h⟩ := main
        refine ⟨K + 1, fun k hk => ?_⟩
        obtain ⟨m, rfl⟩ : ∃ m, k = m + 1 := ⟨k - 1, by omega⟩
        have h := h m (by omega)
        simp (disch := omega) only [impl_roots.f, inside_eq, ds, Option.bind_some, ↓reduceIte, dl, impl_roots.j0, Bool.false_eq_true, ↓if_pos, Int.toNat_natCast, List.length_replicate]
        exact h
      rcases roots_loop n (by omega) es (by omega) es.length 0 (by omega) (by omega) (idL n) (idL_len n) with ⟨a1, a2, a3⟩ | ⟨a1, a2⟩
      · left
        have hl := least_loop n (by omega) es (by omega) es.length 0 (by omega) (by omega) (idL n) (idL_len n) a3
        rw [List.drop_zero] at a2 a3 hl
        exact ⟨s1 _ a1, cs.1, cs.2, by omega, a3, s2 _ a2, least_start n (by omega) es _ hl⟩
      · exact .inr ⟨s1 _ a1, s2 _ a2⟩
  · have ds := decide_eq_false cs
    right
    refine ⟨⟨1, fun k hk => ?_⟩, ⟨1, fun k hk => ?_⟩⟩
    · obtain ⟨m, rfl⟩ : ∃ m, k = m + 1 := ⟨k - 1, by omega⟩
      simp (disch := omega) only [spec_ForestOk.f, l1In_eq, ds, Option.bind_some, ↓reduceIte, Bool.false_eq_true, spec_ForestOk.j0]
    · obtain ⟨m, rfl⟩ : ∃ m, k = m + 1 := ⟨k - 1, by omega⟩
      simp (disch := omega) only [impl_roots.f, inside_eq, ds, Option.bind_some, ↓reduceIte, Bool.false_eq_true, impl_roots.j0]
theorem foldL_len (es : List S70) : ∀ ls : List Int, (es.foldl stepL ls).length = ls.length := by
  induction es with
  | nil => exact fun _ => rfl
  | cons e es ih => exact fun ls => by rw [List.foldl_cons, ih, stepL_len]

/-! draws -/
/-- A code that draws are made of. -/
structure Code (b : List Int) : Prop where
  len : b.length ≤ 1048576
  byte : ∀ i : Nat, i < b.length → 0 ≤ rd b (i : Int) ∧ rd b (i : Int) ≤ 255
def At (b : List Int) (p : Int) : Prop := 0 ≤ p ∧ p ≤ (b.length : Int)
theorem next_ev (b : List Int) (hb : Code b) (p : Int) (hp : At b p) : ∃ v q, spec_l1Rd_next.f b p = some (v, q) ∧ 0 ≤ v ∧ v ≤ 255 ∧ At b q := by
  have hl := hb.len
  obtain ⟨h0, h1⟩ := hp
  obtain ⟨i, rfl⟩ := Int.eq_ofNat_of_zero_le h0
  unfold spec_l1Rd_next.f
  by_cases c : (i : Int) ≥ (b.length : Int)
  · rw [if_pos c]
    exact ⟨0, i, rfl, by omega, by omega, h0, h1⟩
  · rw [if_neg c]
    have e1 : wrap64 ((i : Int) + 1) = (i : Int) + 1 := wrap64_id (by omega) (by omega)
    have e2 : wrap64 ((i : Int) + 1 - 1) = (i : Int) := by rw [wrap64_id (by omega) (by omega)]; omega
    have hby := hb.byte i (by omega)
    have e3 : wrap64 (rd b (i : Int)) = rd b (i : Int) := wrap64_id (by omega) (by omega)
    rw [e1, e2, if_pos (by omega), if_pos (by omega), e3]
    exact ⟨_, _, rfl, hby.1, hby.2, by omega, by omega⟩
theorem below_ev (b : List Int) (hb : Code b) (p : Int) (hp : At b p) (n : Int) (hn : n ≤ 65536) : ∃ v q, spec_l1Rd_below.f b p n = some (v, q) ∧ 0 ≤ v ∧ (v < n ∨ (n ≤ 1 ∧ v = 0)) ∧ At b q := by
  unfold spec_l1Rd_below.f
  by_cases c : n ≤ 1
  · rw [if_pos c]
    exact ⟨0, p, rfl, by omega, .inr ⟨c, rfl⟩, hp⟩
  · rw [if_neg c]
    obtain ⟨m, rfl⟩ := Int.eq_ofNat_of_zero_le (show 0 ≤ n by omega)
    by_cases c2 : ((m : Nat) : Int) ≤ 256
    · rw [if_pos c2]
      obtain ⟨v, q, e, v0, v1, hq⟩ := next_ev b hb p hp
      obtain ⟨u, rfl⟩ := Int.eq_ofNat_of_zero_le v0
      rw [e]
      simp only [Option.bind_some]
      rw [if_neg (by omega)]
      refine ⟨_, _, rfl, ?_, .inl ?_, hq⟩
      · rw [← Int.ofNat_tmod]; exact Int.natCast_nonneg _
      · rw [← Int.ofNat_tmod]; exact Int.ofNat_lt.2 (Nat.mod_lt _ (by omega))
    · rw [if_neg c2]
      obtain ⟨v, q, e, v0, v1, hq⟩ := next_ev b hb p hp
      obtain ⟨v', q', e', v0', v1', hq'⟩ := next_ev b hb q hq
      obtain ⟨u, rfl⟩ := Int.eq_ofNat_of_zero_le v0
      obtain ⟨u', rfl⟩ := Int.eq_ofNat_of_zero_le v0'
      have w1 : wrap64 ((u : Int) * 256) = ((u * 256 : Nat) : Int) := by rw [wrap64_id (by omega) (by omega)]; omega
      have w2 : wrap64 (((u * 256 : Nat) : Int) + (u' : Int)) = ((u * 256 + u' : Nat) : Int) := by rw [wrap64_id (by omega) (by omega)]; omega
      rw [e]
      simp only [Option.bind_some]
      rw [e']
      simp only [Option.bind_some]
      rw [if_neg (by omega), w1, w2]
      refine ⟨_, _, rfl, ?_, .inl ?_, hq'⟩
      · rw [← Int.ofNat_tmod]; exact Int.natCast_nonneg _
      · rw [← Int.ofNat_tmod]; exact Int.ofNat_lt.2 (Nat.mod_lt _ (by omega))
theorem once_ev (b : List Int) (hb : Code b) (p : Int) (hp : At b p) (n : Int) (hn : n ≤ 65536) : ∃ v q, spec_l1Rd_once.f b p n = some (v, q) ∧ At b q := by
  obtain ⟨v, q, e, _, _, hq⟩ := below_ev b hb p hp n hn
  unfold spec_l1Rd_once.f
  rw [e]
  exact ⟨_, _, rfl, hq⟩

/-! codeOf -/
theorem wf_u8 {x : Int} (h : (Lit.int .u8 x).wf = true) : 0 ≤ x ∧ x ≤ 255 := by
  simp [Lit.wf, IntKind.min, IntKind.max, IntKind.signed, IntKind.bits] at h
  omega
theorem code_of (l : List Int) (q : ∀ x ∈ l, (Lit.int .u8 x).wf = true) (hl : l.length ≤ 1048576) : Code l := ⟨hl, fun i hi => by
  have e : rd l (i : Int) = l[i] := by
    unfold rd
    rw [List.getD_eq_getElem?_getD, Int.toNat_natCast, List.getElem?_eq_getElem hi]
    rfl
  rw [e]
  exact wf_u8 (q _ (List.getElem_mem hi))⟩

/-! drawsOff -/
theorem wrapU_w64 (x : Int) : W64 (IntKind.u64.wrap x) := by
  unfold W64
  rw [wrap_u64]
  omega
theorem word_ev (b : List Int) (hb : Code b) (p : Int) (hp : At b p) : ∃ v q, Ev (fun k => spec_l1Rd_word.f k b p) (v, q) ∧ 0 ≤ v ∧ v < 18446744073709551616 ∧ At b q := by
  obtain ⟨s, ⟨h0, h1, h2⟩, hr⟩ := inv_loop 8 (fun i (s : Int × Int) => 0 ≤ s.1 ∧ s.1 < 18446744073709551616 ∧ At b s.2) (fun k s i => spec_l1Rd_word.l0 k s.1 i b s.2)
    (fun i hi s ⟨h0, h1, h2⟩ => by
      obtain ⟨v, q, e, v0, v1, hq⟩ := next_ev b hb s.2 h2
      have hw : W64 (Go.bits .or .u64 (IntKind.u64.wrap (s.1 * 256)) (IntKind.u64.wrap v)) := (or_w64 (wrapU_w64 _) (wrapU_w64 _)).1
      unfold W64 at hw
      refine ⟨(Go.bits .or .u64 (IntKind.u64.wrap (s.1 * 256)) (IntKind.u64.wrap v), q), ⟨by omega, by omega, hq⟩, fun r h => Ev.step (fun k => ?_) h⟩
      simp only [spec_l1Rd_word.l0]
      rw [if_pos (by omega), e]
      simp only [Option.bind_some]
      rw [wrap64_id (by omega) (by omega)])
    (0, p) ⟨Int.le_refl _, show (0 : Int) < 18446744073709551616 by omega, hp⟩
  refine ⟨s.1, s.2, Ev.congr (fun k => rfl) (hr (s.1, s.2) (Ev.step (f := fun _ => some (s.1, s.2)) (fun k => ?_) (Ev.now _))), h0, h1, h2⟩
  simp only [spec_l1Rd_word.l0]
  rw [if_neg (by omega)]
def I64 (v : Int) : Prop := -9223372036854775808 ≤ v ∧ v ≤ 9223372036854775807
theorem I64.wrap (v : Int) : I64 (wrap64 v) := by
  unfold I64 wrap64
  omega
theorem near_ev (b : List Int) (hb : Code b) (p : Int) (hp : At b p) (lo hi : Int) (hlo : -4611686018427387904 ≤ lo ∧ lo ≤ 4611686018427387904) (hhi : I64 hi) :
    ∃ v q, Ev (fun k => spec_l1Rd_near.f k b p lo hi) (v, q) ∧ I64 v ∧ At b q := by
  obtain ⟨v, q, e, v0, v1, hq⟩ := below_ev b hb p hp 8 (by omega)
  have hlo2 : I64 lo := by unfold I64; omega
  by_cases c0 : v = 0
  · exact ⟨lo, q, ⟨0, fun k _ => by unfold spec_l1Rd_near.f; rw [e]; simp only [Option.bind_some]; rw [if_pos c0]⟩, hlo2, hq⟩
  · by_cases c1 : v = 1
    · exact ⟨hi, q, ⟨0, fun k _ => by unfold spec_l1Rd_near.f; rw [e]; simp only [Option.bind_some]; rw [if_neg c0, if_pos c1]⟩, hhi, hq⟩
    · by_cases c2 : hi < lo
      · exact ⟨lo, q, ⟨0, fun k _ => by unfold spec_l1Rd_near.f; rw [e]; simp only [Option.bind_some]; rw [if_neg c0, if_neg c1, if_pos c2]⟩, hlo2, hq⟩
      · obtain ⟨x, q', ⟨K, hx⟩, x0, x1, hq'⟩ := word_ev b hb q hq
        have w3 : IntKind.u64.wrap (wrap64 (wrap64 (hi - lo) + 1)) = hi - lo + 1 := by
          obtain ⟨j0, j1⟩ := hhi
          rw [wrap_u64]
          unfold wrap64
          omega
        refine ⟨wrap64 (lo + wrap64 (Int.tmod (x / 2) (hi - lo + 1))), q', ⟨K, fun k hk => ?_⟩, I64.wrap _, hq'⟩
        have hx := hx k hk
        dsimp only at hx ⊢
        unfold spec_l1Rd_near.f
        rw [e]
        simp only [Option.bind_some]
        rw [if_neg c0, if_neg c1, if_neg c2, hx]
        simp only [Option.bind_some]
        rw [w3, if_neg (by omega)]
theorem off_ev (b : List Int) (hb : Code b) (p : Int) (hp : At b p) (lo hi : Int) (hlo : -4611686018427387904 ≤ lo ∧ lo ≤ 4611686018427387904) (hhi : I64 hi) :
    ∃ v q, Ev (fun k => spec_l1Rd_off.f k b p lo hi) (v, q) ∧ I64 v ∧ At b q := by
  obtain ⟨t, q, e, hq⟩ := once_ev b hb p hp 24 (by omega)
  cases t with
  | true =>
    obtain ⟨v, q', e', v0, v1, hq'⟩ := below_ev b hb q hq 4 (by omega)
    have hv : I64 (rd [wrap64 (lo - 1), wrap64 (hi + 1), (-9223372036854775808), 9223372036854775807] v) := by
      have h4 : v = 0 ∨ v = 1 ∨ v = 2 ∨ v = 3 := by omega
      rcases h4 with rfl | rfl | rfl | rfl
      · exact I64.wrap _
      · exact I64.wrap _
      · show I64 (-9223372036854775808)
        unfold I64
        omega
      · show I64 9223372036854775807
        unfold I64
        omega
    refine ⟨_, q', ⟨0, fun k _ => ?_⟩, hv, hq'⟩
    unfold spec_l1Rd_off.f
    rw [e]
    simp only [Option.bind_some, if_true]
    rw [e']
    simp only [Option.bind_some]
    rw [if_pos v0, if_pos (by simp; omega)]
  | false =>
    obtain ⟨v, q', ⟨K, hv⟩, hi2, hq'⟩ := near_ev b hb q hq lo hi hlo hhi
    refine ⟨v, q', ⟨K, fun k hk => ?_⟩, hi2, hq'⟩
    have hv := hv k hk
    dsimp only at hv ⊢
    unfold spec_l1Rd_off.f
    rw [e]
    simp only [Option.bind_some, Bool.false_eq_true, if_false]
    rw [hv]
    rfl

/-! joinS -/
theorem join_spec (size : Int) (es : List S70) (a b c : Int) : ∃ s' es' n' ok', Ev (fun k => spec_Join.f k size es a b c) (s', es', n', ok') ∧ (ok' = true → s' = size ∧ es'.length ≤ es.length + 1) := by
  have no : ∀ (K : Nat), (∀ k, K ≤ k → spec_Join.f k size es a b c = spec_Join.j0 k a b c true size es) → ∃ s' es' n' ok', Ev (fun k => spec_Join.f k size es a b c) (s', es', n', ok') ∧ (ok' = true → s' = size ∧ es'.length ≤ es.length + 1) := fun K e1 =>
    ⟨0, [], false, false, ⟨K + 1, fun k hk => by
      obtain ⟨m, rfl⟩ : ∃ m, k = m + 1 := ⟨k - 1, by omega⟩
      dsimp only
      rw [e1 _ (by omega)]
      simp only [spec_Join.j0, ↓reduceIte]⟩, fun h => by cases h⟩
  rcases forest_core size es with ⟨h1, s0, s1, s2, s3, h2, h3⟩ | ⟨h1, h2⟩
  · obtain ⟨K1, h1⟩ := Ev.binds h1
    obtain ⟨K3, h3⟩ := Ev.binds h3
    have hw : True → wrap64 (size - 1) = size - 1 := fun _ => wrap64_id (by omega) (by omega)
    have hlen : (es.foldl stepL (idL size.toNat)).length = size.toNat := by rw [foldL_len, idL_len]
    by_cases ca : 0 ≤ a ∧ a ≤ size - 1
    · have da := decide_eq_true ca
      by_cases cb : 0 ≤ b ∧ b ≤ size - 1
      · have db := decide_eq_true cb
        by_cases cc : 0 ≤ c ∧ c ≤ 1000000
        · have dc := decide_eq_true cc
          by_cases ce : rd (es.foldl stepL (idL size.toNat)) a = rd (es.foldl stepL (idL size.toNat)) b
          · refine ⟨size, es, false, true, ⟨K1 + K3 + 1, fun k hk => ?_⟩, fun _ => ⟨rfl, by omega⟩⟩
            obtain ⟨m, rfl⟩ : ∃ m, k = m + 1 := ⟨k - 1, by omega⟩
            simp (disch := first | omega | trivial | (simp only [List.length_nil]; omega)) only [spec_Join.f, spec_Join.j0, ↓h1, ↓h3, ↓reduceIte, spec_l7Node.f, l1In_eq, hw, da, db, dc, Option.bind_some, ↓if_pos, spec_l7Copy.f, List.nil_append, Bool.not_true, Bool.false_eq_true, ce]
          · refine ⟨size, es ++ [⟨a, b, c⟩], true, true, ⟨K1 + K3 + 1, fun k hk => ?_⟩, fun _ => ⟨rfl, by simp⟩⟩
            obtain ⟨m, rfl⟩ : ∃ m, k = m + 1 := ⟨k - 1, by omega⟩
            simp (disch := first | omega | trivial | (simp only [List.length_nil]; omega)) only [spec_Join.f, spec_Join.j0, ↓h1, ↓h3, ↓reduceIte, spec_l7Node.f, l1In_eq, hw, da, db, dc, Option.bind_some, ↓if_pos, spec_l7Copy.f, List.nil_append, Bool.not_true, Bool.false_eq_true, if_neg ce]
        · have dc := decide_eq_false cc
          refine no K1 (fun k hk => ?_)
          simp (disch := first | omega | trivial) only [spec_Join.f, ↓h1, ↓reduceIte, spec_l7Node.f, l1In_eq, hw, da, db, dc, Option.bind_some, Bool.not_false]
      · have db := decide_eq_false cb
        refine no K1 (fun k hk => ?_)
        simp (disch := first | omega | trivial) only [spec_Join.f, ↓h1, ↓reduceIte, spec_l7Node.f, l1In_eq, hw, da, db, Option.bind_some, Bool.false_eq_true]
    · have da := decide_eq_false ca
      refine no K1 (fun k hk => ?_)
      simp (disch := first | omega | trivial) only [spec_Join.f, ↓h1, ↓reduceIte, spec_l7Node.f, l1In_eq, hw, da, Option.bind_some, Bool.false_eq_true]
  · obtain ⟨K1, h1⟩ := Ev.binds h1
    refine no K1 (fun k hk => ?_)
    simp (disch := omega) only [spec_Join.f, ↓h1, ↓reduceIte, Bool.false_eq_true]

/-! drawForest -/
theorem forest_end (b : List Int) (hb : Code b) (size : Int) (hs : 1 ≤ size ∧ size ≤ 16) (es : List S70) (p : Int) (hp : At b p) (hes : es.length ≤ 64) :
    ∃ y0 y1 q, Ev (fun k => spec_l1Rd_forest.l0 k 0 b p size es) (y0, y1, q) ∧ I64 y0 ∧ y1.length ≤ 65 ∧ At b q := by
  have hI : I64 size := by unfold I64; omega
  have hw : wrap64 (size - 1) = size - 1 := wrap64_id (by omega) (by omega)
  have hI1 : I64 (size - 1) := by unfold I64; omega
  obtain ⟨v, p1, e1, v0, v1, hp1⟩ := below_ev b hb p hp 30 (by omega)
  by_cases c0 : v = 0
  · obtain ⟨x, p2, ⟨K2, e2⟩, _, hp2⟩ := off_ev b hb p1 hp1 0 (size - 1) (by omega) hI1
    obtain ⟨y, p3, ⟨K3, e3⟩, _, hp3⟩ := off_ev b hb p2 hp2 0 (size - 1) (by omega) hI1
    refine ⟨size, es ++ [⟨x, y, 0⟩], p3, ⟨K2 + K3 + 1, fun k hk => ?_⟩, hI, by simp only [List.length_append, List.length_singleton]; omega, hp3⟩
    obtain ⟨m, rfl⟩ : ∃ m, k = m + 1 := ⟨k - 1, by omega⟩
    have e2 := e2 m (by omega)
    have e3 := e3 m (by omega)
    dsimp only at e2 e3 ⊢
    simp only [spec_l1Rd_forest.l0]
    rw [if_neg (by omega), e1]
    simp only [Option.bind_some]
    rw [if_pos c0, hw, e2]
    simp only [Option.bind_some]
    rw [e3]
    simp only [Option.bind_some]
    rw [if_pos (by omega)]
  · by_cases c1 : v = 1
    · obtain ⟨x, p2, ⟨K2, e2⟩, hx, hp2⟩ := off_ev b hb p1 hp1 0 size (by omega) hI
      refine ⟨x, es, p2, ⟨K2 + 1, fun k hk => ?_⟩, hx, by omega, hp2⟩
      obtain ⟨m, rfl⟩ : ∃ m, k = m + 1 := ⟨k - 1, by omega⟩
      have e2 := e2 m (by omega)
      dsimp only at e2 ⊢
      simp only [spec_l1Rd_forest.l0]
      rw [if_neg (by omega), e1]
      simp only [Option.bind_some]
      rw [if_neg c0, if_pos c1, e2]
      rfl
    · by_cases c2 : v = 2
      · by_cases cl : (es.length : Int) > 0
        · obtain ⟨x, p2, ⟨K2, e2⟩, _, hp2⟩ := off_ev b hb p1 hp1 0 1000000 (by omega) (by unfold I64; omega)
          refine ⟨size, es.set 0 ⟨(rd_T70 es 0).f0, (rd_T70 es 0).f1, x⟩, p2, ⟨K2 + 1, fun k hk => ?_⟩, hI, by rw [List.length_set]; omega, hp2⟩
          obtain ⟨m, rfl⟩ : ∃ m, k = m + 1 := ⟨k - 1, by omega⟩
          have e2 := e2 m (by omega)
          dsimp only at e2 ⊢
          simp only [spec_l1Rd_forest.l0]
          rw [if_neg (by omega), e1]
          simp only [Option.bind_some]
          rw [if_neg c0, if_neg c1, if_pos c2, if_pos cl, e2]
          simp only [Option.bind_some]
          rw [if_pos (by omega)]
          rfl
        · refine ⟨size, es, p1, ⟨1, fun k hk => ?_⟩, hI, by omega, hp1⟩
          obtain ⟨m, rfl⟩ : ∃ m, k = m + 1 := ⟨k - 1, by omega⟩
          dsimp only
          simp only [spec_l1Rd_forest.l0]
          rw [if_neg (by omega), e1]
          simp only [Option.bind_some]
          rw [if_neg c0, if_neg c1, if_pos c2, if_neg cl]
      · by_cases c3 : v = 3
        · obtain ⟨x, p2, e2, x0, x1, hp2⟩ := below_ev b hb p1 hp1 2 (by omega)
          refine ⟨wrap64 (1000 + x), es, p2, ⟨1, fun k hk => ?_⟩, I64.wrap _, by omega, hp2⟩
          obtain ⟨m, rfl⟩ : ∃ m, k = m + 1 := ⟨k - 1, by omega⟩
          dsimp only
          simp only [spec_l1Rd_forest.l0]
          rw [if_neg (by omega), e1]
          simp only [Option.bind_some]
          rw [if_neg c0, if_neg c1, if_neg c2, if_pos c3, e2]
          rfl
        · refine ⟨size, es, p1, ⟨1, fun k hk => ?_⟩, hI, by omega, hp1⟩
          obtain ⟨m, rfl⟩ : ∃ m, k = m + 1 := ⟨k - 1, by omega⟩
          dsimp only
          simp only [spec_l1Rd_forest.l0]
          rw [if_neg (by omega), e1]
          simp only [Option.bind_some]
          rw [if_neg c0, if_neg c1, if_neg c2, if_neg c3]
theorem forest_loop (b : List Int) (hb : Code b) (size : Int) (hs : 1 ≤ size ∧ size ≤ 16) : ∀ (d : Nat) (es : List S70) (p : Int), es.length + d ≤ 64 → At b p →
    ∃ y0 y1 q, Ev (fun k => spec_l1Rd_forest.l0 k (d : Int) b p size es) (y0, y1, q) ∧ I64 y0 ∧ y1.length ≤ 65 ∧ At b q := by
  intro d
  induction d with
  | zero => intro es p hd hp; exact forest_end b hb size hs es p hp (by omega)
  | succ d ih =>
    intro es p hd hp
    obtain ⟨va, p1, e1, a0, a1, hp1⟩ := below_ev b hb p hp size (by omega)
    obtain ⟨vb, p2, e2, b0, b1, hp2⟩ := below_ev b hb p1 hp1 size (by omega)
    obtain ⟨vc, p3, e3, c0, c1, hp3⟩ := below_ev b hb p2 hp2 9 (by omega)
    have hw : wrap64 (((d + 1 : Nat) : Int) - 1) = (d : Int) := by rw [wrap64_id (by omega) (by omega)]; omega
    have go : ∀ (s' : Int) (es' : List S70) (n' ok' : Bool), Ev (fun k => spec_Join.f k size es va vb vc) (s', es', n', ok') → (ok' = true → s' = size ∧ es'.length + d ≤ 64) →
        ∃ y0 y1 q, Ev (fun k => spec_l1Rd_forest.l0 k ((d + 1 : Nat) : Int) b p size es) (y0, y1, q) ∧ I64 y0 ∧ y1.length ≤ 65 ∧ At b q := by
      intro s' es' n' ok' hJ hok
      obtain ⟨K1, hJ⟩ := hJ
      cases ok' with
      | true =>
        obtain ⟨rfl, hl⟩ := hok rfl
        obtain ⟨y0, y1, q, ⟨K2, g⟩, h1, h2, h3⟩ := ih es' p3 hl hp3
        refine ⟨y0, y1, q, ⟨K1 + K2 + 1, fun k hk => ?_⟩, h1, h2, h3⟩
        obtain ⟨m, rfl⟩ : ∃ m, k = m + 1 := ⟨k - 1, by omega⟩
        have hJ := hJ m (by omega)
        have g := g m (by omega)
        dsimp only at hJ g ⊢
        simp only [spec_l1Rd_forest.l0]
        rw [if_pos (by omega), e1]
        simp only [Option.bind_some]
        rw [e2]
        simp only [Option.bind_some]
        rw [e3]
        simp only [Option.bind_some]
        rw [hJ]
        simp only [Option.bind_some, if_true]
        rw [hw]
        exact g
      | false =>
        obtain ⟨y0, y1, q, ⟨K2, g⟩, h1, h2, h3⟩ := ih es p3 (by omega) hp3
        refine ⟨y0, y1, q, ⟨K1 + K2 + 1, fun k hk => ?_⟩, h1, h2, h3⟩
        obtain ⟨m, rfl⟩ : ∃ m, k = m + 1 := ⟨k - 1, by omega⟩
        have hJ := hJ m (by omega)
        have g := g m (by omega)
        dsimp only at hJ g ⊢
        simp only [spec_l1Rd_forest.l0]
        rw [if_pos (by omega), e1]
        simp only [Option.bind_some]
        rw [e2]
        simp only [Option.bind_some]
        rw [e3]
        simp only [Option.bind_some]
        rw [hJ]
        simp only [Option.bind_some, Bool.false_eq_true, if_false]
        rw [hw]
        exact g
    obtain ⟨s', es', n', ok', hJ, hl⟩ := join_spec size es va vb vc
    exact go _ _ _ _ hJ (fun h => ⟨(hl h).1, by have := (hl h).2; omega⟩)
theorem forest_ev (b : List Int) (hb : Code b) (p : Int) (hp : At b p) : ∃ y0 y1 q, Ev (fun k => spec_l1Rd_forest.f k b p) (y0, y1, q) ∧ I64 y0 ∧ y1.length ≤ 65 ∧ At b q := by
  have hn : mn 14 (wrap64 (2 + wrap64 ((b.length : Int) / 4))) ≤ 14 := by unfold mn; split <;> omega
  obtain ⟨v, p1, e1, v0, v1, hp1⟩ := below_ev b hb p hp (mn 14 (wrap64 (2 + wrap64 ((b.length : Int) / 4)))) (by omega)
  have hv : v ≤ 13 := by omega
  have w1 : wrap64 (1 + v) = 1 + v := wrap64_id (by omega) (by omega)
  have w2 : wrap64 (1 + v + 2) = 1 + v + 2 := wrap64_id (by omega) (by omega)
  obtain ⟨n, p2, e2, n0, n1, hp2⟩ := below_ev b hb p1 hp1 (1 + v + 2) (by omega)
  obtain ⟨d, rfl⟩ := Int.eq_ofNat_of_zero_le n0
  obtain ⟨y0, y1, q, ⟨K, g⟩, h1, h2, h3⟩ := forest_loop b hb (1 + v) (by omega) d [] p2 (by simp only [List.length_nil]; omega) hp2
  refine ⟨y0, y1, q, ⟨K, fun k hk => ?_⟩, h1, h2, h3⟩
  have g := g k hk
  dsimp only at g ⊢
  unfold spec_l1Rd_forest.f
  rw [e1]
  simp only [Option.bind_some]
  rw [w1, w2, e2]
  exact g

/-! has -/
theorem has_ev (l : List Int) (x : Int) (hl : l.length ≤ 1048576) : Ev (fun k => laws_has.f k l x) (decide (x ∈ l)) := by
  have main : ∀ d i, l.length - i = d → i ≤ l.length → Ev (fun k => laws_has.l0 k l x (i : Int)) (decide (x ∈ l.drop i)) := by
    intro d
    induction d with
    | zero =>
      intro i hd hi
      have e : l.drop i = [] := List.drop_eq_nil_of_le (by omega)
      rw [e]
      refine Ev.step (f := fun _ => some false) (fun k => ?_) (Ev.now _)
      simp only [laws_has.l0]
      rw [if_neg (by omega)]
    | succ d ih =>
      intro i hd hi
      have hil : i < l.length := by omega
      have hdrop : l.drop i = rd l (i : Int) :: l.drop (i + 1) := by
        rw [List.drop_eq_getElem_cons hil]
        congr 1
        unfold rd
        rw [List.getD_eq_getElem?_getD, Int.toNat_natCast, List.getElem?_eq_getElem hil]
        rfl
      by_cases c : rd l (i : Int) = x
      · have e : decide (x ∈ l.drop i) = true := decide_eq_true (by rw [hdrop, c]; exact List.mem_cons_self ..)
        rw [e]
        refine Ev.step (f := fun _ => some true) (fun k => ?_) (Ev.now _)
        simp only [laws_has.l0]
        rw [if_pos (by omega), if_pos (by omega), if_pos c]
      · have e : decide (x ∈ l.drop i) = decide (x ∈ l.drop (i + 1)) := by
          rw [hdrop]
          have : x ≠ rd l (i : Int) := fun h => c h.symm
          simp [this]
        rw [e]
        refine Ev.step (fun k => ?_) (ih (i + 1) (by omega) (by omega))
        simp only [laws_has.l0]
        rw [if_pos (by omega), if_pos (by omega), if_neg c, wrap64_id (by omega) (by omega)]
        rfl
  have h := main l.length 0 (by omega) (by omega)
  rw [List.drop_zero] at h
  exact Ev.congr (fun k => rfl) h

/-! okLinks -/
/-- The links of a right forest, one behind the other: in range, each between two classes of what stands. -/
def okL (n : Int) : List S70 → List Int → Prop
  | [], _ => True
  | e :: es, ls => InL n e ∧ (0 ≤ e.f2 ∧ e.f2 ≤ 1000000) ∧ rd ls e.f0 ≠ rd ls e.f1 ∧ okL n es (stepL ls e)
theorem okL_snoc (n : Int) (e : S70) : ∀ (es : List S70) (ls : List Int), okL n es ls → InL n e → (0 ≤ e.f2 ∧ e.f2 ≤ 1000000) → rd (es.foldl stepL ls) e.f0 ≠ rd (es.foldl stepL ls) e.f1 → okL n (es ++ [e]) ls
  | [], ls, _, h1, h2, h3 => ⟨h1, h2, h3, True.intro⟩
  | x :: es, ls, h, h1, h2, h3 => ⟨h.1, h.2.1, h.2.2.1, okL_snoc n e es (stepL ls x) h.2.2.2 h1 h2 h3⟩
theorem roots_loop2 (n : Nat) (hn : n ≤ 1000) (es : List S70) (hes : es.length ≤ 1000) :
    ∀ d i, es.length - i = d → i ≤ es.length → ∀ ls : List Int, ls.length = n →
      (Ev (fun k => spec_ForestOk.l0 k ls (i : Int) (n : Int) es) true ∧ Ev (fun k => impl_roots.l1 k ls es (es.length : Int) (i : Int) (n : Int) es) ((es.drop i).foldl stepL ls, true) ∧ okL (n : Int) (es.drop i) ls) ∨
      (Ev (fun k => spec_ForestOk.l0 k ls (i : Int) (n : Int) es) false ∧ Ev (fun k => impl_roots.l1 k ls es (es.length : Int) (i : Int) (n : Int) es) ([], false) ∧ ¬ okL (n : Int) (es.drop i) ls) := by
  intro d
  induction d with
  | zero =>
    intro i hd hi ls hls
    left
    have e : es.drop i = [] := List.drop_eq_nil_of_le (by omega)
    rw [e]
    refine ⟨Ev.step (f := fun _ => some true) (fun k => ?_) (Ev.now _), Ev.step (f := fun _ => some (ls, true)) (fun k => ?_) (Ev.now _), True.intro⟩
    · simp (disch := omega) only [spec_ForestOk.l0, ↓if_neg]
    · simp (disch := omega) only [impl_roots.l1, ↓if_neg]
  | succ d ih =>
    intro i hd hi ls hls
    have hil : i < es.length := by omega
    obtain ⟨x, hx⟩ : ∃ x, x = rd_T70 es (i : Int) := ⟨_, rfl⟩
    have hdrop : es.drop i = x :: es.drop (i + 1) := by rw [List.drop_eq_getElem_cons hil, hx, rdE_T70 es i hil]
    have hw : True → wrap64 ((n : Int) - 1) = (n : Int) - 1 := fun _ => wrap64_id (by omega) (by omega)
    have hwi : True → wrap64 ((i : Int) + 1) = ((i + 1 : Nat) : Int) := fun _ => wrap_next i (by omega)
    by_cases ca : 0 ≤ x.f0 ∧ x.f0 ≤ (n : Int) - 1
    · have da := decide_eq_true ca
      by_cases cb : 0 ≤ x.f1 ∧ x.f1 ≤ (n : Int) - 1
      · have db := decide_eq_true cb
        by_cases cw : 0 ≤ x.f2 ∧ x.f2 ≤ 1000000
        · have dw := decide_eq_true cw
          by_cases ce : rd ls x.f0 = rd ls x.f1
          · right
            have be : (rd ls x.f0 == rd ls x.f1) = true := beq_iff_eq.2 ce
            refine ⟨Ev.step (f := fun _ => some false) (fun k => ?_) (Ev.now _), ⟨2, fun k hk => ?_⟩, fun ho => by rw [hdrop] at ho; exact ho.2.2.1 ce⟩
            · simp (disch := first | omega | trivial) only [spec_ForestOk.l0, ← hx, ↓if_pos, l1In_eq, hw, da, db, dw, Option.bind_some, ↓reduceIte, ce]
            · obtain ⟨m, rfl⟩ : ∃ m, k = m + 1 + 1 := ⟨k - 2, by omega⟩
              simp (disch := first | omega | trivial) only [impl_roots.l1, impl_roots.j3, ← hx, ↓if_pos, inside_eq, hw, da, db, dw, Option.bind_some, ↓reduceIte, be]
          · have be : (rd ls x.f0 == rd ls x.f1) = false := beq_eq_false_iff_ne.2 ce
            obtain ⟨K1, h1⟩ := Ev.binds (l7Merge_ev ls x (by omega) (by omega) (by omega))
            have s1 : ∀ z, Ev (fun k => spec_ForestOk.l0 k (stepL ls x) ((i + 1 : Nat) : Int) (n : Int) es) z → Ev (fun k => spec_ForestOk.l0 k ls (i : Int) (n : Int) es) z := by
              rintro z ⟨K, h⟩
              refine ⟨K + K1 + 1, fun k hk => ?_⟩
              obtain ⟨m, rfl⟩ : ∃ m, k = m + 1 := ⟨k - 1, by omega⟩
              have h := h m (by omega)
              simp (disch := first | omega | trivial) only [spec_ForestOk.l0, ← hx, ↓if_pos, l1In_eq, hw, da, db, dw, Option.bind_some, ↓reduceIte, if_neg ce, ↓h1, hwi]
              exact h
            have s2 : ∀ z, Ev (fun k => impl_roots.l1 k (stepL ls x) es (es.length : Int) ((i + 1 : Nat) : Int) (n : Int) es) z → Ev (fun k => impl_roots.l1 k ls es (es.length : Int) (i : Int) (n : Int) es) z := by
              intro z hz
              have hm := merge_impl (n : Int) es (i : Int) ls (mn (rd ls x.f0) (rd ls x.f1)) (mx (rd ls x.f0) (rd ls x.f1)) (by omega) z (by rw [hwi trivial]; exact hz)
              obtain ⟨K, h⟩ := hm
              refine ⟨K + 2, fun k hk => ?_⟩
              obtain ⟨m, rfl⟩ : ∃ m, k = m + 1 + 1 := ⟨k - 2, by omega⟩
              have h := h m (by omega)
              simp (disch := first | omega | trivial) only [impl_roots.l1, impl_roots.j3, ← hx, ↓if_pos, inside_eq, hw, da, db, dw, Option.bind_some, ↓reduceIte, be, Bool.false_eq_true]
              exact h
            rcases ih (i + 1) (by omega) (by omega) (stepL ls x) (by rw [stepL_len]; exact hls) with ⟨a1, a2, a3⟩ | ⟨a1, a2, a3⟩
            · left
              rw [hdrop]
              exact ⟨s1 _ a1, s2 _ a2, ⟨ca.1, ca.2, cb.1, cb.2⟩, cw, ce, a3⟩
            · exact .inr ⟨s1 _ a1, s2 _ a2, fun ho => by rw [hdrop] at ho; exact a3 ho.2.2.2⟩
        · have dw := decide_eq_false cw
          right
          refine ⟨Ev.step (f := fun _ => some false) (fun k => ?_) (Ev.now _), ⟨2, fun k hk => ?_⟩, fun ho => by rw [hdrop] at ho; exact cw ho.2.1⟩
          · simp (disch := first | omega | trivial) only [spec_ForestOk.l0, ← hx, ↓if_pos, l1In_eq, hw, da, db, dw, Option.bind_some, ↓reduceIte, Bool.false_eq_true]
          · obtain ⟨m, rfl⟩ : ∃ m, k = m + 1 + 1 := ⟨k - 2, by omega⟩
            simp (disch := first | omega | trivial) only [impl_roots.l1, impl_roots.j3, ← hx, ↓if_pos, inside_eq, hw, da, db, dw, Option.bind_some, ↓reduceIte, Bool.false_eq_true]
      · have db := decide_eq_false cb
        right
        refine ⟨Ev.step (f := fun _ => some false) (fun k => ?_) (Ev.now _), ⟨2, fun k hk => ?_⟩, fun ho => by rw [hdrop] at ho; exact cb ⟨ho.1.2.2.1, ho.1.2.2.2⟩⟩
        · simp (disch := first | omega | trivial) only [spec_ForestOk.l0, ← hx, ↓if_pos, l1In_eq, hw, da, db, Option.bind_some, ↓reduceIte, Bool.false_eq_true]
        · obtain ⟨m, rfl⟩ : ∃ m, k = m + 1 + 1 := ⟨k - 2, by omega⟩
          simp (disch := first | omega | trivial) only [impl_roots.l1, impl_roots.j3, ← hx, ↓if_pos, inside_eq, hw, da, db, Option.bind_some, ↓reduceIte, Bool.false_eq_true]
    · have da := decide_eq_false ca
      right
      refine ⟨Ev.step (f := fun _ => some false) (fun k => ?_) (Ev.now _), ⟨2, fun k hk => ?_⟩, fun ho => by rw [hdrop] at ho; exact ca ⟨ho.1.1, ho.1.2.1⟩⟩
      · simp (disch := first | omega | trivial) only [spec_ForestOk.l0, ← hx, ↓if_pos, l1In_eq, hw, da, Option.bind_some, ↓reduceIte, Bool.false_eq_true]
      · obtain ⟨m, rfl⟩ : ∃ m, k = m + 1 + 1 := ⟨k - 2, by omega⟩
        simp (disch := first | omega | trivial) only [impl_roots.l1, impl_roots.j3, ← hx, ↓if_pos, inside_eq, hw, da, Option.bind_some, ↓reduceIte, Bool.false_eq_true]

/-! rightForest -/
theorem forestOk_start (n : Nat) (hn : n ≤ 1000) (es : List S70) (hes : es.length ≤ n) (z : Bool) (h : Ev (fun k => spec_ForestOk.l0 k (idL n) ((0 : Nat) : Int) (n : Int) es) z) : Ev (fun k => spec_ForestOk.f k (n : Int) es) z := by
  have ds := decide_eq_true (show (0 : Int) ≤ (n : Int) ∧ (n : Int) ≤ 1000 by omega)
  have dl := decide_eq_false (show ¬ (es.length : Int) > (n : Int) by omega)
  obtain ⟨K0, h0⟩ := Ev.binds (least_start n (by omega) [] (idL n) (Ev.step (f := fun _ => some (idL n)) (fun k => by simp (disch := first | omega | simp) only [spec_l7Least.l1, ↓if_neg, List.length_nil]) (Ev.now _)))
  obtain ⟨K, h⟩ := h
  refine ⟨K + K0 + 1, fun k hk => ?_⟩
  obtain ⟨m, rfl⟩ : ∃ m, k = m + 1 := ⟨k - 1, by omega⟩
  have h := h m (by omega)
  simp (disch := omega) only [spec_ForestOk.f, l1In_eq, ds, Option.bind_some, ↓reduceIte, dl, spec_ForestOk.j0, Bool.false_eq_true, ↓h0]
  exact h
theorem right_okL (n : Nat) (hn : n ≤ 1000) (es : List S70) (hes : es.length ≤ n) (h : Ev (fun k => spec_ForestOk.f k (n : Int) es) true) : okL (n : Int) es (idL n) := by
  rcases roots_loop2 n hn es (by omega) es.length 0 (by omega) (by omega) (idL n) (idL_len n) with ⟨_, _, a3⟩ | ⟨a1, _, _⟩
  · rw [List.drop_zero] at a3; exact a3
  · have e := Ev.uniq (forestOk_start n hn es hes false a1) h
    cases e
theorem okL_right (n : Nat) (hn : n ≤ 1000) (es : List S70) (hes : es.length ≤ n) (h : okL (n : Int) es (idL n)) : Ev (fun k => spec_ForestOk.f k (n : Int) es) true := by
  rcases roots_loop2 n hn es (by omega) es.length 0 (by omega) (by omega) (idL n) (idL_len n) with ⟨a1, _, _⟩ | ⟨_, _, a3⟩
  · exact forestOk_start n hn es hes true a1
  · rw [List.drop_zero] at a3; exact absurd h a3

/-! compacts -/
theorem lt_ext : ∀ (a b : List Int), a.Pairwise (· < ·) → b.Pairwise (· < ·) → (∀ x, x ∈ a ↔ x ∈ b) → a = b
  | [], [], _, _, _ => rfl
  | [], y :: b, _, _, h => absurd ((h y).2 List.mem_cons_self) List.not_mem_nil
  | x :: a, [], _, _, h => absurd ((h x).1 List.mem_cons_self) List.not_mem_nil
  | x :: a, y :: b, ha, hb, h => by
    obtain ⟨ha1, ha2⟩ := List.pairwise_cons.1 ha
    obtain ⟨hb1, hb2⟩ := List.pairwise_cons.1 hb
    have hxy : x = y := by
      rcases List.mem_cons.1 ((h x).1 List.mem_cons_self) with e | e
      · exact e
      · rcases List.mem_cons.1 ((h y).2 List.mem_cons_self) with e2 | e2
        · exact e2.symm
        · have h1 := hb1 x e
          have h2 := ha1 y e2
          omega
    subst hxy
    rw [lt_ext a b ha2 hb2 fun z => ⟨fun hz => ?_, fun hz => ?_⟩]
    · rcases List.mem_cons.1 ((h z).1 (List.mem_cons_of_mem _ hz)) with e | e
      · have := ha1 z hz; omega
      · exact e
    · rcases List.mem_cons.1 ((h z).2 (List.mem_cons_of_mem _ hz)) with e | e
      · have := hb1 z hz; omega
      · exact e
theorem compact_inc (zs : List Int) (hs : zs.Pairwise (· ≤ ·)) : ∀ m, m ≤ zs.length → (Go.Lib.compactUpTo zs.toArray m).Pairwise (· < ·) ∧ ∀ x, x ∈ Go.Lib.compactUpTo zs.toArray m ↔ x ∈ zs.take m
  | 0, _ => ⟨by simp [Go.Lib.compactUpTo], fun x => by simp [Go.Lib.compactUpTo]⟩
  | m + 1, hm => by
    obtain ⟨h1, h2⟩ := compact_inc zs hs m (by omega)
    have hm2 : m < zs.length := hm
    have hgm : zs.toArray[m]! = zs[m] := by simp [hm2]
    rw [Go.Lib.compactUpTo_succ, hgm]
    have htk : ∀ x, x ∈ zs.take (m + 1) ↔ x ∈ zs.take m ∨ x = zs[m] := fun x => by rw [← List.take_append_getElem hm2, List.mem_append, List.mem_singleton]
    by_cases hk : Go.Lib.keeps zs.toArray m = true
    · rw [if_pos hk]
      refine ⟨List.pairwise_append.2 ⟨h1, by simp, fun x hx y hy => ?_⟩, fun x => by rw [htk, List.mem_append, h2]; simp⟩
      rw [List.mem_singleton.1 hy]
      have hx2 := (h2 x).1 hx
      obtain ⟨i, hi, hxe⟩ := List.mem_iff_getElem.1 hx2
      rw [List.length_take] at hi
      rw [List.getElem_take] at hxe
      have hi2 : i < m := by omega
      have hm0 : 0 < m := by omega
      have hp := List.pairwise_iff_getElem.1 hs
      unfold Go.Lib.keeps at hk
      have hk2 := of_decide_eq_true hk
      have hne : zs[m] ≠ zs[m - 1] := by
        rcases hk2 with h | h
        · omega
        · rw [hgm, show zs.toArray[m - 1]! = zs[m - 1] from by simp [show m - 1 < zs.length from by omega]] at h
          exact h
      have h3 : zs[m - 1] ≤ zs[m] := hp (m - 1) m (by omega) hm2 (by omega)
      have h4 : x ≤ zs[m - 1] := by
        rw [← hxe]
        by_cases e : i = m - 1
        · subst e; exact Int.le_refl _
        · exact hp i (m - 1) (by omega) (by omega) (by omega)
      omega
    · rw [if_neg hk, List.append_nil]
      refine ⟨h1, fun x => by
        rw [htk, h2]
        refine ⟨.inl, fun h => h.elim id fun e => ?_⟩
        unfold Go.Lib.keeps at hk
        have hk2 : ¬ (m = 0 ∨ zs.toArray[m]! ≠ zs.toArray[m - 1]!) := fun h => hk (decide_eq_true h)
        have hm0 : m ≠ 0 := fun h => hk2 (.inl h)
        have he : zs.toArray[m]! = zs.toArray[m - 1]! := Classical.byContradiction fun h => hk2 (.inr h)
        rw [hgm, show zs.toArray[m - 1]! = zs[m - 1] from by simp [show m - 1 < zs.length from by omega]] at he
        rw [e, he]
        exact List.mem_iff_getElem.2 ⟨m - 1, by rw [List.length_take]; omega, by rw [List.getElem_take]⟩⟩
theorem compact_sort (zs : List Int) : (Go.Lib.compact (zs.mergeSort fun x y => decide (x ≤ y))).Pairwise (· < ·) ∧ ∀ x, x ∈ Go.Lib.compact (zs.mergeSort fun x y => decide (x ≤ y)) ↔ x ∈ zs := by
  have hs : (zs.mergeSort fun x y => decide (x ≤ y)).Pairwise (fun a b => a ≤ b) := by
    have := List.pairwise_mergeSort (le := fun x y : Int => decide (x ≤ y)) (fun a b c h1 h2 => by simp at h1 h2 ⊢; omega) (fun a b => by simp; omega) zs
    exact this.imp (fun h => of_decide_eq_true h)
  obtain ⟨h1, h2⟩ := compact_inc _ hs _ (Nat.le_refl _)
  refine ⟨h1, fun x => ?_⟩
  have := h2 x
  rw [List.take_length] at this
  exact this.trans List.mem_mergeSort
/-- The places from 1 to i that are in a list. -/
def placesTo (i : Nat) (ps : List Int) : List Int := ((List.range i).map fun q : Nat => (q : Int) + 1).filter fun p => decide (p ∈ ps)
/-- The places from 1 to w - 1 that are in a list. -/
def places (w : Nat) (ps : List Int) : List Int := placesTo (w - 1) ps
theorem placesTo_succ (i : Nat) (ps : List Int) : placesTo (i + 1) ps = placesTo i ps ++ (if ((i : Int) + 1) ∈ ps then [(i : Int) + 1] else []) := by
  unfold placesTo
  rw [List.range_succ, List.map_append, List.filter_append]
  congr 1
  by_cases h : ((i : Int) + 1) ∈ ps <;> simp [h]
theorem placesTo_len (i : Nat) (ps : List Int) : (placesTo i ps).length ≤ i := by
  unfold placesTo
  refine Nat.le_trans (List.length_filter_le _ _) ?_
  simp
theorem places_eq (w : Nat) (zs : List Int) (h : ∀ x ∈ zs, 1 ≤ x ∧ x ≤ (w : Int) - 1) : Go.Lib.compact (zs.mergeSort fun x y => decide (x ≤ y)) = places w zs := by
  obtain ⟨h1, h2⟩ := compact_sort zs
  refine lt_ext _ _ h1 ?_ fun x => ?_
  · unfold places placesTo
    refine List.Pairwise.filter _ (List.pairwise_map.2 (List.pairwise_lt_range.imp fun h => by omega))
  · rw [h2]
    unfold places placesTo
    rw [List.mem_filter, List.mem_map]
    refine ⟨fun hx => ⟨⟨(x - 1).toNat, List.mem_range.2 (by have := h x hx; omega), by have := h x hx; omega⟩, decide_eq_true hx⟩, fun hx => of_decide_eq_true hx.2⟩

/-! links -/
/-- A link joins two nodes. -/
def Jn (e : S70) (x y : Int) : Prop := (e.f0 = x ∧ e.f1 = y) ∨ (e.f1 = x ∧ e.f0 = y)
theorem Jn.symm {e : S70} {x y : Int} (h : Jn e x y) : Jn e y x := h.elim (fun ⟨a, b⟩ => .inr ⟨b, a⟩) (fun ⟨a, b⟩ => .inl ⟨b, a⟩)
/-- Two nodes are joined over links whose places are let in. -/
inductive CN (es : List S70) (P : Nat → Prop) : Int → Int → Prop
  | refl (x : Int) : CN es P x x
  | step {x y z : Int} (k : Nat) (hk : k < es.length) (hp : P k) (hj : Jn es[k] x y) (h : CN es P y z) : CN es P x z
theorem CN.trans {es : List S70} {P : Nat → Prop} {x y z : Int} (h : CN es P x y) (g : CN es P y z) : CN es P x z := by
  induction h with
  | refl => exact g
  | step k hk hp hj _ ih => exact .step k hk hp hj (ih g)
theorem CN.one {es : List S70} {P : Nat → Prop} {x y : Int} (k : Nat) (hk : k < es.length) (hp : P k) (hj : Jn es[k] x y) : CN es P x y := .step k hk hp hj (.refl _)
theorem CN.symm {es : List S70} {P : Nat → Prop} {x y : Int} (h : CN es P x y) : CN es P y x := by
  induction h with
  | refl => exact .refl _
  | step k hk hp hj _ ih => exact ih.trans (CN.one k hk hp hj.symm)
theorem CN.mono {es : List S70} {P Q : Nat → Prop} {x y : Int} (hq : ∀ k, k < es.length → P k → Q k) (h : CN es P x y) : CN es Q x y := by
  induction h with
  | refl => exact .refl _
  | step k hk hp hj _ ih => exact .step k hk (hq k hk hp) hj ih
theorem CN.split {es : List S70} {P : Nat → Prop} {x y : Int} (k : Nat) (hk : k < es.length) (h : CN es P x y) :
    CN es (fun i => P i ∧ i ≠ k) x y ∨ (CN es (fun i => P i ∧ i ≠ k) x es[k].f0 ∧ CN es (fun i => P i ∧ i ≠ k) es[k].f1 y) ∨ (CN es (fun i => P i ∧ i ≠ k) x es[k].f1 ∧ CN es (fun i => P i ∧ i ≠ k) es[k].f0 y) := by
  induction h with
  | refl => exact .inl (.refl _)
  | step i hi hp hj _ ih =>
    by_cases e : i = k
    · subst e
      rcases hj with ⟨rfl, rfl⟩ | ⟨rfl, rfl⟩
      · rcases ih with h | ⟨h1, h2⟩ | ⟨h1, h2⟩
        · exact .inr (.inl ⟨.refl _, h⟩)
        · exact .inr (.inl ⟨.refl _, h2⟩)
        · exact .inl h2
      · rcases ih with h | ⟨h1, h2⟩ | ⟨h1, h2⟩
        · exact .inr (.inr ⟨.refl _, h⟩)
        · exact .inl h2
        · exact .inr (.inr ⟨.refl _, h2⟩)
    · have s := CN.one (P := fun i => P i ∧ i ≠ k) i hi ⟨hp, e⟩ hj
      rcases ih with h | ⟨h1, h2⟩ | ⟨h1, h2⟩
      · exact .inl (s.trans h)
      · exact .inr (.inl ⟨s.trans h1, h2⟩)
      · exact .inr (.inr ⟨s.trans h1, h2⟩)
theorem mergeL_at (ls : List Int) (x y : Int) {i : Nat} (h : i < ls.length) : rd (mergeL ls x y) (i : Int) = mg ls x y i := by
  simp [rd, mergeL, List.getD_eq_getElem?_getD, h]
theorem idL_at {n i : Nat} (h : i < n) : rd (idL n) (i : Int) = (i : Int) := by simp [rd, idL, List.getD_eq_getElem?_getD, h]
theorem fold_len (es : List S70) (n m : Nat) : ((es.take m).foldl stepL (idL n)).length = n := by rw [foldL_len, idL_len]
theorem take_step (es : List S70) (m : Nat) (hm : m < es.length) (ls : List Int) : (es.take (m + 1)).foldl stepL ls = stepL ((es.take m).foldl stepL ls) es[m] := by
  rw [List.take_succ_eq_append_getElem hm, List.foldl_append]
  rfl
/-- Two nodes have one least node iff they are joined. -/
theorem roots_conn (n : Nat) (es : List S70) (hin : ∀ e ∈ es, InL (n : Int) e) : ∀ m, m ≤ es.length → ∀ x y : Nat, x < n → y < n →
    (rd ((es.take m).foldl stepL (idL n)) (x : Int) = rd ((es.take m).foldl stepL (idL n)) (y : Int) ↔ CN es (fun i => i < m) (x : Int) (y : Int)) := by
  intro m
  induction m with
  | zero =>
    intro _ x y hx hy
    rw [List.take_zero]
    show rd (idL n) (x : Int) = rd (idL n) (y : Int) ↔ _
    rw [idL_at hx, idL_at hy]
    constructor
    · intro e; rw [e]; exact .refl _
    · intro h
      generalize (x : Int) = a at h
      generalize (y : Int) = b at h
      cases h with
      | refl => rfl
      | step k hk hp => exact absurd hp (by omega)
  | succ m ih =>
    intro hm x y hx hy
    have hml : m < es.length := by omega
    have hlen := fold_len es n m
    obtain ⟨ls, hls⟩ : ∃ ls, ls = (es.take m).foldl stepL (idL n) := ⟨_, rfl⟩
    have ih := ih (by omega)
    rw [take_step es m hml, ← hls]
    rw [← hls] at ih hlen
    obtain ⟨i0, i1, i2, i3⟩ := hin _ (List.getElem_mem hml)
    obtain ⟨p, hp⟩ := Int.eq_ofNat_of_zero_le i0
    obtain ⟨q, hq⟩ := Int.eq_ofNat_of_zero_le i2
    have hpn : p < n := by omega
    have hqn : q < n := by omega
    have key : rd (stepL ls es[m]) (x : Int) = rd (stepL ls es[m]) (y : Int) ↔ (rd ls (x : Int) = rd ls (y : Int) ∨ (rd ls (x : Int) = rd ls (p : Int) ∧ rd ls (q : Int) = rd ls (y : Int)) ∨ (rd ls (x : Int) = rd ls (q : Int) ∧ rd ls (p : Int) = rd ls (y : Int))) := by
      unfold stepL
      rw [hp, hq, mergeL_at ls _ _ (by omega), mergeL_at ls _ _ (by omega)]
      unfold mg mn mx
      generalize rd ls (x : Int) = a
      generalize rd ls (y : Int) = b
      generalize rd ls (p : Int) = c
      generalize rd ls (q : Int) = d
      (repeat' split) <;> omega
    rw [key, ih x y hx hy, ih x p hx hpn, ih q y hqn hy, ih x q hx hqn, ih p y hpn hy]
    have up : ∀ {a b : Int}, CN es (fun i => i < m) a b → CN es (fun i => i < m + 1) a b := fun h => h.mono (fun k _ hk => by omega)
    have jm : CN es (fun i => i < m + 1) (p : Int) (q : Int) := CN.one m hml (by omega) (.inl ⟨hp, hq⟩)
    constructor
    · rintro (h | ⟨h1, h2⟩ | ⟨h1, h2⟩)
      · exact up h
      · exact (up h1).trans (jm.trans (up h2))
      · exact (up h1).trans (jm.symm.trans (up h2))
    · intro h
      have dn : ∀ {a b : Int}, CN es (fun i => i < m + 1 ∧ i ≠ m) a b → CN es (fun i => i < m) a b := fun h => h.mono (fun k _ hk => by omega)
      rcases h.split m hml with h | ⟨h1, h2⟩ | ⟨h1, h2⟩
      · exact .inl (dn h)
      · rw [hp] at h1
        rw [hq] at h2
        exact .inr (.inl ⟨dn h1, dn h2⟩)
      · rw [hq] at h1
        rw [hp] at h2
        exact .inr (.inr ⟨dn h1, dn h2⟩)
theorem okL_at (n : Int) : ∀ (es : List S70) (ls : List Int), okL n es ls → (∀ e ∈ es, InL n e) ∧ ∀ m (hm : m < es.length), rd ((es.take m).foldl stepL ls) es[m].f0 ≠ rd ((es.take m).foldl stepL ls) es[m].f1 := by
  intro es
  induction es with
  | nil => intro ls _; exact ⟨fun e he => (by cases he), fun m hm => absurd hm (by simp)⟩
  | cons e es ih =>
    intro ls h
    obtain ⟨h1, _, h3, h4⟩ := h
    obtain ⟨g1, g2⟩ := ih _ h4
    refine ⟨fun x hx => ?_, fun m hm => ?_⟩
    · rcases List.mem_cons.1 hx with rfl | hx
      · exact h1
      · exact g1 x hx
    · cases m with
      | zero => exact h3
      | succ m => exact g2 m (by simpa using hm)
/-- Without a link of a right forest its ends are not joined. -/
theorem acyclic (n : Nat) (es : List S70) (ho : okL (n : Int) es (idL n)) (k : Nat) (hk : k < es.length) : ¬ CN es (fun i => i ≠ k) es[k].f0 es[k].f1 := by
  obtain ⟨hin, hne⟩ := okL_at (n : Int) es _ ho
  have hno : ∀ m (hm : m < es.length), ¬ CN es (fun i => i < m) es[m].f0 es[m].f1 := fun m hm h => by
    obtain ⟨i0, i1, i2, i3⟩ := hin _ (List.getElem_mem hm)
    obtain ⟨p, hp⟩ := Int.eq_ofNat_of_zero_le i0
    obtain ⟨q, hq⟩ := Int.eq_ofNat_of_zero_le i2
    have h3 := hne m hm
    rw [hp, hq] at h h3
    exact h3 ((roots_conn n es hin m (by omega) p q (by omega) (by omega)).2 h)
  have main : ∀ d m, m = k + 1 + d → m ≤ es.length → ¬ CN es (fun i => i < m ∧ i ≠ k) es[k].f0 es[k].f1 := by
    intro d
    induction d with
    | zero => intro m hm _ h; exact hno k hk (h.mono (fun i _ hi => by omega))
    | succ d ih =>
      intro m hm hml h
      obtain ⟨m', rfl⟩ : ∃ m', m = m' + 1 := ⟨m - 1, by omega⟩
      have hm' : m' < es.length := by omega
      have dn : ∀ {a b : Int}, CN es (fun i => (i < m' + 1 ∧ i ≠ k) ∧ i ≠ m') a b → CN es (fun i => i < m' ∧ i ≠ k) a b := fun h => h.mono (fun i _ hi => by omega)
      have lo : ∀ {a b : Int}, CN es (fun i => i < m' ∧ i ≠ k) a b → CN es (fun i => i < m') a b := fun h => h.mono (fun i _ hi => hi.1)
      have jk : CN es (fun i => i < m') es[k].f0 es[k].f1 := CN.one k hk (by omega) (.inl ⟨rfl, rfl⟩)
      rcases h.split m' hm' with h | ⟨h1, h2⟩ | ⟨h1, h2⟩
      · exact ih m' (by omega) (by omega) (dn h)
      · exact hno m' hm' ((lo (dn h1)).symm.trans (jk.trans (lo (dn h2)).symm))
      · exact hno m' hm' ((lo (dn h2)).trans (jk.symm.trans (lo (dn h1))))
  intro h
  obtain ⟨d, hd⟩ : ∃ d, es.length = k + 1 + d := ⟨es.length - (k + 1), by omega⟩
  exact main d es.length hd (Nat.le_refl _) (h.mono (fun i hi hn => ⟨hi, hn⟩))
/-- A way: the places of its links. -/
inductive PathI (es : List S70) : List Nat → Int → Int → Prop
  | nil (x : Int) : PathI es [] x x
  | cons {x y z : Int} (k : Nat) (ks : List Nat) (hk : k < es.length) (hj : Jn es[k] x y) (h : PathI es ks y z) : PathI es (k :: ks) x z
theorem PathI.conn {es : List S70} {P : Nat → Prop} {ks : List Nat} {x y : Int} (h : PathI es ks x y) (hp : ∀ k ∈ ks, P k) : CN es P x y := by
  induction h with
  | nil => exact .refl _
  | cons k ks hk hj _ ih => exact .step k hk (hp k List.mem_cons_self) hj (ih (fun i hi => hp i (List.mem_cons_of_mem _ hi)))
/-- The links of a way without a link twice are those without which the ends are not joined. -/
theorem PathI.uniq {n : Nat} {es : List S70} (ho : okL (n : Int) es (idL n)) {ks : List Nat} {x y : Int} (h : PathI es ks x y) : ks.Nodup → ∀ k, k < es.length → (k ∈ ks ↔ ¬ CN es (fun i => i ≠ k) x y) := by
  intro hnd k hk
  constructor
  · intro hm hc
    induction h with
    | nil => cases hm
    | cons i ks hi hj hp ih =>
      obtain ⟨hni, hnd⟩ := List.nodup_cons.1 hnd
      by_cases e : k = i
      · subst e
        have h2 := hp.conn (P := fun i => i ≠ k) (fun i hi (e : i = k) => hni (e ▸ hi))
        rcases hj with ⟨rfl, rfl⟩ | ⟨rfl, rfl⟩
        · exact acyclic n es ho k hk (hc.trans h2.symm)
        · exact acyclic n es ho k hk (h2.trans hc.symm)
      · rcases List.mem_cons.1 hm with e2 | hm
        · exact e e2
        · exact ih hnd hm ((CN.one i hi (fun e2 => e e2.symm) hj).symm.trans hc)
  · intro hc
    by_cases hm : k ∈ ks
    · exact hm
    · exact absurd (h.conn (fun i hi (e : i = k) => hm (e ▸ hi))) hc
def whyE (es : List S70) (k : Nat) : Int := (rd_T70 es (k : Int)).f2
theorem rdE_at (es : List S70) (k : Nat) (hk : k < es.length) : rd_T70 es (k : Int) = es[k] := by
  unfold rd_T70
  rw [List.getD_eq_getElem?_getD, Int.toNat_natCast, List.getElem?_eq_getElem hk]
  rfl
theorem PathI.snoc {es : List S70} {ks : List Nat} {x y z : Int} (h : PathI es ks x y) (k : Nat) (hk : k < es.length) (hj : Jn es[k] y z) : PathI es (ks ++ [k]) x z := by
  induction h with
  | nil => exact .cons k [] hk hj (.nil _)
  | cons i ks hi hj2 _ ih => exact .cons i _ hi hj2 (ih hj)

/-! wayS -/
def un (u : List Bool) (k : Nat) : Prop := rdOf false u (k : Int) = false
theorem rdOf_set (u : List Bool) (i k : Nat) (hi : i < u.length) : rdOf false (u.set i true) (k : Int) = if i = k then true else rdOf false u (k : Int) := by
  unfold rdOf
  rw [Int.toNat_natCast, List.getD_eq_getElem?_getD, List.getD_eq_getElem?_getD, List.getElem?_set]
  by_cases e : i = k
  · subst e
    rw [if_pos rfl, if_pos rfl, if_pos hi]
    rfl
  · rw [if_neg e, if_neg e]
theorem un_count (u : List Bool) (i : Nat) (hi : i < u.length) (h : un u i) : (u.set i true).countP (fun b => !b) + 1 = u.countP (fun b => !b) := by
  have hu : u[i] = false := by
    unfold un rdOf at h
    rw [Int.toNat_natCast, List.getD_eq_getElem?_getD, List.getElem?_eq_getElem hi] at h
    exact h
  have hpos : 0 < u.countP (fun b => !b) := List.countP_pos_iff.2 ⟨u[i], List.getElem_mem hi, by rw [hu]; rfl⟩
  rw [List.countP_set hi, hu]
  simp
  omega
/-- What is not on a failed search's side stays joined. -/
theorem CN.keep {es : List S70} {P Q : Nat → Prop} {c x y : Int} (hP : ∀ k (hk : k < es.length), P k → ¬ Q k → CN es P c es[k].f0) (h : CN es P x y) : ¬ CN es P c y → CN es Q x y := by
  induction h with
  | refl => intro _; exact .refl _
  | step k hk hp hj ht ih =>
    intro hn
    by_cases q : Q k
    · exact .step k hk q hj (ih hn)
    · have h0 := hP k hk hp q
      exfalso
      apply hn
      rcases hj with ⟨e1, e2⟩ | ⟨e1, e2⟩
      · exact (h0.trans (CN.one k hk hp (.inl ⟨rfl, e2⟩))).trans ht
      · rw [e2] at h0
        exact h0.trans ht
def WayR (es : List S70) (u0 : List Bool) (a b : Int) (c : Nat) (F : Nat → Option (List Int × Bool × List Bool)) : Prop :=
  (∃ ks u', Ev F (ks.map (whyE es), true, u') ∧ PathI es ks a b ∧ ks.Nodup ∧ (∀ k ∈ ks, un u0 k) ∧ ks.length ≤ c) ∨
  (∃ u', Ev F ([], false, u') ∧ u'.length = es.length ∧ ¬ CN es (un u0) a b ∧ (∀ k, un u' k → un u0 k) ∧ ∀ k (hk : k < es.length), un u0 k → ¬ un u' k → CN es (un u0) a es[k].f0)
theorem WayR.step {es : List S70} {u0 : List Bool} {a b : Int} {c : Nat} {F G : Nat → Option (List Int × Bool × List Bool)} (h : ∀ k, F (k + 1) = G k) (hg : WayR es u0 a b c G) : WayR es u0 a b c F := by
  rcases hg with ⟨ks, u', e, h1⟩ | ⟨u', e, h1⟩
  · exact .inl ⟨ks, u', Ev.step h e, h1⟩
  · exact .inr ⟨u', Ev.step h e, h1⟩
theorem way_loop (n : Nat) (hn : n ≤ 1000) (es : List S70) (hes : es.length ≤ 1000) (hin : ∀ e ∈ es, InL (n : Int) e) (c : Nat) (hc : c ≤ 1000)
    (ih : ∀ (u : List Bool) (a b : Int), u.length = es.length → u.countP (fun b => !b) ≤ c → 0 ≤ a → a ≤ (n : Int) - 1 → WayR es u a b c (fun k => spec_l7Way.f k es u a b))
    (u0 : List Bool) (hu0 : u0.length = es.length) (hc0 : u0.countP (fun b => !b) ≤ c + 1) (a b : Int) (ha : 0 ≤ a ∧ a ≤ (n : Int) - 1) (hab : a ≠ b) :
    ∀ d i, es.length - i = d → i ≤ es.length → ∀ u1 : List Bool, u1.length = es.length → u1.countP (fun b => !b) ≤ c + 1 → (∀ k, un u1 k → un u0 k) → (∀ k (hk : k < es.length), un u0 k → ¬ un u1 k → CN es (un u0) a es[k].f0) → (CN es (un u0) a b → CN es (un u1) a b) → (∀ k (hk : k < es.length), k < i → (es[k].f0 = a ∨ es[k].f1 = a) → ¬ un u1 k) →
      WayR es u0 a b (c + 1) (fun k => spec_l7Way.l0 k es u1 a b (i : Int)) := by
  intro d
  induction d with
  | zero =>
    intro i hd hi u1 hl hcu hmo hI1 hI2 hI3
    right
    refine ⟨u1, Ev.step (f := fun _ => some ([], false, u1)) (fun k => by rw [spec_l7Way.l0, if_neg (by omega)]) (Ev.now _), hl, fun h => ?_, hmo, hI1⟩
    have h2 := hI2 h
    cases h2 with
    | refl => exact hab rfl
    | step k hk hp hj _ => exact hI3 k hk (by omega) (hj.elim (fun h => .inl h.1) (fun h => .inr h.1)) hp
  | succ d ihd =>
    intro i hd hi u1 hl hcu hmo hI1 hI2 hI3
    have hil : i < es.length := by omega
    have hr := rdE_at es i hil
    obtain ⟨i0, i1, i2, i3⟩ := hin _ (List.getElem_mem hil)
    have skip : (un u1 i → ¬ (es[i].f0 = a ∨ es[i].f1 = a)) → WayR es u0 a b (c + 1) (fun k => spec_l7Way.l0 k es u1 a b ((i + 1 : Nat) : Int)) := fun hns =>
      ihd (i + 1) (by omega) (by omega) u1 hl hcu hmo hI1 hI2 (fun k hk hki hinc => by
        by_cases e : k = i
        · subst e
          exact fun hu => hns hu hinc
        · exact hI3 k hk (by omega) hinc)
    have j1t : WayR es u0 a b (c + 1) (fun k => spec_l7Way.l0 k es u1 a b ((i + 1 : Nat) : Int)) → WayR es u0 a b (c + 1) (fun k => spec_l7Way.j1 k es u1 a b (i : Int) true) := fun h => WayR.step (fun k => by rw [spec_l7Way.j1, if_pos rfl, wrap_next i (by omega)]) h
    cases hu : rdOf false u1 (i : Int) with
    | true =>
      refine WayR.step (fun k => ?_) (j1t (skip (fun h => by unfold un at h; rw [hu] at h; cases h)))
      rw [spec_l7Way.l0, if_pos (by omega), if_pos (by omega), if_pos (by omega), if_pos hu]
    | false =>
      by_cases hinc : es[i].f0 = a ∨ es[i].f1 = a
      · have hb1 : ∀ k, spec_l7Way.l0 (k + 1) es u1 a b (i : Int) = spec_l7Way.j1 k es u1 a b (i : Int) false := fun k => by
          rw [spec_l7Way.l0, if_pos (by omega), if_pos (by omega), if_pos (by omega), if_neg (by rw [hu]; decide), hr]
          by_cases e : es[i].f0 = a
          · rw [if_pos e]
          · rw [if_neg e]
            congr 1
            exact bne_eq_false_iff_eq.2 (hinc.resolve_left e)
        refine WayR.step hb1 ?_
        obtain ⟨x, hx⟩ : ∃ x : Int, x = es[i].f0 + es[i].f1 - a := ⟨_, rfl⟩
        have hwx : wrap64 (wrap64 ((rd_T70 es (i : Int)).f0 + (rd_T70 es (i : Int)).f1) - a) = x := by
          rw [hr, wrap64_id (x := es[i].f0 + es[i].f1) (by omega) (by omega), wrap64_id (by omega) (by omega), hx]
        have hj : Jn es[i] a x := hinc.elim (fun h => .inl ⟨h, by omega⟩) (fun h => .inr ⟨h, by omega⟩)
        have hxr : 0 ≤ x ∧ x ≤ (n : Int) - 1 := by rcases hinc with h | h <;> omega
        have hui : un u1 i := hu
        have hcnt := un_count u1 i (by omega) hui
        have hset : ∀ k, un (u1.set i true) k ↔ (un u1 k ∧ i ≠ k) := fun k => by
          unfold un
          rw [rdOf_set u1 i k (by omega)]
          by_cases e : i = k
          · rw [if_pos e]
            exact ⟨fun h => (by cases h), fun h => absurd e h.2⟩
          · rw [if_neg e]
            exact ⟨fun h => ⟨h, e⟩, fun h => h.1⟩
        have hl2 : (u1.set i true).length = es.length := by rw [List.length_set]; exact hl
        have j1f : ∀ k, spec_l7Way.j1 (k + 1) es u1 a b (i : Int) false = (spec_l7Way.f k es (u1.set i true) x b).bind fun bt148 => (if bt148.2.1 = true then ((some (([(rd_T70 es (i : Int)).f2] : List Int) : List Int)).bind fun y154 => (if y154.length + bt148.1.length < 17592186044416 then (some ((y154 ++ bt148.1), true, bt148.2.2)) else (none))) else (spec_l7Way.l0 k es bt148.2.2 a b (wrap64 ((i : Int) + 1)))) := fun k => by
          rw [spec_l7Way.j1, if_neg (by decide), if_pos (by omega), if_pos (by omega), if_pos (by omega), hwx, Int.toNat_natCast]
        rcases ih (u1.set i true) x b hl2 (by omega) hxr.1 hxr.2 with ⟨ks, u', e, p1, p2, p3, p4⟩ | ⟨u', e, q1, q2, q3, q4⟩
        · left
          refine ⟨i :: ks, u', Ev.step j1f (Ev.bind (f := fun k bt148 => (if bt148.2.1 = true then ((some (([(rd_T70 es (i : Int)).f2] : List Int) : List Int)).bind fun y154 => (if y154.length + bt148.1.length < 17592186044416 then (some ((y154 ++ bt148.1), true, bt148.2.2)) else (none))) else (spec_l7Way.l0 k es bt148.2.2 a b (wrap64 ((i : Int) + 1))))) e (Ev.congr (fun k => ?_) (Ev.now _))), .cons i ks hil hj p1, List.nodup_cons.2 ⟨fun hm => ((hset i).1 (p3 i hm)).2 rfl, p2⟩, fun k hk => ?_, by simp; omega⟩
          · dsimp only
            rw [if_pos rfl, Option.bind_some, if_pos (by simp; omega)]
            rfl
          · rcases List.mem_cons.1 hk with rfl | hk
            · exact hmo _ hui
            · exact hmo _ ((hset k).1 (p3 k hk)).1
        · have hP : ∀ {s t : Int}, CN es (fun k => un u1 k ∧ k ≠ i) s t → CN es (un (u1.set i true)) s t := fun h => h.mono (fun k _ hk => (hset k).2 ⟨hk.1, fun e => hk.2 e.symm⟩)
          have hin2 : ∀ {s t : Int}, CN es (un (u1.set i true)) s t → CN es (un u0) s t := fun h => h.mono (fun k _ hk => hmo k ((hset k).1 hk).1)
          have jax : CN es (un u0) a x := CN.one i hil (hmo i hui) hj
          have hcu2 : u'.countP (fun b => !b) ≤ c + 1 := by
            have h1 : u'.countP (fun b => !b) ≤ u'.length := List.countP_le_length
            have h2 : (List.range es.length).countP (fun k : Nat => !(rdOf false u' (k : Int))) ≤ (List.range es.length).countP (fun k : Nat => !(rdOf false (u1.set i true) (k : Int))) := List.countP_mono_left (fun k hk h => by
              have : un u' k := by
                unfold un
                cases hh : rdOf false u' (k : Int) with
                | false => rfl
                | true => rw [hh] at h; cases h
              have := q3 k this
              unfold un at this
              rw [this]
              rfl)
            have cr : ∀ v : List Bool, v.length = es.length → v.countP (fun b => !b) = (List.range es.length).countP (fun k : Nat => !(rdOf false v (k : Int))) := fun v hv => by
              have e2 : v = (List.range es.length).map (fun k : Nat => rdOf false v (k : Int)) := by
                apply List.ext_getElem
                · simp [hv]
                · intro j h1 h2
                  simp only [List.getElem_map, List.getElem_range]
                  unfold rdOf
                  rw [Int.toNat_natCast, List.getD_eq_getElem?_getD, List.getElem?_eq_getElem h1]
                  rfl
              conv => lhs; rw [e2]
              rw [List.countP_map]
              rfl
            rw [← cr u' q1, ← cr _ hl2] at h2
            omega
          have nxt := ihd (i + 1) (by omega) (by omega) u' q1 hcu2 (fun k hk => hmo k ((hset k).1 (q3 k hk)).1) (fun k hk h0 hn => by
              by_cases e1 : un u1 k
              · by_cases e2 : i = k
                · subst e2
                  rcases hj with ⟨g1, g2⟩ | ⟨g1, g2⟩
                  · rw [g1]; exact .refl _
                  · exact CN.one i hil h0 (.inr ⟨g1, rfl⟩)
                · exact jax.trans (hin2 (q4 k hk ((hset k).2 ⟨e1, e2⟩) hn))
              · exact hI1 k hk h0 e1)
            (fun h => by
              have h1 := hI2 h
              have h2 : CN es (un (u1.set i true)) a b := by
                rcases h1.split i hil with g | ⟨g1, g2⟩ | ⟨g1, g2⟩
                · exact hP g
                · rcases hj with ⟨j1, j2⟩ | ⟨j1, j2⟩
                  · rw [j2] at g2
                    exact absurd (hP g2) q2
                  · rw [j1] at g2
                    exact hP g2
                · rcases hj with ⟨j1, j2⟩ | ⟨j1, j2⟩
                  · rw [j1] at g2
                    exact hP g2
                  · rw [j2] at g2
                    exact absurd (hP g2) q2
              exact h2.keep (c := x) (fun k hk hp hq => q4 k hk hp hq) q2)
            (fun k hk hki hinc2 hu' => by
              have h1 := (hset k).1 (q3 k hu')
              exact hI3 k hk (by omega) hinc2 h1.1)
          refine WayR.step j1f ?_
          rcases nxt with ⟨ks, u2, e2, r1⟩ | ⟨u2, e2, r1⟩
          · refine .inl ⟨ks, u2, Ev.bind (f := fun k bt148 => (if bt148.2.1 = true then ((some (([(rd_T70 es (i : Int)).f2] : List Int) : List Int)).bind fun y154 => (if y154.length + bt148.1.length < 17592186044416 then (some ((y154 ++ bt148.1), true, bt148.2.2)) else (none))) else (spec_l7Way.l0 k es bt148.2.2 a b (wrap64 ((i : Int) + 1))))) e (Ev.congr (fun k => ?_) e2), r1⟩
            dsimp only
            rw [if_neg (by decide), wrap_next i (by omega)]
          · refine .inr ⟨u2, Ev.bind (f := fun k bt148 => (if bt148.2.1 = true then ((some (([(rd_T70 es (i : Int)).f2] : List Int) : List Int)).bind fun y154 => (if y154.length + bt148.1.length < 17592186044416 then (some ((y154 ++ bt148.1), true, bt148.2.2)) else (none))) else (spec_l7Way.l0 k es bt148.2.2 a b (wrap64 ((i : Int) + 1))))) e (Ev.congr (fun k => ?_) e2), r1⟩
            dsimp only
            rw [if_neg (by decide), wrap_next i (by omega)]
      · refine WayR.step (fun k => ?_) (j1t (skip (fun _ => hinc)))
        rw [spec_l7Way.l0, if_pos (by omega), if_pos (by omega), if_pos (by omega), if_neg (by rw [hu]; decide), hr, if_neg (fun e => hinc (.inl e)), bne_iff_ne.2 (fun e => hinc (.inr e))]
theorem way_ok (n : Nat) (hn : n ≤ 1000) (es : List S70) (hes : es.length ≤ 1000) (hin : ∀ e ∈ es, InL (n : Int) e) : ∀ (c : Nat), c ≤ 1000 → ∀ (u : List Bool) (a b : Int), u.length = es.length → u.countP (fun b => !b) ≤ c → 0 ≤ a → a ≤ (n : Int) - 1 → WayR es u a b c (fun k => spec_l7Way.f k es u a b) := by
  intro c
  induction c with
  | zero =>
    intro _ u a b hl hc a0 a1
    by_cases e : a = b
    · subst e
      exact .inl ⟨[], u, Ev.step (f := fun _ => some _) (fun k => by rw [spec_l7Way.f, if_pos rfl]; rfl) (Ev.now _), .nil _, List.nodup_nil, fun k hk => (by cases hk), Nat.le_refl _⟩
    · have hno : ∀ k, k < es.length → ¬ un u k := fun k hk h => by
        have := un_count u k (by omega) h
        omega
      have hall : ∀ d i, es.length - i = d → i ≤ es.length → Ev (fun k => spec_l7Way.l0 k es u a b (i : Int)) ([], false, u) := by
        intro d
        induction d with
        | zero => intro i hd hi; exact Ev.step (f := fun _ => some _) (fun k => by rw [spec_l7Way.l0, if_neg (by omega)]) (Ev.now _)
        | succ d ih =>
          intro i hd hi
          have hu : rdOf false u (i : Int) = true := by
            cases h : rdOf false u (i : Int) with
            | true => rfl
            | false => exact absurd h (hno i (by omega))
          refine Ev.step (f := fun k => spec_l7Way.j1 k es u a b (i : Int) true) (fun k => ?_) (Ev.step (fun k => ?_) (ih (i + 1) (by omega) (by omega)))
          · rw [spec_l7Way.l0, if_pos (by omega), if_pos (by omega), if_pos (by omega), if_pos hu]
          · rw [spec_l7Way.j1, if_pos rfl, wrap_next i (by omega)]
      refine .inr ⟨u, Ev.step (fun k => ?_) (hall _ 0 rfl (by omega)), hl, fun h => ?_, fun k hk => hk, fun k hk h1 h2 => absurd h1 h2⟩
      · rw [spec_l7Way.f, if_neg e]
        rfl
      · cases h with
        | refl => exact e rfl
        | step k hk hp => exact hno k hk hp
  | succ c ih =>
    intro hc1 u a b hl hc a0 a1
    by_cases e : a = b
    · subst e
      exact .inl ⟨[], u, Ev.step (f := fun _ => some _) (fun k => by rw [spec_l7Way.f, if_pos rfl]; rfl) (Ev.now _), .nil _, List.nodup_nil, fun k hk => (by cases hk), Nat.zero_le _⟩
    · refine WayR.step (fun k => ?_) (way_loop n hn es hes hin c (by omega) (fun u a b h1 h2 h3 h4 => ih (by omega) u a b h1 h2 h3 h4) u hl hc a b ⟨a0, a1⟩ e _ 0 rfl (by omega) u hl hc (fun k hk => hk) (fun k hk h1 h2 => absurd h1 h2) id (fun k hk h => absurd h (by omega)))
      rw [spec_l7Way.f, if_neg e]
      rfl

/-! sortLt -/
theorem sortLt (l : List Int) (h : l.Pairwise (fun a b => a ≠ b)) : (l.mergeSort fun x y => decide (x ≤ y)).Pairwise (· < ·) := by
  have h1 : (l.mergeSort fun x y => decide (x ≤ y)).Pairwise (fun x y => decide (x ≤ y) = true) := List.pairwise_mergeSort (fun a b c h1 h2 => by simp only [decide_eq_true_eq] at *; omega) (fun a b => by simp only [Bool.or_eq_true, decide_eq_true_eq]; omega) l
  have h2 : (l.mergeSort fun x y => decide (x ≤ y)).Nodup := (List.mergeSort_perm l _).nodup_iff.2 h
  exact (h1.and h2).imp (fun ⟨a, b⟩ => by simp only [decide_eq_true_eq] at a; omega)

/-! rising -/
theorem hasR_ev (l : List Int) (a : Int) (hl : l.length ≤ 1048576) : ∀ d i, l.length - i = d → i ≤ l.length → Ev (fun k => spec_l1Has.l0 k l a (i : Int)) (decide (a ∈ l.drop i)) := by
  intro d
  induction d with
  | zero =>
    intro i hd hi
    rw [List.drop_eq_nil_of_le (by omega)]
    refine Ev.step (f := fun _ => some false) (fun k => ?_) (Ev.now _)
    simp (disch := omega) only [spec_l1Has.l0, ↓if_neg]
  | succ d ih =>
    intro i hd hi
    have hil : i < l.length := by omega
    have hdrop : l.drop i = rd l (i : Int) :: l.drop (i + 1) := by
      rw [List.drop_eq_getElem_cons hil]
      congr 1
      unfold rd
      rw [List.getD_eq_getElem?_getD, Int.toNat_natCast, List.getElem?_eq_getElem hil]
      rfl
    rw [hdrop]
    by_cases c : rd l (i : Int) = a
    · have e : decide (a ∈ rd l (i : Int) :: l.drop (i + 1)) = true := decide_eq_true (by rw [c]; exact List.mem_cons_self ..)
      rw [e]
      refine Ev.step (f := fun _ => some true) (fun k => ?_) (Ev.now _)
      simp (disch := omega) only [spec_l1Has.l0, ↓if_pos, if_pos c]
    · have e : decide (a ∈ rd l (i : Int) :: l.drop (i + 1)) = decide (a ∈ l.drop (i + 1)) := by
        have : (a ∈ rd l (i : Int) :: l.drop (i + 1)) = (a ∈ l.drop (i + 1)) := by
          rw [List.mem_cons]
          exact propext ⟨fun h => h.elim (fun h => absurd h.symm c) id, .inr⟩
        simp only [this]
      rw [e]
      refine Ev.step (fun k => ?_) (ih (i + 1) (by omega) (by omega))
      simp (disch := omega) only [spec_l1Has.l0, ↓if_pos, if_neg c, wrap_next]
theorem hasR (l : List Int) (a : Int) (hl : l.length ≤ 1048576) : Ev (fun k => spec_l1Has.f k l a) (decide (a ∈ l)) := by
  have h := hasR_ev l a hl _ 0 rfl (by omega)
  rw [List.drop_zero] at h
  exact Ev.congr (fun k => rfl) h
theorem rdg (l : List Int) (a : Nat) (h : a < l.length) : rd l (a : Int) = l[a] := by
  unfold rd
  rw [List.getD_eq_getElem?_getD, Int.toNat_natCast, List.getElem?_eq_getElem h]
  rfl
/-- The number is brought to its place: k of the old ones are ahead of the gap. -/
theorem rise_in (xs : List Int) (hx : xs.length ≤ 1000) (out : List Int) (ho : out.length ≤ 1000) (hs : out.Pairwise (· < ·)) (i : Nat) (hi : i < xs.length) (hno : xs[i] ∉ out) (r : List Int)
    (next : ∀ z : List Int, z.length = out.length + 1 → z.Pairwise (· < ·) → (∀ y, y ∈ z ↔ y ∈ out ∨ y = xs[i]) → Ev (fun k => spec_l7Rising.l0 k xs z ((i + 1 : Nat) : Int)) r) :
    ∀ (k : Nat), k ≤ out.length → ∀ v : Int, (∀ y ∈ out.drop k, xs[i] < y) → Ev (fun f => spec_l7Rising.l1 f xs (out.take k ++ v :: out.drop k) (i : Int) (k : Int)) r := by
  have hri := rdg xs i hi
  have hw : wrap64 ((i : Int) + 1) = ((i + 1 : Nat) : Int) := wrap_next i (by omega)
  have len : ∀ (k : Nat) (v : Int), k ≤ out.length → (out.take k ++ v :: out.drop k).length = out.length + 1 := fun k v hk => by
    rw [List.length_append, List.length_take, List.length_cons, List.length_drop]
    omega
  have setv : ∀ (k : Nat) (v x : Int), k ≤ out.length → (out.take k ++ v :: out.drop k).set k x = out.take k ++ x :: out.drop k := fun k v x hk => by
    rw [List.set_append_right _ _ (by rw [List.length_take]; omega), List.length_take, Nat.min_eq_left hk, Nat.sub_self]
    rfl
  have fin : ∀ (k : Nat), k ≤ out.length → (∀ y ∈ out.drop k, xs[i] < y) → (∀ y ∈ out.take k, y < xs[i]) → Ev (fun f => spec_l7Rising.l0 f xs (out.take k ++ xs[i] :: out.drop k) ((i + 1 : Nat) : Int)) r := fun k hk h1 h2 => by
    refine next _ (len k _ hk) ?_ (fun y => ?_)
    · rw [List.pairwise_append]
      have hp : (out.take k ++ out.drop k).Pairwise (· < ·) := by rw [List.take_append_drop]; exact hs
      rw [List.pairwise_append] at hp
      refine ⟨hp.1, List.pairwise_cons.2 ⟨h1, hp.2.1⟩, fun a ha b hb => ?_⟩
      rcases List.mem_cons.1 hb with rfl | hb
      · exact h2 a ha
      · exact hp.2.2 a ha b hb
    · conv => rhs; rw [← List.take_append_drop k out]
      simp only [List.mem_append, List.mem_cons]
      constructor
      · rintro (h | h | h)
        · exact .inl (.inl h)
        · exact .inr h
        · exact .inl (.inr h)
      · rintro ((h | h) | h)
        · exact .inl h
        · exact .inr (.inr h)
        · exact .inr (.inl h)
  intro k
  induction k with
  | zero =>
    intro hk v h1
    have hl := len 0 v hk
    refine Ev.step (fun f => ?_) (fin 0 hk h1 (fun y hy => by simp at hy))
    rw [spec_l7Rising.l1, if_neg (by omega), if_pos (by omega), if_pos (by omega), if_pos (by omega), if_pos (by omega), hri, hw]
    simp
  | succ k ih =>
    intro hk v h1
    have hl := len (k + 1) v hk
    have hkl : k < out.length := by omega
    have hw1 : wrap64 (((k + 1 : Nat) : Int) - 1) = (k : Int) := by rw [wrap64_id (by omega) (by omega)]; omega
    have hrd : rd (out.take (k + 1) ++ v :: out.drop (k + 1)) (k : Int) = out[k] := by
      rw [rdg _ _ (by omega), List.getElem_append_left (by rw [List.length_take]; omega), List.getElem_take]
    by_cases c : out[k] > xs[i]
    · have e1 : (out.take (k + 1) ++ v :: out.drop (k + 1)).set (k + 1) out[k] = out.take k ++ out[k] :: out.drop k := by
        rw [setv (k + 1) v out[k] hk, List.take_succ_eq_append_getElem hkl, List.append_assoc]
        conv => rhs; rw [List.drop_eq_getElem_cons hkl]
        rfl
      refine Ev.step (fun f => ?_) (ih (by omega) out[k] (fun y hy => ?_))
      · rw [spec_l7Rising.l1, if_pos (by omega), hw1, if_pos (by omega), if_pos (by omega), if_pos (by omega), if_pos (by omega), hrd, hri, if_pos c, if_pos (by omega), if_pos (by omega), Int.toNat_natCast, e1]
      · rw [List.drop_eq_getElem_cons hkl] at hy
        rcases List.mem_cons.1 hy with rfl | hy
        · exact c
        · exact h1 y hy
    · have hlt : out[k] < xs[i] := by
        have : out[k] ≠ xs[i] := fun e => hno (e ▸ List.getElem_mem hkl)
        omega
      refine Ev.step (fun f => ?_) (fin (k + 1) hk h1 (fun y hy => ?_))
      · rw [spec_l7Rising.l1, if_pos (by omega), hw1, if_pos (by omega), if_pos (by omega), if_pos (by omega), if_pos (by omega), hrd, hri, if_neg c, if_pos (by omega), if_pos (by omega), Int.toNat_natCast, setv (k + 1) v xs[i] hk, hw]
      · rw [List.take_succ_eq_append_getElem hkl] at hy
        rcases List.mem_append.1 hy with hy | hy
        · have hp := hs
          rw [← List.take_append_drop k out, List.pairwise_append] at hp
          have := hp.2.2 y hy out[k] (by rw [List.drop_eq_getElem_cons hkl]; exact List.mem_cons_self)
          omega
        · rw [List.mem_singleton] at hy
          omega
theorem rising_ok (xs : List Int) (hx : xs.length ≤ 1000) : ∃ z, Ev (fun k => spec_l7Rising.f k xs) z ∧ z.Pairwise (· < ·) ∧ (∀ y, y ∈ z ↔ y ∈ xs) ∧ z.length ≤ xs.length := by
  have main : ∀ d i, xs.length - i = d → i ≤ xs.length → ∀ out : List Int, out.length ≤ i → out.Pairwise (· < ·) → (∀ y, y ∈ out ↔ y ∈ xs.take i) → ∃ z, Ev (fun k => spec_l7Rising.l0 k xs out (i : Int)) z ∧ z.Pairwise (· < ·) ∧ (∀ y, y ∈ z ↔ y ∈ xs) ∧ z.length ≤ xs.length := by
    intro d
    induction d with
    | zero =>
      intro i hd hi out ho hs hm
      obtain rfl : i = xs.length := by omega
      rw [List.take_length] at hm
      exact ⟨out, Ev.step (f := fun _ => some out) (fun k => by rw [spec_l7Rising.l0, if_neg (by omega)]) (Ev.now _), hs, hm, ho⟩
    | succ d ih =>
      intro i hd hi out ho hs hm
      have hil : i < xs.length := by omega
      have hri := rdg xs i hil
      have e := hasR out xs[i] (by omega)
      have hw : wrap64 ((i : Int) + 1) = ((i + 1 : Nat) : Int) := wrap_next i (by omega)
      have htk : xs.take (i + 1) = xs.take i ++ [xs[i]] := List.take_succ_eq_append_getElem hil
      by_cases c : xs[i] ∈ out
      · obtain ⟨z, h1, h2⟩ := ih (i + 1) (by omega) (by omega) out (by omega) hs (fun y => by
          rw [htk, List.mem_append, List.mem_singleton, ← hm y]
          exact ⟨.inl, fun h => h.elim id (fun h => by rw [h]; exact c)⟩)
        rw [decide_eq_true c] at e
        refine ⟨z, Ev.step (f := fun k => (spec_l1Has.f k out xs[i]).bind fun t165 => (if t165 = true then (spec_l7Rising.l0 k xs out (wrap64 ((i : Int) + 1))) else (if out.length < 17592186044416 then (spec_l7Rising.l1 k xs (out ++ [xs[i]]) (i : Int) (out.length : Int)) else (none)))) (fun k => by rw [spec_l7Rising.l0, if_pos (by omega), if_pos (by omega), hri]) (Ev.bind (f := fun k t165 => (if t165 = true then (spec_l7Rising.l0 k xs out (wrap64 ((i : Int) + 1))) else (if out.length < 17592186044416 then (spec_l7Rising.l1 k xs (out ++ [xs[i]]) (i : Int) (out.length : Int)) else (none)))) e (Ev.congr (fun k => by rw [if_pos rfl, hw]) h1)), h2⟩
      · rw [decide_eq_false c] at e
        have step : ∀ r, Ev (fun k => spec_l7Rising.l1 k xs (out ++ [xs[i]]) (i : Int) (out.length : Int)) r → Ev (fun k => spec_l7Rising.l0 k xs out (i : Int)) r := fun r hr =>
          Ev.step (f := fun k => (spec_l1Has.f k out xs[i]).bind fun t165 => (if t165 = true then (spec_l7Rising.l0 k xs out (wrap64 ((i : Int) + 1))) else (if out.length < 17592186044416 then (spec_l7Rising.l1 k xs (out ++ [xs[i]]) (i : Int) (out.length : Int)) else (none)))) (fun k => by rw [spec_l7Rising.l0, if_pos (by omega), if_pos (by omega), hri]) (Ev.bind (f := fun k t165 => (if t165 = true then (spec_l7Rising.l0 k xs out (wrap64 ((i : Int) + 1))) else (if out.length < 17592186044416 then (spec_l7Rising.l1 k xs (out ++ [xs[i]]) (i : Int) (out.length : Int)) else (none)))) e (Ev.congr (fun k => by rw [if_neg (by decide), if_pos (by omega)]) hr))
        -- what the rest tells, of the row with the number in its place
        have hz : ∃ z : List Int, z.length = out.length + 1 ∧ z.Pairwise (· < ·) ∧ (∀ y, y ∈ z ↔ y ∈ out ∨ y = xs[i]) ∧ ∀ r, Ev (fun k => spec_l7Rising.l0 k xs z ((i + 1 : Nat) : Int)) r → Ev (fun k => spec_l7Rising.l0 k xs out (i : Int)) r := by
          -- the sorted row is told by its members
          refine ⟨(out ++ [xs[i]]).mergeSort (fun x y => decide (x ≤ y)), by simp [List.length_mergeSort], ?_, fun y => by rw [List.mem_mergeSort, List.mem_append, List.mem_singleton], fun r hr => step r ?_⟩
          · exact sortLt (out ++ [xs[i]]) (List.pairwise_append.2 ⟨hs.imp (fun h => by omega), List.pairwise_singleton _ _, fun a ha b hb => by
              rw [List.mem_singleton] at hb
              rw [hb]
              exact fun h => c (h ▸ ha)⟩)
          · have := rise_in xs hx out (by omega) hs i hil c r (fun z hzl hzs hzm => by
              have e : z = (out ++ [xs[i]]).mergeSort (fun x y => decide (x ≤ y)) := lt_ext _ _ hzs (sortLt (out ++ [xs[i]]) (List.pairwise_append.2 ⟨hs.imp (fun h => by omega), List.pairwise_singleton _ _, fun a ha b hb => by
                rw [List.mem_singleton] at hb
                rw [hb]
                exact fun h => c (h ▸ ha)⟩)) (fun y => by rw [hzm y, List.mem_mergeSort, List.mem_append, List.mem_singleton])
              rw [e]
              exact hr) out.length (Nat.le_refl _) xs[i] (fun y hy => by rw [List.drop_length] at hy; cases hy)
            rw [List.take_length, List.drop_length] at this
            exact this
        obtain ⟨z, z1, z2, z3, z4⟩ := hz
        obtain ⟨z', h1, h2⟩ := ih (i + 1) (by omega) (by omega) z (by omega) z2 (fun y => by rw [z3 y, htk, List.mem_append, List.mem_singleton, hm y])
        exact ⟨z', z4 _ h1, h2⟩
  obtain ⟨z, h1, h2⟩ := main _ 0 rfl (by omega) [] (by simp) List.Pairwise.nil (fun y => by simp)
  exact ⟨z, Ev.congr (fun k => rfl) h1, h2⟩

/-! wayI -/
theorem lit_wfR (x : Int) (h0 : 0 ≤ x) (h1 : x ≤ 1000000) : (Lit.int .i64 x).wf = true := by
  have e1 : IntKind.i64.min = -9223372036854775808 := by decide
  have e2 : IntKind.i64.max = 9223372036854775807 := by decide
  simp only [Lit.wf, e1, e2, Bool.and_eq_true, decide_eq_true_eq]
  omega
theorem nodup_room : ∀ (n : Nat) (l : List Int), l.Nodup → (∀ y ∈ l, 0 ≤ y ∧ y < (n : Int)) → l.length ≤ n := by
  intro n
  induction n with
  | zero =>
    intro l _ h
    cases l with
    | nil => exact Nat.le_refl _
    | cons x l => have := h x List.mem_cons_self; omega
  | succ n ih =>
    intro l hn h
    have h1 := ih (l.filter (fun y => !decide (y = (n : Int)))) (hn.filter _) (fun y hy => by
      obtain ⟨h1, h2⟩ := List.mem_filter.1 hy
      have := h y h1
      have h2 : ¬ y = (n : Int) := by simpa using h2
      omega)
    have h2 : l.length = (l.filter (fun y => !decide (y = (n : Int)))).length + l.count (n : Int) := by
      clear ih h1 h hn
      induction l with
      | nil => rfl
      | cons x l ih =>
        rw [List.filter_cons, List.count_cons, List.length_cons, ih]
        by_cases e : x = (n : Int)
        · subst e
          simp
          omega
        · simp [e]
          omega
    have h3 : l.count (n : Int) ≤ 1 := List.nodup_iff_count.1 hn _
    omega
theorem mem_addL {G : Int → List S70} {k : Int} {x l : S70} {q : Int} : l ∈ impl_wayOf.addL G k x q ↔ l ∈ G q ∨ (q = k ∧ l = x) := by
  unfold impl_wayOf.addL
  by_cases e : q = k
  · subst e
    rw [if_pos rfl, List.mem_append, List.mem_singleton]
    simp
  · rw [if_neg e]
    simp [e]
theorem len_addL (G : Int → List S70) (k : Int) (x : S70) (q : Int) : (impl_wayOf.addL G k x q).length ≤ (G q).length + 1 := by
  unfold impl_wayOf.addL
  split
  · simp
  · omega
structure Bes (es : List S70) (i : Nat) (H : Int → List S70) : Prop where
  snd : ∀ x, ∀ l ∈ H x, l.f0 = x ∧ ∃ k, ∃ hk : k < es.length, Jn es[k] x l.f1 ∧ l.f2 = es[k].f2
  all : ∀ k (hk : k < es.length), k < i → ∀ x y, Jn es[k] x y → ∃ l ∈ H x, l.f1 = y
  len : ∀ x, (H x).length ≤ 2 * i
theorem beside_ok (n : Nat) (hn : n ≤ 1000) (es : List S70) (hes : es.length ≤ 1000) (hin : ∀ e ∈ es, InL (n : Int) e) : ∃ H, impl_wayOf.beside es (fun _ => []) = some H ∧ Bes es es.length H := by
  have main : ∀ d i, es.length - i = d → i ≤ es.length → ∀ H, Bes es i H → ∃ R, impl_wayOf.beside (es.drop i) H = some R ∧ Bes es es.length R := by
    intro d
    induction d with
    | zero =>
      intro i hd hi H h
      obtain rfl : i = es.length := by omega
      rw [List.drop_length]
      exact ⟨H, rfl, h⟩
    | succ d ih =>
      intro i hd hi H h
      have hil : i < es.length := by omega
      obtain ⟨i0, i1, i2, i3⟩ := hin _ (List.getElem_mem hil)
      obtain ⟨l, hl⟩ : ∃ l, l = es[i] := ⟨_, rfl⟩
      have l1 := h.len l.f0
      have l2 := len_addL H l.f0 l l.f1
      have l3 := h.len l.f1
      have hB : Bes es (i + 1) (impl_wayOf.addL (impl_wayOf.addL H l.f0 l) l.f1 ⟨l.f1, l.f0, l.f2⟩) := by
        refine ⟨fun x y hy => ?_, fun k hk hki x y hj => ?_, fun x => ?_⟩
        · rcases mem_addL.1 hy with hy | ⟨e1, e2⟩
          · rcases mem_addL.1 hy with hy | ⟨e1, e2⟩
            · exact h.snd x y hy
            · rw [e2, e1]
              exact ⟨rfl, i, hil, .inl ⟨by rw [hl], by rw [hl]⟩, by rw [hl]⟩
          · rw [e2, e1]
            exact ⟨rfl, i, hil, .inr ⟨by rw [hl], by rw [hl]⟩, by rw [hl]⟩
        · by_cases e : k = i
          · subst e
            rcases hj with ⟨e1, e2⟩ | ⟨e1, e2⟩
            · exact ⟨l, mem_addL.2 (.inl (mem_addL.2 (.inr ⟨by rw [hl, e1], rfl⟩))), by rw [hl, e2]⟩
            · exact ⟨⟨l.f1, l.f0, l.f2⟩, mem_addL.2 (.inr ⟨by rw [hl, e1], rfl⟩), by rw [hl]; exact e2⟩
          · obtain ⟨l', m1, m2⟩ := h.all k hk (by omega) x y hj
            exact ⟨l', mem_addL.2 (.inl (mem_addL.2 (.inl m1))), m2⟩
        · have a1 := len_addL (impl_wayOf.addL H l.f0 l) l.f1 ⟨l.f1, l.f0, l.f2⟩ x
          have a2 := len_addL H l.f0 l x
          have a3 := h.len x
          omega
      obtain ⟨R, r1, r2⟩ := ih (i + 1) (by omega) (by omega) (impl_wayOf.addL (impl_wayOf.addL H l.f0 l) l.f1 ⟨l.f1, l.f0, l.f2⟩) hB
      refine ⟨R, ?_, r2⟩
      rw [List.drop_eq_getElem_cons hil, ← hl, impl_wayOf.beside, if_pos ⟨by rw [hl]; exact lit_wfR _ i0 (by omega), by rw [hl]; exact lit_wfR _ i2 (by omega)⟩, if_pos (by omega), if_pos (by omega)]
      exact r1
  have := main _ 0 rfl (by omega) (fun _ => []) ⟨fun x l hl => (by cases hl), fun k hk hki => absurd hki (by omega), fun x => by simp⟩
  rwa [List.drop_zero] at this
/-- What the search has met, in order. -/
structure MetI (n : Nat) (es : List S70) (a : Int) (F : Int → Option S70) (ord : List Int) : Prop where
  nodup : ord.Nodup
  rng : ∀ y ∈ ord, 0 ≤ y ∧ y < (n : Int)
  mem : ∀ y, (F y).isSome = true ↔ y ∈ ord
  head : ord[0]? = some a
  from_ : ∀ i (h : i < ord.length), 0 < i → ∃ l, F ord[i] = some l ∧ l.f0 ∈ ord.take i ∧ ∃ k, ∃ hk : k < es.length, Jn es[k] l.f0 ord[i] ∧ l.f2 = es[k].f2
theorem MetI.add {n : Nat} {es : List S70} {a : Int} {F : Int → Option S70} {ord : List Int} (h : MetI n es a F ord) (l : S70) (h0 : l.f0 ∈ ord) (hno : l.f1 ∉ ord) (hr : 0 ≤ l.f1 ∧ l.f1 < (n : Int)) (hk : ∃ k, ∃ hk : k < es.length, Jn es[k] l.f0 l.f1 ∧ l.f2 = es[k].f2) :
    MetI n es a (fun q => if q = l.f1 then some l else F q) (ord ++ [l.f1]) := by
  refine ⟨?_, fun y hy => ?_, fun y => ?_, ?_, fun i hi hp => ?_⟩
  · rw [List.nodup_append]
    exact ⟨h.nodup, by simp, fun x hx y hy => by
      rw [List.mem_singleton] at hy
      rw [hy]
      exact fun e => hno (e ▸ hx)⟩
  · rcases List.mem_append.1 hy with hy | hy
    · exact h.rng y hy
    · rw [List.mem_singleton] at hy
      rw [hy]
      exact hr
  · rw [List.mem_append, List.mem_singleton]
    by_cases e : y = l.f1
    · rw [if_pos e]
      simp [e]
    · rw [if_neg e, h.mem y]
      simp [e]
  · have hl : 0 < ord.length := by
      have := h.head
      cases ord with
      | nil => cases this
      | cons x r => simp
    rw [List.getElem?_append_left hl]
    exact h.head
  · rw [List.length_append, List.length_singleton] at hi
    by_cases e : i = ord.length
    · subst e
      have e2 : (ord ++ [l.f1])[ord.length] = l.f1 := by simp
      rw [e2]
      refine ⟨l, if_pos rfl, ?_, hk⟩
      rw [List.take_left' rfl]
      exact h0
    · have hlt : i < ord.length := by omega
      have e2 : (ord ++ [l.f1])[i] = ord[i] := List.getElem_append_left hlt
      obtain ⟨l', g1, g2, g3⟩ := h.from_ i hlt hp
      rw [e2]
      refine ⟨l', ?_, ?_, g3⟩
      · rw [if_neg (fun (e3 : ord[i] = l.f1) => hno (e3 ▸ List.getElem_mem hlt))]
        exact g1
      · rw [List.take_append_of_le_length (by omega)]
        exact g2
theorem row_ok (n : Nat) (hn : n ≤ 1000) (es : List S70) (hin : ∀ e ∈ es, InL (n : Int) e) (a x : Int) :
    ∀ (L : List S70), (∀ l ∈ L, l.f0 = x ∧ ∃ k, ∃ hk : k < es.length, Jn es[k] x l.f1 ∧ l.f2 = es[k].f2) → ∀ (F : Int → Option S70) (t ord : List Int), MetI n es a F ord → x ∈ ord → t.length ≤ ord.length →
      ∃ F' ext, impl_wayOf.row L F t ord.length = some (F', t ++ ext, (ord ++ ext).length) ∧ MetI n es a F' (ord ++ ext) ∧ ∀ l ∈ L, l.f1 ∈ ord ++ ext := by
  intro L
  induction L with
  | nil => intro _ F t ord h _ _; exact ⟨F, [], by rw [impl_wayOf.row]; simp, by rw [List.append_nil]; exact h, fun l hl => (by cases hl)⟩
  | cons l L ih =>
    intro hL F t ord h hx ht
    obtain ⟨e0, k, hk, hj, hw⟩ := hL l List.mem_cons_self
    have hL2 := fun l hl => hL l (List.mem_cons_of_mem _ hl)
    obtain ⟨i0, i1, i2, i3⟩ := hin _ (List.getElem_mem hk)
    have hr : 0 ≤ l.f1 ∧ l.f1 < (n : Int) := by rcases hj with ⟨_, e⟩ | ⟨_, e⟩ <;> omega
    have hroom := nodup_room n ord h.nodup h.rng
    by_cases c : (F l.f1).isSome = true
    · obtain ⟨F', ext, r1, r2, r3⟩ := ih hL2 F t ord h hx ht
      refine ⟨F', ext, ?_, r2, fun l' hl' => ?_⟩
      · rw [impl_wayOf.row, if_pos (lit_wfR _ hr.1 (by omega)), if_pos c]
        exact r1
      · rcases List.mem_cons.1 hl' with rfl | hl'
        · exact List.mem_append.2 (.inl ((h.mem _).1 c))
        · exact r3 l' hl'
    · have hno : l.f1 ∉ ord := fun hm => c ((h.mem _).2 hm)
      have h2 := h.add l (e0 ▸ hx) hno hr ⟨k, hk, by rw [e0]; exact hj, hw⟩
      obtain ⟨F', ext, r1, r2, r3⟩ := ih hL2 _ (t ++ [l.f1]) (ord ++ [l.f1]) h2 (List.mem_append.2 (.inl hx)) (by simp; omega)
      have e1 : ord ++ [l.f1] ++ ext = ord ++ (l.f1 :: ext) := by simp
      have e2 : t ++ [l.f1] ++ ext = t ++ (l.f1 :: ext) := by simp
      rw [e1] at r1 r2 r3
      rw [e2] at r1
      refine ⟨F', l.f1 :: ext, ?_, r2, fun l' hl' => ?_⟩
      · rw [impl_wayOf.row, if_pos (lit_wfR _ hr.1 (by omega)), if_neg c, if_pos (by omega), if_pos (by omega)]
        have e3 : (ord ++ [l.f1]).length = ord.length + 1 := by simp
        rw [e3] at r1
        exact r1
      · rcases List.mem_cons.1 hl' with rfl | hl'
        · exact List.mem_append.2 (.inr List.mem_cons_self)
        · exact r3 l' hl'
theorem bfs_ok (n : Nat) (hn : n ≤ 1000) (es : List S70) (hin : ∀ e ∈ es, InL (n : Int) e) (a : Int) (H : Int → List S70) (hH : Bes es es.length H) :
    ∀ (c : Nat) (F : Int → Option S70) (done todo : List Int), n ≤ done.length + c → MetI n es a F (done ++ todo) → (∀ x ∈ done, ∀ k (hk : k < es.length) y, Jn es[k] x y → y ∈ done ++ todo) →
      ∃ F' ord, Ev (fun k => impl_wayOf.bfs H k F todo (done ++ todo).length) F' ∧ MetI n es a F' ord ∧ ∀ x ∈ ord, ∀ k (hk : k < es.length) y, Jn es[k] x y → y ∈ ord := by
  intro c
  induction c with
  | zero =>
    intro F done todo hc h hcl
    have hroom := nodup_room n _ h.nodup h.rng
    rw [List.length_append] at hroom
    have ht : todo = [] := List.eq_nil_of_length_eq_zero (by omega)
    subst ht
    rw [List.append_nil] at h hcl ⊢
    exact ⟨F, done, Ev.step (f := fun _ => some F) (fun k => by rw [impl_wayOf.bfs]) (Ev.now _), h, hcl⟩
  | succ c ih =>
    intro F done todo hc h hcl
    cases todo with
    | nil =>
      rw [List.append_nil] at h hcl ⊢
      exact ⟨F, done, Ev.step (f := fun _ => some F) (fun k => by rw [impl_wayOf.bfs]) (Ev.now _), h, hcl⟩
    | cons x t =>
      have hx : x ∈ done ++ x :: t := List.mem_append.2 (.inr List.mem_cons_self)
      have hxr := h.rng x hx
      obtain ⟨F1, ext, r1, r2, r3⟩ := row_ok n hn es hin a x (H x) (hH.snd x) F t (done ++ x :: t) h hx (by rw [List.length_append, List.length_cons]; omega)
      have e1 : done ++ x :: t ++ ext = (done ++ [x]) ++ (t ++ ext) := by simp
      rw [e1] at r1 r2 r3
      obtain ⟨F', ord, g1, g2, g3⟩ := ih F1 (done ++ [x]) (t ++ ext) (by simp; omega) r2 (fun y hy k hk z hj => by
        rcases List.mem_append.1 hy with hy | hy
        · have := hcl y hy k hk z hj
          rw [← e1]
          exact List.mem_append.2 (.inl this)
        · rw [List.mem_singleton] at hy
          subst hy
          obtain ⟨l, hl, e⟩ := hH.all k hk (by omega) y z hj
          rw [← e]
          exact r3 l hl)
      refine ⟨F', ord, Ev.step (fun k => ?_) g1, g2, g3⟩
      rw [impl_wayOf.bfs, if_pos (lit_wfR x hxr.1 (by omega)), r1, Option.bind_some]
theorem closed_conn {es : List S70} {ord : List Int} {P : Nat → Prop} (hcl : ∀ x ∈ ord, ∀ k (hk : k < es.length) y, Jn es[k] x y → y ∈ ord) {x y : Int} (h : CN es P x y) : x ∈ ord → y ∈ ord := by
  induction h with
  | refl => exact id
  | step k hk _ hj _ ih => exact fun hx => ih (hcl _ hx k hk _ hj)
theorem back_way (n : Nat) (hn : n ≤ 1000) (es : List S70) (a : Int) (F : Int → Option S70) (ord : List Int) (h : MetI n es a F ord) :
    ∀ (N i : Nat), i < N → ∀ (hi : i < ord.length), ∃ ks, PathI es ks ord[i] a ∧ ks.Nodup ∧ (∀ k ∈ ks, ∃ hk : k < es.length, es[k].f0 ∈ ord.take (i + 1) ∧ es[k].f1 ∈ ord.take (i + 1)) ∧ ks.length ≤ i ∧ ∀ ys : List Int, ys.length + i ≤ 3000 → Ev (fun f => impl_wayOf.back F a f ord[i] ys) (ys ++ ks.map (whyE es)) := by
  have hroom := nodup_room n _ h.nodup h.rng
  have hinj : ∀ p q (hp : p < ord.length) (hq : q < ord.length), ord[p] = ord[q] → p = q := fun p q hp hq e => (List.getElem_inj h.nodup).1 e
  intro N
  induction N with
  | zero => intro i hi; omega
  | succ N ih =>
    intro i hiN hi
    have h0 : ∃ h0 : 0 < ord.length, ord[0] = a := by
      have := h.head
      rw [List.getElem?_eq_some_iff] at this
      exact this
    obtain ⟨hl0, e0⟩ := h0
    by_cases ci : i = 0
    · subst ci
      rw [e0]
      refine ⟨[], .nil _, List.nodup_nil, fun k hk => (by cases hk), Nat.le_refl _, fun ys _ => Ev.step (f := fun _ => some _) (fun k => ?_) (Ev.now _)⟩
      rw [impl_wayOf.back, if_pos rfl]
      simp
    · obtain ⟨l, g1, g2, k, hk, g3, g4⟩ := h.from_ i hi (by omega)
      obtain ⟨p, hp, ep⟩ := List.mem_iff_getElem.1 g2
      rw [List.length_take] at hp
      have hpi : p < i := by omega
      rw [List.getElem_take] at ep
      obtain ⟨ks, q1, q2, q3, q4, q5⟩ := ih p (by omega) (by omega)
      have sub : ∀ y, y ∈ ord.take (p + 1) → y ∈ ord.take (i + 1) := fun y hy => by
        have : (ord.take (p + 1)).Sublist (ord.take (i + 1)) := by
          rw [show ord.take (p + 1) = (ord.take (i + 1)).take (p + 1) by rw [List.take_take, Nat.min_eq_left (by omega)]]
          exact List.take_sublist _ _
        exact this.subset hy
      have hlast : ord[i] ∈ ord.take (i + 1) := by
        rw [List.take_succ_eq_append_getElem hi]
        exact List.mem_append.2 (.inr (List.mem_singleton.2 rfl))
      have hfirst : l.f0 ∈ ord.take (i + 1) := by
        rw [List.take_succ_eq_append_getElem hi]
        exact List.mem_append.2 (.inl g2)
      have hnot : ord[i] ∉ ord.take (p + 1) := fun hm => by
        obtain ⟨q, hq, eq⟩ := List.mem_iff_getElem.1 hm
        rw [List.length_take] at hq
        rw [List.getElem_take] at eq
        have := hinj q i (by omega) hi eq
        omega
      have hkn : k ∉ ks := fun hm => by
        obtain ⟨_, m1, m2⟩ := q3 k hm
        rcases g3 with ⟨_, e⟩ | ⟨_, e⟩
        · rw [e] at m2; exact hnot m2
        · rw [e] at m1; exact hnot m1
      refine ⟨k :: ks, .cons k ks hk g3.symm (ep ▸ q1), List.nodup_cons.2 ⟨hkn, q2⟩, fun k' hk' => ?_, by simp; omega, fun ys hys => ?_⟩
      · rcases List.mem_cons.1 hk' with rfl | hk'
        · refine ⟨hk, ?_⟩
          rcases g3 with ⟨e1, e2⟩ | ⟨e1, e2⟩
          · rw [e1, e2]; exact ⟨hfirst, hlast⟩
          · rw [e1, e2]; exact ⟨hlast, hfirst⟩
        · obtain ⟨hk2, m1, m2⟩ := q3 k' hk'
          exact ⟨hk2, sub _ m1, sub _ m2⟩
      · have hne : ord[i] ≠ a := fun e => ci (hinj i 0 hi hl0 (by rw [e, e0]))
        have hr := h.rng _ (List.getElem_mem hi)
        have hwhy : whyE es k = l.f2 := by
          unfold whyE
          rw [rdE_at es k hk, g4]
        have := q5 (ys ++ [l.f2]) (by simp; omega)
        refine Ev.step (f := fun f => impl_wayOf.back F a f ord[p] (ys ++ [l.f2])) (fun f => ?_) ?_
        · rw [impl_wayOf.back, if_neg hne, if_pos (lit_wfR _ hr.1 (by omega)), if_pos (by omega), g1]
          show impl_wayOf.back F a f l.f0 (ys ++ [l.f2]) = _
          rw [ep]
        · rw [List.map_cons, hwhy]
          have e : ys ++ l.f2 :: ks.map (whyE es) = (ys ++ [l.f2]) ++ ks.map (whyE es) := by simp
          rw [e]
          exact this
theorem wayI_ok (n : Nat) (hn : n ≤ 1000) (es : List S70) (hes : es.length ≤ 1000) (hin : ∀ e ∈ es, InL (n : Int) e) (a b : Int) (ha : 0 ≤ a ∧ a ≤ (n : Int) - 1) (hc : CN es (fun _ => True) a b) :
    ∃ ks, PathI es ks b a ∧ ks.Nodup ∧ Ev (fun k => impl_wayOf.f k es a b) (Go.Lib.compact ((ks.map (whyE es)).mergeSort fun x y => decide (x ≤ y))) := by
  obtain ⟨H, h1, h2⟩ := beside_ok n hn es hes hin
  have hm0 : MetI n es a (fun q => if q = a then some ⟨a, a, 0⟩ else none) ([] ++ [a]) := by
    refine ⟨by simp, fun y hy => ?_, fun y => ?_, rfl, fun i hi hp => absurd hi (by simp; omega)⟩
    · have : y = a := by simpa using hy
      omega
    · by_cases e : y = a
      · simp [e]
      · simp [e]
  obtain ⟨F, ord, ⟨K1, g1⟩, g2, g3⟩ := bfs_ok n hn es hin a H h2 n _ [] [a] (by simp) hm0 (fun x hx => (by cases hx))
  have haord : a ∈ ord := List.mem_of_getElem? g2.head
  have hb := closed_conn g3 hc haord
  obtain ⟨i, hi, ei⟩ := List.mem_iff_getElem.1 hb
  obtain ⟨ks, q1, q2, q3, q4, q5⟩ := back_way n hn es a F ord g2 (i + 1) i (by omega) hi
  have hroom := nodup_room n _ g2.nodup g2.rng
  obtain ⟨K2, q5⟩ := q5 [] (by simp; omega)
  rw [ei] at q1 q5
  refine ⟨ks, q1, q2, ⟨K1 + K2, fun k hk => ?_⟩⟩
  have g1 := g1 k (by omega)
  have q5 := q5 k (by omega)
  dsimp only at g1 q5 ⊢
  unfold impl_wayOf.f
  rw [if_pos (by omega), if_pos (lit_wfR a ha.1 (by omega)), h1, Option.bind_some]
  have g1 : impl_wayOf.bfs H k (fun q => if q = a then some ⟨a, a, 0⟩ else none) [a] 1 = some F := g1
  rw [g1, Option.bind_some, q5, Option.bind_some, List.nil_append]

/-! reasonsCore -/
theorem whys_same {n : Nat} {es : List S70} (ho : okL (n : Int) es (idL n)) {ks ks' : List Nat} {a b : Int} (h : PathI es ks a b) (hn : ks.Nodup) (h' : PathI es ks' b a) (hn' : ks'.Nodup) (x : Int) : x ∈ ks.map (whyE es) ↔ x ∈ ks'.map (whyE es) := by
  have lt : ∀ {ks : List Nat} {a b : Int}, PathI es ks a b → ∀ k ∈ ks, k < es.length := by
    intro ks a b h
    induction h with
    | nil => intro k hk; cases hk
    | cons i ks hi _ _ ih =>
      intro k hk
      rcases List.mem_cons.1 hk with rfl | hk
      · exact hi
      · exact ih k hk
  simp only [List.mem_map]
  constructor
  · rintro ⟨k, hk, e⟩
    exact ⟨k, (h'.uniq ho hn' k (lt h k hk)).2 (fun hc => (h.uniq ho hn k (lt h k hk)).1 hk hc.symm), e⟩
  · rintro ⟨k, hk, e⟩
    exact ⟨k, (h.uniq ho hn k (lt h' k hk)).2 (fun hc => (h'.uniq ho hn' k (lt h' k hk)).1 hk hc.symm), e⟩
theorem reasons_core (size : Int) (es : List S70) (a b : Int) :
    (∃ (n : Nat) (ks : List Nat) (y : List Int), size = (n : Int) ∧ n ≤ 1000 ∧ es.length ≤ n ∧ okL (n : Int) es (idL n) ∧ (0 ≤ a ∧ a ≤ (n : Int) - 1) ∧ (0 ≤ b ∧ b ≤ (n : Int) - 1) ∧ PathI es ks a b ∧ (∀ x, x ∈ y ↔ x ∈ ks.map (whyE es)) ∧ y.length ≤ 1000 ∧ Ev (fun k => spec_Reasons.f k size es a b) (y, true) ∧ Ev (fun k => impl_Reasons.f k size es a b) (y, true)) ∨
    (Ev (fun k => spec_Reasons.f k size es a b) ([], false) ∧ Ev (fun k => impl_Reasons.f k size es a b) ([], false)) := by
  have sNo : ∀ {P : Nat → Option (List Int × Bool)} {K : Nat}, (∀ k, K ≤ k → spec_Reasons.f k size es a b = P k) → (∀ m, P (m + 1) = some ([], false)) → Ev (fun k => spec_Reasons.f k size es a b) ([], false) := fun {P K} h1 h2 => ⟨K + 1, fun k hk => by
    obtain ⟨m, rfl⟩ : ∃ m, k = m + 1 := ⟨k - 1, by omega⟩
    exact (h1 (m + 1) (by omega)).trans (h2 m)⟩
  rcases forest_core size es with ⟨h1, s0, s1, s2, s3, h2, _⟩ | ⟨h1, h2⟩
  · obtain ⟨n, rfl⟩ := Int.eq_ofNat_of_zero_le s0
    rw [Int.toNat_natCast] at h2
    have ho := right_okL n (by omega) es (by omega) h1
    have hlen := fold_len es n es.length
    rw [List.take_length] at hlen
    obtain ⟨K1, h1⟩ := h1
    obtain ⟨K2, h2⟩ := h2
    have hw : wrap64 ((n : Int) - 1) = (n : Int) - 1 := wrap64_id (by omega) (by omega)
    by_cases ca : 0 ≤ a ∧ a ≤ (n : Int) - 1
    · have da := decide_eq_true ca
      by_cases cb : 0 ≤ b ∧ b ≤ (n : Int) - 1
      · have db := decide_eq_true cb
        obtain ⟨p, rfl⟩ := Int.eq_ofNat_of_zero_le ca.1
        obtain ⟨q, rfl⟩ := Int.eq_ofNat_of_zero_le cb.1
        have hconn := roots_conn n es s3 es.length (Nat.le_refl _) p q (by omega) (by omega)
        rw [List.take_length] at hconn
        have sS : ∀ k, K1 ≤ k → spec_Reasons.f k (n : Int) es (p : Int) (q : Int) = spec_Reasons.j0 k (p : Int) (q : Int) false (n : Int) es := fun k hk => by
          have a1 := h1 k hk
          dsimp only at a1
          unfold spec_Reasons.f spec_l7Node.f
          rw [a1, Option.bind_some, if_pos rfl, hw, l1In_eq, da, Option.bind_some, Option.bind_some, if_pos rfl, l1In_eq, db, Option.bind_some, Option.bind_some]
          rfl
        have iS : ∀ k, K2 ≤ k → impl_Reasons.f k (n : Int) es (p : Int) (q : Int) = if rd (es.foldl stepL (idL n)) (p : Int) = rd (es.foldl stepL (idL n)) (q : Int) then ((impl_wayOf.f k es (p : Int) (q : Int)).bind fun t241 => (some (t241, true))) else (some (([] : List Int), false)) := fun k hk => by
          have a1 := h2 k hk
          dsimp only at a1
          unfold impl_Reasons.f
          rw [a1, Option.bind_some]
          dsimp only
          rw [if_pos rfl, hw, inside_eq, da, Option.bind_some, if_pos rfl, inside_eq, db, Option.bind_some, if_pos rfl, if_pos (by omega), if_pos (by omega), if_pos (by omega), if_pos (by omega)]
        have hul : (List.replicate es.length false).length = es.length := by simp
        have hw2 := way_ok n (by omega) es (by omega) s3 es.length (by omega) (List.replicate es.length false) (p : Int) (q : Int) hul (by rw [List.countP_replicate]; simp) ca.1 ca.2
        have hun : ∀ k, un (List.replicate es.length false) k := fun k => by
          unfold un rdOf
          rw [Int.toNat_natCast, List.getD_eq_getElem?_getD]
          by_cases h : k < es.length
          · rw [List.getElem?_replicate, if_pos h]; rfl
          · rw [List.getElem?_eq_none (by simp; omega)]; rfl
        have sj : ∀ (z : List Int) (ok : Bool) (u' : List Bool) (r : List Int), Ev (fun k => spec_l7Way.f k es (List.replicate es.length false) (p : Int) (q : Int)) (z, ok, u') → Ev (fun k => spec_l7Rising.f k z) r → Ev (fun k => spec_Reasons.f k (n : Int) es (p : Int) (q : Int)) (r, ok) := fun z ok u' r ⟨Ka, e1⟩ ⟨Kb, e2⟩ => ⟨K1 + Ka + Kb + 1, fun k hk => by
          obtain ⟨m, rfl⟩ : ∃ m, k = m + 1 := ⟨k - 1, by omega⟩
          have e1 := e1 m (by omega)
          have e2 := e2 m (by omega)
          dsimp only at e1 e2 ⊢
          rw [sS (m + 1) (by omega), spec_Reasons.j0, if_neg (by decide), if_pos (by omega), if_pos (by rw [Int.toNat_natCast]; omega), Int.toNat_natCast, e1, Option.bind_some]
          dsimp only
          rw [e2, Option.bind_some]⟩
        by_cases ce : rd (es.foldl stepL (idL n)) (p : Int) = rd (es.foldl stepL (idL n)) (q : Int)
        · have hc0 := hconn.1 ce
          have hcT : CN es (fun _ => True) (p : Int) (q : Int) := hc0.mono (fun _ _ _ => trivial)
          obtain ⟨ks', w1, w2, ⟨K3, w3⟩⟩ := wayI_ok n (by omega) es (by omega) s3 (p : Int) (q : Int) ca hcT
          rcases hw2 with ⟨ks, u', e, p1, p2, _, p4⟩ | ⟨_, _, _, hn2, _⟩
          · obtain ⟨z, z1, z2, z3, z4⟩ := rising_ok (ks.map (whyE es)) (by rw [List.length_map]; omega)
            rw [List.length_map] at z4
            have hcs := compact_sort (ks'.map (whyE es))
            have hz : z = Go.Lib.compact ((ks'.map (whyE es)).mergeSort fun x y => decide (x ≤ y)) := lt_ext _ _ z2 hcs.1 (fun x => by rw [z3 x, hcs.2 x]; exact whys_same ho p1 p2 w1 w2 x)
            refine .inl ⟨n, ks, z, rfl, by omega, by omega, ho, ca, cb, p1, z3, by omega, sj _ _ _ _ e z1, ⟨K2 + K3, fun k hk => ?_⟩⟩
            have w3 := w3 k (by omega)
            dsimp only at w3 ⊢
            rw [iS k (by omega), if_pos ce, w3, Option.bind_some, hz]
          · exact absurd (hc0.mono (fun k _ _ => hun k)) hn2
        · rcases hw2 with ⟨ks, u', _, p1, _⟩ | ⟨u', e, _⟩
          · have lt : ∀ k ∈ ks, k < es.length := by
              have : ∀ {ks : List Nat} {a b : Int}, PathI es ks a b → ∀ k ∈ ks, k < es.length := by
                intro ks a b h
                induction h with
                | nil => intro k hk; cases hk
                | cons i ks hi _ _ ih =>
                  intro k hk
                  rcases List.mem_cons.1 hk with rfl | hk
                  · exact hi
                  · exact ih k hk
              exact this p1
            exact absurd (hconn.2 (p1.conn (P := fun i => i < es.length) lt)) ce
          · right
            obtain ⟨z, z1, _, z3, z4⟩ := rising_ok [] (by simp)
            have hz : z = [] := List.eq_nil_of_length_eq_zero (by simpa using z4)
            rw [hz] at z1
            exact ⟨sj _ _ _ _ e z1, ⟨K2, fun k hk => (iS k hk).trans (if_neg ce)⟩⟩
      · have db := decide_eq_false cb
        right
        refine ⟨sNo (P := fun k => spec_Reasons.j0 k a b true (n : Int) es) (K := K1) (fun k hk => ?_) (fun m => by rw [spec_Reasons.j0, if_pos rfl]), ⟨K2, fun k hk => ?_⟩⟩
        · have a1 := h1 k hk
          dsimp only at a1
          unfold spec_Reasons.f spec_l7Node.f
          rw [a1, Option.bind_some, if_pos rfl, hw, l1In_eq, da, Option.bind_some, Option.bind_some, if_pos rfl, l1In_eq, db, Option.bind_some, Option.bind_some]
          rfl
        · have a1 := h2 k hk
          dsimp only at a1 ⊢
          unfold impl_Reasons.f
          rw [a1, Option.bind_some]
          dsimp only
          rw [if_pos rfl, hw, inside_eq, da, Option.bind_some, if_pos rfl, inside_eq, db, Option.bind_some, if_neg (by decide)]
    · have da := decide_eq_false ca
      right
      refine ⟨sNo (P := fun k => spec_Reasons.j0 k a b true (n : Int) es) (K := K1) (fun k hk => ?_) (fun m => by rw [spec_Reasons.j0, if_pos rfl]), ⟨K2, fun k hk => ?_⟩⟩
      · have a1 := h1 k hk
        dsimp only at a1
        unfold spec_Reasons.f spec_l7Node.f
        rw [a1, Option.bind_some, if_pos rfl, hw, l1In_eq, da, Option.bind_some, Option.bind_some, if_neg (by decide)]
      · have a1 := h2 k hk
        dsimp only at a1 ⊢
        unfold impl_Reasons.f
        rw [a1, Option.bind_some]
        dsimp only
        rw [if_pos rfl, hw, inside_eq, da, Option.bind_some, if_neg (by decide)]
  · obtain ⟨K1, h1⟩ := h1
    obtain ⟨K2, h2⟩ := h2
    right
    refine ⟨sNo (P := fun k => spec_Reasons.j0 k a b true size es) (K := K1) (fun k hk => ?_) (fun m => by rw [spec_Reasons.j0, if_pos rfl]), ⟨K2, fun k hk => ?_⟩⟩
    · have a1 := h1 k hk
      dsimp only at a1
      unfold spec_Reasons.f
      rw [a1, Option.bind_some, if_neg (by decide)]
    · have a1 := h2 k hk
      dsimp only at a1 ⊢
      unfold impl_Reasons.f
      rw [a1, Option.bind_some]
      dsimp only
      rw [if_neg (by decide)]

/-! rootVal -/
theorem root_valR (n : Nat) (hn : n ≤ 1000) (es : List S70) (ls : List Int) (hlen : ls.length = n) (h : Ev (fun k => impl_roots.f k (n : Int) es) (ls, true)) (a : Nat) (ha : a < n) : Ev (fun k => impl_Root.f k (n : Int) es (a : Int)) (rd ls (a : Int)) := by
  obtain ⟨K, h⟩ := Ev.binds h
  have hw : True → wrap64 ((n : Int) - 1) = (n : Int) - 1 := fun _ => wrap64_id (by omega) (by omega)
  have da := decide_eq_true (show (0 : Int) ≤ (a : Int) ∧ (a : Int) ≤ (n : Int) - 1 by omega)
  exact ⟨K, fun k hk => by simp (disch := first | omega | trivial) only [impl_Root.f, ↓h, ↓reduceIte, inside_eq, hw, da, Option.bind_some, ↓if_pos]⟩
theorem fold_nonneg (n : Nat) : ∀ (es : List S70) (ls : List Int), ls.length = n → (∀ e ∈ es, InL (n : Int) e) → (∀ x : Nat, x < n → 0 ≤ rd ls (x : Int)) → ∀ x : Nat, x < n → 0 ≤ rd (es.foldl stepL ls) (x : Int) := by
  intro es
  induction es with
  | nil => intro ls _ _ h; exact h
  | cons e es ih =>
    intro ls hl hin h
    obtain ⟨i0, i1, i2, i3⟩ := hin e List.mem_cons_self
    obtain ⟨p, hp⟩ := Int.eq_ofNat_of_zero_le i0
    obtain ⟨q, hq⟩ := Int.eq_ofNat_of_zero_le i2
    refine ih (stepL ls e) (by rw [stepL_len]; exact hl) (fun z hz => hin z (List.mem_cons_of_mem _ hz)) (fun x hx => ?_)
    have h1 := h x hx
    have h2 := h p (by omega)
    have h3 := h q (by omega)
    unfold stepL
    rw [hp, hq, mergeL_at ls _ _ (by omega)]
    unfold mg mn mx
    (repeat' split) <;> omega

/-! lessS -/
theorem CN.embed {es F : List S70} {P Q : Nat → Prop} {x y : Int} (hin : ∀ k (hk : k < F.length), ∃ j, ∃ hj : j < es.length, Q j ∧ es[j] = F[k]) (h : CN F P x y) : CN es Q x y := by
  induction h with
  | refl => exact .refl _
  | step k hk hp hj _ ih =>
    obtain ⟨j, hjl, q, e⟩ := hin k hk
    exact .step j hjl q (by rw [e]; exact hj) ih
theorem okL_why (n : Int) : ∀ (es : List S70) (ls : List Int), okL n es ls → ∀ e ∈ es, 0 ≤ e.f2 ∧ e.f2 ≤ 1000000 := by
  intro es
  induction es with
  | nil => intro _ _ e he; cases he
  | cons x es ih =>
    intro ls h e he
    rcases List.mem_cons.1 he with rfl | he
    · exact h.2.1
    · exact ih _ h.2.2.2 e he
/-- Some links of a right forest are a right forest. -/
theorem filter_ok (n : Nat) (es : List S70) (ho : okL (n : Int) es (idL n)) (p : S70 → Bool) : ∀ m, m ≤ es.length → okL (n : Int) ((es.take m).filter p) (idL n) := by
  obtain ⟨hin, hne⟩ := okL_at (n : Int) es _ ho
  intro m
  induction m with
  | zero => intro _; rw [List.take_zero]; exact True.intro
  | succ m ih =>
    intro hm
    have hml : m < es.length := by omega
    have ih := ih (by omega)
    rw [List.take_succ_eq_append_getElem hml, List.filter_append]
    obtain ⟨F, hF⟩ : ∃ F, F = (es.take m).filter p := ⟨_, rfl⟩
    have hsub : ∀ z ∈ F, z ∈ es.take m := fun z hz => by
      rw [hF] at hz
      exact (List.mem_filter.1 hz).1
    rw [← hF] at ih ⊢
    by_cases c : p es[m] = true
    · rw [List.filter_cons_of_pos c, List.filter_nil]
      have hFin := (okL_at (n : Int) F _ ih).1
      have hI := hin _ (List.getElem_mem hml)
      obtain ⟨i0, i1, i2, i3⟩ := hI
      obtain ⟨x, hx⟩ := Int.eq_ofNat_of_zero_le i0
      obtain ⟨y, hy⟩ := Int.eq_ofNat_of_zero_le i2
      refine okL_snoc (n : Int) es[m] F _ ih ⟨i0, i1, i2, i3⟩ (okL_why _ _ _ ho _ (List.getElem_mem hml)) (fun e => ?_)
      have h3 := hne m hml
      rw [hx, hy] at e h3
      have c1 := roots_conn n F hFin F.length (Nat.le_refl _) x y (by omega) (by omega)
      rw [List.take_length] at c1
      refine h3 ((roots_conn n es hin m (by omega) x y (by omega) (by omega)).2 ((c1.1 e).embed (fun k hk => ?_)))
      obtain ⟨j, hj, ej⟩ := List.mem_iff_getElem.1 (hsub _ (List.getElem_mem hk))
      have hj2 := hj
      rw [List.length_take] at hj2
      rw [List.getElem_take] at ej
      exact ⟨j, by omega, by omega, ej⟩
    · rw [List.filter_cons_of_neg c, List.filter_nil, List.append_nil]
      exact ih
theorem PathI.inside {es F : List S70} {ks : List Nat} {x y : Int} (h : PathI es ks x y) : (∀ k ∈ ks, ∀ hk : k < es.length, es[k] ∈ F) → CN F (fun i => i < F.length) x y := by
  induction h with
  | nil => intro _; exact .refl _
  | cons k ks hk hj _ ih =>
    intro hin
    obtain ⟨j, hjl, e⟩ := List.mem_iff_getElem.1 (hin k List.mem_cons_self hk)
    exact .step j hjl hjl (by rw [e]; exact hj) (ih (fun i hi => hin i (List.mem_cons_of_mem _ hi)))
theorem less_loop (n : Int) (a b : Int) (es : List S70) (y : List Int) (hes : es.length ≤ 1000) (hy : y.length ≤ 1048576) (hend : Ev (fun k => laws_FnReasons.l0 k a b y (es.length : Int) n es n (es.filter fun e => decide (e.f2 ∈ y))) true) :
    ∀ d i, es.length - i = d → i ≤ es.length → Ev (fun k => laws_FnReasons.l0 k a b y (i : Int) n es n ((es.take i).filter fun e => decide (e.f2 ∈ y))) true := by
  intro d
  induction d with
  | zero =>
    intro i hd hi
    have e : i = es.length := by omega
    rw [e, List.take_length]
    exact hend
  | succ d ih =>
    intro i hd hi
    have hil : i < es.length := by omega
    obtain ⟨K1, h1⟩ := has_ev y es[i].f2 hy
    have nxt := ih (i + 1) (by omega) (by omega)
    rw [List.take_succ_eq_append_getElem hil, List.filter_append] at nxt
    obtain ⟨F, hF⟩ : ∃ F, F = (es.take i).filter (fun e => decide (e.f2 ∈ y)) := ⟨_, rfl⟩
    have hFl : F.length ≤ 1000 := by
      have := List.length_filter_le (fun e : S70 => decide (e.f2 ∈ y)) (es.take i)
      rw [← hF, List.length_take] at this
      omega
    rw [← hF] at nxt ⊢
    obtain ⟨K2, h2⟩ := nxt
    refine ⟨K1 + K2 + 1, fun k hk => ?_⟩
    obtain ⟨m, rfl⟩ : ∃ m, k = m + 1 := ⟨k - 1, by omega⟩
    have h1 := h1 m (by omega)
    have h2 := h2 m (by omega)
    dsimp only at h1 h2 ⊢
    rw [laws_FnReasons.l0, if_pos (by omega), if_pos (by omega), rdE_at es i hil, h1, Option.bind_some, wrap_next i (by omega)]
    by_cases c : es[i].f2 ∈ y
    · rw [if_pos (decide_eq_true c), if_pos (by omega)]
      have e1 : ([es[i]] : List S70).filter (fun e => decide (e.f2 ∈ y)) = [es[i]] := by simp [c]
      rw [e1] at h2
      exact h2
    · rw [if_neg (by simpa using c)]
      have e1 : ([es[i]] : List S70).filter (fun e => decide (e.f2 ∈ y)) = [] := by simp [c]
      rw [e1, List.append_nil] at h2
      exact h2

/-! drawReasonsS -/
theorem drawReasons_ev (b : List Int) (hb : Code b) : ∃ size es x y, Ev (fun k => spec_DrawReasons.f k b) (size, es, x, y) := by
  obtain ⟨size, es, p1, e1, i1, hel, hp1⟩ := forest_ev b hb 0 ⟨by omega, by omega⟩
  obtain ⟨x, p2, e2, _, hp2⟩ := off_ev b hb p1 hp1 0 (wrap64 (size - 1)) (by omega) (I64.wrap _)
  obtain ⟨y, p3, e3, _, hp3⟩ := off_ev b hb p2 hp2 0 (wrap64 (size - 1)) (by omega) (I64.wrap _)
  obtain ⟨K1, h1⟩ := Ev.binds e1
  obtain ⟨K2, h2⟩ := Ev.binds e2
  obtain ⟨K3, h3⟩ := Ev.binds e3
  refine ⟨size, es, x, y, ⟨K1 + K2 + K3, fun k hk => ?_⟩⟩
  have h1 := h1 k (by omega)
  have h2 := h2 k (by omega)
  have h3 := h3 k (by omega)
  clear hk hel
  show spec_DrawReasons.f k b = some (size, es, x, y)
  unfold spec_DrawReasons.f spec_l1Open.f
  rw [Option.bind_some, h1, h2, h3]
-- SAYS: For every code: the reasons that are told of a drawn forest's nodes name links that join them alone; where none are told the list is empty.
theorem FnReasons (l0 : List Int) (q0 : ∀ x ∈ l0, (Lit.int .u8 x).wf = true) (hl0 : l0.length ≤ 9223372036854775807) : ∃ k, laws_FnReasons.f k l0 = some true := by
  by_cases hbig : (l0.length : Int) > 1048576
  · have db := decide_eq_true hbig
    exact ⟨0, by unfold laws_FnReasons.f laws_big.f; rw [db]; simp only [Option.bind_some, if_true]⟩
  · have db := decide_eq_false hbig
    obtain ⟨size, es, a, b, hd⟩ := drawReasons_ev l0 (code_of l0 q0 (by omega))
    have fin : ∀ (y : List Int) (ok : Bool), Ev (fun k => spec_Reasons.f k size es a b) (y, ok) → Ev (fun k => impl_Reasons.f k size es a b) (y, ok) → Ev (fun k => if ok = true then laws_FnReasons.l0 k a b y 0 size es size ([] : List S70) else some ((y.length : Int) == 0)) true → ∃ k, laws_FnReasons.f k l0 = some true := fun y ok ⟨K2, h2⟩ ⟨K3, h3⟩ ⟨K4, ht⟩ => by
      obtain ⟨K1, h1⟩ := hd
      obtain ⟨K, hK⟩ : ∃ K, K = K1 + K2 + K3 + K4 := ⟨_, rfl⟩
      have h1 := h1 K (by omega)
      have h2 := h2 K (by omega)
      have h3 := h3 K (by omega)
      have ht := ht K (by omega)
      dsimp only at h1 h2 h3 ht
      refine ⟨K, ?_⟩
      unfold laws_FnReasons.f laws_big.f
      rw [db, Option.bind_some, if_neg (by decide), h1, Option.bind_some]
      dsimp only
      rw [h2, Option.bind_some, h3, Option.bind_some]
      dsimp only
      rw [if_neg (by simp)]
      exact ht
    rcases reasons_core size es a b with ⟨n, ks, y, rfl, hn, hel, ho, ca, cb, hp, hm, hyl, s1, s2⟩ | ⟨s1, s2⟩
    · obtain ⟨p, rfl⟩ := Int.eq_ofNat_of_zero_le ca.1
      obtain ⟨q, rfl⟩ := Int.eq_ofNat_of_zero_le cb.1
      refine fin y true s1 s2 ?_
      obtain ⟨F, hF⟩ : ∃ F, F = es.filter fun e => decide (e.f2 ∈ y) := ⟨_, rfl⟩
      have hFo : okL (n : Int) F (idL n) := by
        have := filter_ok n es ho (fun e => decide (e.f2 ∈ y)) es.length (Nat.le_refl _)
        rw [List.take_length] at this
        rw [hF]
        exact this
      have hFl : F.length ≤ n := by
        have := List.length_filter_le (fun e : S70 => decide (e.f2 ∈ y)) es
        rw [← hF] at this
        omega
      have hFin := (okL_at (n : Int) F _ hFo).1
      have g2 : Ev (fun k => impl_roots.f k (n : Int) F) (F.foldl stepL (idL n), true) := by
        have hg := okL_right n hn F hFl hFo
        rcases forest_core (n : Int) F with ⟨_, _, _, _, _, h2, _⟩ | ⟨h1, _⟩
        · rw [Int.toNat_natCast] at h2
          exact h2
        · have ee := Ev.uniq h1 hg
          cases ee
      have hcn : CN F (fun i => i < F.length) (p : Int) (q : Int) := hp.inside (fun k hk hkl => by
        rw [hF]
        exact List.mem_filter.2 ⟨List.getElem_mem hkl, decide_eq_true ((hm _).2 (List.mem_map.2 ⟨k, hk, by unfold whyE; rw [rdE_at es k hkl]⟩))⟩)
      have he := roots_conn n F hFin F.length (Nat.le_refl _) p q (by omega) (by omega)
      rw [List.take_length] at he
      have he := he.2 hcn
      have hlen := fold_len F n F.length
      rw [List.take_length] at hlen
      have h0 := fold_nonneg n F (idL n) (idL_len n) hFin (fun x hx => by rw [idL_at hx]; omega) p (by omega)
      have v1 := root_valR n hn F _ hlen g2 p (by omega)
      have v2 := root_valR n hn F _ hlen g2 q (by omega)
      have hend : Ev (fun k => laws_FnReasons.l0 k (p : Int) (q : Int) y (es.length : Int) (n : Int) es (n : Int) F) true := by
        obtain ⟨K1, v1⟩ := v1
        obtain ⟨K2, v2⟩ := v2
        refine ⟨K1 + K2 + 1, fun k hk => ?_⟩
        obtain ⟨m, rfl⟩ : ∃ m, k = m + 1 := ⟨k - 1, by omega⟩
        have v1 := v1 m (by omega)
        have v2 := v2 m (by omega)
        dsimp only at v1 v2 ⊢
        rw [laws_FnReasons.l0, if_neg (by omega), v1, Option.bind_some, v2, Option.bind_some, if_pos he, Option.bind_some, decide_eq_true (by omega)]
      rw [hF] at hend
      have hl := less_loop (n : Int) (p : Int) (q : Int) es y (by omega) (by omega) hend es.length 0 (by omega) (by omega)
      rw [List.take_zero, List.filter_nil] at hl
      exact Ev.congr (fun k => if_pos rfl) hl
    · exact fin [] false s1 s2 ⟨0, fun k _ => by dsimp only; rw [if_neg (by decide)]; rfl⟩

end Go.Proofs.Ytonkicgdgpcneaa.Pure
