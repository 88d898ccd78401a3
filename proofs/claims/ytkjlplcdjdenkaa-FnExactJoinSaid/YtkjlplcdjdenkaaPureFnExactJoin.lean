/- The program's Join answers as the reference's Join does, for all arguments. -/
import Derived.Test.YtkjlplcdjdenkaaPFnExactJoinx7
import Derived.Test.YtkjlplcdjdenkaaBits
import Derived.Test.YtkjlplcdjdenkaaLoops
namespace Go.Proofs.Ytkjlplcdjdenkaa.Pure
open Go Go.RowKit Go.Proofs.Ytkjlplcdjdenkaa.PFnExactJoin Go.Proofs.YtkjlplcdjdenkaaW.PrintWords Go.Proofs.YtkjlplcdjdenkaaW.PrintLast Go.Proofs.YtkjlplcdjdenkaaW.PrintMore Go.Proofs.Ytkjlplcdjdenkaa.BitsLib Go.Proofs.Ytkjlplcdjdenkaa.Loops
set_option linter.unusedVariables false
set_option linter.unusedSimpArgs false
set_option maxRecDepth 4000

/-! wrap_next -/
theorem wrap_next (i : Nat) (h : i < 4611686018427387904) : wrap64 ((i : Int) + 1) = ((i + 1 : Nat) : Int) := by
  rw [wrap64_id (by omega) (by omega)]; rfl

/-! szn_out -/
theorem szn_out (n : Nat) (left : Int) (hn : (n : Int) ≤ 9223372036854775807) (h0 : 0 ≤ left) (h1 : left ≤ 1048576) :
    ∃ r, (True → wrap64 (left - (n : Int)) = r) ∧ (r < 0 ∨ (0 ≤ r ∧ r ≤ left ∧ (n : Int) ≤ 1048576)) := by
  refine ⟨left - (n : Int), fun _ => wrap64_id (by omega) (by omega), ?_⟩
  by_cases c : left - (n : Int) < 0
  · exact .inl c
  · exact .inr (by omega)

/-! UpL_Link -/
def UpL_Link (c : Int) (x : S180) : Prop := True

/-! rdE_T180 -/
theorem rdE_T180 (l : List S180) (i : Nat) (h : i < l.length) : rd_T180 l (i : Int) = l[i] := by
  unfold rd_T180
  rw [List.getD_eq_getElem?_getD, Int.toNat_natCast, List.getElem?_eq_getElem h]; rfl
theorem rdM_T180 (l : List S180) (i : Nat) (h : i < l.length) : rd_T180 l (i : Int) ∈ l := by rw [rdE_T180 l i h]; exact List.getElem_mem h

/-! S31 -/
structure S31 where
  f0 : Int
  f1 : List S180

/-! UpL_Forest -/
def UpL_Forest (c : Int) (x : S31) : Prop := ((x.f1.length : Int) ≤ c)

/-! sz_LinkS -/
theorem sz_LinkS (x : List S180) (left : Int) (hin : ((x.length : Int) ≤ 9223372036854775807)) (h0 : 0 ≤ left) (h1 : left ≤ 1048576) :
    ∃ r, Ev (fun k => laws_szLinkS.f x left) r ∧ (r < 0 ∨ (0 ≤ r ∧ r ≤ left ∧ ((x.length : Int) ≤ 1048576))) := by
  obtain ⟨r, hr, hb⟩ := szn_out x.length left hin h0 h1
  rcases hb with c | ⟨p0, q0, u0⟩
  · exact ⟨-1, ⟨0, fun k _ => by dsimp only; unfold laws_szLinkS.f; rw [hr trivial, if_pos c]⟩, .inl (by omega)⟩
  · exact ⟨r, ⟨0, fun k _ => by dsimp only; unfold laws_szLinkS.f; rw [hr trivial, if_neg (by omega)]⟩, .inr ⟨p0, q0, u0⟩⟩

/-! sz_Forest -/
theorem sz_Forest (x : S31) (left : Int) (hin : UpL_Forest 9223372036854775807 x) (h0 : 0 ≤ left) (h1 : left ≤ 1048576) :
    ∃ r, Ev (fun k => laws_szForest.f x.f0 x.f1 left) r ∧ (r < 0 ∨ (0 ≤ r ∧ r ≤ left ∧ UpL_Forest 1048576 x)) := by
  unfold UpL_Forest at hin
  have i1 := hin
  obtain ⟨r1, ⟨K1, e1⟩, hb1⟩ := sz_LinkS x.f1 left i1 (by omega) (by omega)
  rcases hb1 with c1 | ⟨p1, q1, u1⟩
  · exact ⟨-1, ⟨K1, fun k hk => by have e1 := e1 k (by omega); dsimp only at e1 ⊢; unfold laws_szForest.f; rw [e1]; simp only [Option.bind_some]; rw [if_pos c1]⟩, .inl (by omega)⟩
  exact ⟨r1, ⟨K1, fun k hk => by have e1 := e1 k (by omega); dsimp only at e1 ⊢; unfold laws_szForest.f; rw [e1]; simp only [Option.bind_some]; rw [if_neg (by omega)]⟩, .inr ⟨by omega, by omega, u1⟩⟩

/-! UpI_Link -/
def UpI_Link (c : Int) (x : S51) : Prop := True

/-! rdE_T51 -/
theorem rdE_T51 (l : List S51) (i : Nat) (h : i < l.length) : rd_T51 l (i : Int) = l[i] := by
  unfold rd_T51
  rw [List.getD_eq_getElem?_getD, Int.toNat_natCast, List.getElem?_eq_getElem h]; rfl
theorem rdM_T51 (l : List S51) (i : Nat) (h : i < l.length) : rd_T51 l (i : Int) ∈ l := by rw [rdE_T51 l i h]; exact List.getElem_mem h

/-! cv_Link -/
def cv_Link (x : S180) : S51 := ⟨x.f0, x.f1, x.f2⟩

/-! S35 -/
structure S35 where
  f0 : Int
  f1 : List S51

/-! UpI_Forest -/
def UpI_Forest (c : Int) (x : S35) : Prop := ((x.f1.length : Int) ≤ c)

/-! cv_Forest -/
def cv_Forest (x : S31) : S35 := ⟨x.f0, (x.f1.map cv_Link)⟩

/-! upcv_Forest -/
theorem upcv_Forest (c : Int) (x : S31) (h : UpL_Forest c x) : UpI_Forest c (cv_Forest x) := by
  unfold UpL_Forest at h
  unfold UpI_Forest
  have i1 := h
  exact (by simpa [cv_Forest] using i1)

/-! in_Forest -/
theorem in_Forest (x : S31) (h : (Lit.int .i64 x.f0).wf = true ∧ (x.f1.length ≤ 9223372036854775807 ∧ ∀ y0 ∈ x.f1, (Lit.int .i64 y0.f0).wf = true ∧ (Lit.int .i64 y0.f1).wf = true ∧ (Lit.int .i64 y0.f2).wf = true)) : UpL_Forest 9223372036854775807 x := by
  obtain ⟨j0, j1⟩ := h
  unfold UpL_Forest
  exact (Int.ofNat_le.2 j1.1)

/-! to_Link -/
theorem to_Link (x : S180) (h : UpL_Link 1048576 x) : Ev (fun k => laws_toLink.f x.f0 x.f1 x.f2) ((cv_Link x).f0, (cv_Link x).f1, (cv_Link x).f2) := by
  refine ⟨0, fun k hk => ?_⟩
  dsimp only
  simp only [laws_toLink.f, Option.bind_some]
  all_goals rfl

/-! to_LinkS -/
theorem to_LinkS (x : List S180) (h : ((x.length : Int) ≤ 1048576)) : Ev (fun k => laws_toLinkS.f k x) (x.map cv_Link) := by
  have hl := h
  have main := up_loop x.length (filled (fun i => (cv_Link (rd_T180 x i))) (List.replicate x.length z51)) (fun k xs i => laws_toLinkS.l0 k x xs i)
    (fun i hi r h2 => by
      obtain ⟨K, he⟩ := to_Link (rd_T180 x (i : Int)) trivial
      obtain ⟨K2, h2⟩ := h2
      refine ⟨K + K2 + 1, fun k hk => ?_⟩
      obtain ⟨m, rfl⟩ : ∃ m, k = m + 1 := ⟨k - 1, by omega⟩
      have h2 := h2 m (by omega)
      have he := he m (by omega)
      dsimp only at he h2 ⊢
      rw [← filled_set _ _ (by simpa using hi)] at h2
      simp only [laws_toLinkS.l0]
      rw [if_pos (by omega), if_pos (by omega), he]
      simp only [Option.bind_some]
      rw [if_pos (by rw [filled_len _ _ (by simp; omega)]; simp; omega), Int.toNat_natCast, wrap64_id (by omega) (by omega)]
      exact h2)
    (x.map cv_Link) (Ev.step (f := fun _ => some (x.map cv_Link)) (fun k => by
      simp only [laws_toLinkS.l0]
      rw [if_neg (by omega), filled_all _ _ (by simp)]
      congr 1
      apply List.ext_getElem?
      intro i
      by_cases hi : i < x.length
      · simp [hi, rdE_T180]
      · rw [List.getElem?_eq_none (by first | omega | (simp; omega)), List.getElem?_eq_none (by first | omega | (simp; omega))]) (Ev.now _))
  rw [filled_zero] at main
  refine Ev.congr (fun k => ?_) main
  unfold laws_toLinkS.f
  rw [if_pos (by omega), if_pos (by omega), Int.toNat_natCast]

/-! to_Forest -/
theorem to_Forest (x : S31) (h : UpL_Forest 1048576 x) : Ev (fun k => laws_toForest.f k x.f0 x.f1) ((cv_Forest x).f0, (cv_Forest x).f1) := by
  unfold UpL_Forest at h
  have i1 := h
  obtain ⟨K1, e1⟩ := to_LinkS x.f1 i1
  refine ⟨K1, fun k hk => ?_⟩
  have e1 := e1 k (by omega)
  dsimp only at e1 ⊢
  simp only [laws_toForest.f, e1, Option.bind_some]
  all_goals rfl

/-! eq_Link -/
theorem eq_Link (x : S51) (h : UpI_Link 1048576 x) : Ev (fun k => laws_eqLink.f x.f0 x.f1 x.f2 x.f0 x.f1 x.f2) true := by
  refine ⟨0, fun k hk => ?_⟩
  dsimp only
  simp only [laws_eqLink.f, Option.bind_some, if_true, ↓reduceIte]

/-! eq_LinkS -/
theorem eq_LinkS (x : List S51) (h : ((x.length : Int) ≤ 1048576)) : Ev (fun k => laws_eqLinkS.f k x x) true := by
  have hl := h
  have main := up_loop x.length (fun _ => ()) (fun k _ i => laws_eqLinkS.l0 k x x i)
    (fun i hi r h2 => by
      obtain ⟨K, he⟩ := eq_Link (rd_T51 x (i : Int)) trivial
      obtain ⟨K2, h2⟩ := h2
      refine ⟨K + K2 + 1, fun k hk => ?_⟩
      obtain ⟨m, rfl⟩ : ∃ m, k = m + 1 := ⟨k - 1, by omega⟩
      have h2 := h2 m (by omega)
      have he := he m (by omega)
      dsimp only at he h2 ⊢
      simp only [laws_eqLinkS.l0]
      rw [if_pos (by omega), if_pos (by omega), if_pos (by omega), he]
      simp only [Option.bind_some, if_true, ↓reduceIte]
      rw [wrap64_id (by omega) (by omega)]
      exact h2)
    true (Ev.step (f := fun _ => some true) (fun k => by
      simp only [laws_eqLinkS.l0]
      rw [if_neg (by omega)]) (Ev.now _))
  obtain ⟨K, h⟩ := main
  refine ⟨K, fun k hk => ?_⟩
  have h := h k hk
  dsimp only at h ⊢
  unfold laws_eqLinkS.f
  rw [if_pos rfl]
  exact h

/-! eq_Forest -/
theorem eq_Forest (x : S35) (h : UpI_Forest 1048576 x) : Ev (fun k => laws_eqForest.f k x.f0 x.f1 x.f0 x.f1) true := by
  unfold UpI_Forest at h
  have i1 := h
  obtain ⟨K1, e1⟩ := eq_LinkS x.f1 i1
  refine ⟨K1, fun k hk => ?_⟩
  have e1 := e1 k (by omega)
  dsimp only at e1 ⊢
  simp only [laws_eqForest.f, e1, Option.bind_some, if_true, ↓reduceIte]

/-! rdset_T51 -/
theorem rdset_T51 (l : List S51) (i : Nat) (h : i < l.length) (v : S51) : rd_T51 (l.set i v) (i : Int) = v := by
  unfold rd_T51
  rw [List.getD_eq_getElem?_getD, Int.toNat_natCast, List.getElem?_set_self h]; rfl

/-! mark_LinkS -/
theorem mark_LinkS (x : List S51) (h : ((x.length : Int) ≤ 1048576)) (m : Int) (h0 : 0 ≤ m) (h1 : m ≤ 4611686018424242176) : ∃ (m' : Int) (x' : List S51), Ev (fun k => laws_markLinkS.f k x m) (m', x') ∧ m ≤ m' ∧ m' ≤ m + 3145728 ∧ Ev (fun k => laws_heldLinkS.f k x' m) m' := by
  have hl : (x.length : Int) ≤ 1048576 := h
  obtain ⟨conv, hconv⟩ : ∃ conv : Nat → S51, ∀ i, conv i = (⟨m + 3 * (i : Int), m + 3 * (i : Int) + 1, m + 3 * (i : Int) + 1 + 1⟩ : S51) := ⟨fun i => _, fun _ => rfl⟩
  have main := up_loop x.length (fun i => (m + 3 * (i : Int), filled conv x i)) (fun k s i => laws_markLinkS.l0 k s.2 s.1 i)
    (fun i hi r h2 => by
      obtain ⟨K2, h2⟩ := h2
      refine ⟨K2 + 1, fun k hk => ?_⟩
      obtain ⟨mm, rfl⟩ : ∃ mm, k = mm + 1 := ⟨k - 1, by omega⟩
      have h2 := h2 mm (by omega)
      dsimp only at h2 ⊢
      have hlen : i < (filled conv x i).length := by rw [filled_len _ _ (by omega)]; exact hi
      rw [← filled_set conv x hi, hconv] at h2
      simp (disch := first | omega | (simp only [List.length_set]; omega)) only [laws_markLinkS.l0, ↓if_pos, Option.bind_some, Int.toNat_natCast, rdset_T51, List.set_set, wrap64_id]
      rw [show m + 3 * (i : Int) + 1 + 1 + 1 = m + 3 * ((i + 1 : Nat) : Int) by omega]
      exact h2)
    (m + 3 * (x.length : Int), (List.range x.length).map conv) (Ev.step (f := fun _ => some (m + 3 * (x.length : Int), (List.range x.length).map conv)) (fun k => by
      simp only [laws_markLinkS.l0]
      rw [if_neg (by rw [filled_len _ _ (Nat.le_refl _)]; omega), filled_all _ _ rfl]) (Ev.now _))
  simp only [filled_zero] at main
  refine ⟨m + 3 * (x.length : Int), (List.range x.length).map conv, Ev.congr (fun k => by unfold laws_markLinkS.f; simp) main, by omega, by omega, ?_⟩
  have hrd : ∀ i : Nat, i < x.length → rd_T51 ((List.range x.length).map conv) (i : Int) = conv i := fun i hi => by
    unfold rd_T51
    rw [List.getD_eq_getElem?_getD, Int.toNat_natCast, List.getElem?_map, List.getElem?_range hi]; rfl
  have main2 := up_loop x.length (fun i => m + 3 * (i : Int)) (fun k s i => laws_heldLinkS.l0 k ((List.range x.length).map conv) s i)
    (fun i hi r h2 => by
      obtain ⟨K2, h2⟩ := h2
      refine ⟨K2 + 1, fun k hk => ?_⟩
      obtain ⟨mm, rfl⟩ : ∃ mm, k = mm + 1 := ⟨k - 1, by omega⟩
      have h2 := h2 mm (by omega)
      dsimp only at h2 ⊢
      have hr := hrd i hi
      rw [hconv] at hr
      simp (disch := omega) only [laws_heldLinkS.l0, List.length_map, List.length_range, ↓if_pos, hr, wrap64_id, ↓reduceIte, bne_self_eq_false, Bool.false_eq_true]
      rw [show m + 3 * (i : Int) + 1 + 1 + 1 = m + 3 * ((i + 1 : Nat) : Int) by omega]
      exact h2)
    (m + 3 * (x.length : Int)) (Ev.step (f := fun _ => some (m + 3 * (x.length : Int))) (fun k => by
      simp only [laws_heldLinkS.l0]
      rw [if_neg (by simp)]) (Ev.now _))
  exact Ev.congr (fun k => by unfold laws_heldLinkS.f; simp) main2

/-! mark_Forest -/
theorem mark_Forest (x : S35) (h : UpI_Forest 1048576 x) (m : Int) (h0 : 0 ≤ m) (h1 : m ≤ 4611686018424242175) : ∃ (m' : Int) (z0 : List S51), Ev (fun k => laws_markForest.f k x.f0 x.f1 m) (m', z0) ∧ m ≤ m' ∧ m' ≤ m + 3145729 ∧ Ev (fun k => laws_heldForest.f k x.f0 z0 m) m' := by
  unfold UpI_Forest at h
  have i1 := h
  obtain ⟨m1, z0, ⟨K1, e1⟩, l1, u1, ⟨L1, d1⟩⟩ := mark_LinkS x.f1 i1 m (by omega) (by omega)
  refine ⟨m1, z0, ⟨K1, fun k hk => ?_⟩, by omega, by omega, ⟨L1, fun k hk => ?_⟩⟩
  · have e1 := e1 k (by omega); dsimp only at e1 ⊢; unfold laws_markForest.f; rw [e1]; simp only [Option.bind_some]
  · have d1 := d1 k (by omega); dsimp only at d1 ⊢; unfold laws_heldForest.f; rw [d1]; simp only [Option.bind_some]; rw [if_neg (by omega)]

/-! WfI_Link -/
def WfI_Link (x : S51) : Prop := (-9223372036854775808 ≤ x.f0 ∧ x.f0 ≤ 9223372036854775807) ∧ (-9223372036854775808 ≤ x.f1 ∧ x.f1 ≤ 9223372036854775807) ∧ (-9223372036854775808 ≤ x.f2 ∧ x.f2 ≤ 9223372036854775807)

/-! wf_Link -/
theorem wf_Link (x : S180) (h : (Lit.int .i64 x.f0).wf = true ∧ (Lit.int .i64 x.f1).wf = true ∧ (Lit.int .i64 x.f2).wf = true) : WfI_Link (cv_Link x) := by
  obtain ⟨j0, j1, j2⟩ := h
  exact ⟨(wf_i64 j0), (wf_i64 j1), (wf_i64 j2)⟩

/-! WfI_Forest -/
def WfI_Forest (x : S35) : Prop := (-9223372036854775808 ≤ x.f0 ∧ x.f0 ≤ 9223372036854775807) ∧ (∀ y ∈ x.f1, WfI_Link y)

/-! wf_Forest -/
theorem wf_Forest (x : S31) (h : (Lit.int .i64 x.f0).wf = true ∧ (x.f1.length ≤ 9223372036854775807 ∧ ∀ y0 ∈ x.f1, (Lit.int .i64 y0.f0).wf = true ∧ (Lit.int .i64 y0.f1).wf = true ∧ (Lit.int .i64 y0.f2).wf = true)) : WfI_Forest (cv_Forest x) := by
  obtain ⟨j0, j1⟩ := h
  exact ⟨(wf_i64 j0), (fun y hy => by obtain ⟨z, hz, rfl⟩ := List.mem_map.1 hy; exact wf_Link z (j1.2 z hz))⟩

/-! implInside -/
theorem inside_eq (a b c : Int) : impl_inside.f a b c = some (decide (b ≤ a ∧ a ≤ c)) := by
  unfold impl_inside.f
  by_cases h1 : b ≤ a
  · rw [if_pos h1]; simp [h1]
  · rw [if_neg h1]; simp [h1]

/-! specIn -/
theorem l1In_eq (a b c : Int) : spec_l1In.f a b c = some (decide (b ≤ a ∧ a ≤ c)) := by
  unfold spec_l1In.f
  by_cases h1 : b ≤ a
  · rw [if_pos h1]; simp [h1]
  · rw [if_neg h1]; simp [h1]

/-! merges -/
/-- What element i is when y has become x. -/
def mg (ls : List Int) (x y : Int) (i : Nat) : Int := if rd ls (i : Int) = y then x else rd ls (i : Int)
def mergeL (ls : List Int) (x y : Int) : List Int := (List.range ls.length).map (mg ls x y)
theorem mergeL_len (ls : List Int) (x y : Int) : (mergeL ls x y).length = ls.length := by simp [mergeL]
theorem filled_rd (conv : Nat → Int) (z : List Int) {i : Nat} (h : i < z.length) : rd (filled conv z i) (i : Int) = rd z (i : Int) := by
  have h1 : i < (filled conv z i).length := by rw [filled_len _ _ (by omega)]; exact h
  have e := getElem?_rd h1
  have e2 := getElem?_rd h
  unfold filled at e ⊢
  rw [List.getElem?_append_right (by simp), List.length_map, List.length_range, Nat.sub_self, List.getElem?_drop, Nat.add_zero, e2] at e
  exact (Option.some.inj e).symm
theorem filled_skip (conv : Nat → Int) (z : List Int) {i : Nat} (h : i < z.length) (hc : conv i = rd z (i : Int)) : filled conv z i = filled conv z (i + 1) := by
  rw [← filled_set conv z h]
  apply List.ext_getElem?
  intro j
  by_cases e : j = i
  · subst e
    have h1 : j < (filled conv z j).length := by rw [filled_len _ _ (by omega)]; exact h
    rw [List.getElem?_set_self h1, getElem?_rd h1, filled_rd conv z h, hc]
  · rw [List.getElem?_set_ne (Ne.symm e)]
/-- The lists of numbers 0 .. n - 1. -/
def idL (n : Nat) : List Int := (List.range n).map fun (i : Nat) => (i : Int)
theorem idL_len (n : Nat) : (idL n).length = n := by simp [idL]
theorem idL_succ (n : Nat) : idL (n + 1) = idL n ++ [(n : Int)] := by simp [idL, List.range_succ]

/-! steps -/
def stepL (ls : List Int) (e : S51) : List Int := mergeL ls (mn (rd ls e.f0) (rd ls e.f1)) (mx (rd ls e.f0) (rd ls e.f1))
theorem stepL_len (ls : List Int) (e : S51) : (stepL ls e).length = ls.length := mergeL_len _ _ _
theorem merge_spec (ls : List Int) (x y : Int) (hl : ls.length ≤ 1000000) : Ev (fun k => spec_l7Merge.l0 k ls x y 0) (mergeL ls x y) := by
  have main := up_loop ls.length (filled (mg ls x y) ls) (fun k s i => spec_l7Merge.l0 k s x y i)
    (fun i hi r h => by
      have h1 : (i : Int) < ((filled (mg ls x y) ls i).length : Int) := by rw [filled_len _ _ (by omega)]; omega
      by_cases c : rd ls (i : Int) = y
      · refine Ev.step (fun k => ?_) h
        simp only [spec_l7Merge.l0]
        rw [if_pos h1, if_pos (by omega), filled_rd _ _ hi, if_pos c, Int.toNat_natCast, wrap64_id (by omega) (by omega), ← filled_set _ _ hi, mg, if_pos c]
      · refine Ev.step (fun k => ?_) h
        simp only [spec_l7Merge.l0]
        rw [if_pos h1, if_pos (by omega), filled_rd _ _ hi, if_neg c, wrap64_id (by omega) (by omega), ← filled_skip _ _ hi (by rw [mg, if_neg c])])
    (mergeL ls x y) (Ev.step (f := fun _ => some (mergeL ls x y)) (fun k => by
      simp only [spec_l7Merge.l0]
      rw [if_neg (by rw [filled_len _ _ (Nat.le_refl _)]; omega), filled_all _ _ rfl]; rfl) (Ev.now _))
  rwa [filled_zero] at main
theorem l7Merge_ev (ls : List Int) (e : S51) (hl : ls.length ≤ 1000000) (ha : 0 ≤ e.f0 ∧ e.f0 < ls.length) (hb : 0 ≤ e.f1 ∧ e.f1 < ls.length) : Ev (fun k => spec_l7Merge.f k ls e.f0 e.f1) (stepL ls e) :=
  Ev.congr (fun k => by simp (disch := omega) only [spec_l7Merge.f, ↓if_pos]) (merge_spec ls _ _ hl)

/-! roots -/
def InL (n : Int) (e : S51) : Prop := 0 ≤ e.f0 ∧ e.f0 ≤ n - 1 ∧ 0 ≤ e.f1 ∧ e.f1 ≤ n - 1
theorem merge_impl (n : Int) (es : List S51) (j : Int) (ls : List Int) (x y : Int) (hl : ls.length ≤ 1000000) (r : List Int × Bool)
    (hend : Ev (fun k => impl_roots.l1 k (mergeL ls x y) es (es.length : Int) (wrap64 (j + 1)) n es) r) : Ev (fun k => impl_roots.l2 k ls x y es (es.length : Int) j (ls.length : Int) 0 n es) r := by
  have main := up_loop ls.length (filled (mg ls x y) ls) (fun k s i => impl_roots.l2 k s x y es (es.length : Int) j (ls.length : Int) i n es)
    (fun i hi r h => by
      have h1 : (i : Int) < ((filled (mg ls x y) ls i).length : Int) := by rw [filled_len _ _ (by omega)]; omega
      by_cases c : rd ls (i : Int) = y
      · refine Ev.step (fun k => ?_) h
        simp only [impl_roots.l2]
        rw [if_pos (by omega), if_pos (by omega), if_pos h1, filled_rd _ _ hi, if_pos c, Int.toNat_natCast, wrap64_id (by omega) (by omega), ← filled_set _ _ hi, mg, if_pos c]
      · refine Ev.step (fun k => ?_) h
        simp only [impl_roots.l2]
        rw [if_pos (by omega), if_pos (by omega), if_pos h1, filled_rd _ _ hi, if_neg c, wrap64_id (by omega) (by omega), ← filled_skip _ _ hi (by rw [mg, if_neg c])])
    r (Ev.step (fun k => by
      simp only [impl_roots.l2]
      rw [if_neg (by omega), filled_all _ _ rfl]; rfl) hend)
  rwa [filled_zero] at main
theorem roots_loop (n : Nat) (hn : n ≤ 1000) (es : List S51) (hes : es.length ≤ 1000) :
    ∀ d i, es.length - i = d → i ≤ es.length → ∀ ls : List Int, ls.length = n →
      (Ev (fun k => spec_ForestOk.l0 k ls (i : Int) (n : Int) es) true ∧ Ev (fun k => impl_roots.l1 k ls es (es.length : Int) (i : Int) (n : Int) es) ((es.drop i).foldl stepL ls, true) ∧ ∀ e ∈ es.drop i, InL n e) ∨
      (Ev (fun k => spec_ForestOk.l0 k ls (i : Int) (n : Int) es) false ∧ Ev (fun k => impl_roots.l1 k ls es (es.length : Int) (i : Int) (n : Int) es) ([], false)) := by
  intro d
  induction d with
  | zero =>
    intro i hd hi ls hls
    left
    have e : es.drop i = [] := List.drop_eq_nil_of_le (by omega)
    rw [e]
    refine ⟨Ev.step (f := fun _ => some true) (fun k => ?_) (Ev.now _), Ev.step (f := fun _ => some (ls, true)) (fun k => ?_) (Ev.now _), fun e he => by cases he⟩
    · simp (disch := omega) only [spec_ForestOk.l0, ↓if_neg]
    · simp (disch := omega) only [impl_roots.l1, ↓if_neg]
  | succ d ih =>
    intro i hd hi ls hls
    have hil : i < es.length := by omega
    obtain ⟨x, hx⟩ : ∃ x, x = rd_T51 es (i : Int) := ⟨_, rfl⟩
    have hdrop : es.drop i = x :: es.drop (i + 1) := by rw [List.drop_eq_getElem_cons hil, hx, rdE_T51 es i hil]
    have hw : True → wrap64 ((n : Int) - 1) = (n : Int) - 1 := fun _ => wrap64_id (by omega) (by omega)
    have hwi : True → wrap64 ((i : Int) + 1) = ((i + 1 : Nat) : Int) := fun _ => wrap_next i (by omega)
    by_cases ca : 0 ≤ x.f0 ∧ x.f0 ≤ (n : Int) - 1
    · have da := decide_eq_true ca
      by_cases cb : 0 ≤ x.f1 ∧ x.f1 ≤ (n : Int) - 1
      · have db := decide_eq_true cb
        by_cases cw : 0 ≤ x.f2 ∧ x.f2 ≤ 1000000
        · have dw := decide_eq_true cw
          by_cases ce : rd ls x.f0 = rd ls x.f1
          · right
            have be : (rd ls x.f0 == rd ls x.f1) = true := beq_iff_eq.2 ce
            refine ⟨Ev.step (f := fun _ => some false) (fun k => ?_) (Ev.now _), ⟨2, fun k hk => ?_⟩⟩
            · simp (disch := first | omega | trivial) only [spec_ForestOk.l0, ← hx, ↓if_pos, l1In_eq, hw, da, db, dw, Option.bind_some, ↓reduceIte, ce]
            · obtain ⟨m, rfl⟩ : ∃ m, k = m + 1 + 1 := ⟨k - 2, by omega⟩
              simp (disch := first | omega | trivial) only [impl_roots.l1, impl_roots.j3, ← hx, ↓if_pos, inside_eq, hw, da, db, dw, Option.bind_some, ↓reduceIte, be]
          · have be : (rd ls x.f0 == rd ls x.f1) = false := beq_eq_false_iff_ne.2 ce
            obtain ⟨K1, h1⟩ := Ev.binds (l7Merge_ev ls x (by omega) (by omega) (by omega))
            have s1 : ∀ z, Ev (fun k => spec_ForestOk.l0 k (stepL ls x) ((i + 1 : Nat) : Int) (n : Int) es) z → Ev (fun k => spec_ForestOk.l0 k ls (i : Int) (n : Int) es) z := by
              rintro z ⟨K, h⟩
              refine ⟨K + K1 + 1, fun k hk => ?_⟩
              obtain ⟨m, rfl⟩ : ∃ m, k = m + 1 := ⟨k - 1, by omega⟩
              have h := h m (by omega)
              simp (disch := first | omega | trivial) only [spec_ForestOk.l0, ← hx, ↓if_pos, l1In_eq, hw, da, db, dw, Option.bind_some, ↓reduceIte, if_neg ce, ↓h1, hwi]
              exact h
            have s2 : ∀ z, Ev (fun k => impl_roots.l1 k (stepL ls x) es (es.length : Int) ((i + 1 : Nat) : Int) (n : Int) es) z → Ev (fun k => impl_roots.l1 k ls es (es.length : Int) (i : Int) (n : Int) es) z := by
              intro z hz
              have hm := merge_impl (n : Int) es (i : Int) ls (mn (rd ls x.f0) (rd ls x.f1)) (mx (rd ls x.f0) (rd ls x.f1)) (by omega) z (by rw [hwi trivial]; exact hz)
              obtain ⟨K, h⟩ := hm
              refine ⟨K + 2, fun k hk => ?_⟩
              obtain ⟨m, rfl⟩ : ∃ m, k = m + 1 + 1 := ⟨k - 2, by omega⟩
              have h := h m (by omega)
              simp (disch := first | omega | trivial) only [impl_roots.l1, impl_roots.j3, ← hx, ↓if_pos, inside_eq, hw, da, db, dw, Option.bind_some, ↓reduceIte, be, Bool.false_eq_true]
              exact h
            rcases ih (i + 1) (by omega) (by omega) (stepL ls x) (by rw [stepL_len]; exact hls) with ⟨a1, a2, a3⟩ | ⟨a1, a2⟩
            · left
              rw [hdrop]
              refine ⟨s1 _ a1, s2 _ a2, fun e he => ?_⟩
              rcases List.mem_cons.1 he with rfl | he
              · exact ⟨ca.1, ca.2, cb.1, cb.2⟩
              · exact a3 e he
            · exact .inr ⟨s1 _ a1, s2 _ a2⟩
        · have dw := decide_eq_false cw
          right
          refine ⟨Ev.step (f := fun _ => some false) (fun k => ?_) (Ev.now _), ⟨2, fun k hk => ?_⟩⟩
          · simp (disch := first | omega | trivial) only [spec_ForestOk.l0, ← hx, ↓if_pos, l1In_eq, hw, da, db, dw, Option.bind_some, ↓reduceIte, Bool.false_eq_true]
          · obtain ⟨m, rfl⟩ : ∃ m, k = m + 1 + 1 := ⟨k - 2, by omega⟩
            simp (disch := first | omega | trivial) only [impl_roots.l1, impl_roots.j3, ← hx, ↓if_pos, inside_eq, hw, da, db, dw, Option.bind_some, ↓reduceIte, Bool.false_eq_true]
      · have db := decide_eq_false cb
        right
        refine ⟨Ev.step (f := fun _ => some false) (fun k => ?_) (Ev.now _), ⟨2, fun k hk => ?_⟩⟩
        · simp (disch := first | omega | trivial) only [spec_ForestOk.l0, ← hx, ↓if_pos, l1In_eq, hw, da, db, Option.bind_some, ↓reduceIte, Bool.false_eq_true]
        · obtain ⟨m, rfl⟩ : ∃ m, k = m + 1 + 1 := ⟨k - 2, by omega⟩
          simp (disch := first | omega | trivial) only [impl_roots.l1, impl_roots.j3, ← hx, ↓if_pos, inside_eq, hw, da, db, Option.bind_some, ↓reduceIte, Bool.false_eq_true]
    · have da := decide_eq_false ca
      right
      refine ⟨Ev.step (f := fun _ => some false) (fun k => ?_) (Ev.now _), ⟨2, fun k hk => ?_⟩⟩
      · simp (disch := first | omega | trivial) only [spec_ForestOk.l0, ← hx, ↓if_pos, l1In_eq, hw, da, Option.bind_some, ↓reduceIte, Bool.false_eq_true]
      · obtain ⟨m, rfl⟩ : ∃ m, k = m + 1 + 1 := ⟨k - 2, by omega⟩
        simp (disch := first | omega | trivial) only [impl_roots.l1, impl_roots.j3, ← hx, ↓if_pos, inside_eq, hw, da, Option.bind_some, ↓reduceIte, Bool.false_eq_true]
theorem least_start (n : Nat) (hn : n ≤ 1000) (es : List S51) (r : List Int) (h : Ev (fun k => spec_l7Least.l1 k es (idL n) 0) r) : Ev (fun k => spec_l7Least.f k (n : Int) es) r := by
  have main := up_loop n (fun i => idL i) (fun k s i => spec_l7Least.l0 k (n : Int) es s i)
    (fun i hi r h => Ev.step (fun k => by
      simp only [spec_l7Least.l0]
      rw [if_pos (by omega), if_pos (by rw [idL_len]; omega), wrap64_id (by omega) (by omega), ← idL_succ]) h)
    r (Ev.step (fun k => by
      simp only [spec_l7Least.l0]
      rw [if_neg (by omega)]) h)
  exact Ev.congr (fun k => rfl) main
theorem least_loop (n : Nat) (hn : n ≤ 1000) (es : List S51) (hes : es.length ≤ 1000) :
    ∀ d i, es.length - i = d → i ≤ es.length → ∀ ls : List Int, ls.length = n → (∀ e ∈ es.drop i, InL n e) → Ev (fun k => spec_l7Least.l1 k es ls (i : Int)) ((es.drop i).foldl stepL ls) := by
  intro d
  induction d with
  | zero =>
    intro i hd hi ls hls _
    have e : es.drop i = [] := List.drop_eq_nil_of_le (by omega)
    rw [e]
    exact Ev.step (f := fun _ => some ls) (fun k => by simp (disch := omega) only [spec_l7Least.l1, ↓if_neg]) (Ev.now _)
  | succ d ih =>
    intro i hd hi ls hls hin
    have hil : i < es.length := by omega
    obtain ⟨x, hx⟩ : ∃ x, x = rd_T51 es (i : Int) := ⟨_, rfl⟩
    have hdrop : es.drop i = x :: es.drop (i + 1) := by rw [List.drop_eq_getElem_cons hil, hx, rdE_T51 es i hil]
    rw [hdrop] at hin ⊢
    obtain ⟨a1, a2, a3, a4⟩ := hin x (by simp)
    obtain ⟨K1, h1⟩ := Ev.binds (l7Merge_ev ls x (by omega) (by omega) (by omega))
    obtain ⟨K, h⟩ := ih (i + 1) (by omega) (by omega) (stepL ls x) (by rw [stepL_len]; exact hls) (fun e he => hin e (by simp [he]))
    refine ⟨K + K1 + 1, fun k hk => ?_⟩
    obtain ⟨m, rfl⟩ : ∃ m, k = m + 1 := ⟨k - 1, by omega⟩
    have h := h m (by omega)
    simp (disch := omega) only [spec_l7Least.l1, ← hx, ↓if_pos, ↓h1, wrap_next]
    exact h
/-- What both say of a forest. -/
theorem forest_core (size : Int) (es : List S51) :
    (Ev (fun k => spec_ForestOk.f k size es) true ∧ 0 ≤ size ∧ size ≤ 1000 ∧ (es.length : Int) ≤ size ∧ (∀ e ∈ es, InL size e) ∧ Ev (fun k => impl_roots.f k size es) (es.foldl stepL (idL size.toNat), true) ∧ Ev (fun k => spec_l7Least.f k size es) (es.foldl stepL (idL size.toNat))) ∨
    (Ev (fun k => spec_ForestOk.f k size es) false ∧ Ev (fun k => impl_roots.f k size es) ([], false)) := by
  by_cases cs : 0 ≤ size ∧ size ≤ 1000
  · have ds := decide_eq_true cs
    obtain ⟨n, rfl⟩ := Int.eq_ofNat_of_zero_le cs.1
    by_cases cl : (es.length : Int) > (n : Int)
    · have dl := decide_eq_true cl
      right
      refine ⟨⟨1, fun k hk => ?_⟩, ⟨1, fun k hk => ?_⟩⟩
      · obtain ⟨m, rfl⟩ : ∃ m, k = m + 1 := ⟨k - 1, by omega⟩
        simp (disch := omega) only [spec_ForestOk.f, l1In_eq, ds, Option.bind_some, ↓reduceIte, dl, spec_ForestOk.j0]
      · obtain ⟨m, rfl⟩ : ∃ m, k = m + 1 := ⟨k - 1, by omega⟩
        simp (disch := omega) only [impl_roots.f, inside_eq, ds, Option.bind_some, ↓reduceIte, dl, impl_roots.j0]
    · have dl := decide_eq_false cl
      obtain ⟨K0, h0⟩ := Ev.binds (least_start n (by omega) [] (idL n) (Ev.step (f := fun _ => some (idL n)) (fun k => by simp (disch := first | omega | simp) only [spec_l7Least.l1, ↓if_neg, List.length_nil]) (Ev.now _)))
      have s1 : ∀ z, Ev (fun k => spec_ForestOk.l0 k (idL n) ((0 : Nat) : Int) (n : Int) es) z → Ev (fun k => spec_ForestOk.f k (n : Int) es) z := by
        rintro z ⟨K, h⟩
        refine ⟨K + K0 + 1, fun k hk => ?_⟩
        obtain ⟨m, rfl⟩ : ∃ m, k = m + 1 := ⟨k - 1, by omega⟩
        have h := h m (by omega)
        simp (disch := omega) only [spec_ForestOk.f, l1In_eq, ds, Option.bind_some, ↓reduceIte, dl, spec_ForestOk.j0, Bool.false_eq_true, ↓h0]
        exact h
      have s2 : ∀ z, Ev (fun k => impl_roots.l1 k (idL n) es (es.length : Int) ((0 : Nat) : Int) (n : Int) es) z → Ev (fun k => impl_roots.f k (n : Int) es) z := by
        intro z hz
        have main := up_loop n (filled (fun (i : Nat) => (i : Int)) (List.replicate n 0)) (fun k s i => impl_roots.l0 k s (n : Int) i (n : Int) es)
          (fun i hi r h => Ev.step (fun k => by
            simp only [impl_roots.l0]
            rw [if_pos (by omega), if_pos (by omega), if_pos (by rw [filled_len _ _ (by simp; omega)]; simp; omega), Int.toNat_natCast, wrap64_id (by omega) (by omega), ← filled_set _ _ (by simpa using hi)]) h)
          z (Ev.step (fun k => by
            simp only [impl_roots.l0]
            rw [if_neg (by omega), filled_all _ _ (by simp)]; rfl) hz)
        rw [filled_zero] at main
        obtain ⟨K, h⟩ := main
        refine ⟨K + 1, fun k hk => ?_⟩
        obtain ⟨m, rfl⟩ : ∃ m, k = m + 1 := ⟨k - 1, by omega⟩
        have h := h m (by omega)
        simp (disch := omega) only [impl_roots.f, inside_eq, ds, Option.bind_some, ↓reduceIte, dl, impl_roots.j0, Bool.false_eq_true, ↓if_pos, Int.toNat_natCast, List.length_replicate]
        exact h
      rcases roots_loop n (by omega) es (by omega) es.length 0 (by omega) (by omega) (idL n) (idL_len n) with ⟨a1, a2, a3⟩ | ⟨a1, a2⟩
      · left
        have hl := least_loop n (by omega) es (by omega) es.length 0 (by omega) (by omega) (idL n) (idL_len n) a3
        rw [List.drop_zero] at a2 a3 hl
        exact ⟨s1 _ a1, cs.1, cs.2, by omega, a3, s2 _ a2, least_start n (by omega) es _ hl⟩
      · exact .inr ⟨s1 _ a1, s2 _ a2⟩
  · have ds := decide_eq_false cs
    right
    refine ⟨⟨1, fun k hk => ?_⟩, ⟨1, fun k hk => ?_⟩⟩
    · obtain ⟨m, rfl⟩ : ∃ m, k = m + 1 := ⟨k - 1, by omega⟩
      simp (disch := omega) only [spec_ForestOk.f, l1In_eq, ds, Option.bind_some, ↓reduceIte, Bool.false_eq_true, spec_ForestOk.j0]
    · obtain ⟨m, rfl⟩ : ∃ m, k = m + 1 := ⟨k - 1, by omega⟩
      simp (disch := omega) only [impl_roots.f, inside_eq, ds, Option.bind_some, ↓reduceIte, Bool.false_eq_true, impl_roots.j0]
theorem foldL_len (es : List S51) : ∀ ls : List Int, (es.foldl stepL ls).length = ls.length := by
  induction es with
  | nil => exact fun _ => rfl
  | cons e es ih => exact fun ls => by rw [List.foldl_cons, ih, stepL_len]

/-! joinOf -/
theorem join_agree (size : Int) (es : List S51) (a b c : Int) (U0 : UpI_Forest 1048576 ⟨size, es⟩) (W0 : WfI_Forest ⟨size, es⟩) (W1 : (-9223372036854775808 ≤ a ∧ a ≤ 9223372036854775807)) (W2 : (-9223372036854775808 ≤ b ∧ b ≤ 9223372036854775807)) (W3 : (-9223372036854775808 ≤ c ∧ c ≤ 9223372036854775807)) :
    ∃ y0_0 y0_1 y1 y2, Ev (fun k => spec_Join.f k size es a b c) (y0_0, y0_1, y1, y2) ∧ Ev (fun k => impl_Join.f k size es a b c) (y0_0, y0_1, y1, y2) ∧ UpI_Forest 1048576 ⟨y0_0, y0_1⟩ := by
  have none_ : UpI_Forest 1048576 ⟨0, ([] : List S51)⟩ := by unfold UpI_Forest; simp
  rcases forest_core size es with ⟨h1, s0, s1, s2, _, h2, h3⟩ | ⟨h1, h2⟩
  · obtain ⟨K1, h1⟩ := Ev.binds h1
    obtain ⟨K2, h2⟩ := Ev.binds h2
    obtain ⟨K3, h3⟩ := Ev.binds h3
    have hw : True → wrap64 (size - 1) = size - 1 := fun _ => wrap64_id (by omega) (by omega)
    have hlen : (es.foldl stepL (idL size.toNat)).length = size.toNat := by rw [foldL_len, idL_len]
    have no : ∀ (P Q : Nat → Option (Int × List S51 × Bool × Bool)), (∀ m, P (m + 1) = some (0, [], false, false)) → (∀ m, Q (m + 1) = some (0, [], false, false)) → (∀ k, K1 ≤ k → spec_Join.f k size es a b c = P k) → (∀ k, K2 ≤ k → impl_Join.f k size es a b c = Q k) →
        ∃ y0_0 y0_1 y1 y2, Ev (fun k => spec_Join.f k size es a b c) (y0_0, y0_1, y1, y2) ∧ Ev (fun k => impl_Join.f k size es a b c) (y0_0, y0_1, y1, y2) ∧ UpI_Forest 1048576 ⟨y0_0, y0_1⟩ := fun P Q hP hQ e1 e2 =>
      ⟨0, [], false, false, ⟨K1 + 1, fun k hk => by
        obtain ⟨m, rfl⟩ : ∃ m, k = m + 1 := ⟨k - 1, by omega⟩
        exact (e1 _ (by omega)).trans (hP m)⟩, ⟨K2 + 1, fun k hk => by
        obtain ⟨m, rfl⟩ : ∃ m, k = m + 1 := ⟨k - 1, by omega⟩
        exact (e2 _ (by omega)).trans (hQ m)⟩, none_⟩
    by_cases ca : 0 ≤ a ∧ a ≤ size - 1
    · have da := decide_eq_true ca
      by_cases cb : 0 ≤ b ∧ b ≤ size - 1
      · have db := decide_eq_true cb
        by_cases cc : 0 ≤ c ∧ c ≤ 1000000
        · have dc := decide_eq_true cc
          by_cases ce : rd (es.foldl stepL (idL size.toNat)) a = rd (es.foldl stepL (idL size.toNat)) b
          · refine ⟨size, es, false, true, ⟨K1 + K3 + 1, fun k hk => ?_⟩, ⟨K2 + 1, fun k hk => ?_⟩, by unfold UpI_Forest; simp only; omega⟩
            · obtain ⟨m, rfl⟩ : ∃ m, k = m + 1 := ⟨k - 1, by omega⟩
              simp (disch := first | omega | trivial | (simp only [List.length_nil]; omega)) only [spec_Join.f, spec_Join.j0, ↓h1, ↓h3, ↓reduceIte, spec_l7Node.f, l1In_eq, hw, da, db, dc, Option.bind_some, ↓if_pos, spec_l7Copy.f, List.nil_append, Bool.not_true, Bool.false_eq_true, ce]
            · obtain ⟨m, rfl⟩ : ∃ m, k = m + 1 := ⟨k - 1, by omega⟩
              simp (disch := first | omega | trivial) only [impl_Join.f, impl_Join.j0, impl_cloneForest.f, impl_Link.f, ↓h2, ↓reduceIte, inside_eq, hw, da, db, dc, Option.bind_some, ↓if_pos, Bool.not_true, Bool.false_eq_true, ce]
          · refine ⟨size, es ++ [⟨a, b, c⟩], true, true, ⟨K1 + K3 + 1, fun k hk => ?_⟩, ⟨K2 + 1, fun k hk => ?_⟩, by unfold UpI_Forest; simp only [List.length_append, List.length_singleton]; omega⟩
            · obtain ⟨m, rfl⟩ : ∃ m, k = m + 1 := ⟨k - 1, by omega⟩
              simp (disch := first | omega | trivial | (simp only [List.length_nil]; omega)) only [spec_Join.f, spec_Join.j0, ↓h1, ↓h3, ↓reduceIte, spec_l7Node.f, l1In_eq, hw, da, db, dc, Option.bind_some, ↓if_pos, spec_l7Copy.f, List.nil_append, Bool.not_true, Bool.false_eq_true, if_neg ce]
            · obtain ⟨m, rfl⟩ : ∃ m, k = m + 1 := ⟨k - 1, by omega⟩
              simp (disch := first | omega | trivial) only [impl_Join.f, impl_Join.j0, impl_cloneForest.f, impl_Link.f, ↓h2, ↓reduceIte, inside_eq, hw, da, db, dc, Option.bind_some, ↓if_pos, Bool.not_true, Bool.false_eq_true, if_neg ce]
        · have dc := decide_eq_false cc
          refine no (fun k => spec_Join.j0 k a b c true size es) (fun k => impl_Join.j0 k a b c (es.foldl stepL (idL size.toNat)) true size es) (fun m => by simp only [spec_Join.j0, ↓reduceIte]) (fun m => by simp only [impl_Join.j0, ↓reduceIte]) (fun k hk => ?_) (fun k hk => ?_)
          · simp (disch := first | omega | trivial) only [spec_Join.f, ↓h1, ↓reduceIte, spec_l7Node.f, l1In_eq, hw, da, db, dc, Option.bind_some, Bool.not_false]
          · simp (disch := first | omega | trivial) only [impl_Join.f, ↓h2, ↓reduceIte, inside_eq, hw, da, db, dc, Option.bind_some, Bool.not_false]
      · have db := decide_eq_false cb
        refine no (fun k => spec_Join.j0 k a b c true size es) (fun k => impl_Join.j0 k a b c (es.foldl stepL (idL size.toNat)) true size es) (fun m => by simp only [spec_Join.j0, ↓reduceIte]) (fun m => by simp only [impl_Join.j0, ↓reduceIte]) (fun k hk => ?_) (fun k hk => ?_)
        · simp (disch := first | omega | trivial) only [spec_Join.f, ↓h1, ↓reduceIte, spec_l7Node.f, l1In_eq, hw, da, db, Option.bind_some, Bool.false_eq_true]
        · simp (disch := first | omega | trivial) only [impl_Join.f, ↓h2, ↓reduceIte, inside_eq, hw, da, db, Option.bind_some, Bool.false_eq_true]
    · have da := decide_eq_false ca
      refine no (fun k => spec_Join.j0 k a b c true size es) (fun k => impl_Join.j0 k a b c (es.foldl stepL (idL size.toNat)) true size es) (fun m => by simp only [spec_Join.j0, ↓reduceIte]) (fun m => by simp only [impl_Join.j0, ↓reduceIte]) (fun k hk => ?_) (fun k hk => ?_)
      · simp (disch := first | omega | trivial) only [spec_Join.f, ↓h1, ↓reduceIte, spec_l7Node.f, l1In_eq, hw, da, Option.bind_some, Bool.false_eq_true]
      · simp (disch := first | omega | trivial) only [impl_Join.f, ↓h2, ↓reduceIte, inside_eq, hw, da, Option.bind_some, Bool.false_eq_true]
  · obtain ⟨K1, h1⟩ := Ev.binds h1
    obtain ⟨K2, h2⟩ := Ev.binds h2
    refine ⟨0, [], false, false, ⟨K1 + 1, fun k hk => ?_⟩, ⟨K2 + 1, fun k hk => ?_⟩, none_⟩
    · obtain ⟨m, rfl⟩ : ∃ m, k = m + 1 := ⟨k - 1, by omega⟩
      simp (disch := omega) only [spec_Join.f, ↓h1, ↓reduceIte, Bool.false_eq_true, spec_Join.j0]
    · obtain ⟨m, rfl⟩ : ∃ m, k = m + 1 := ⟨k - 1, by omega⟩
      simp (disch := omega) only [impl_Join.f, ↓h2, ↓reduceIte, Bool.false_eq_true, impl_Join.j0]
-- SAYS: The program's Join answers as the reference's Join does, for all arguments.
theorem FnExactJoin (a0_0 : Int) (l0_1 : List S180) (a1 : Int) (a2 : Int) (a3 : Int) (q0_0 : (Lit.int .i64 a0_0).wf = true) (q0_1 : ∀ x ∈ l0_1, (Lit.int .i64 x.f0).wf = true ∧ (Lit.int .i64 x.f1).wf = true ∧ (Lit.int .i64 x.f2).wf = true) (hl0_1 : l0_1.length ≤ 9223372036854775807) (q1 : (Lit.int .i64 a1).wf = true) (q2 : (Lit.int .i64 a2).wf = true) (q3 : (Lit.int .i64 a3).wf = true) : ∃ k, laws_FnExactJoin.f k a0_0 l0_1 a1 a2 a3 = some true := by
  obtain ⟨r0, g0, hb0⟩ := sz_Forest (⟨a0_0, l0_1⟩ : S31) 1048576 (in_Forest (⟨a0_0, l0_1⟩ : S31) ⟨q0_0, (And.intro hl0_1 q0_1)⟩) (by omega) (by omega)
  obtain ⟨Ks0, s00⟩ := Ev.binds (g0)
  have s0 := s00 Ks0 (Nat.le_refl _)
  try dsimp only [cv_Forest] at s0
  rcases hb0 with hneg | ⟨p0, z0, u0⟩
  · have c0 := eq_true hneg
    exact ⟨1 + 1 + 1 + 1, by simp (disch := omega) only [laws_FnExactJoin.f, laws_FnExactJoin.j0, laws_FnExactJoin.j1, laws_FnExactJoin.j2, ↓s0, ↓reduceIte, c0]⟩
  have c0 := eq_false (show ¬ r0 < 0 by omega)
  have U0 : UpI_Forest 1048576 ((cv_Forest (⟨a0_0, l0_1⟩ : S31))) := (upcv_Forest _ _ u0)
  have W0 : WfI_Forest ((cv_Forest (⟨a0_0, l0_1⟩ : S31))) := wf_Forest (⟨a0_0, l0_1⟩ : S31) ⟨q0_0, (And.intro hl0_1 q0_1)⟩
  have W1 : (-9223372036854775808 ≤ a1 ∧ a1 ≤ 9223372036854775807) := (wf_i64 q1)
  have W2 : (-9223372036854775808 ≤ a2 ∧ a2 ≤ 9223372036854775807) := (wf_i64 q2)
  have W3 : (-9223372036854775808 ≤ a3 ∧ a3 ≤ 9223372036854775807) := (wf_i64 q3)
  obtain ⟨y0_0, y0_1, y1, y2, e1, e2, v0⟩ := join_agree a0_0 ((l0_1.map cv_Link)) a1 a2 a3 U0 W0 W1 W2 W3
  obtain ⟨Kt0, t0⟩ := Ev.binds (to_Forest (⟨a0_0, l0_1⟩ : S31) u0)
  try dsimp only [cv_Forest] at t0
  obtain ⟨Khs, hs⟩ := Ev.binds (e1)
  obtain ⟨Khi, hi⟩ := Ev.binds (e2)
  obtain ⟨Ke0_, e0_⟩ := Ev.binds (eq_Forest ((cv_Forest (⟨a0_0, l0_1⟩ : S31))) U0)
  try dsimp only [cv_Forest] at e0_
  obtain ⟨Kf0_, f0_⟩ := Ev.binds (eq_Forest (⟨y0_0, y0_1⟩ : S35) v0)
  try dsimp only [cv_Forest] at f0_
  obtain ⟨m0, n0_0, g0_, o0, w0, _⟩ := mark_Forest ((cv_Forest (⟨a0_0, l0_1⟩ : S31))) U0 1 (by omega) (by omega)
  obtain ⟨Kk0_, k0_⟩ := Ev.binds (g0_)
  try dsimp only [cv_Forest] at k0_
  have cm := eq_false (show ¬ m0 < 0 by omega)
  obtain ⟨M0, N0_0, G0_, O0, A0, H0_⟩ := mark_Forest (⟨y0_0, y0_1⟩ : S35) v0 1 (by omega) (by omega)
  obtain ⟨Kx0_, x0_⟩ := Ev.binds (G0_)
  try dsimp only [cv_Forest] at x0_
  obtain ⟨Kz0_, z0_⟩ := Ev.binds (H0_)
  try dsimp only [cv_Forest] at z0_
  have cn0 := eq_false (show ¬ M0 < 0 by omega)
  exact ⟨Kt0 + Khs + Khi + Ke0_ + Kf0_ + Kk0_ + Kx0_ + Kz0_ + 1 + 1 + 1 + 1, by simp (disch := omega) only [laws_FnExactJoin.f, laws_FnExactJoin.j0, laws_FnExactJoin.j1, laws_FnExactJoin.j2, ↓s0, ↓t0, ↓hs, ↓hi, ↓e0_, ↓f0_, ↓k0_, ↓x0_, ↓z0_, ↓reduceIte, c0, cm, cn0, bne_self_eq_false, Bool.false_eq_true]⟩

end Go.Proofs.Ytkjlplcdjdenkaa.Pure
