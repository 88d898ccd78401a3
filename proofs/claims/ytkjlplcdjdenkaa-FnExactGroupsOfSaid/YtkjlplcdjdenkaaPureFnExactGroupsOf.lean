/- The program's GroupsOf answers as the reference's GroupsOf does, for all arguments. -/
import Derived.Test.YtkjlplcdjdenkaaPFnExactGroupsOfx9
import Derived.Test.YtkjlplcdjdenkaaBits
import Derived.Test.YtkjlplcdjdenkaaLoops
namespace Go.Proofs.Ytkjlplcdjdenkaa.Pure
open Go Go.RowKit Go.Proofs.Ytkjlplcdjdenkaa.PFnExactGroupsOf Go.Proofs.YtkjlplcdjdenkaaW.PrintWords Go.Proofs.YtkjlplcdjdenkaaW.PrintLast Go.Proofs.YtkjlplcdjdenkaaW.PrintMore Go.Proofs.Ytkjlplcdjdenkaa.BitsLib Go.Proofs.Ytkjlplcdjdenkaa.Loops
set_option linter.unusedVariables false
set_option linter.unusedSimpArgs false
set_option maxRecDepth 4000

/-! wrap_next -/
theorem wrap_next (i : Nat) (h : i < 4611686018427387904) : wrap64 ((i : Int) + 1) = ((i + 1 : Nat) : Int) := by
  rw [wrap64_id (by omega) (by omega)]; rfl

/-! szn_out -/
theorem szn_out (n : Nat) (left : Int) (hn : (n : Int) ≤ 9223372036854775807) (h0 : 0 ≤ left) (h1 : left ≤ 1048576) :
    ∃ r, (True → wrap64 (left - (n : Int)) = r) ∧ (r < 0 ∨ (0 ≤ r ∧ r ≤ left ∧ (n : Int) ≤ 1048576)) := by
  refine ⟨left - (n : Int), fun _ => wrap64_id (by omega) (by omega), ?_⟩
  by_cases c : left - (n : Int) < 0
  · exact .inl c
  · exact .inr (by omega)

/-! rdE_L3 -/
theorem rdE_L3 (l : List (List Int)) (i : Nat) (h : i < l.length) : rd_L3 l (i : Int) = l[i] := by
  unfold rd_L3
  rw [List.getD_eq_getElem?_getD, Int.toNat_natCast, List.getElem?_eq_getElem h]; rfl
theorem rdM_L3 (l : List (List Int)) (i : Nat) (h : i < l.length) : rd_L3 l (i : Int) ∈ l := by rw [rdE_L3 l i h]; exact List.getElem_mem h

/-! UpL_Link -/
def UpL_Link (c : Int) (x : S180) : Prop := True

/-! rdE_T180 -/
theorem rdE_T180 (l : List S180) (i : Nat) (h : i < l.length) : rd_T180 l (i : Int) = l[i] := by
  unfold rd_T180
  rw [List.getD_eq_getElem?_getD, Int.toNat_natCast, List.getElem?_eq_getElem h]; rfl
theorem rdM_T180 (l : List S180) (i : Nat) (h : i < l.length) : rd_T180 l (i : Int) ∈ l := by rw [rdE_T180 l i h]; exact List.getElem_mem h

/-! S31 -/
structure S31 where
  f0 : Int
  f1 : List S180

/-! UpL_Forest -/
def UpL_Forest (c : Int) (x : S31) : Prop := ((x.f1.length : Int) ≤ c)

/-! sz_LinkS -/
theorem sz_LinkS (x : List S180) (left : Int) (hin : ((x.length : Int) ≤ 9223372036854775807)) (h0 : 0 ≤ left) (h1 : left ≤ 1048576) :
    ∃ r, Ev (fun k => laws_szLinkS.f x left) r ∧ (r < 0 ∨ (0 ≤ r ∧ r ≤ left ∧ ((x.length : Int) ≤ 1048576))) := by
  obtain ⟨r, hr, hb⟩ := szn_out x.length left hin h0 h1
  rcases hb with c | ⟨p0, q0, u0⟩
  · exact ⟨-1, ⟨0, fun k _ => by dsimp only; unfold laws_szLinkS.f; rw [hr trivial, if_pos c]⟩, .inl (by omega)⟩
  · exact ⟨r, ⟨0, fun k _ => by dsimp only; unfold laws_szLinkS.f; rw [hr trivial, if_neg (by omega)]⟩, .inr ⟨p0, q0, u0⟩⟩

/-! sz_Forest -/
theorem sz_Forest (x : S31) (left : Int) (hin : UpL_Forest 9223372036854775807 x) (h0 : 0 ≤ left) (h1 : left ≤ 1048576) :
    ∃ r, Ev (fun k => laws_szForest.f x.f0 x.f1 left) r ∧ (r < 0 ∨ (0 ≤ r ∧ r ≤ left ∧ UpL_Forest 1048576 x)) := by
  unfold UpL_Forest at hin
  have i1 := hin
  obtain ⟨r1, ⟨K1, e1⟩, hb1⟩ := sz_LinkS x.f1 left i1 (by omega) (by omega)
  rcases hb1 with c1 | ⟨p1, q1, u1⟩
  · exact ⟨-1, ⟨K1, fun k hk => by have e1 := e1 k (by omega); dsimp only at e1 ⊢; unfold laws_szForest.f; rw [e1]; simp only [Option.bind_some]; rw [if_pos c1]⟩, .inl (by omega)⟩
  exact ⟨r1, ⟨K1, fun k hk => by have e1 := e1 k (by omega); dsimp only at e1 ⊢; unfold laws_szForest.f; rw [e1]; simp only [Option.bind_some]; rw [if_neg (by omega)]⟩, .inr ⟨by omega, by omega, u1⟩⟩

/-! UpI_Link -/
def UpI_Link (c : Int) (x : S51) : Prop := True

/-! rdE_T51 -/
theorem rdE_T51 (l : List S51) (i : Nat) (h : i < l.length) : rd_T51 l (i : Int) = l[i] := by
  unfold rd_T51
  rw [List.getD_eq_getElem?_getD, Int.toNat_natCast, List.getElem?_eq_getElem h]; rfl
theorem rdM_T51 (l : List S51) (i : Nat) (h : i < l.length) : rd_T51 l (i : Int) ∈ l := by rw [rdE_T51 l i h]; exact List.getElem_mem h

/-! cv_Link -/
def cv_Link (x : S180) : S51 := ⟨x.f0, x.f1, x.f2⟩

/-! S35 -/
structure S35 where
  f0 : Int
  f1 : List S51

/-! UpI_Forest -/
def UpI_Forest (c : Int) (x : S35) : Prop := ((x.f1.length : Int) ≤ c)

/-! cv_Forest -/
def cv_Forest (x : S31) : S35 := ⟨x.f0, (x.f1.map cv_Link)⟩

/-! upcv_Forest -/
theorem upcv_Forest (c : Int) (x : S31) (h : UpL_Forest c x) : UpI_Forest c (cv_Forest x) := by
  unfold UpL_Forest at h
  unfold UpI_Forest
  have i1 := h
  exact (by simpa [cv_Forest] using i1)

/-! in_Forest -/
theorem in_Forest (x : S31) (h : (Lit.int .i64 x.f0).wf = true ∧ (x.f1.length ≤ 9223372036854775807 ∧ ∀ y0 ∈ x.f1, (Lit.int .i64 y0.f0).wf = true ∧ (Lit.int .i64 y0.f1).wf = true ∧ (Lit.int .i64 y0.f2).wf = true)) : UpL_Forest 9223372036854775807 x := by
  obtain ⟨j0, j1⟩ := h
  unfold UpL_Forest
  exact (Int.ofNat_le.2 j1.1)

/-! to_Link -/
theorem to_Link (x : S180) (h : UpL_Link 1048576 x) : Ev (fun k => laws_toLink.f x.f0 x.f1 x.f2) ((cv_Link x).f0, (cv_Link x).f1, (cv_Link x).f2) := by
  refine ⟨0, fun k hk => ?_⟩
  dsimp only
  simp only [laws_toLink.f, Option.bind_some]
  all_goals rfl

/-! to_LinkS -/
theorem to_LinkS (x : List S180) (h : ((x.length : Int) ≤ 1048576)) : Ev (fun k => laws_toLinkS.f k x) (x.map cv_Link) := by
  have hl := h
  have main := up_loop x.length (filled (fun i => (cv_Link (rd_T180 x i))) (List.replicate x.length z51)) (fun k xs i => laws_toLinkS.l0 k x xs i)
    (fun i hi r h2 => by
      obtain ⟨K, he⟩ := to_Link (rd_T180 x (i : Int)) trivial
      obtain ⟨K2, h2⟩ := h2
      refine ⟨K + K2 + 1, fun k hk => ?_⟩
      obtain ⟨m, rfl⟩ : ∃ m, k = m + 1 := ⟨k - 1, by omega⟩
      have h2 := h2 m (by omega)
      have he := he m (by omega)
      dsimp only at he h2 ⊢
      rw [← filled_set _ _ (by simpa using hi)] at h2
      simp only [laws_toLinkS.l0]
      rw [if_pos (by omega), if_pos (by omega), he]
      simp only [Option.bind_some]
      rw [if_pos (by rw [filled_len _ _ (by simp; omega)]; simp; omega), Int.toNat_natCast, wrap64_id (by omega) (by omega)]
      exact h2)
    (x.map cv_Link) (Ev.step (f := fun _ => some (x.map cv_Link)) (fun k => by
      simp only [laws_toLinkS.l0]
      rw [if_neg (by omega), filled_all _ _ (by simp)]
      congr 1
      apply List.ext_getElem?
      intro i
      by_cases hi : i < x.length
      · simp [hi, rdE_T180]
      · rw [List.getElem?_eq_none (by first | omega | (simp; omega)), List.getElem?_eq_none (by first | omega | (simp; omega))]) (Ev.now _))
  rw [filled_zero] at main
  refine Ev.congr (fun k => ?_) main
  unfold laws_toLinkS.f
  rw [if_pos (by omega), if_pos (by omega), Int.toNat_natCast]

/-! to_Forest -/
theorem to_Forest (x : S31) (h : UpL_Forest 1048576 x) : Ev (fun k => laws_toForest.f k x.f0 x.f1) ((cv_Forest x).f0, (cv_Forest x).f1) := by
  unfold UpL_Forest at h
  have i1 := h
  obtain ⟨K1, e1⟩ := to_LinkS x.f1 i1
  refine ⟨K1, fun k hk => ?_⟩
  have e1 := e1 k (by omega)
  dsimp only at e1 ⊢
  simp only [laws_toForest.f, e1, Option.bind_some]
  all_goals rfl

/-! eq_Link -/
theorem eq_Link (x : S51) (h : UpI_Link 1048576 x) : Ev (fun k => laws_eqLink.f x.f0 x.f1 x.f2 x.f0 x.f1 x.f2) true := by
  refine ⟨0, fun k hk => ?_⟩
  dsimp only
  simp only [laws_eqLink.f, Option.bind_some, if_true, ↓reduceIte, bne_self_eq_false, Bool.false_eq_true]

/-! eq_LinkS -/
theorem eq_LinkS (x : List S51) (h : ((x.length : Int) ≤ 1048576)) : Ev (fun k => laws_eqLinkS.f k x x) true := by
  have hl := h
  have main := up_loop x.length (fun _ => ()) (fun k _ i => laws_eqLinkS.l0 k x x i)
    (fun i hi r h2 => by
      obtain ⟨K, he⟩ := eq_Link (rd_T51 x (i : Int)) trivial
      obtain ⟨K2, h2⟩ := h2
      refine ⟨K + K2 + 1, fun k hk => ?_⟩
      obtain ⟨m, rfl⟩ : ∃ m, k = m + 1 := ⟨k - 1, by omega⟩
      have h2 := h2 m (by omega)
      have he := he m (by omega)
      dsimp only at he h2 ⊢
      simp only [laws_eqLinkS.l0]
      rw [if_pos (by omega), if_pos (by omega), if_pos (by omega), he]
      simp only [Option.bind_some, if_true, ↓reduceIte]
      rw [wrap64_id (by omega) (by omega)]
      exact h2)
    true (Ev.step (f := fun _ => some true) (fun k => by
      simp only [laws_eqLinkS.l0]
      rw [if_neg (by omega)]) (Ev.now _))
  obtain ⟨K, h⟩ := main
  refine ⟨K, fun k hk => ?_⟩
  have h := h k hk
  dsimp only at h ⊢
  unfold laws_eqLinkS.f
  rw [if_pos rfl]
  exact h

/-! eq_Forest -/
theorem eq_Forest (x : S35) (h : UpI_Forest 1048576 x) : Ev (fun k => laws_eqForest.f k x.f0 x.f1 x.f0 x.f1) true := by
  unfold UpI_Forest at h
  have i1 := h
  obtain ⟨K1, e1⟩ := eq_LinkS x.f1 i1
  refine ⟨K1, fun k hk => ?_⟩
  have e1 := e1 k (by omega)
  dsimp only at e1 ⊢
  simp only [laws_eqForest.f, e1, Option.bind_some, if_true, ↓reduceIte, bne_self_eq_false, Bool.false_eq_true]

/-! eq_Int64S -/
theorem eq_Int64S (x : List Int) (h : ((x.length : Int) ≤ 1048576)) : Ev (fun k => laws_eqInt64S.f k x x) true := by
  have hl := h
  have main := up_loop x.length (fun _ => ()) (fun k _ i => laws_eqInt64S.l0 k x x i)
    (fun i hi r h2 => by
      obtain ⟨K2, h2⟩ := h2
      refine ⟨K2 + 1, fun k hk => ?_⟩
      obtain ⟨m, rfl⟩ : ∃ m, k = m + 1 := ⟨k - 1, by omega⟩
      have h2 := h2 m (by omega)
      dsimp only at h2 ⊢
      simp only [laws_eqInt64S.l0]
      rw [if_pos (by omega), if_pos (by omega), if_pos (by omega)]
      simp only [if_true]
      rw [wrap64_id (by omega) (by omega)]
      exact h2)
    true (Ev.step (f := fun _ => some true) (fun k => by
      simp only [laws_eqInt64S.l0]
      rw [if_neg (by omega)]) (Ev.now _))
  obtain ⟨K, h⟩ := main
  refine ⟨K, fun k hk => ?_⟩
  have h := h k hk
  dsimp only at h ⊢
  unfold laws_eqInt64S.f
  rw [if_pos rfl]
  exact h

/-! eq_Int64SS -/
theorem eq_Int64SS (x : List (List Int)) (h : ((x.length : Int) ≤ 1048576 ∧ ∀ y ∈ x, ((y.length : Int) ≤ 1048576))) : Ev (fun k => laws_eqInt64SS.f k x x) true := by
  have hl := h.1
  have main := up_loop x.length (fun _ => ()) (fun k _ i => laws_eqInt64SS.l0 k x x i)
    (fun i hi r h2 => by
      obtain ⟨K, he⟩ := eq_Int64S (rd_L3 x (i : Int)) (h.2 _ (rdM_L3 x i hi))
      obtain ⟨K2, h2⟩ := h2
      refine ⟨K + K2 + 1, fun k hk => ?_⟩
      obtain ⟨m, rfl⟩ : ∃ m, k = m + 1 := ⟨k - 1, by omega⟩
      have h2 := h2 m (by omega)
      have he := he m (by omega)
      dsimp only at he h2 ⊢
      simp only [laws_eqInt64SS.l0]
      rw [if_pos (by omega), if_pos (by omega), if_pos (by omega), he]
      simp only [Option.bind_some, if_true, ↓reduceIte]
      rw [wrap64_id (by omega) (by omega)]
      exact h2)
    true (Ev.step (f := fun _ => some true) (fun k => by
      simp only [laws_eqInt64SS.l0]
      rw [if_neg (by omega)]) (Ev.now _))
  obtain ⟨K, h⟩ := main
  refine ⟨K, fun k hk => ?_⟩
  have h := h k hk
  dsimp only at h ⊢
  unfold laws_eqInt64SS.f
  rw [if_pos rfl]
  exact h

/-! rdset_T51 -/
theorem rdset_T51 (l : List S51) (i : Nat) (h : i < l.length) (v : S51) : rd_T51 (l.set i v) (i : Int) = v := by
  unfold rd_T51
  rw [List.getD_eq_getElem?_getD, Int.toNat_natCast, List.getElem?_set_self h]; rfl

/-! mark_LinkS -/
theorem mark_LinkS (x : List S51) (h : ((x.length : Int) ≤ 1048576)) (m : Int) (h0 : 0 ≤ m) (h1 : m ≤ 4611686018424242176) : ∃ (m' : Int) (x' : List S51), Ev (fun k => laws_markLinkS.f k x m) (m', x') ∧ m ≤ m' ∧ m' ≤ m + 3145728 := by
  have hl : (x.length : Int) ≤ 1048576 := h
  obtain ⟨conv, hconv⟩ : ∃ conv : Nat → S51, ∀ i, conv i = (⟨m + 3 * (i : Int), m + 3 * (i : Int) + 1, m + 3 * (i : Int) + 1 + 1⟩ : S51) := ⟨fun i => _, fun _ => rfl⟩
  have main := up_loop x.length (fun i => (m + 3 * (i : Int), filled conv x i)) (fun k s i => laws_markLinkS.l0 k s.2 s.1 i)
    (fun i hi r h2 => by
      obtain ⟨K2, h2⟩ := h2
      refine ⟨K2 + 1, fun k hk => ?_⟩
      obtain ⟨mm, rfl⟩ : ∃ mm, k = mm + 1 := ⟨k - 1, by omega⟩
      have h2 := h2 mm (by omega)
      dsimp only at h2 ⊢
      have hlen : i < (filled conv x i).length := by rw [filled_len _ _ (by omega)]; exact hi
      rw [← filled_set conv x hi, hconv] at h2
      simp (disch := first | omega | (simp only [List.length_set]; omega)) only [laws_markLinkS.l0, ↓if_pos, Option.bind_some, Int.toNat_natCast, rdset_T51, List.set_set, wrap64_id]
      rw [show m + 3 * (i : Int) + 1 + 1 + 1 = m + 3 * ((i + 1 : Nat) : Int) by omega]
      exact h2)
    (m + 3 * (x.length : Int), (List.range x.length).map conv) (Ev.step (f := fun _ => some (m + 3 * (x.length : Int), (List.range x.length).map conv)) (fun k => by
      simp only [laws_markLinkS.l0]
      rw [if_neg (by rw [filled_len _ _ (Nat.le_refl _)]; omega), filled_all _ _ rfl]) (Ev.now _))
  simp only [filled_zero] at main
  refine ⟨m + 3 * (x.length : Int), (List.range x.length).map conv, Ev.congr (fun k => by unfold laws_markLinkS.f; simp) main, by omega, by omega⟩

/-! mark_Forest -/
theorem mark_Forest (x : S35) (h : UpI_Forest 1048576 x) (m : Int) (h0 : 0 ≤ m) (h1 : m ≤ 4611686018424242175) : ∃ (m' : Int) (z0 : List S51), Ev (fun k => laws_markForest.f k x.f0 x.f1 m) (m', z0) ∧ m ≤ m' ∧ m' ≤ m + 3145729 := by
  unfold UpI_Forest at h
  have i1 := h
  obtain ⟨m1, z0, ⟨K1, e1⟩, l1, u1⟩ := mark_LinkS x.f1 i1 m (by omega) (by omega)
  refine ⟨m1, z0, ⟨K1, fun k hk => ?_⟩, by omega, by omega⟩
  · have e1 := e1 k (by omega); dsimp only at e1 ⊢; unfold laws_markForest.f; rw [e1]; simp only [Option.bind_some]

/-! mark_Int64S -/
theorem mark_Int64S (x : List Int) (h : ((x.length : Int) ≤ 1048576)) (m : Int) (h0 : 0 ≤ m) (h1 : m ≤ 4611686018426339328) : ∃ (m' : Int) (x' : List Int), Ev (fun k => laws_markInt64S.f k x m) (m', x') ∧ m ≤ m' ∧ m' ≤ m + 1048576 ∧ Ev (fun k => laws_heldInt64S.f k x' m) m' := by
  have hl : (x.length : Int) ≤ 1048576 := h
  obtain ⟨conv, hconv⟩ : ∃ conv : Nat → Int, ∀ i, conv i = m + 1 * (i : Int) := ⟨fun i => _, fun _ => rfl⟩
  have main := up_loop x.length (fun i => (m + 1 * (i : Int), filled conv x i)) (fun k s i => laws_markInt64S.l0 k s.2 s.1 i)
    (fun i hi r h2 => by
      obtain ⟨K2, h2⟩ := h2
      refine ⟨K2 + 1, fun k hk => ?_⟩
      obtain ⟨mm, rfl⟩ : ∃ mm, k = mm + 1 := ⟨k - 1, by omega⟩
      have h2 := h2 mm (by omega)
      dsimp only at h2 ⊢
      have hlen : i < (filled conv x i).length := by rw [filled_len _ _ (by omega)]; exact hi
      rw [← filled_set conv x hi, hconv] at h2
      simp (disch := first | omega | (simp only [List.length_set]; omega)) only [laws_markInt64S.l0, ↓if_pos, Option.bind_some, Int.toNat_natCast, wrap64_id]
      rw [show m + 1 * (i : Int) + 1 = m + 1 * ((i + 1 : Nat) : Int) by omega]
      exact h2)
    (m + 1 * (x.length : Int), (List.range x.length).map conv) (Ev.step (f := fun _ => some (m + 1 * (x.length : Int), (List.range x.length).map conv)) (fun k => by
      simp only [laws_markInt64S.l0]
      rw [if_neg (by rw [filled_len _ _ (Nat.le_refl _)]; omega), filled_all _ _ rfl]) (Ev.now _))
  simp only [filled_zero] at main
  refine ⟨m + 1 * (x.length : Int), (List.range x.length).map conv, Ev.congr (fun k => by unfold laws_markInt64S.f; simp) main, by omega, by omega, ?_⟩
  have hrd : ∀ i : Nat, i < x.length → rd ((List.range x.length).map conv) (i : Int) = conv i := fun i hi => by
    rw [rd_getD]
    rw [List.getD_eq_getElem?_getD, Int.toNat_natCast, List.getElem?_map, List.getElem?_range hi]; rfl
  have main2 := up_loop x.length (fun i => m + 1 * (i : Int)) (fun k s i => laws_heldInt64S.l0 k ((List.range x.length).map conv) s i)
    (fun i hi r h2 => by
      obtain ⟨K2, h2⟩ := h2
      refine ⟨K2 + 1, fun k hk => ?_⟩
      obtain ⟨mm, rfl⟩ : ∃ mm, k = mm + 1 := ⟨k - 1, by omega⟩
      have h2 := h2 mm (by omega)
      dsimp only at h2 ⊢
      have hr := hrd i hi
      rw [hconv] at hr
      simp (disch := omega) only [laws_heldInt64S.l0, List.length_map, List.length_range, ↓if_pos, hr, wrap64_id, ↓reduceIte, bne_self_eq_false, Bool.false_eq_true]
      rw [show m + 1 * (i : Int) + 1 = m + 1 * ((i + 1 : Nat) : Int) by omega]
      exact h2)
    (m + 1 * (x.length : Int)) (Ev.step (f := fun _ => some (m + 1 * (x.length : Int))) (fun k => by
      simp only [laws_heldInt64S.l0]
      rw [if_neg (by simp)]) (Ev.now _))
  exact Ev.congr (fun k => by unfold laws_heldInt64S.f; simp) main2

/-! mark_Int64SS -/
theorem mark_Int64SS_loop (x : List (List Int)) (hl : x.length ≤ 1048576) (hx : ∀ j : Nat, j < x.length → (((rd_L3 x (j : Int)).length : Int) ≤ 1048576)) :
    ∀ d i, x.length - i = d → i ≤ x.length → ∀ (xs : List (List Int)) (m : Int), xs.length = x.length → (∀ j : Nat, i ≤ j → j < x.length → (rd_L3 xs (j : Int)) = (rd_L3 x (j : Int))) → 0 ≤ m → m ≤ 4611686018427387904 - (d : Int) * 1048576 →
      ∃ (m' : Int) (x' : List (List Int)), Ev (fun k => laws_markInt64SS.l0 k xs m (i : Int)) (m', x') ∧ m ≤ m' ∧ m' ≤ m + (d : Int) * 1048576 ∧ x'.length = x.length ∧ (∀ j : Nat, j < i → (rd_L3 x' (j : Int)) = (rd_L3 xs (j : Int))) ∧ Ev (fun k => laws_heldInt64SS.l0 k x' m (i : Int)) m' := by
  intro d
  induction d with
  | zero =>
    intro i hd hi xs m hlen hrd h0 h1
    refine ⟨m, xs, Ev.step (f := fun _ => some (m, xs)) (fun k => ?_) (Ev.now _), by omega, by omega, hlen, fun _ _ => rfl, Ev.step (f := fun _ => some m) (fun k => ?_) (Ev.now _)⟩
    · simp (disch := omega) only [laws_markInt64SS.l0, ↓if_neg]
    · simp (disch := omega) only [laws_heldInt64SS.l0, ↓if_neg]
  | succ d ih =>
    intro i hd hi xs m hlen hrd h0 h1
    have hil : i < x.length := by omega
    have hr := hrd i (Nat.le_refl _) hil
    have hb := hx i hil
    rw [← hr] at hb
    have hb0 := hb
    obtain ⟨m0_, z0, ⟨K0, e0⟩, o0, u0, ⟨L0, d0⟩⟩ := mark_Int64S (rd_L3 xs (i : Int)) hb0 (m) (by omega) (by omega)
    obtain ⟨m2, x', ⟨Kn, en⟩, p1, p2, p3, p4, ⟨Kh, eh⟩⟩ := ih (i + 1) (by omega) (by omega) (xs.set i (z0 : List Int)) (m0_) (by rw [List.length_set]; exact hlen) (fun j hj hjl => by
      rw [← hrd j (by omega) hjl]
      unfold rd_L3
      rw [List.getD_eq_getElem?_getD, List.getD_eq_getElem?_getD, Int.toNat_natCast, List.getElem?_set_ne (by omega)]) (by omega) (by omega)
    have hri : rd_L3 x' (i : Int) = (z0 : List Int) := by
      rw [p4 i (by omega)]
      unfold rd_L3
      rw [List.getD_eq_getElem?_getD, Int.toNat_natCast, List.getElem?_set_self (by omega)]
      rfl
    refine ⟨m2, x', ⟨K0 + Kn + 1, fun k hk => ?_⟩, by omega, by omega, p3, fun j hj => ?_, ⟨L0 + Kh + 1, fun k hk => ?_⟩⟩
    · obtain ⟨mm, rfl⟩ : ∃ mm, k = mm + 1 := ⟨k - 1, by omega⟩
      have e0 := e0 mm (by omega)
      have en := en mm (by omega)
      dsimp only at e0 en ⊢
      simp (disch := omega) only [laws_markInt64SS.l0, ↓if_pos, e0, Option.bind_some, Int.toNat_natCast, wrap_next]
      exact en
    · rw [p4 j (by omega)]
      unfold rd_L3
      rw [List.getD_eq_getElem?_getD, List.getD_eq_getElem?_getD, Int.toNat_natCast, List.getElem?_set_ne (by omega)]
    · obtain ⟨mm, rfl⟩ : ∃ mm, k = mm + 1 := ⟨k - 1, by omega⟩
      have d0 := d0 mm (by omega)
      have eh := eh mm (by omega)
      dsimp only at d0 eh ⊢
      simp (disch := omega) only [laws_heldInt64SS.l0, hri, ↓if_pos, ↓reduceIte, d0, Option.bind_some, ↓if_neg, wrap_next, bne_self_eq_false, Bool.false_eq_true, beq_self_eq_true]
      exact eh
theorem mark_Int64SS (x : List (List Int)) (h : ((x.length : Int) ≤ 1048576 ∧ ∀ y ∈ x, ((y.length : Int) ≤ 1048576))) (m : Int) (h0 : 0 ≤ m) (h1 : m ≤ 4611684918915760128) : ∃ (m' : Int) (x' : List (List Int)), Ev (fun k => laws_markInt64SS.f k x m) (m', x') ∧ m ≤ m' ∧ m' ≤ m + 1099511627776 ∧ Ev (fun k => laws_heldInt64SS.f k x' m) m' := by
  obtain ⟨m', x', ev, p1, p2, _, _, e2⟩ := mark_Int64SS_loop x (by omega) (fun j hj => h.2 _ (rdM_L3 x j hj)) x.length 0 (by omega) (by omega) x m rfl (fun _ _ _ => rfl) h0 (by omega)
  exact ⟨m', x', ev, p1, by omega, e2⟩

/-! WfI_Link -/
def WfI_Link (x : S51) : Prop := (-9223372036854775808 ≤ x.f0 ∧ x.f0 ≤ 9223372036854775807) ∧ (-9223372036854775808 ≤ x.f1 ∧ x.f1 ≤ 9223372036854775807) ∧ (-9223372036854775808 ≤ x.f2 ∧ x.f2 ≤ 9223372036854775807)

/-! wf_Link -/
theorem wf_Link (x : S180) (h : (Lit.int .i64 x.f0).wf = true ∧ (Lit.int .i64 x.f1).wf = true ∧ (Lit.int .i64 x.f2).wf = true) : WfI_Link (cv_Link x) := by
  obtain ⟨j0, j1, j2⟩ := h
  exact ⟨(wf_i64 j0), (wf_i64 j1), (wf_i64 j2)⟩

/-! WfI_Forest -/
def WfI_Forest (x : S35) : Prop := (-9223372036854775808 ≤ x.f0 ∧ x.f0 ≤ 9223372036854775807) ∧ (∀ y ∈ x.f1, WfI_Link y)

/-! wf_Forest -/
theorem wf_Forest (x : S31) (h : (Lit.int .i64 x.f0).wf = true ∧ (x.f1.length ≤ 9223372036854775807 ∧ ∀ y0 ∈ x.f1, (Lit.int .i64 y0.f0).wf = true ∧ (Lit.int .i64 y0.f1).wf = true ∧ (Lit.int .i64 y0.f2).wf = true)) : WfI_Forest (cv_Forest x) := by
  obtain ⟨j0, j1⟩ := h
  exact ⟨(wf_i64 j0), (fun y hy => by obtain ⟨z, hz, rfl⟩ := List.mem_map.1 hy; exact wf_Link z (j1.2 z hz))⟩

/-! implInside -/
theorem inside_eq (a b c : Int) : impl_inside.f a b c = some (decide (b ≤ a ∧ a ≤ c)) := by
  unfold impl_inside.f
  by_cases h1 : b ≤ a
  · rw [if_pos h1]; simp [h1]
  · rw [if_neg h1]; simp [h1]

/-! specIn -/
theorem l1In_eq (a b c : Int) : spec_l1In.f a b c = some (decide (b ≤ a ∧ a ≤ c)) := by
  unfold spec_l1In.f
  by_cases h1 : b ≤ a
  · rw [if_pos h1]; simp [h1]
  · rw [if_neg h1]; simp [h1]

/-! merges -/
/-- What element i is when y has become x. -/
def mg (ls : List Int) (x y : Int) (i : Nat) : Int := if rd ls (i : Int) = y then x else rd ls (i : Int)
def mergeL (ls : List Int) (x y : Int) : List Int := (List.range ls.length).map (mg ls x y)
theorem mergeL_len (ls : List Int) (x y : Int) : (mergeL ls x y).length = ls.length := by simp [mergeL]
theorem filled_rd (conv : Nat → Int) (z : List Int) {i : Nat} (h : i < z.length) : rd (filled conv z i) (i : Int) = rd z (i : Int) := by
  have h1 : i < (filled conv z i).length := by rw [filled_len _ _ (by omega)]; exact h
  have e := getElem?_rd h1
  have e2 := getElem?_rd h
  unfold filled at e ⊢
  rw [List.getElem?_append_right (by simp), List.length_map, List.length_range, Nat.sub_self, List.getElem?_drop, Nat.add_zero, e2] at e
  exact (Option.some.inj e).symm
theorem filled_skip (conv : Nat → Int) (z : List Int) {i : Nat} (h : i < z.length) (hc : conv i = rd z (i : Int)) : filled conv z i = filled conv z (i + 1) := by
  rw [← filled_set conv z h]
  apply List.ext_getElem?
  intro j
  by_cases e : j = i
  · subst e
    have h1 : j < (filled conv z j).length := by rw [filled_len _ _ (by omega)]; exact h
    rw [List.getElem?_set_self h1, getElem?_rd h1, filled_rd conv z h, hc]
  · rw [List.getElem?_set_ne (Ne.symm e)]
/-- The lists of numbers 0 .. n - 1. -/
def idL (n : Nat) : List Int := (List.range n).map fun (i : Nat) => (i : Int)
theorem idL_len (n : Nat) : (idL n).length = n := by simp [idL]
theorem idL_succ (n : Nat) : idL (n + 1) = idL n ++ [(n : Int)] := by simp [idL, List.range_succ]

/-! steps -/
def stepL (ls : List Int) (e : S51) : List Int := mergeL ls (mn (rd ls e.f0) (rd ls e.f1)) (mx (rd ls e.f0) (rd ls e.f1))
theorem stepL_len (ls : List Int) (e : S51) : (stepL ls e).length = ls.length := mergeL_len _ _ _
theorem merge_spec (ls : List Int) (x y : Int) (hl : ls.length ≤ 1000000) : Ev (fun k => spec_l7Merge.l0 k ls x y 0) (mergeL ls x y) := by
  have main := up_loop ls.length (filled (mg ls x y) ls) (fun k s i => spec_l7Merge.l0 k s x y i)
    (fun i hi r h => by
      have h1 : (i : Int) < ((filled (mg ls x y) ls i).length : Int) := by rw [filled_len _ _ (by omega)]; omega
      by_cases c : rd ls (i : Int) = y
      · refine Ev.step (fun k => ?_) h
        simp only [spec_l7Merge.l0]
        rw [if_pos h1, if_pos (by omega), filled_rd _ _ hi, if_pos c, Int.toNat_natCast, wrap64_id (by omega) (by omega), ← filled_set _ _ hi, mg, if_pos c]
      · refine Ev.step (fun k => ?_) h
        simp only [spec_l7Merge.l0]
        rw [if_pos h1, if_pos (by omega), filled_rd _ _ hi, if_neg c, wrap64_id (by omega) (by omega), ← filled_skip _ _ hi (by rw [mg, if_neg c])])
    (mergeL ls x y) (Ev.step (f := fun _ => some (mergeL ls x y)) (fun k => by
      simp only [spec_l7Merge.l0]
      rw [if_neg (by rw [filled_len _ _ (Nat.le_refl _)]; omega), filled_all _ _ rfl]; rfl) (Ev.now _))
  rwa [filled_zero] at main
theorem l7Merge_ev (ls : List Int) (e : S51) (hl : ls.length ≤ 1000000) (ha : 0 ≤ e.f0 ∧ e.f0 < ls.length) (hb : 0 ≤ e.f1 ∧ e.f1 < ls.length) : Ev (fun k => spec_l7Merge.f k ls e.f0 e.f1) (stepL ls e) :=
  Ev.congr (fun k => by simp (disch := omega) only [spec_l7Merge.f, ↓if_pos]) (merge_spec ls _ _ hl)

/-! roots -/
def InL (n : Int) (e : S51) : Prop := 0 ≤ e.f0 ∧ e.f0 ≤ n - 1 ∧ 0 ≤ e.f1 ∧ e.f1 ≤ n - 1
theorem merge_impl (n : Int) (es : List S51) (j : Int) (ls : List Int) (x y : Int) (hl : ls.length ≤ 1000000) (r : List Int × Bool)
    (hend : Ev (fun k => impl_roots.l1 k (mergeL ls x y) es (es.length : Int) (wrap64 (j + 1)) n es) r) : Ev (fun k => impl_roots.l2 k ls x y es (es.length : Int) j (ls.length : Int) 0 n es) r := by
  have main := up_loop ls.length (filled (mg ls x y) ls) (fun k s i => impl_roots.l2 k s x y es (es.length : Int) j (ls.length : Int) i n es)
    (fun i hi r h => by
      have h1 : (i : Int) < ((filled (mg ls x y) ls i).length : Int) := by rw [filled_len _ _ (by omega)]; omega
      by_cases c : rd ls (i : Int) = y
      · refine Ev.step (fun k => ?_) h
        simp only [impl_roots.l2]
        rw [if_pos (by omega), if_pos (by omega), if_pos h1, filled_rd _ _ hi, if_pos c, Int.toNat_natCast, wrap64_id (by omega) (by omega), ← filled_set _ _ hi, mg, if_pos c]
      · refine Ev.step (fun k => ?_) h
        simp only [impl_roots.l2]
        rw [if_pos (by omega), if_pos (by omega), if_pos h1, filled_rd _ _ hi, if_neg c, wrap64_id (by omega) (by omega), ← filled_skip _ _ hi (by rw [mg, if_neg c])])
    r (Ev.step (fun k => by
      simp only [impl_roots.l2]
      rw [if_neg (by omega), filled_all _ _ rfl]; rfl) hend)
  rwa [filled_zero] at main
theorem roots_loop (n : Nat) (hn : n ≤ 1000) (es : List S51) (hes : es.length ≤ 1000) :
    ∀ d i, es.length - i = d → i ≤ es.length → ∀ ls : List Int, ls.length = n →
      (Ev (fun k => spec_ForestOk.l0 k ls (i : Int) (n : Int) es) true ∧ Ev (fun k => impl_roots.l1 k ls es (es.length : Int) (i : Int) (n : Int) es) ((es.drop i).foldl stepL ls, true) ∧ ∀ e ∈ es.drop i, InL n e) ∨
      (Ev (fun k => spec_ForestOk.l0 k ls (i : Int) (n : Int) es) false ∧ Ev (fun k => impl_roots.l1 k ls es (es.length : Int) (i : Int) (n : Int) es) ([], false)) := by
  intro d
  induction d with
  | zero =>
    intro i hd hi ls hls
    left
    have e : es.drop i = [] := List.drop_eq_nil_of_le (by omega)
    rw [e]
    refine ⟨Ev.step (f := fun _ => some true) (fun k => ?_) (Ev.now _), Ev.step (f := fun _ => some (ls, true)) (fun k => ?_) (Ev.now _), fun e he => by cases he⟩
    · simp (disch := omega) only [spec_ForestOk.l0, ↓if_neg]
    · simp (disch := omega) only [impl_roots.l1, ↓if_neg]
  | succ d ih =>
    intro i hd hi ls hls
    have hil : i < es.length := by omega
    obtain ⟨x, hx⟩ : ∃ x, x = rd_T51 es (i : Int) := ⟨_, rfl⟩
    have hdrop : es.drop i = x :: es.drop (i + 1) := by rw [List.drop_eq_getElem_cons hil, hx, rdE_T51 es i hil]
    have hw : True → wrap64 ((n : Int) - 1) = (n : Int) - 1 := fun _ => wrap64_id (by omega) (by omega)
    have hwi : True → wrap64 ((i : Int) + 1) = ((i + 1 : Nat) : Int) := fun _ => wrap_next i (by omega)
    by_cases ca : 0 ≤ x.f0 ∧ x.f0 ≤ (n : Int) - 1
    · have da := decide_eq_true ca
      by_cases cb : 0 ≤ x.f1 ∧ x.f1 ≤ (n : Int) - 1
      · have db := decide_eq_true cb
        by_cases cw : 0 ≤ x.f2 ∧ x.f2 ≤ 1000000
        · have dw := decide_eq_true cw
          by_cases ce : rd ls x.f0 = rd ls x.f1
          · right
            have be : (rd ls x.f0 == rd ls x.f1) = true := beq_iff_eq.2 ce
            refine ⟨Ev.step (f := fun _ => some false) (fun k => ?_) (Ev.now _), ⟨2, fun k hk => ?_⟩⟩
            · simp (disch := first | omega | trivial) only [spec_ForestOk.l0, ← hx, ↓if_pos, l1In_eq, hw, da, db, dw, Option.bind_some, ↓reduceIte, ce]
            · obtain ⟨m, rfl⟩ : ∃ m, k = m + 1 + 1 := ⟨k - 2, by omega⟩
              simp (disch := first | omega | trivial) only [impl_roots.l1, impl_roots.j3, ← hx, ↓if_pos, inside_eq, hw, da, db, dw, Option.bind_some, ↓reduceIte, be]
          · have be : (rd ls x.f0 == rd ls x.f1) = false := beq_eq_false_iff_ne.2 ce
            obtain ⟨K1, h1⟩ := Ev.binds (l7Merge_ev ls x (by omega) (by omega) (by omega))
            have s1 : ∀ z, Ev (fun k => spec_ForestOk.l0 k (stepL ls x) ((i + 1 : Nat) : Int) (n : Int) es) z → Ev (fun k => spec_ForestOk.l0 k ls (i : Int) (n : Int) es) z := by
              rintro z ⟨K, h⟩
              refine ⟨K + K1 + 1, fun k hk => ?_⟩
              obtain ⟨m, rfl⟩ : ∃ m, k = m + 1 := ⟨k - 1, by omega⟩
              have h := h m (by omega)
              simp (disch := first | omega | trivial) only [spec_ForestOk.l0, ← hx, ↓if_pos, l1In_eq, hw, da, db, dw, Option.bind_some, ↓reduceIte, if_neg ce, ↓h1, hwi]
              exact h
            have s2 : ∀ z, Ev (fun k => impl_roots.l1 k (stepL ls x) es (es.length : Int) ((i + 1 : Nat) : Int) (n : Int) es) z → Ev (fun k => impl_roots.l1 k ls es (es.length : Int) (i : Int) (n : Int) es) z := by
              intro z hz
              have hm := merge_impl (n : Int) es (i : Int) ls (mn (rd ls x.f0) (rd ls x.f1)) (mx (rd ls x.f0) (rd ls x.f1)) (by omega) z (by rw [hwi trivial]; exact hz)
              obtain ⟨K, h⟩ := hm
              refine ⟨K + 2, fun k hk => ?_⟩
              obtain ⟨m, rfl⟩ : ∃ m, k = m + 1 + 1 := ⟨k - 2, by omega⟩
              have h := h m (by omega)
              simp (disch := first | omega | trivial) only [impl_roots.l1, impl_roots.j3, ← hx, ↓if_pos, inside_eq, hw, da, db, dw, Option.bind_some, ↓reduceIte, be, Bool.false_eq_true]
              exact h
            rcases ih (i + 1) (by omega) (by omega) (stepL ls x) (by rw [stepL_len]; exact hls) with ⟨a1, a2, a3⟩ | ⟨a1, a2⟩
            · left
              rw [hdrop]
              refine ⟨s1 _ a1, s2 _ a2, fun e he => ?_⟩
              rcases List.mem_cons.1 he with rfl | he
              · exact ⟨ca.1, ca.2, cb.1, cb.2⟩
              · exact a3 e he
            · exact .inr ⟨s1 _ a1, s2 _ a2⟩
        · have dw := decide_eq_false cw
          right
          refine ⟨Ev.step (f := fun _ => some false) (fun k => ?_) (Ev.now _), ⟨2, fun k hk => ?_⟩⟩
          · simp (disch := first | omega | trivial) only [spec_ForestOk.l0, ← hx, ↓if_pos, l1In_eq, hw, da, db, dw, Option.bind_some, ↓reduceIte, Bool.false_eq_true]
          · obtain ⟨m, rfl⟩ : ∃ m, k = m + 1 + 1 := ⟨k - 2, by omega⟩
            simp (disch := first | omega | trivial) only [impl_roots.l1, impl_roots.j3, ← hx, ↓if_pos, inside_eq, hw, da, db, dw, Option.bind_some, ↓reduceIte, Bool.false_eq_true]
      · have db := decide_eq_false cb
        right
        refine ⟨Ev.step (f := fun _ => some false) (fun k => ?_) (Ev.now _), ⟨2, fun k hk => ?_⟩⟩
        · simp (disch := first | omega | trivial) only [spec_ForestOk.l0, ← hx, ↓if_pos, l1In_eq, hw, da, db, Option.bind_some, ↓reduceIte, Bool.false_eq_true]
        · obtain ⟨m, rfl⟩ : ∃ m, k = m + 1 + 1 := ⟨k - 2, by omega⟩
          simp (disch := first | omega | trivial) only [impl_roots.l1, impl_roots.j3, ← hx, ↓if_pos, inside_eq, hw, da, db, Option.bind_some, ↓reduceIte, Bool.false_eq_true]
    · have da := decide_eq_false ca
      right
      refine ⟨Ev.step (f := fun _ => some false) (fun k => ?_) (Ev.now _), ⟨2, fun k hk => ?_⟩⟩
      · simp (disch := first | omega | trivial) only [spec_ForestOk.l0, ← hx, ↓if_pos, l1In_eq, hw, da, Option.bind_some, ↓reduceIte, Bool.false_eq_true]
      · obtain ⟨m, rfl⟩ : ∃ m, k = m + 1 + 1 := ⟨k - 2, by omega⟩
        simp (disch := first | omega | trivial) only [impl_roots.l1, impl_roots.j3, ← hx, ↓if_pos, inside_eq, hw, da, Option.bind_some, ↓reduceIte, Bool.false_eq_true]
theorem least_start (n : Nat) (hn : n ≤ 1000) (es : List S51) (r : List Int) (h : Ev (fun k => spec_l7Least.l1 k es (idL n) 0) r) : Ev (fun k => spec_l7Least.f k (n : Int) es) r := by
  have main := up_loop n (fun i => idL i) (fun k s i => spec_l7Least.l0 k (n : Int) es s i)
    (fun i hi r h => Ev.step (fun k => by
      simp only [spec_l7Least.l0]
      rw [if_pos (by omega), if_pos (by rw [idL_len]; omega), wrap64_id (by omega) (by omega), ← idL_succ]) h)
    r (Ev.step (fun k => by
      simp only [spec_l7Least.l0]
      rw [if_neg (by omega)]) h)
  exact Ev.congr (fun k => rfl) main
theorem least_loop (n : Nat) (hn : n ≤ 1000) (es : List S51) (hes : es.length ≤ 1000) :
    ∀ d i, es.length - i = d → i ≤ es.length → ∀ ls : List Int, ls.length = n → (∀ e ∈ es.drop i, InL n e) → Ev (fun k => spec_l7Least.l1 k es ls (i : Int)) ((es.drop i).foldl stepL ls) := by
  intro d
  induction d with
  | zero =>
    intro i hd hi ls hls _
    have e : es.drop i = [] := List.drop_eq_nil_of_le (by omega)
    rw [e]
    exact Ev.step (f := fun _ => some ls) (fun k => by simp (disch := omega) only [spec_l7Least.l1, ↓if_neg]) (Ev.now _)
  | succ d ih =>
    intro i hd hi ls hls hin
    have hil : i < es.length := by omega
    obtain ⟨x, hx⟩ : ∃ x, x = rd_T51 es (i : Int) := ⟨_, rfl⟩
    have hdrop : es.drop i = x :: es.drop (i + 1) := by rw [List.drop_eq_getElem_cons hil, hx, rdE_T51 es i hil]
    rw [hdrop] at hin ⊢
    obtain ⟨a1, a2, a3, a4⟩ := hin x (by simp)
    obtain ⟨K1, h1⟩ := Ev.binds (l7Merge_ev ls x (by omega) (by omega) (by omega))
    obtain ⟨K, h⟩ := ih (i + 1) (by omega) (by omega) (stepL ls x) (by rw [stepL_len]; exact hls) (fun e he => hin e (by simp [he]))
    refine ⟨K + K1 + 1, fun k hk => ?_⟩
    obtain ⟨m, rfl⟩ : ∃ m, k = m + 1 := ⟨k - 1, by omega⟩
    have h := h m (by omega)
    simp (disch := omega) only [spec_l7Least.l1, ← hx, ↓if_pos, ↓h1, wrap_next]
    exact h
/-- What both say of a forest. -/
theorem forest_core (size : Int) (es : List S51) :
    (Ev (fun k => spec_ForestOk.f k size es) true ∧ 0 ≤ size ∧ size ≤ 1000 ∧ (es.length : Int) ≤ size ∧ (∀ e ∈ es, InL size e) ∧ Ev (fun k => impl_roots.f k size es) (es.foldl stepL (idL size.toNat), true) ∧ Ev (fun k => spec_l7Least.f k size es) (es.foldl stepL (idL size.toNat))) ∨
    (Ev (fun k => spec_ForestOk.f k size es) false ∧ Ev (fun k => impl_roots.f k size es) ([], false)) := by
  by_cases cs : 0 ≤ size ∧ size ≤ 1000
  · have ds := decide_eq_true cs
    obtain ⟨n, rfl⟩ := Int.eq_ofNat_of_zero_le cs.1
    by_cases cl : (es.length : Int) > (n : Int)
    · have dl := decide_eq_true cl
      right
      refine ⟨⟨1, fun k hk => ?_⟩, ⟨1, fun k hk => ?_⟩⟩
      · obtain ⟨m, rfl⟩ : ∃ m, k = m + 1 := ⟨k - 1, by omega⟩
        simp (disch := omega) only [spec_ForestOk.f, l1In_eq, ds, Option.bind_some, ↓reduceIte, dl, spec_ForestOk.j0]
      · obtain ⟨m, rfl⟩ : ∃ m, k = m + 1 := ⟨k - 1, by omega⟩
        simp (disch := omega) only [impl_roots.f, inside_eq, ds, Option.bind_some, ↓reduceIte, dl, impl_roots.j0]
    · have dl := decide_eq_false cl
      obtain ⟨K0, h0⟩ := Ev.binds (least_start n (by omega) [] (idL n) (Ev.step (f := fun _ => some (idL n)) (fun k => by simp (disch := first | omega | simp) only [spec_l7Least.l1, ↓if_neg, List.length_nil]) (Ev.now _)))
      have s1 : ∀ z, Ev (fun k => spec_ForestOk.l0 k (idL n) ((0 : Nat) : Int) (n : Int) es) z → Ev (fun k => spec_ForestOk.f k (n : Int) es) z := by
        rintro z ⟨K, h⟩
        refine ⟨K + K0 + 1, fun k hk => ?_⟩
        obtain ⟨m, rfl⟩ : ∃ m, k = m + 1 := ⟨k - 1, by omega⟩
        have h := h m (by omega)
        simp (disch := omega) only [spec_ForestOk.f, l1In_eq, ds, Option.bind_some, ↓reduceIte, dl, spec_ForestOk.j0, Bool.false_eq_true, ↓h0]
        exact h
      have s2 : ∀ z, Ev (fun k => impl_roots.l1 k (idL n) es (es.length : Int) ((0 : Nat) : Int) (n : Int) es) z → Ev (fun k => impl_roots.f k (n : Int) es) z := by
        intro z hz
        have main := up_loop n (filled (fun (i : Nat) => (i : Int)) (List.replicate n 0)) (fun k s i => impl_roots.l0 k s (n : Int) i (n : Int) es)
          (fun i hi r h => Ev.step (fun k => by
            simp only [impl_roots.l0]
            rw [if_pos (by omega), if_pos (by omega), if_pos (by rw [filled_len _ _ (by simp; omega)]; simp; omega), Int.toNat_natCast, wrap64_id (by omega) (by omega), ← filled_set _ _ (by simpa using hi)]) h)
          z (Ev.step (fun k => by
            simp only [impl_roots.l0]
            rw [if_neg (by omega), filled_all _ _ (by simp)]; rfl) hz)
        rw [filled_zero] at main
        obtain ⟨K, h⟩ := main
        refine ⟨K + 1, fun k hk => ?_⟩
        obtain ⟨m, rfl⟩ : ∃ m, k = m + 1 := ⟨k - 1, by omega⟩
        have h := h m (by omega)
        simp (disch := omega) only [impl_roots.f, inside_eq, ds, Option.bind_some, ↓reduceIte, dl, impl_roots.j0, Bool.false_eq_true, ↓if_pos, Int.toNat_natCast, List.length_replicate]
        exact h
      rcases roots_loop n (by omega) es (by omega) es.length 0 (by omega) (by omega) (idL n) (idL_len n) with ⟨a1, a2, a3⟩ | ⟨a1, a2⟩
      · left
        have hl := least_loop n (by omega) es (by omega) es.length 0 (by omega) (by omega) (idL n) (idL_len n) a3
        rw [List.drop_zero] at a2 a3 hl
        exact ⟨s1 _ a1, cs.1, cs.2, by omega, a3, s2 _ a2, least_start n (by omega) es _ hl⟩
      · exact .inr ⟨s1 _ a1, s2 _ a2⟩
  · have ds := decide_eq_false cs
    right
    refine ⟨⟨1, fun k hk => ?_⟩, ⟨1, fun k hk => ?_⟩⟩
    · obtain ⟨m, rfl⟩ : ∃ m, k = m + 1 := ⟨k - 1, by omega⟩
      simp (disch := omega) only [spec_ForestOk.f, l1In_eq, ds, Option.bind_some, ↓reduceIte, Bool.false_eq_true, spec_ForestOk.j0]
    · obtain ⟨m, rfl⟩ : ∃ m, k = m + 1 := ⟨k - 1, by omega⟩
      simp (disch := omega) only [impl_roots.f, inside_eq, ds, Option.bind_some, ↓reduceIte, Bool.false_eq_true, impl_roots.j0]
theorem foldL_len (es : List S51) : ∀ ls : List Int, (es.foldl stepL ls).length = ls.length := by
  induction es with
  | nil => exact fun _ => rfl
  | cons e es ih => exact fun ls => by rw [List.foldl_cons, ih, stepL_len]

/-! groupsOf -/
/-- Each element's least leads to itself. -/
def Rooted (ls : List Int) : Prop := ∀ i : Nat, i < ls.length → 0 ≤ rd ls (i : Int) ∧ rd ls (i : Int) ≤ (i : Int) ∧ rd ls (rd ls (i : Int)) = rd ls (i : Int)
theorem mergeL_rd (ls : List Int) (x y : Int) {i : Nat} (h : i < ls.length) : rd (mergeL ls x y) (i : Int) = mg ls x y i := by
  simp [rd, mergeL, List.getD_eq_getElem?_getD, h]
theorem rooted_id (n : Nat) : Rooted (idL n) := by
  have e : ∀ i : Nat, i < n → rd (idL n) (i : Int) = (i : Int) := fun i h => by simp [rd, idL, List.getD_eq_getElem?_getD, h]
  intro i hi
  rw [idL_len] at hi
  rw [e i hi, e i hi]
  exact ⟨by omega, by omega, rfl⟩
theorem rooted_step (ls : List Int) (h : Rooted ls) (e : S51) (ha : 0 ≤ e.f0 ∧ e.f0 < ls.length) (hb : 0 ≤ e.f1 ∧ e.f1 < ls.length) : Rooted (stepL ls e) := by
  obtain ⟨a, ea⟩ := Int.eq_ofNat_of_zero_le ha.1
  obtain ⟨b, eb⟩ := Int.eq_ofNat_of_zero_le hb.1
  have hA := h a (by omega)
  have hB := h b (by omega)
  rw [← ea] at hA
  rw [← eb] at hB
  obtain ⟨x, hx⟩ : ∃ x, x = mn (rd ls e.f0) (rd ls e.f1) := ⟨_, rfl⟩
  obtain ⟨y, hy⟩ : ∃ y, y = mx (rd ls e.f0) (rd ls e.f1) := ⟨_, rfl⟩
  have hm : 0 ≤ x ∧ x ≤ y ∧ x < ls.length ∧ rd ls x = x := by
    unfold mn at hx
    unfold mx at hy
    split at hx <;> split at hy <;> subst hx <;> subst hy <;> first | exact ⟨by omega, by omega, by omega, hA.2.2⟩ | exact ⟨by omega, by omega, by omega, hB.2.2⟩
  intro i hi
  rw [stepL_len] at hi
  unfold stepL
  rw [← hx, ← hy, mergeL_rd ls x y hi]
  have hI := h i hi
  unfold mg
  by_cases c : rd ls (i : Int) = y
  · rw [if_pos c]
    obtain ⟨n, hn⟩ := Int.eq_ofNat_of_zero_le hm.1
    refine ⟨hm.1, by omega, ?_⟩
    have h1 := mergeL_rd ls x y (i := n) (by omega)
    rw [← hn] at h1
    rw [h1]
    unfold mg
    rw [← hn]
    by_cases c2 : rd ls x = y
    · rw [if_pos c2]
    · rw [if_neg c2]; exact hm.2.2.2
  · rw [if_neg c]
    refine ⟨hI.1, hI.2.1, ?_⟩
    obtain ⟨q, hq⟩ := Int.eq_ofNat_of_zero_le hI.1
    have h2 := hI.2.2
    rw [hq] at h2 c ⊢
    rw [mergeL_rd ls x y (by omega)]
    unfold mg
    rw [h2, if_neg c]
theorem rooted_fold : ∀ (es : List S51) (ls : List Int), Rooted ls → (∀ e ∈ es, InL (ls.length : Int) e) → Rooted (es.foldl stepL ls)
  | [], _, h, _ => h
  | e :: es, ls, h, hin => by
    obtain ⟨a1, a2, a3, a4⟩ := hin e (by simp)
    exact rooted_fold es (stepL ls e) (rooted_step ls h e (by omega) (by omega)) (fun e' he => by rw [stepL_len]; exact hin e' (by simp [he]))
/-- The elements below m whose least is a. -/
def grp (ls : List Int) (a m : Nat) : List Int := ((List.range m).filter fun (i : Nat) => decide (rd ls (i : Int) = (a : Int))).map fun (i : Nat) => (i : Int)
theorem grp_pos (ls : List Int) (a m : Nat) (c : rd ls (m : Int) = (a : Int)) : grp ls a (m + 1) = grp ls a m ++ [(m : Int)] := by
  unfold grp
  rw [List.range_succ, List.filter_append, List.map_append]
  simp [c]
theorem grp_neg (ls : List Int) (a m : Nat) (c : ¬ rd ls (m : Int) = (a : Int)) : grp ls a (m + 1) = grp ls a m := by
  unfold grp
  rw [List.range_succ, List.filter_append, List.map_append]
  simp [c]
theorem grp_len (ls : List Int) (a m : Nat) : (grp ls a m).length ≤ m := by
  unfold grp
  rw [List.length_map]
  exact Nat.le_trans (List.length_filter_le ..) (by simp)
theorem grp_none (ls : List Int) (a m : Nat) (h : ∀ i : Nat, i < m → ¬ rd ls (i : Int) = (a : Int)) : grp ls a m = [] := by
  unfold grp
  rw [List.map_eq_nil_iff, List.filter_eq_nil_iff]
  intro i hi
  simpa using h i (List.mem_range.1 hi)
def grps (ls : List Int) (m : Nat) : List (List Int) := (List.range ls.length).map fun a => grp ls a m
theorem grps_len (ls : List Int) (m : Nat) : (grps ls m).length = ls.length := by simp [grps]
theorem grps_at (ls : List Int) (m a : Nat) (h : a < ls.length) : (grps ls m).getD a [] = grp ls a m := by
  simp [grps, List.getD_eq_getElem?_getD, h]
theorem grps_step (ls : List Int) (m a : Nat) (h : a < ls.length) (c : rd ls (m : Int) = (a : Int)) : (grps ls m).set a (grp ls a m ++ [(m : Int)]) = grps ls (m + 1) := by
  apply List.ext_getElem?
  intro j
  by_cases e : j = a
  · subst e
    rw [List.getElem?_set_self (by rw [grps_len]; exact h)]
    simp [grps, h, grp_pos ls j m c]
  · rw [List.getElem?_set_ne (Ne.symm e)]
    by_cases hj : j < ls.length
    · simp [grps, hj, grp_neg ls j m (show ¬ rd ls (m : Int) = (j : Int) by omega)]
    · simp [grps, hj]
theorem groups_impl (ls : List Int) (n : Nat) (hl : ls.length = n) (hn : n ≤ 1000) (hr : Rooted ls) : Ev (fun k => impl_GroupsOf.l0 k (List.replicate n []) ls 0) (grps ls n) := by
  have main := up_loop n (fun i => grps ls i) (fun k s i => impl_GroupsOf.l0 k s ls i)
    (fun i hi r h => by
      obtain ⟨r0, r1, _⟩ := hr i (by omega)
      obtain ⟨a, ha⟩ := Int.eq_ofNat_of_zero_le r0
      refine Ev.step (fun k => ?_) h
      have hg : impl_GroupsOf.g (grps ls i) (rd ls (i : Int)) = grp ls a i := by
        unfold impl_GroupsOf.g
        rw [ha]
        exact grps_at ls i a (by omega)
      simp only [impl_GroupsOf.l0]
      rw [hg, if_pos (by omega), if_pos (by omega), if_pos r0, if_pos (by rw [grps_len]; omega), if_pos (by have := grp_len ls a i; omega), wrap64_id (by omega) (by omega), show (rd ls (i : Int)).toNat = a by omega, grps_step ls i a (by omega) ha])
    (grps ls n) (Ev.step (f := fun _ => some (grps ls n)) (fun k => by
      simp only [impl_GroupsOf.l0]
      rw [if_neg (by omega)]) (Ev.now _))
  have e0 : grps ls 0 = List.replicate n [] := by
    apply List.ext_getElem?
    intro j
    by_cases hj : j < n
    · simp [grps, hl, hj, grp]
    · simp [grps, hl, hj]
  rw [← e0]
  exact main
theorem groups_row (ls : List Int) (n : Nat) (hl : ls.length = n) (hn : n ≤ 1000) (hr : Rooted ls) (es : List S51) (a : Nat) (ha : a < n) (hroot : rd ls (a : Int) = (a : Int)) (x3 : List (List Int)) (r : List (List Int))
    (hend : Ev (fun k => spec_GroupsOf.j2 k x3 ls (a : Int) (grp ls a n) (n : Int) false (n : Int) es) r) :
    ∀ d b, n - b = d → a ≤ b → b ≤ n → Ev (fun k => spec_GroupsOf.l1 k x3 ls (a : Int) (grp ls a b) (b : Int) (n : Int) es) r := by
  intro d
  induction d with
  | zero =>
    intro b hd hab hb
    have e : b = n := by omega
    subst e
    refine Ev.step (fun k => ?_) hend
    simp only [spec_GroupsOf.l1]
    rw [if_neg (by omega)]
  | succ d ih =>
    intro b hd hab hb
    have hbn : b < n := by omega
    refine Ev.step (f := fun k => spec_GroupsOf.j2 k x3 ls (a : Int) (grp ls a b) (b : Int) true (n : Int) es) (fun k => ?_) ?_
    · have e : (rd ls (a : Int) == (a : Int)) = true := beq_iff_eq.2 hroot
      simp only [spec_GroupsOf.l1]
      rw [if_pos (by omega), if_pos (by omega), if_pos (by omega), e]
    · have h := ih (b + 1) (by omega) (by omega) (by omega)
      by_cases c : rd ls (b : Int) = (a : Int)
      · rw [grp_pos ls a b c] at h
        refine Ev.step (fun k => ?_) h
        simp only [spec_GroupsOf.j2]
        rw [if_pos trivial, if_pos (by omega), if_pos (by omega), if_pos c, if_pos (by have := grp_len ls a b; omega), wrap64_id (by omega) (by omega)]
        rfl
      · rw [grp_neg ls a b c] at h
        refine Ev.step (fun k => ?_) h
        simp only [spec_GroupsOf.j2]
        rw [if_pos trivial, if_pos (by omega), if_pos (by omega), if_neg c, wrap64_id (by omega) (by omega)]
        rfl
def grpsUp (ls : List Int) (n a : Nat) : List (List Int) := ((List.range a).map fun a => grp ls a n).filter fun x => decide (2 ≤ x.length)
theorem grpsUp_len (ls : List Int) (n a : Nat) : (grpsUp ls n a).length ≤ a := by
  unfold grpsUp
  exact Nat.le_trans (List.length_filter_le ..) (by simp)
theorem groups_spec (ls : List Int) (n : Nat) (hl : ls.length = n) (hn : n ≤ 1000) (hr : Rooted ls) (es : List S51) : Ev (fun k => spec_GroupsOf.l0 k [] ls 0 (n : Int) es) (grpsUp ls n n) := by
  have main := up_loop n (fun a => grpsUp ls n a) (fun k s i => spec_GroupsOf.l0 k s ls i (n : Int) es)
    (fun a ha r h => by
      have hlen := grpsUp_len ls n a
      have hsucc : grpsUp ls n (a + 1) = if 2 ≤ (grp ls a n).length then grpsUp ls n a ++ [grp ls a n] else grpsUp ls n a := by
        unfold grpsUp
        rw [List.range_succ, List.map_append, List.filter_append]
        by_cases c : 2 ≤ (grp ls a n).length
        · simp [c]
        · simp [c]
      have hj : Ev (fun k => spec_GroupsOf.j2 k (grpsUp ls n a) ls (a : Int) (grp ls a n) (n : Int) false (n : Int) es) r := by
        rw [hsucc] at h
        by_cases c : 2 ≤ (grp ls a n).length
        · rw [if_pos c] at h
          refine Ev.step (fun k => ?_) h
          simp only [spec_GroupsOf.j2]
          rw [if_neg (by decide), if_pos (by omega), if_pos (by omega), wrap64_id (by omega) (by omega)]
        · rw [if_neg c] at h
          refine Ev.step (fun k => ?_) h
          simp only [spec_GroupsOf.j2]
          rw [if_neg (by decide), if_neg (by omega), wrap64_id (by omega) (by omega)]
      by_cases hroot : rd ls (a : Int) = (a : Int)
      · have e0 : grp ls a a = [] := grp_none ls a a (fun i hi hc => by have := (hr i (by omega)).2.1; omega)
        have h1 := groups_row ls n hl hn hr es a ha hroot (grpsUp ls n a) r hj (n - a) a rfl (Nat.le_refl _) (by omega)
        rw [e0] at h1
        refine Ev.step (fun k => ?_) h1
        simp only [spec_GroupsOf.l0]
        rw [if_pos (by omega)]
      · have e0 : grp ls a n = [] := grp_none ls a n (fun i hi hc => by
          have h2 := (hr i (by omega)).2.2
          rw [hc] at h2
          exact hroot h2)
        rw [hsucc, e0, if_neg (by simp)] at h
        refine Ev.step (f := fun k => spec_GroupsOf.l1 k (grpsUp ls n a) ls (a : Int) [] (a : Int) (n : Int) es) (fun k => ?_) (Ev.step (f := fun k => spec_GroupsOf.j2 k (grpsUp ls n a) ls (a : Int) [] (a : Int) false (n : Int) es) (fun k => ?_) (Ev.step (fun k => ?_) h))
        · simp only [spec_GroupsOf.l0]
          rw [if_pos (by omega)]
        · have e : (rd ls (a : Int) == (a : Int)) = false := beq_eq_false_iff_ne.2 hroot
          simp only [spec_GroupsOf.l1]
          rw [if_pos (by omega), if_pos (by omega), if_pos (by omega), e]
        · simp only [spec_GroupsOf.j2]
          rw [if_neg (by decide), if_neg (by simp), wrap64_id (by omega) (by omega)])
    (grpsUp ls n n) (Ev.step (f := fun _ => some (grpsUp ls n n)) (fun k => by
      simp only [spec_GroupsOf.l0]
      rw [if_neg (by omega)]) (Ev.now _))
  exact main
theorem groupsOf_agree (size : Int) (es : List S51) (U0 : UpI_Forest 1048576 ⟨size, es⟩) (W0 : WfI_Forest ⟨size, es⟩) :
    ∃ y : List (List Int), Ev (fun k => spec_GroupsOf.f k size es) y ∧ Ev (fun k => impl_GroupsOf.f k size es) y ∧ ((y.length : Int) ≤ 1048576 ∧ ∀ x ∈ y, (x.length : Int) ≤ 1048576) := by
  rcases forest_core size es with ⟨h1, s0, s1, s2, s3, h2, h3⟩ | ⟨h1, h2⟩
  · obtain ⟨n, rfl⟩ := Int.eq_ofNat_of_zero_le s0
    obtain ⟨ls, hls⟩ : ∃ ls, ls = es.foldl stepL (idL (n : Int).toNat) := ⟨_, rfl⟩
    rw [← hls] at h2 h3
    have hlen : ls.length = n := by rw [hls, foldL_len, idL_len]; rfl
    have hroot : Rooted ls := by
      rw [hls]
      exact rooted_fold es _ (rooted_id _) (by rw [idL_len]; exact s3)
    obtain ⟨K1, h1⟩ := Ev.binds h1
    obtain ⟨K2, h2⟩ := Ev.binds h2
    obtain ⟨K3, h3⟩ := Ev.binds h3
    obtain ⟨K4, h4⟩ := groups_spec ls n hlen (by omega) hroot es
    obtain ⟨K5, h5⟩ := Ev.binds (groups_impl ls n hlen (by omega) hroot)
    have hsame : (grps ls n).filter (fun x => decide (2 ≤ x.length)) = grpsUp ls n n := by unfold grps grpsUp; rw [hlen]
    refine ⟨grpsUp ls n n, ⟨K1 + K3 + K4, fun k hk => ?_⟩, ⟨K2 + K5, fun k hk => ?_⟩, by have := grpsUp_len ls n n; omega, fun x hx => ?_⟩
    · simp (disch := omega) only [spec_GroupsOf.f, Option.bind_some, ↓h1, ↓h3, ↓reduceIte]
      exact h4 k (by omega)
    · simp (disch := omega) only [impl_GroupsOf.f, ↓h2, ↓reduceIte, ↓if_pos, Int.toNat_natCast, ↓h5, hsame]
    · unfold grpsUp at hx
      obtain ⟨a, _, rfl⟩ := List.mem_map.1 (List.mem_filter.1 hx).1
      have := grp_len ls a n
      omega
  · obtain ⟨K1, h1⟩ := Ev.binds h1
    obtain ⟨K2, h2⟩ := Ev.binds h2
    refine ⟨[], ⟨K1, fun k hk => ?_⟩, ⟨K2, fun k hk => ?_⟩, by simp, fun x hx => by cases hx⟩
    · simp (disch := omega) only [spec_GroupsOf.f, Option.bind_some, ↓h1, ↓reduceIte, Bool.false_eq_true]
    · simp (disch := omega) only [impl_GroupsOf.f, ↓h2, ↓reduceIte, Bool.false_eq_true]
-- SAYS: The program's GroupsOf answers as the reference's GroupsOf does, for all arguments.
theorem FnExactGroupsOf (a0_0 : Int) (l0_1 : List S180) (q0_0 : (Lit.int .i64 a0_0).wf = true) (q0_1 : ∀ x ∈ l0_1, (Lit.int .i64 x.f0).wf = true ∧ (Lit.int .i64 x.f1).wf = true ∧ (Lit.int .i64 x.f2).wf = true) (hl0_1 : l0_1.length ≤ 9223372036854775807) : ∃ k, laws_FnExactGroupsOf.f k a0_0 l0_1 = some true := by
  obtain ⟨r0, g0, hb0⟩ := sz_Forest (⟨a0_0, l0_1⟩ : S31) 1048576 (in_Forest (⟨a0_0, l0_1⟩ : S31) ⟨q0_0, (And.intro hl0_1 q0_1)⟩) (by omega) (by omega)
  obtain ⟨Ks0, s00⟩ := Ev.binds (g0)
  have s0 := s00 Ks0 (Nat.le_refl _)
  try dsimp only [cv_Forest] at s0
  rcases hb0 with hneg | ⟨p0, z0, u0⟩
  · have c0 := eq_true hneg
    exact ⟨1 + 1 + 1 + 1, by simp (disch := omega) only [laws_FnExactGroupsOf.f, ↓s0, ↓reduceIte, c0]⟩
  have c0 := eq_false (show ¬ r0 < 0 by omega)
  have U0 : UpI_Forest 1048576 ((cv_Forest (⟨a0_0, l0_1⟩ : S31))) := (upcv_Forest _ _ u0)
  have W0 : WfI_Forest ((cv_Forest (⟨a0_0, l0_1⟩ : S31))) := wf_Forest (⟨a0_0, l0_1⟩ : S31) ⟨q0_0, (And.intro hl0_1 q0_1)⟩
  obtain ⟨y0, e1, e2, v0⟩ := groupsOf_agree a0_0 ((l0_1.map cv_Link)) U0 W0
  obtain ⟨Kt0, t0⟩ := Ev.binds (to_Forest (⟨a0_0, l0_1⟩ : S31) u0)
  try dsimp only [cv_Forest] at t0
  obtain ⟨Khs, hs⟩ := Ev.binds (e1)
  obtain ⟨Khi, hi⟩ := Ev.binds (e2)
  obtain ⟨Ke0_, e0_⟩ := Ev.binds (eq_Forest ((cv_Forest (⟨a0_0, l0_1⟩ : S31))) U0)
  try dsimp only [cv_Forest] at e0_
  obtain ⟨Kf0_, f0_⟩ := Ev.binds (eq_Int64SS y0 v0)
  try dsimp only [cv_Forest] at f0_
  obtain ⟨m0, n0_0, g0_, o0, w0⟩ := mark_Forest ((cv_Forest (⟨a0_0, l0_1⟩ : S31))) U0 1 (by omega) (by omega)
  obtain ⟨Kk0_, k0_⟩ := Ev.binds (g0_)
  try dsimp only [cv_Forest] at k0_
  have cm := eq_false (show ¬ m0 < 0 by omega)
  obtain ⟨M0, N0_0, G0_, O0, A0, H0_⟩ := mark_Int64SS y0 v0 1 (by omega) (by omega)
  obtain ⟨Kx0_, x0_⟩ := Ev.binds (G0_)
  try dsimp only [cv_Forest] at x0_
  obtain ⟨Kz0_, z0_⟩ := Ev.binds (H0_)
  try dsimp only [cv_Forest] at z0_
  have cn0 := eq_false (show ¬ M0 < 0 by omega)
  exact ⟨Kt0 + Khs + Khi + Ke0_ + Kf0_ + Kk0_ + Kx0_ + Kz0_ + 1 + 1 + 1 + 1, by simp (disch := omega) only [laws_FnExactGroupsOf.f, ↓s0, ↓t0, ↓hs, ↓hi, ↓e0_, ↓f0_, ↓k0_, ↓x0_, ↓z0_, ↓reduceIte, c0, cm, cn0, bne_self_eq_false, Bool.false_eq_true, Bool.not_true, Bool.not_false]⟩

end Go.Proofs.Ytkjlplcdjdenkaa.Pure
