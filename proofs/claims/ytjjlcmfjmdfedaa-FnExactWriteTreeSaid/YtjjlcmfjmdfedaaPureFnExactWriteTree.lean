/- The program's WriteTree answers as the reference's WriteTree does, for all arguments. -/
import Derived.Test.YtjjlcmfjmdfedaaPFnExactWriteTreex6
import Derived.Test.YtjjlcmfjmdfedaaBits
import Derived.Test.YtjjlcmfjmdfedaaLoops
namespace Go.Proofs.Ytjjlcmfjmdfedaa.Pure
open Go Go.RowKit Go.Proofs.Ytjjlcmfjmdfedaa.PFnExactWriteTree Go.Proofs.YtjjlcmfjmdfedaaW.PrintWords Go.Proofs.YtjjlcmfjmdfedaaW.PrintLast Go.Proofs.YtjjlcmfjmdfedaaW.PrintMore Go.Proofs.Ytjjlcmfjmdfedaa.BitsLib Go.Proofs.Ytjjlcmfjmdfedaa.Loops
set_option linter.unusedVariables false
set_option linter.unusedSimpArgs false
set_option maxRecDepth 4000

/-! wrap_next -/
theorem wrap_next (i : Nat) (h : i < 4611686018427387904) : wrap64 ((i : Int) + 1) = ((i + 1 : Nat) : Int) := by
  rw [wrap64_id (by omega) (by omega)]; rfl

/-! szn_out -/
theorem szn_out (n : Nat) (left : Int) (hn : (n : Int) ≤ 9223372036854775807) (h0 : 0 ≤ left) (h1 : left ≤ 1048576) :
    ∃ r, (True → wrap64 (left - (n : Int)) = r) ∧ (r < 0 ∨ (0 ≤ r ∧ r ≤ left ∧ (n : Int) ≤ 1048576)) := by
  refine ⟨left - (n : Int), fun _ => wrap64_id (by omega) (by omega), ?_⟩
  by_cases c : left - (n : Int) < 0
  · exact .inl c
  · exact .inr (by omega)

/-! sz_Int64S -/
theorem sz_Int64S (x : List Int) (left : Int) (hin : ((x.length : Int) ≤ 9223372036854775807)) (h0 : 0 ≤ left) (h1 : left ≤ 1048576) :
    ∃ r, Ev (fun k => laws_szInt64S.f x left) r ∧ (r < 0 ∨ (0 ≤ r ∧ r ≤ left ∧ ((x.length : Int) ≤ 1048576))) := by
  obtain ⟨r, hr, hb⟩ := szn_out x.length left hin h0 h1
  rcases hb with c | ⟨p0, q0, u0⟩
  · exact ⟨-1, ⟨0, fun k _ => by dsimp only; unfold laws_szInt64S.f; rw [hr trivial, if_pos c]⟩, .inl (by omega)⟩
  · exact ⟨r, ⟨0, fun k _ => by dsimp only; unfold laws_szInt64S.f; rw [hr trivial, if_neg (by omega)]⟩, .inr ⟨p0, q0, u0⟩⟩

/-! UpL_Node -/
def UpL_Node (c : Int) (x : S80) : Prop := ((x.f0.size : Int) ≤ c) ∧ ((x.f1.length : Int) ≤ c)

/-! rdE_T80 -/
theorem rdE_T80 (l : List S80) (i : Nat) (h : i < l.length) : rd_T80 l (i : Int) = l[i] := by
  unfold rd_T80
  rw [List.getD_eq_getElem?_getD, Int.toNat_natCast, List.getElem?_eq_getElem h]; rfl
theorem rdM_T80 (l : List S80) (i : Nat) (h : i < l.length) : rd_T80 l (i : Int) ∈ l := by rw [rdE_T80 l i h]; exact List.getElem_mem h

/-! sz_Node -/
theorem sz_Node (x : S80) (left : Int) (hin : UpL_Node 9223372036854775807 x) (h0 : 0 ≤ left) (h1 : left ≤ 1048576) :
    ∃ r, Ev (fun k => laws_szNode.f x.f0 x.f1 left) r ∧ (r < 0 ∨ (0 ≤ r ∧ r ≤ left ∧ UpL_Node 1048576 x)) := by
  unfold UpL_Node at hin
  obtain ⟨i0, i1⟩ := hin
  obtain ⟨r0, e0, hb0⟩ := szn_out x.f0.size left i0 (by omega) (by omega)
  rcases hb0 with c0 | ⟨p0, q0, u0⟩
  · exact ⟨-1, ⟨0, fun k hk => by dsimp only; unfold laws_szNode.f; rw [e0 trivial]; rw [if_pos c0]⟩, .inl (by omega)⟩
  obtain ⟨r1, ⟨K1, e1⟩, hb1⟩ := sz_Int64S x.f1 r0 i1 (by omega) (by omega)
  rcases hb1 with c1 | ⟨p1, q1, u1⟩
  · exact ⟨-1, ⟨K1, fun k hk => by have e1 := e1 k (by omega); dsimp only at e1 ⊢; unfold laws_szNode.f; rw [e0 trivial]; rw [if_neg (by omega)]; rw [e1]; simp only [Option.bind_some]; rw [if_pos c1]⟩, .inl (by omega)⟩
  exact ⟨r1, ⟨K1, fun k hk => by have e1 := e1 k (by omega); dsimp only at e1 ⊢; unfold laws_szNode.f; rw [e0 trivial]; rw [if_neg (by omega)]; rw [e1]; simp only [Option.bind_some]; rw [if_neg (by omega)]⟩, .inr ⟨by omega, by omega, ⟨u0, u1⟩⟩⟩

/-! sz_NodeS -/
theorem sz_NodeS (x : List S80) (left : Int) (hin : ((x.length : Int) ≤ 9223372036854775807 ∧ ∀ y ∈ x, UpL_Node 9223372036854775807 y)) (h0 : 0 ≤ left) (h1 : left ≤ 1048576) :
    ∃ r, Ev (fun k => laws_szNodeS.f k x left) r ∧ (r < 0 ∨ (0 ≤ r ∧ r ≤ left ∧ ((x.length : Int) ≤ 1048576 ∧ ∀ y ∈ x, UpL_Node 1048576 y))) := by
  obtain ⟨hl, hx⟩ := hin
  obtain ⟨r0, hr0, hb0⟩ := szn_out x.length left hl h0 h1
  rcases hb0 with c | ⟨p0, q0, u0⟩
  · exact ⟨-1, ⟨0, fun k _ => by dsimp only; unfold laws_szNodeS.f; rw [hr0 trivial, if_pos c]⟩, .inl (by omega)⟩
  · have main : ∀ d i, x.length - i = d → i ≤ x.length → ∀ lf, 0 ≤ lf → lf ≤ left → ∃ r, Ev (fun k => laws_szNodeS.l0 k x lf (i : Int)) r ∧ (r < 0 ∨ (0 ≤ r ∧ r ≤ lf ∧ ∀ j : Nat, i ≤ j → j < x.length → UpL_Node 1048576 ((rd_T80 x (j : Int))))) := by
      intro d
      induction d with
      | zero =>
        intro i hd hi lf g0 g1
        exact ⟨lf, Ev.step (f := fun _ => some lf) (fun k => by simp only [laws_szNodeS.l0]; rw [if_neg (by omega)]) (Ev.now _), .inr ⟨g0, Int.le_refl _, fun j g2 g3 => absurd g3 (by omega)⟩⟩
      | succ d ih =>
        intro i hd hi lf g0 g1
        have hil : i < x.length := by omega
        obtain ⟨r, ⟨K, hr⟩, hrb⟩ := sz_Node (rd_T80 x (i : Int)) lf (hx _ (rdM_T80 x i hil)) g0 (by omega)
        rcases hrb with hneg | ⟨p1, p2, p3⟩
        · refine ⟨-1, ⟨K + 1, fun k hk => ?_⟩, .inl (by omega)⟩
          obtain ⟨m, rfl⟩ : ∃ m, k = m + 1 := ⟨k - 1, by omega⟩
          have hr := hr m (by omega)
          dsimp only at hr ⊢
          simp only [laws_szNodeS.l0]
          rw [if_pos (by omega), if_pos (by omega), hr]
          simp only [Option.bind_some]
          rw [if_pos hneg]
        · obtain ⟨r2, ⟨K2, h2⟩, hb2⟩ := ih (i + 1) (by omega) (by omega) r p1 (by omega)
          refine ⟨r2, ⟨K + K2 + 1, fun k hk => ?_⟩, ?_⟩
          · obtain ⟨m, rfl⟩ : ∃ m, k = m + 1 := ⟨k - 1, by omega⟩
            have hr := hr m (by omega)
            have h2 := h2 m (by omega)
            dsimp only at hr h2 ⊢
            simp only [laws_szNodeS.l0]
            rw [if_pos (by omega), if_pos (by omega), hr]
            simp only [Option.bind_some]
            rw [if_neg (by omega), wrap_next i (by omega)]
            exact h2
          · rcases hb2 with hb2 | ⟨s0, s1, s2⟩
            · exact .inl hb2
            · refine .inr ⟨s0, by omega, fun j g2 g3 => ?_⟩
              by_cases e : j = i
              · rw [e]; exact p3
              · exact s2 j (by omega) g3
    obtain ⟨r, ⟨K, hr⟩, hb⟩ := main x.length 0 (by omega) (by omega) r0 p0 q0
    refine ⟨r, ⟨K, fun k hk => ?_⟩, ?_⟩
    · have hr := hr k hk
      dsimp only at hr ⊢
      unfold laws_szNodeS.f
      rw [hr0 trivial, if_neg (by omega)]
      exact hr
    · rcases hb with hb | ⟨s0, s1, s2⟩
      · exact .inl hb
      · refine .inr ⟨s0, by omega, by omega, fun y hy => ?_⟩
        obtain ⟨j, hjl, rfl⟩ := List.getElem_of_mem hy
        have := s2 j (by omega) hjl
        rwa [rdE_T80 x j hjl] at this

/-! S24 -/
structure S24 where
  f0 : List S80

/-! UpL_Tree -/
def UpL_Tree (c : Int) (x : S24) : Prop := ((x.f0.length : Int) ≤ c ∧ ∀ y ∈ x.f0, UpL_Node c y)

/-! sz_Tree -/
theorem sz_Tree (x : S24) (left : Int) (hin : UpL_Tree 9223372036854775807 x) (h0 : 0 ≤ left) (h1 : left ≤ 1048576) :
    ∃ r, Ev (fun k => laws_szTree.f k x.f0 left) r ∧ (r < 0 ∨ (0 ≤ r ∧ r ≤ left ∧ UpL_Tree 1048576 x)) := by
  unfold UpL_Tree at hin
  have i0 := hin
  obtain ⟨r0, ⟨K0, e0⟩, hb0⟩ := sz_NodeS x.f0 left i0 (by omega) (by omega)
  rcases hb0 with c0 | ⟨p0, q0, u0⟩
  · exact ⟨-1, ⟨K0, fun k hk => by have e0 := e0 k (by omega); dsimp only at e0 ⊢; unfold laws_szTree.f; rw [e0]; simp only [Option.bind_some]; rw [if_pos c0]⟩, .inl (by omega)⟩
  exact ⟨r0, ⟨K0, fun k hk => by have e0 := e0 k (by omega); dsimp only at e0 ⊢; unfold laws_szTree.f; rw [e0]; simp only [Option.bind_some]; rw [if_neg (by omega)]⟩, .inr ⟨by omega, by omega, u0⟩⟩

/-! to_Int64S -/
theorem to_Int64S (x : List Int) (h : ((x.length : Int) ≤ 1048576)) : Ev (fun k => laws_toInt64S.f k x) x := by
  have hl := h
  have main := up_loop x.length (filled (fun i => (rd x i)) (List.replicate x.length 0)) (fun k xs i => laws_toInt64S.l0 k x xs i)
    (fun i hi r h2 => by
      obtain ⟨K2, h2⟩ := h2
      refine ⟨K2 + 1, fun k hk => ?_⟩
      obtain ⟨m, rfl⟩ : ∃ m, k = m + 1 := ⟨k - 1, by omega⟩
      have h2 := h2 m (by omega)
      dsimp only at h2 ⊢
      rw [← filled_set _ _ (by simpa using hi)] at h2
      simp only [laws_toInt64S.l0]
      rw [if_pos (by omega), if_pos (by omega)]
      rw [if_pos (by rw [filled_len _ _ (by simp; omega)]; simp; omega), Int.toNat_natCast, wrap64_id (by omega) (by omega)]
      exact h2)
    x (Ev.step (f := fun _ => some x) (fun k => by
      simp only [laws_toInt64S.l0]
      rw [if_neg (by omega), filled_all _ _ (by simp)]
      congr 1
      exact list_of_rd x) (Ev.now _))
  rw [filled_zero] at main
  refine Ev.congr (fun k => ?_) main
  unfold laws_toInt64S.f
  rw [if_pos (by omega), if_pos (by omega), Int.toNat_natCast]

/-! UpI_Node -/
def UpI_Node (c : Int) (x : S66) : Prop := ((x.f0.size : Int) ≤ c) ∧ ((x.f1.length : Int) ≤ c)

/-! rdE_T66 -/
theorem rdE_T66 (l : List S66) (i : Nat) (h : i < l.length) : rd_T66 l (i : Int) = l[i] := by
  unfold rd_T66
  rw [List.getD_eq_getElem?_getD, Int.toNat_natCast, List.getElem?_eq_getElem h]; rfl
theorem rdM_T66 (l : List S66) (i : Nat) (h : i < l.length) : rd_T66 l (i : Int) ∈ l := by rw [rdE_T66 l i h]; exact List.getElem_mem h

/-! cv_Node -/
def cv_Node (x : S80) : S66 := ⟨x.f0, x.f1⟩

/-! upcv_Node -/
theorem upcv_Node (c : Int) (x : S80) (h : UpL_Node c x) : UpI_Node c (cv_Node x) := by
  unfold UpL_Node at h
  unfold UpI_Node
  obtain ⟨i0, i1⟩ := h
  exact ⟨i0, i1⟩

/-! in_Node -/
theorem in_Node (x : S80) (h : x.f0.size ≤ maxLen ∧ (x.f1.length ≤ 9223372036854775807 ∧ ∀ y0 ∈ x.f1, (Lit.int .i64 y0).wf = true)) : UpL_Node 9223372036854775807 x := by
  obtain ⟨j0, j1⟩ := h
  unfold UpL_Node
  exact ⟨(by have := j0; unfold maxLen at this; omega), (Int.ofNat_le.2 j1.1)⟩

/-! to_Node -/
theorem to_Node (x : S80) (h : UpL_Node 1048576 x) : Ev (fun k => laws_toNode.f k x.f0 x.f1) ((cv_Node x).f0, (cv_Node x).f1) := by
  unfold UpL_Node at h
  obtain ⟨i0, i1⟩ := h
  obtain ⟨K1, e1⟩ := to_Int64S x.f1 i1
  refine ⟨K1, fun k hk => ?_⟩
  have e1 := e1 k (by omega)
  dsimp only at e1 ⊢
  simp only [laws_toNode.f, e1, Option.bind_some]
  all_goals rfl

/-! to_NodeS -/
theorem to_NodeS (x : List S80) (h : ((x.length : Int) ≤ 1048576 ∧ ∀ y ∈ x, UpL_Node 1048576 y)) : Ev (fun k => laws_toNodeS.f k x) (x.map cv_Node) := by
  have hl := h.1
  have main := up_loop x.length (filled (fun i => (cv_Node (rd_T80 x i))) (List.replicate x.length z66)) (fun k xs i => laws_toNodeS.l0 k x xs i)
    (fun i hi r h2 => by
      obtain ⟨K, he⟩ := to_Node (rd_T80 x (i : Int)) (h.2 _ (rdM_T80 x i hi))
      obtain ⟨K2, h2⟩ := h2
      refine ⟨K + K2 + 1, fun k hk => ?_⟩
      obtain ⟨m, rfl⟩ : ∃ m, k = m + 1 := ⟨k - 1, by omega⟩
      have h2 := h2 m (by omega)
      have he := he m (by omega)
      dsimp only at he h2 ⊢
      rw [← filled_set _ _ (by simpa using hi)] at h2
      simp only [laws_toNodeS.l0]
      rw [if_pos (by omega), if_pos (by omega), he]
      simp only [Option.bind_some]
      rw [if_pos (by rw [filled_len _ _ (by simp; omega)]; simp; omega), Int.toNat_natCast, wrap64_id (by omega) (by omega)]
      exact h2)
    (x.map cv_Node) (Ev.step (f := fun _ => some (x.map cv_Node)) (fun k => by
      simp only [laws_toNodeS.l0]
      rw [if_neg (by omega), filled_all _ _ (by simp)]
      congr 1
      apply List.ext_getElem?
      intro i
      by_cases hi : i < x.length
      · simp [hi, rdE_T80]
      · rw [List.getElem?_eq_none (by first | omega | (simp; omega)), List.getElem?_eq_none (by first | omega | (simp; omega))]) (Ev.now _))
  rw [filled_zero] at main
  refine Ev.congr (fun k => ?_) main
  unfold laws_toNodeS.f
  rw [if_pos (by omega), if_pos (by omega), Int.toNat_natCast]

/-! S29 -/
structure S29 where
  f0 : List S66

/-! UpI_Tree -/
def UpI_Tree (c : Int) (x : S29) : Prop := ((x.f0.length : Int) ≤ c ∧ ∀ y ∈ x.f0, UpI_Node c y)

/-! cv_Tree -/
def cv_Tree (x : S24) : S29 := ⟨(x.f0.map cv_Node)⟩

/-! upcv_Tree -/
theorem upcv_Tree (c : Int) (x : S24) (h : UpL_Tree c x) : UpI_Tree c (cv_Tree x) := by
  unfold UpL_Tree at h
  unfold UpI_Tree
  have i0 := h
  exact ⟨by simpa [cv_Tree] using i0.1, fun y hy => by obtain ⟨z, hz, rfl⟩ := List.mem_map.1 hy; exact upcv_Node c z (i0.2 z hz)⟩

/-! in_Tree -/
theorem in_Tree (x : S24) (h : (x.f0.length ≤ 9223372036854775807 ∧ ∀ y0 ∈ x.f0, y0.f0.size ≤ maxLen ∧ (y0.f1.length ≤ 9223372036854775807 ∧ ∀ y1 ∈ y0.f1, (Lit.int .i64 y1).wf = true))) : UpL_Tree 9223372036854775807 x := by
  have j0 := h
  unfold UpL_Tree
  exact ⟨Int.ofNat_le.2 j0.1, fun y hy => in_Node y (j0.2 y hy)⟩

/-! to_Tree -/
theorem to_Tree (x : S24) (h : UpL_Tree 1048576 x) : Ev (fun k => laws_toTree.f k x.f0) (cv_Tree x).f0 := by
  unfold UpL_Tree at h
  have i0 := h
  obtain ⟨K0, e0⟩ := to_NodeS x.f0 i0
  refine ⟨K0, fun k hk => ?_⟩
  have e0 := e0 k (by omega)
  dsimp only at e0 ⊢
  simp only [laws_toTree.f, e0, Option.bind_some]
  all_goals rfl

/-! eq_Int64S -/
theorem eq_Int64S (x : List Int) (h : ((x.length : Int) ≤ 1048576)) : Ev (fun k => laws_eqInt64S.f k x x) true := by
  have hl := h
  have main := up_loop x.length (fun _ => ()) (fun k _ i => laws_eqInt64S.l0 k x x i)
    (fun i hi r h2 => by
      obtain ⟨K2, h2⟩ := h2
      refine ⟨K2 + 1, fun k hk => ?_⟩
      obtain ⟨m, rfl⟩ : ∃ m, k = m + 1 := ⟨k - 1, by omega⟩
      have h2 := h2 m (by omega)
      dsimp only at h2 ⊢
      simp only [laws_eqInt64S.l0]
      rw [if_pos (by omega), if_pos (by omega), if_pos (by omega)]
      simp only [if_true]
      rw [wrap64_id (by omega) (by omega)]
      exact h2)
    true (Ev.step (f := fun _ => some true) (fun k => by
      simp only [laws_eqInt64S.l0]
      rw [if_neg (by omega)]) (Ev.now _))
  obtain ⟨K, h⟩ := main
  refine ⟨K, fun k hk => ?_⟩
  have h := h k hk
  dsimp only at h ⊢
  unfold laws_eqInt64S.f
  rw [if_pos rfl]
  exact h

/-! eq_Node -/
theorem eq_Node (x : S66) (h : UpI_Node 1048576 x) : Ev (fun k => laws_eqNode.f k x.f0 x.f1 x.f0 x.f1) true := by
  unfold UpI_Node at h
  obtain ⟨i0, i1⟩ := h
  obtain ⟨K1, e1⟩ := eq_Int64S x.f1 i1
  refine ⟨K1, fun k hk => ?_⟩
  have e1 := e1 k (by omega)
  dsimp only at e1 ⊢
  simp only [laws_eqNode.f, e1, Option.bind_some, if_true, ↓reduceIte, bne_self_eq_false, Bool.false_eq_true]

/-! eq_NodeS -/
theorem eq_NodeS (x : List S66) (h : ((x.length : Int) ≤ 1048576 ∧ ∀ y ∈ x, UpI_Node 1048576 y)) : Ev (fun k => laws_eqNodeS.f k x x) true := by
  have hl := h.1
  have main := up_loop x.length (fun _ => ()) (fun k _ i => laws_eqNodeS.l0 k x x i)
    (fun i hi r h2 => by
      obtain ⟨K, he⟩ := eq_Node (rd_T66 x (i : Int)) (h.2 _ (rdM_T66 x i hi))
      obtain ⟨K2, h2⟩ := h2
      refine ⟨K + K2 + 1, fun k hk => ?_⟩
      obtain ⟨m, rfl⟩ : ∃ m, k = m + 1 := ⟨k - 1, by omega⟩
      have h2 := h2 m (by omega)
      have he := he m (by omega)
      dsimp only at he h2 ⊢
      simp only [laws_eqNodeS.l0]
      rw [if_pos (by omega), if_pos (by omega), if_pos (by omega), he]
      simp only [Option.bind_some, if_true, ↓reduceIte]
      rw [wrap64_id (by omega) (by omega)]
      exact h2)
    true (Ev.step (f := fun _ => some true) (fun k => by
      simp only [laws_eqNodeS.l0]
      rw [if_neg (by omega)]) (Ev.now _))
  obtain ⟨K, h⟩ := main
  refine ⟨K, fun k hk => ?_⟩
  have h := h k hk
  dsimp only at h ⊢
  unfold laws_eqNodeS.f
  rw [if_pos rfl]
  exact h

/-! eq_Tree -/
theorem eq_Tree (x : S29) (h : UpI_Tree 1048576 x) : Ev (fun k => laws_eqTree.f k x.f0 x.f0) true := by
  unfold UpI_Tree at h
  have i0 := h
  obtain ⟨K0, e0⟩ := eq_NodeS x.f0 i0
  refine ⟨K0, fun k hk => ?_⟩
  have e0 := e0 k (by omega)
  dsimp only at e0 ⊢
  simp only [laws_eqTree.f, e0, Option.bind_some, if_true, ↓reduceIte, bne_self_eq_false, Bool.false_eq_true]

/-! WfI_Node -/
def WfI_Node (x : S66) : Prop := True ∧ (∀ y ∈ x.f1, (-9223372036854775808 ≤ y ∧ y ≤ 9223372036854775807))

/-! wf_Node -/
theorem wf_Node (x : S80) (h : x.f0.size ≤ maxLen ∧ (x.f1.length ≤ 9223372036854775807 ∧ ∀ y0 ∈ x.f1, (Lit.int .i64 y0).wf = true)) : WfI_Node (cv_Node x) := by
  obtain ⟨j0, j1⟩ := h
  exact ⟨trivial, (fun a1_ ha1_ => (wf_i64 (j1.2 a1_ ha1_)))⟩

/-! WfI_Tree -/
def WfI_Tree (x : S29) : Prop := (∀ y ∈ x.f0, WfI_Node y)

/-! wf_Tree -/
theorem wf_Tree (x : S24) (h : (x.f0.length ≤ 9223372036854775807 ∧ ∀ y0 ∈ x.f0, y0.f0.size ≤ maxLen ∧ (y0.f1.length ≤ 9223372036854775807 ∧ ∀ y1 ∈ y0.f1, (Lit.int .i64 y1).wf = true))) : WfI_Tree (cv_Tree x) := by
  have j0 := h
  exact (fun y hy => by obtain ⟨z, hz, rfl⟩ := List.mem_map.1 hy; exact wf_Node z (j0.2 z hz))

/-! atoms -/
theorem atoms_agree (s : ByteArray) (hs : s.size ≤ 9223372036854775807) : ∃ b, Ev (fun k => spec_l2Atom.f k s) b ∧ Ev (fun k => impl_atomOk.f k s) b := by
  have main : ∀ d i, s.size - i = d → i ≤ s.size → ∃ b, Ev (fun k => spec_l2Atom.l0 k s (i : Int)) b ∧ Ev (fun k => impl_atomOk.l0 k s (i : Int)) b := by
    intro d
    induction d with
    | zero =>
      intro i hd hi
      refine ⟨decide ((s.size : Int) > 0), Ev.step (f := fun _ => some (decide ((s.size : Int) > 0))) (fun k => ?_) (Ev.now _), Ev.step (f := fun _ => some (decide ((s.size : Int) > 0))) (fun k => ?_) (Ev.now _)⟩
      · simp only [spec_l2Atom.l0]; rw [if_neg (by omega)]
      · simp only [impl_atomOk.l0]; rw [if_neg (by omega)]
        congr 1
        by_cases c : s.size = 0
        · have : s.toList = [] := (toList_nil s).2 c
          rw [this]; simp [c]
        · have : s.toList ≠ [] := fun h => c ((toList_nil s).1 h)
          rw [decide_eq_true (by omega)]; simpa using this
    | succ d ih =>
      intro i hd hi
      obtain ⟨b, h1, h2⟩ := ih (i + 1) (by omega) (by omega)
      have hno : ∀ v, impl_atomByte.f (bt s (i : Int)) = some v → v = false → Ev (fun k => impl_atomOk.l0 k s (i : Int)) false := fun v hv hf => Ev.step (f := fun _ => some false) (fun k => by
        simp only [impl_atomOk.l0]
        rw [if_pos (by omega), if_pos (by omega), hv]
        simp only [Option.bind_some]
        rw [hf]; rfl) (Ev.now _)
      have hyes : impl_atomByte.f (bt s (i : Int)) = some true → Ev (fun k => impl_atomOk.l0 k s (i : Int)) b := fun hv => Ev.step (fun k => by
        simp only [impl_atomOk.l0]
        rw [if_pos (by omega), if_pos (by omega), hv]
        simp only [Option.bind_some, if_true]
        rw [wrap64_id (by omega) (by omega)]; rfl) h2
      by_cases c1 : bt s (i : Int) < 33
      · exact ⟨false, Ev.step (f := fun _ => some false) (fun k => by simp only [spec_l2Atom.l0]; rw [if_pos (by omega), if_pos (by omega), if_pos c1]) (Ev.now _), hno false (by unfold impl_atomByte.f; rw [if_neg (by omega)]) rfl⟩
      · by_cases c2 : bt s (i : Int) > 126
        · exact ⟨false, Ev.step (f := fun _ => some false) (fun k => by simp only [spec_l2Atom.l0]; rw [if_pos (by omega), if_pos (by omega), if_neg c1, if_pos c2]) (Ev.now _), hno false (by unfold impl_atomByte.f; rw [if_pos (by omega), if_neg (by omega)]) rfl⟩
        · by_cases c3 : bt s (i : Int) = 40
          · exact ⟨false, Ev.step (f := fun _ => some false) (fun k => by simp only [spec_l2Atom.l0]; rw [if_pos (by omega), if_pos (by omega), if_neg c1, if_neg c2, if_pos c3]) (Ev.now _), hno false (by unfold impl_atomByte.f; rw [if_pos (by omega), if_pos (by omega), if_pos c3]) rfl⟩
          · by_cases c4 : bt s (i : Int) = 41
            · exact ⟨false, Ev.step (f := fun _ => some false) (fun k => by simp only [spec_l2Atom.l0]; rw [if_pos (by omega), if_pos (by omega), if_neg c1, if_neg c2, if_neg c3, if_pos c4]) (Ev.now _), hno false (by unfold impl_atomByte.f; rw [if_pos (by omega), if_pos (by omega), if_neg c3, if_pos c4]) rfl⟩
            · by_cases c5 : bt s (i : Int) = 59
              · exact ⟨false, Ev.step (f := fun _ => some false) (fun k => by simp only [spec_l2Atom.l0]; rw [if_pos (by omega), if_pos (by omega), if_neg c1, if_neg c2, if_neg c3, if_neg c4, if_pos c5]) (Ev.now _), hno false (by unfold impl_atomByte.f; rw [if_pos (by omega), if_pos (by omega), if_neg c3, if_neg c4, c5]; rfl) rfl⟩
              · exact ⟨b, Ev.step (fun k => by simp only [spec_l2Atom.l0]; rw [if_pos (by omega), if_pos (by omega), if_neg c1, if_neg c2, if_neg c3, if_neg c4, if_neg c5, wrap64_id (by omega) (by omega)]; rfl) h1, hyes (by unfold impl_atomByte.f; rw [if_pos (by omega), if_pos (by omega), if_neg c3, if_neg c4]; simpa using c5)⟩
  obtain ⟨b, h1, h2⟩ := main s.size 0 (by omega) (by omega)
  exact ⟨b, Ev.congr (fun k => rfl) h1, Ev.congr (fun k => rfl) h2⟩

/-! walks -/
/-- Both walks through a tree tell the same: a place, or that it isn't right. -/
def WalkAgree (t : List S66) (f : Nat → Option Int) (g : Nat → Option (Int × Bool)) (at_ : Int) : Prop :=
  (∃ r, at_ < r ∧ r ≤ t.length ∧ Ev f r ∧ Ev g (r, true)) ∨ (Ev f (-1) ∧ ∃ x, Ev g (x, false))
theorem walks_agree (t : List S66) (hl : t.length ≤ 1048576) (hx : ∀ x ∈ t, x.f0.size ≤ 1048576 ∧ x.f1.length ≤ 1048576) :
    ∀ D : Nat, ∀ at_ d : Nat, d + D = 101 → at_ < t.length → WalkAgree t (fun k => spec_l2Walk.f k t (at_ : Int) (d : Int)) (fun k => impl_Tree_below.f k t (at_ : Int) (d : Int)) (at_ : Int) := by
  intro D
  induction D with
  | zero =>
    intro at_ d hd hat
    right
    refine ⟨⟨2, fun k hk => ?_⟩, 0, ⟨2, fun k hk => ?_⟩⟩
    · obtain ⟨m, rfl⟩ : ∃ m, k = m + 1 + 1 := ⟨k - 2, by omega⟩
      simp only [spec_l2Walk.f, spec_l2Walk.j0]
      rw [if_pos (by omega), if_pos (by omega), if_pos (by omega)]; first | rw [if_pos rfl] | rw [if_pos trivial]
    · obtain ⟨m, rfl⟩ : ∃ m, k = m + 1 + 1 := ⟨k - 2, by omega⟩
      simp only [impl_Tree_below.f, impl_Tree_below.j0]
      rw [if_neg (by omega), decide_eq_true (by omega)]; first | rw [if_pos rfl] | rw [if_pos trivial]
  | succ D ih =>
    intro at_ d hd hat
    have hmem : rd_T66 t (at_ : Int) ∈ t := by
      unfold rd_T66
      rw [List.getD_eq_getElem?_getD, Int.toNat_natCast, List.getElem?_eq_getElem hat]; exact List.getElem_mem hat
    have hb := hx _ hmem
    obtain ⟨kids, hkids⟩ : ∃ kids, kids = (rd_T66 t (at_ : Int)).f1 := ⟨_, rfl⟩
    obtain ⟨text, htext⟩ : ∃ text, text = (rd_T66 t (at_ : Int)).f0 := ⟨_, rfl⟩
    rw [← hkids, ← htext] at hb
    have loop : ∀ n i, kids.length - i = n → i ≤ kids.length → ∀ next : Nat, at_ < next → next ≤ t.length →
        WalkAgree t (fun k => spec_l2Walk.l0 k (d : Int) (next : Int) (i : Int) t text kids) (fun k => impl_Tree_below.l0 k (d : Int) (next : Int) kids (kids.length : Int) (i : Int) t) (at_ : Int) := by
      intro n
      induction n with
      | zero =>
        intro i hn hi next g1 g2
        left
        refine ⟨(next : Int), by omega, by omega, Ev.step (f := fun _ => some (next : Int)) (fun k => ?_) (Ev.now _), Ev.step (f := fun _ => some ((next : Int), true)) (fun k => ?_) (Ev.now _)⟩
        · simp only [spec_l2Walk.l0]; rw [if_neg (by omega)]
        · simp only [impl_Tree_below.l0]; rw [if_neg (by omega)]
      | succ n ihn =>
        intro i hn hi next g1 g2
        by_cases ck : rd kids (i : Int) = (next : Int)
        · by_cases cn : next < t.length
          · have hdec : decide ((next : Int) ≥ (t.length : Int)) = false := decide_eq_false (by omega)
            rcases ih next (d + 1) (by omega) cn with ⟨r, r1, r2, ⟨K1, h1⟩, ⟨K2, h2⟩⟩ | ⟨⟨K1, h1⟩, x, ⟨K2, h2⟩⟩
            · obtain ⟨r, rfl⟩ := Int.eq_ofNat_of_zero_le (show 0 ≤ r by omega)
              have rest := ihn (i + 1) (by omega) (by omega) r (by omega) (by omega)
              have s1 : ∀ z, Ev (fun k => spec_l2Walk.l0 k (d : Int) (r : Int) ((i + 1 : Nat) : Int) t text kids) z → Ev (fun k => spec_l2Walk.l0 k (d : Int) (next : Int) (i : Int) t text kids) z := by
                rintro z ⟨K3, h3⟩
                refine ⟨K1 + K3 + 2, fun k hk => ?_⟩
                obtain ⟨m, rfl⟩ : ∃ m, k = m + 1 + 1 := ⟨k - 2, by omega⟩
                have h1 := h1 m (by omega)
                have h3 := h3 m (by omega)
                dsimp only at h1 h3 ⊢
                simp only [spec_l2Walk.l0, spec_l2Walk.j2]
                rw [if_pos (by omega), if_pos (by omega), if_pos ck, hdec, if_neg (by decide), wrap64_id (by omega) (by omega), show (d : Int) + 1 = ((d + 1 : Nat) : Int) by omega, h1]
                simp only [Option.bind_some]
                rw [if_neg (by omega), wrap64_id (by omega) (by omega)]
                exact h3
              have s2 : ∀ z, Ev (fun k => impl_Tree_below.l0 k (d : Int) (r : Int) kids (kids.length : Int) ((i + 1 : Nat) : Int) t) z → Ev (fun k => impl_Tree_below.l0 k (d : Int) (next : Int) kids (kids.length : Int) (i : Int) t) z := by
                rintro z ⟨K3, h3⟩
                refine ⟨K2 + K3 + 1, fun k hk => ?_⟩
                obtain ⟨m, rfl⟩ : ∃ m, k = m + 1 := ⟨k - 1, by omega⟩
                have h2 := h2 m (by omega)
                have h3 := h3 m (by omega)
                dsimp only at h2 h3 ⊢
                simp only [impl_Tree_below.l0]
                rw [if_pos (by omega), if_pos (by omega), if_pos (by omega), if_pos ck, ck, wrap64_id (by omega) (by omega), show (d : Int) + 1 = ((d + 1 : Nat) : Int) by omega, h2]
                simp only [Option.bind_some, if_true]
                rw [wrap64_id (by omega) (by omega)]
                exact h3
              rcases rest with ⟨z, z1, z2, z3, z4⟩ | ⟨z3, x, z4⟩
              · exact .inl ⟨z, z1, z2, s1 _ z3, s2 _ z4⟩
              · exact .inr ⟨s1 _ z3, x, s2 _ z4⟩
            · right
              refine ⟨⟨K1 + 2, fun k hk => ?_⟩, 0, ⟨K2 + 1, fun k hk => ?_⟩⟩
              · obtain ⟨m, rfl⟩ : ∃ m, k = m + 1 + 1 := ⟨k - 2, by omega⟩
                have h1 := h1 m (by omega)
                dsimp only at h1 ⊢
                simp only [spec_l2Walk.l0, spec_l2Walk.j2]
                rw [if_pos (by omega), if_pos (by omega), if_pos ck, hdec, if_neg (by decide), wrap64_id (by omega) (by omega), show (d : Int) + 1 = ((d + 1 : Nat) : Int) by omega, h1]
                rfl
              · obtain ⟨m, rfl⟩ : ∃ m, k = m + 1 := ⟨k - 1, by omega⟩
                have h2 := h2 m (by omega)
                dsimp only at h2 ⊢
                simp only [impl_Tree_below.l0]
                rw [if_pos (by omega), if_pos (by omega), if_pos (by omega), if_pos ck, ck, wrap64_id (by omega) (by omega), show (d : Int) + 1 = ((d + 1 : Nat) : Int) by omega, h2]
                rfl
          · right
            have hdec : decide ((next : Int) ≥ (t.length : Int)) = true := decide_eq_true (by omega)
            refine ⟨⟨2, fun k hk => ?_⟩, 0, ⟨3, fun k hk => ?_⟩⟩
            · obtain ⟨m, rfl⟩ : ∃ m, k = m + 1 + 1 := ⟨k - 2, by omega⟩
              simp only [spec_l2Walk.l0, spec_l2Walk.j2]
              rw [if_pos (by omega), if_pos (by omega), if_pos ck, hdec]; first | rw [if_pos rfl] | rw [if_pos trivial]
            · obtain ⟨m, rfl⟩ : ∃ m, k = m + 1 + 1 + 1 := ⟨k - 3, by omega⟩
              simp only [impl_Tree_below.l0, impl_Tree_below.f, impl_Tree_below.j0]
              rw [if_pos (by omega), if_pos (by omega), if_pos (by omega), if_pos ck, ck, if_pos (by omega)]; first | rw [if_pos rfl] | rw [if_pos trivial]
              rfl
        · right
          refine ⟨⟨2, fun k hk => ?_⟩, 0, ⟨1, fun k hk => ?_⟩⟩
          · obtain ⟨m, rfl⟩ : ∃ m, k = m + 1 + 1 := ⟨k - 2, by omega⟩
            simp only [spec_l2Walk.l0, spec_l2Walk.j2]
            rw [if_pos (by omega), if_pos (by omega), if_neg ck]; first | rw [if_pos rfl] | rw [if_pos trivial]
          · obtain ⟨m, rfl⟩ : ∃ m, k = m + 1 := ⟨k - 1, by omega⟩
            simp only [impl_Tree_below.l0]
            rw [if_pos (by omega), if_pos (by omega), if_pos (by omega), if_neg ck, if_neg ck]
    have hd100 : ¬ (d : Int) > 100 := by omega
    have hdd : decide ((d : Int) > 100) = false := decide_eq_false hd100
    by_cases ct : text.toList = []
    · have l := loop kids.length 0 (by omega) (by omega) (at_ + 1) (by omega) (by omega)
      have s1 : ∀ z, Ev (fun k => spec_l2Walk.l0 k (d : Int) ((at_ + 1 : Nat) : Int) ((0 : Nat) : Int) t text kids) z → Ev (fun k => spec_l2Walk.f k t (at_ : Int) (d : Int)) z := by
        rintro z ⟨K, h⟩
        refine ⟨K + 2, fun k hk => ?_⟩
        obtain ⟨m, rfl⟩ : ∃ m, k = m + 1 + 1 := ⟨k - 2, by omega⟩
        have h := h m (by omega)
        dsimp only at h ⊢
        simp only [spec_l2Walk.f, spec_l2Walk.j0]
        rw [← htext, ← hkids, if_pos (by omega), if_pos (by omega), if_neg hd100, if_pos ct, if_neg (by decide), wrap64_id (by omega) (by omega)]
        exact h
      have s2 : ∀ z, Ev (fun k => impl_Tree_below.l0 k (d : Int) ((at_ + 1 : Nat) : Int) kids (kids.length : Int) ((0 : Nat) : Int) t) z → Ev (fun k => impl_Tree_below.f k t (at_ : Int) (d : Int)) z := by
        rintro z ⟨K, h⟩
        refine ⟨K + 2, fun k hk => ?_⟩
        obtain ⟨m, rfl⟩ : ∃ m, k = m + 1 + 1 := ⟨k - 2, by omega⟩
        have h := h m (by omega)
        dsimp only at h ⊢
        simp only [impl_Tree_below.f, impl_Tree_below.j0]
        rw [← htext, ← hkids, if_neg (by omega), hdd, if_neg (by decide), if_pos (by omega), if_pos (by omega), if_pos ct, wrap64_id (by omega) (by omega)]
        exact h
      rcases l with ⟨z, z1, z2, z3, z4⟩ | ⟨z3, x, z4⟩
      · exact .inl ⟨z, z1, z2, s1 _ z3, s2 _ z4⟩
      · exact .inr ⟨s1 _ z3, x, s2 _ z4⟩
    · obtain ⟨b, ⟨K1, h1⟩, ⟨K2, h2⟩⟩ := atoms_agree text (by omega)
      by_cases ck : kids.length = 0
      · have hnk : decide ((kids.length : Int) > 0) = false := decide_eq_false (by omega)
        cases b with
        | true =>
          left
          refine ⟨((at_ + 1 : Nat) : Int), by omega, by omega, ⟨K1 + 3, fun k hk => ?_⟩, ⟨K2 + 2, fun k hk => ?_⟩⟩
          · obtain ⟨m, rfl⟩ : ∃ m, k = m + 1 + 1 + 1 := ⟨k - 3, by omega⟩
            have h1 := h1 (m + 1 + 1) (by omega)
            dsimp only at h1 ⊢
            simp only [spec_l2Walk.f, spec_l2Walk.j0, spec_l2Walk.l0]
            rw [← htext, ← hkids, if_pos (by omega), if_pos (by omega), if_neg hd100, if_neg ct, h1]
            simp only [Option.bind_some, if_true]
            rw [hnk, if_neg (by decide), if_neg (by omega), wrap64_id (by omega) (by omega)]
            rfl
          · obtain ⟨m, rfl⟩ : ∃ m, k = m + 1 + 1 := ⟨k - 2, by omega⟩
            have h2 := h2 m (by omega)
            dsimp only at h2 ⊢
            simp only [impl_Tree_below.f, impl_Tree_below.j0]
            rw [← htext, ← hkids, if_neg (by omega), hdd, if_neg (by decide), if_pos (by omega), if_pos (by omega), if_neg ct, if_pos (by omega), h2]
            simp only [Option.bind_some]
            rw [wrap64_id (by omega) (by omega)]
            rfl
        | false =>
          right
          refine ⟨⟨K1 + 2, fun k hk => ?_⟩, ((at_ + 1 : Nat) : Int), ⟨K2 + 2, fun k hk => ?_⟩⟩
          · obtain ⟨m, rfl⟩ : ∃ m, k = m + 1 + 1 := ⟨k - 2, by omega⟩
            have h1 := h1 (m + 1) (by omega)
            dsimp only at h1 ⊢
            simp only [spec_l2Walk.f, spec_l2Walk.j0]
            rw [← htext, ← hkids, if_pos (by omega), if_pos (by omega), if_neg hd100, if_neg ct, h1]
            rfl
          · obtain ⟨m, rfl⟩ : ∃ m, k = m + 1 + 1 := ⟨k - 2, by omega⟩
            have h2 := h2 m (by omega)
            dsimp only at h2 ⊢
            simp only [impl_Tree_below.f, impl_Tree_below.j0]
            rw [← htext, ← hkids, if_neg (by omega), hdd, if_neg (by decide), if_pos (by omega), if_pos (by omega), if_neg ct, if_pos (by omega), h2]
            simp only [Option.bind_some]
            rw [wrap64_id (by omega) (by omega)]
            rfl
      · have hnk : decide ((kids.length : Int) > 0) = true := decide_eq_true (by omega)
        right
        refine ⟨⟨K1 + 2, fun k hk => ?_⟩, ((at_ + 1 : Nat) : Int), ⟨2, fun k hk => ?_⟩⟩
        · obtain ⟨m, rfl⟩ : ∃ m, k = m + 1 + 1 := ⟨k - 2, by omega⟩
          have h1 := h1 (m + 1) (by omega)
          dsimp only at h1 ⊢
          simp only [spec_l2Walk.f, spec_l2Walk.j0]
          rw [← htext, ← hkids, if_pos (by omega), if_pos (by omega), if_neg hd100, if_neg ct, h1]
          simp only [Option.bind_some, hnk]
          cases b <;> rfl
        · obtain ⟨m, rfl⟩ : ∃ m, k = m + 1 + 1 := ⟨k - 2, by omega⟩
          dsimp only
          simp only [impl_Tree_below.f, impl_Tree_below.j0]
          rw [← htext, ← hkids, if_neg (by omega), hdd, if_neg (by decide), if_pos (by omega), if_pos (by omega), if_neg ct, if_neg (by omega), wrap64_id (by omega) (by omega)]
          rfl

/-! treeOk -/
theorem treeOk_agree (t : List S66) (hl : t.length ≤ 1048576) (hx : ∀ x ∈ t, x.f0.size ≤ 1048576 ∧ x.f1.length ≤ 1048576) : ∃ b, Ev (fun k => spec_TreeOk.f k t) b ∧ Ev (fun k => impl_TreeOk.f k t) b := by
  by_cases c1 : (t.length : Int) < 1
  · exact ⟨false, Ev.congr (fun k => by unfold spec_TreeOk.f; rw [if_pos c1]) (Ev.now _), Ev.congr (fun k => by unfold impl_TreeOk.f; rw [if_pos c1]) (Ev.now _)⟩
  · by_cases c2 : (t.length : Int) > 2000
    · exact ⟨false, Ev.congr (fun k => by unfold spec_TreeOk.f; rw [if_neg c1, if_pos c2]) (Ev.now _), Ev.congr (fun k => by unfold impl_TreeOk.f; rw [if_neg c1, if_pos c2]) (Ev.now _)⟩
    · rcases walks_agree t hl hx 101 0 0 rfl (by omega) with ⟨r, _, _, ⟨K1, h1⟩, ⟨K2, h2⟩⟩ | ⟨⟨K1, h1⟩, x, ⟨K2, h2⟩⟩
      · refine ⟨r == (t.length : Int), ⟨K1, fun k hk => ?_⟩, ⟨K2, fun k hk => ?_⟩⟩
        · have h1 : spec_l2Walk.f k t 0 0 = some r := h1 k hk
          dsimp only
          unfold spec_TreeOk.f
          rw [if_neg c1, if_neg c2, h1]; rfl
        · have h2 : impl_Tree_below.f k t 0 0 = some (r, true) := h2 k hk
          dsimp only
          unfold impl_TreeOk.f
          rw [if_neg c1, if_neg c2, h2]; rfl
      · refine ⟨false, ⟨K1, fun k hk => ?_⟩, ⟨K2, fun k hk => ?_⟩⟩
        · have h1 : spec_l2Walk.f k t 0 0 = some (-1) := h1 k hk
          dsimp only
          unfold spec_TreeOk.f
          rw [if_neg c1, if_neg c2, h1]
          simp only [Option.bind_some]
          congr 1
        · have h2 : impl_Tree_below.f k t 0 0 = some (x, false) := h2 k hk
          dsimp only
          unfold impl_TreeOk.f
          rw [if_neg c1, if_neg c2, h2]; rfl

/-! writeTree -/
/-- What is told of a text that is written: all of it, or more than there may be. -/
def Tells (out T out' : List UInt8) : Prop := out' = out ++ T ∨ (20000 < out'.length ∧ out'.length ≤ out.length + T.length)
theorem walk_place (t : List S66) (hl : t.length ≤ 1048576) (hx : ∀ x ∈ t, x.f0.size ≤ 1048576 ∧ x.f1.length ≤ 1048576) (at_ d : Nat) (hd : d ≤ 101) (hat : at_ < t.length) (r : Int) (hr : 0 ≤ r) (hw : Ev (fun k => spec_l2Walk.f k t (at_ : Int) (d : Int)) r) :
    (at_ : Int) < r ∧ r ≤ t.length := by
  rcases walks_agree t hl hx (101 - d) at_ d (by omega) hat with ⟨r1, g1, g2, h1, _⟩ | ⟨h1, _⟩
  · have := Ev.uniq hw h1
    omega
  · have := Ev.uniq hw h1
    omega
set_option maxHeartbeats 4000000 in
theorem text_agree (t : List S66) (hl : t.length ≤ 1048576) (hx : ∀ x ∈ t, x.f0.size ≤ 1048576 ∧ x.f1.length ≤ 1048576) :
    ∀ D : Nat, D ≤ 101 → ∀ at_ d : Nat, d + D = 101 → at_ < t.length → ∀ r : Int, 0 ≤ r → Ev (fun k => spec_l2Walk.f k t (at_ : Int) (d : Int)) r →
      ∃ T : List UInt8, (T.length : Int) ≤ (r - at_) * 1048580 - 1 ∧ ∀ out : List UInt8, out.length + T.length ≤ 100000000000000 →
        Ev (fun k => impl_Tree_write.f k t (at_ : Int) out) (out ++ T) ∧ ∃ out', Ev (fun k => spec_l2Text.f k t (at_ : Int) (ints out)) (ints out') ∧ Tells out T out' := by
  intro D
  induction D with
  | zero =>
    intro _ at_ d hd hat r hr hw
    exfalso
    have h : Ev (fun k => spec_l2Walk.f k t (at_ : Int) (d : Int)) (-1) := ⟨2, fun k hk => by
      obtain ⟨m, rfl⟩ : ∃ m, k = m + 1 + 1 := ⟨k - 2, by omega⟩
      simp (disch := omega) only [spec_l2Walk.f, spec_l2Walk.j0, ↓if_pos, ↓reduceIte]⟩
    have := Ev.uniq hw h
    omega
  | succ D ih =>
    intro hD at_ d hd hat r hr hw
    have hplace := walk_place t hl hx at_ d (by omega) hat r hr hw
    have hmem : rd_T66 t (at_ : Int) ∈ t := by
      unfold rd_T66
      rw [List.getD_eq_getElem?_getD, Int.toNat_natCast, List.getElem?_eq_getElem hat]; exact List.getElem_mem hat
    have hb := hx _ hmem
    obtain ⟨kids, hkids⟩ : ∃ kids, kids = (rd_T66 t (at_ : Int)).f1 := ⟨_, rfl⟩
    obtain ⟨text, htext⟩ : ∃ text, text = (rd_T66 t (at_ : Int)).f0 := ⟨_, rfl⟩
    rw [← hkids, ← htext] at hb
    have loop : ∀ n i, kids.length - i = n → i ≤ kids.length → ∀ next : Nat, ∀ r : Int, 0 ≤ r → Ev (fun k => spec_l2Walk.l0 k (d : Int) (next : Int) (i : Int) t text kids) r →
        ∃ T : List UInt8, (next : Int) ≤ r ∧ (T.length : Int) ≤ (r - next) * 1048580 + 1 ∧ ∀ out : List UInt8, out.length + T.length ≤ 100000000000000 →
          Ev (fun k => impl_Tree_write.l0 k t kids (i : Int) out) (out ++ T) ∧ ∃ out', Ev (fun k => spec_l2Text.l0 k (ints out) (i : Int) t text kids) (ints out') ∧ Tells out T out' := by
      intro n
      induction n with
      | zero =>
        intro i hn hi next r hr hw
        have h0 : Ev (fun k => spec_l2Walk.l0 k (d : Int) (next : Int) (i : Int) t text kids) (next : Int) := Ev.step (f := fun _ => some (next : Int)) (fun k => by simp (disch := omega) only [spec_l2Walk.l0, ↓if_neg]) (Ev.now _)
        have hrn := Ev.uniq hw h0
        refine ⟨[41], by omega, by simp only [List.length_singleton]; omega, fun out ho => ⟨Ev.step (f := fun _ => some (out ++ [41])) (fun k => ?_) (Ev.now _), out ++ [41], Ev.step (f := fun _ => some (ints (out ++ [41]))) (fun k => ?_) (Ev.now _), .inl rfl⟩⟩
        · simp only [List.length_singleton] at ho
          simp (disch := omega) only [impl_Tree_write.l0, ↓if_neg, ↓if_pos]
        · simp only [List.length_singleton] at ho
          have hlen := ints_len out
          simp (disch := omega) only [spec_l2Text.l0, ↓if_neg, ↓if_pos]
          rw [ints_snoc]
          rfl
      | succ n ihn =>
        intro i hn hi next r hr hw
        by_cases ck : rd kids (i : Int) = (next : Int)
        · by_cases cn : next < t.length
          · have hdec : decide ((next : Int) ≥ (t.length : Int)) = false := decide_eq_false (by omega)
            rcases walks_agree t hl hx D next (d + 1) (by omega) cn with ⟨r1, g1, g2, ⟨K1, h1⟩, _⟩ | ⟨⟨K1, h1⟩, _⟩
            · obtain ⟨r2, rfl⟩ := Int.eq_ofNat_of_zero_le (show 0 ≤ r1 by omega)
              obtain ⟨T1, a0, a1⟩ := ih (by omega) next (d + 1) (by omega) cn (r2 : Int) (by omega) ⟨K1, h1⟩
              obtain ⟨K, hw⟩ := hw
              have hrest : Ev (fun k => spec_l2Walk.l0 k (d : Int) (r2 : Int) ((i + 1 : Nat) : Int) t text kids) r := ⟨K + K1, fun m hm => by
                have h := hw (m + 1 + 1) (by omega)
                have h1 : spec_l2Walk.f m t (next : Int) ((d : Int) + 1) = some (r2 : Int) := h1 m (by omega)
                dsimp only at h ⊢
                simp (disch := omega) only [spec_l2Walk.l0, spec_l2Walk.j2, ↓if_pos, ↓if_neg, ck, hdec, ↓reduceIte, Bool.false_eq_true, wrap64_id, h1, Option.bind_some] at h
                exact h⟩
              obtain ⟨T2, b0, b1, b2⟩ := ihn (i + 1) (by omega) (by omega) r2 r hr hrest
              have hwi : wrap64 ((i : Int) + 1) = ((i + 1 : Nat) : Int) := wrap_next i (by omega)
              have f1 : (i : Int) < (kids.length : Int) := Int.ofNat_lt.2 (Nat.lt_of_sub_eq_succ hn)
              have f2 : (0 : Int) ≤ (i : Int) := Int.natCast_nonneg i
              have two : ∀ (out0 : List UInt8), out0.length + T1.length + T2.length ≤ 100000000000000 →
                  Ev (fun k => (impl_Tree_write.f k t (next : Int) out0).bind fun o => impl_Tree_write.l0 k t kids ((i + 1 : Nat) : Int) o) (out0 ++ (T1 ++ T2)) ∧ ∃ out', Ev (fun k => (spec_l2Text.f k t (next : Int) (ints out0)).bind fun o => spec_l2Text.l0 k o ((i + 1 : Nat) : Int) t text kids) (ints out') ∧ Tells out0 (T1 ++ T2) out' := by
                intro out0 h0
                obtain ⟨⟨K3, h3⟩, o1, ⟨K4, h4⟩, h5⟩ := a1 out0 (by omega)
                have hl1 : o1.length ≤ out0.length + T1.length := by
                  rcases h5 with h5 | h5
                  · rw [h5, List.length_append]; exact Nat.le_refl _
                  · exact h5.2
                obtain ⟨⟨K6, h6⟩, _⟩ := b2 (out0 ++ T1) (by rw [List.length_append]; omega)
                obtain ⟨_, o2, ⟨K8, h8⟩, h9⟩ := b2 o1 (by omega)
                refine ⟨⟨K3 + K6, fun k hk => ?_⟩, o2, ⟨K4 + K8, fun k hk => ?_⟩, ?_⟩
                · have h3 : impl_Tree_write.f k t (next : Int) out0 = some (out0 ++ T1) := h3 k (by omega)
                  dsimp only
                  rw [h3, Option.bind_some, ← List.append_assoc]
                  exact h6 k (by omega)
                · have h4 : spec_l2Text.f k t (next : Int) (ints out0) = some (ints o1) := h4 k (by omega)
                  dsimp only
                  rw [h4, Option.bind_some]
                  exact h8 k (by omega)
                · unfold Tells at h5 h9 ⊢
                  rw [List.length_append]
                  rcases h5 with h5 | h5
                  · rcases h9 with h9 | h9
                    · exact .inl (by rw [h9, h5, List.append_assoc])
                    · exact .inr ⟨h9.1, by omega⟩
                  · rcases h9 with h9 | h9
                    · refine .inr ?_
                      rw [h9, List.length_append]
                      omega
                    · exact .inr ⟨h9.1, by omega⟩
              by_cases ip : i = 0
              · subst ip
                refine ⟨T1 ++ T2, by omega, by rw [List.length_append]; omega, fun out ho => ?_⟩
                rw [List.length_append] at ho
                obtain ⟨h3, o2, h4, h5⟩ := two out (by omega)
                refine ⟨Ev.step (fun k => ?_) h3, o2, Ev.step (fun k => ?_) h4, h5⟩
                · simp only [impl_Tree_write.l0]
                  rw [if_pos f1, if_pos f2, if_neg (show ¬ ((0 : Nat) : Int) > 0 by decide), ck, hwi]
                · simp only [spec_l2Text.l0]
                  rw [if_pos f1, if_neg (show ¬ ((0 : Nat) : Int) > 0 by decide), if_pos f2, ck, hwi]
              · refine ⟨[32] ++ (T1 ++ T2), by omega, by rw [List.length_append, List.length_append, List.length_singleton]; omega, fun out ho => ?_⟩
                rw [List.length_append, List.length_append, List.length_singleton] at ho
                obtain ⟨h3, o2, h4, h5⟩ := two (out ++ [32]) (by rw [List.length_append, List.length_singleton]; omega)
                rw [List.append_assoc] at h3
                have hlen := ints_len out
                have hsn : ints (out ++ [32]) = ints out ++ [32] := ints_snoc out 32
                have f3 : (i : Int) > 0 := Int.natCast_pos.2 (Nat.pos_of_ne_zero ip)
                have f4 : out.length < 140737488355328 := Nat.lt_of_le_of_lt (Nat.le_trans (Nat.le_add_right _ _) ho) (by decide)
                have f5 : (ints out).length < 140737488355328 := by rw [hlen]; exact f4
                refine ⟨Ev.step (fun k => ?_) h3, o2, Ev.step (fun k => ?_) h4, ?_⟩
                · simp only [impl_Tree_write.l0]
                  rw [if_pos f1, if_pos f2, if_pos f3, if_pos f4, ck, hwi]
                · simp only [spec_l2Text.l0]
                  rw [if_pos f1, if_pos f3, if_pos f5, if_pos f2, ck, hwi, ← hsn]
                · unfold Tells at h5 ⊢
                  rw [List.append_assoc] at h5
                  rcases h5 with h5 | h5
                  · exact .inl h5
                  · refine .inr ⟨h5.1, ?_⟩
                    have := h5.2
                    simp only [List.length_append, List.length_singleton] at this ⊢
                    omega
            · exfalso
              have h : Ev (fun k => spec_l2Walk.l0 k (d : Int) (next : Int) (i : Int) t text kids) (-1) := ⟨K1 + 2, fun k hk => by
                obtain ⟨m, rfl⟩ : ∃ m, k = m + 1 + 1 := ⟨k - 2, by omega⟩
                have h1 : spec_l2Walk.f m t (next : Int) ((d : Int) + 1) = some (-1) := h1 m (by omega)
                simp (disch := omega) only [spec_l2Walk.l0, spec_l2Walk.j2, ↓if_pos, ↓if_neg, ck, hdec, ↓reduceIte, Bool.false_eq_true, wrap64_id, h1, Option.bind_some]⟩
              have := Ev.uniq hw h
              omega
          · exfalso
            have hdec : decide ((next : Int) ≥ (t.length : Int)) = true := decide_eq_true (by omega)
            have h : Ev (fun k => spec_l2Walk.l0 k (d : Int) (next : Int) (i : Int) t text kids) (-1) := ⟨2, fun k hk => by
              obtain ⟨m, rfl⟩ : ∃ m, k = m + 1 + 1 := ⟨k - 2, by omega⟩
              simp (disch := omega) only [spec_l2Walk.l0, spec_l2Walk.j2, ↓if_pos, ↓if_neg, ck, hdec, ↓reduceIte]⟩
            have := Ev.uniq hw h
            omega
        · exfalso
          have h : Ev (fun k => spec_l2Walk.l0 k (d : Int) (next : Int) (i : Int) t text kids) (-1) := ⟨2, fun k hk => by
            obtain ⟨m, rfl⟩ : ∃ m, k = m + 1 + 1 := ⟨k - 2, by omega⟩
            simp (disch := omega) only [spec_l2Walk.l0, spec_l2Walk.j2, ↓if_pos, if_neg ck, ↓reduceIte]⟩
          have := Ev.uniq hw h
          omega
    have big : ∀ (T out : List UInt8), 20000 < out.length → ∃ out', Ev (fun k => spec_l2Text.f k t (at_ : Int) (ints out)) (ints out') ∧ Tells out T out' := fun T out ho => by
      have hlen := ints_len out
      refine ⟨out, ⟨1, fun k hk => ?_⟩, .inr ⟨ho, by omega⟩⟩
      obtain ⟨m, rfl⟩ : ∃ m, k = m + 1 := ⟨k - 1, by omega⟩
      simp (disch := omega) only [spec_l2Text.f, ↓if_pos]
    by_cases ct : text.toList = []
    · obtain ⟨K, hw⟩ := hw
      have h0 : Ev (fun k => spec_l2Walk.l0 k (d : Int) ((at_ + 1 : Nat) : Int) ((0 : Nat) : Int) t text kids) r := ⟨K, fun m hm => by
        have h := hw (m + 1 + 1) (by omega)
        dsimp only at h ⊢
        simp (disch := omega) only [spec_l2Walk.f, spec_l2Walk.j0, ← htext, ← hkids, ↓if_pos, ↓if_neg, ct, ↓reduceIte, Bool.false_eq_true, wrap64_id] at h
        exact h⟩
      obtain ⟨T, b0, b1, b2⟩ := loop kids.length 0 (by omega) (by omega) (at_ + 1) r hr h0
      refine ⟨[40] ++ T, by rw [List.length_append, List.length_singleton]; omega, fun out ho => ?_⟩
      rw [List.length_append, List.length_singleton] at ho
      obtain ⟨⟨K4, h4⟩, o1, ⟨K5, h5⟩, h6⟩ := b2 (out ++ [40]) (by rw [List.length_append, List.length_singleton]; omega)
      rw [List.append_assoc] at h4
      have hlen := ints_len out
      have hsn : ints (out ++ [40]) = ints out ++ [40] := ints_snoc out 40
      refine ⟨⟨K4 + 1, fun k hk => ?_⟩, ?_⟩
      · obtain ⟨m, rfl⟩ : ∃ m, k = m + 1 := ⟨k - 1, by omega⟩
        have h4 := h4 m (by omega)
        simp (disch := omega) only [impl_Tree_write.f, ← htext, ← hkids, ↓if_pos, ct, ↓reduceIte]
        exact h4
      · by_cases cb : 20000 < out.length
        · exact big _ out cb
        · refine ⟨o1, ⟨K5 + 1, fun k hk => ?_⟩, ?_⟩
          · obtain ⟨m, rfl⟩ : ∃ m, k = m + 1 := ⟨k - 1, by omega⟩
            have h5 := h5 m (by omega)
            rw [hsn] at h5
            simp (disch := omega) only [spec_l2Text.f, ← htext, ← hkids, ↓if_pos, ↓if_neg, ct, ↓reduceIte]
            exact h5
          · unfold Tells at h6 ⊢
            rw [List.append_assoc] at h6
            rcases h6 with h6 | h6
            · exact .inl h6
            · refine .inr ⟨h6.1, ?_⟩
              have := h6.2
              simp only [List.length_append, List.length_singleton] at this ⊢
              omega
    · have hsz : text.data.toList.length = text.size := by rw [Array.length_toList]; rfl
      refine ⟨text.data.toList, by rw [hsz]; omega, fun out ho => ?_⟩
      rw [hsz] at ho
      have hlen := ints_len out
      have hit := ints_text out text
      refine ⟨⟨1, fun k hk => ?_⟩, ?_⟩
      · obtain ⟨m, rfl⟩ : ∃ m, k = m + 1 := ⟨k - 1, by omega⟩
        simp (disch := omega) only [impl_Tree_write.f, ← htext, ↓if_pos, if_neg ct]
      · by_cases cb : 20000 < out.length
        · exact big _ out cb
        · refine ⟨out ++ text.data.toList, ⟨1, fun k hk => ?_⟩, .inl rfl⟩
          obtain ⟨m, rfl⟩ : ∃ m, k = m + 1 := ⟨k - 1, by omega⟩
          simp (disch := omega) only [spec_l2Text.f, ← htext, ↓if_pos, ↓if_neg, if_neg ct, hit]
theorem writeTree_agree (t : List S66) (U0 : UpI_Tree 1048576 ⟨t⟩) (W0 : WfI_Tree ⟨t⟩) : ∃ v, Ev (fun k => spec_WriteTree.f k t) v ∧ Ev (fun k => impl_WriteTree.f k t) v := by
  have hl : t.length ≤ 1048576 := by have := U0.1; simp only at this; omega
  have hx : ∀ x ∈ t, x.f0.size ≤ 1048576 ∧ x.f1.length ≤ 1048576 := fun x hx => by have := U0.2 x hx; unfold UpI_Node at this; omega
  obtain ⟨b, g1, g2⟩ := treeOk_agree t hl hx
  obtain ⟨K1, h1⟩ := Ev.binds g1
  obtain ⟨K2, h2⟩ := Ev.binds g2
  cases b with
  | false => exact ⟨⟨#[]⟩, ⟨K1, fun k hk => by simp (disch := omega) only [spec_WriteTree.f, ↓h1, ↓reduceIte, Bool.false_eq_true]⟩, ⟨K2, fun k hk => by simp (disch := omega) only [impl_WriteTree.f, ↓h2, ↓reduceIte, Bool.false_eq_true]⟩⟩
  | true =>
    have hpos : 0 < t.length := by
      rcases Nat.eq_zero_or_pos t.length with h | h
      · exfalso
        have : Ev (fun k => spec_TreeOk.f k t) false := ⟨0, fun k _ => by simp (disch := omega) only [spec_TreeOk.f, ↓if_pos]⟩
        exact absurd (Ev.uniq g1 this) (by decide)
      · exact h
    rcases walks_agree t hl hx 101 0 0 rfl hpos with ⟨r, g3, g4, g5, _⟩ | ⟨g5, _⟩
    · obtain ⟨T, c0, c1⟩ := text_agree t hl hx 101 (by omega) 0 0 rfl hpos r (by omega) g5
      obtain ⟨⟨K3, h3⟩, o1, ⟨K4, h4⟩, h5⟩ := c1 [] (by simp only [List.length_nil]; omega)
      rw [List.nil_append] at h3
      have hlo := ints_len o1
      by_cases cb : 20000 < T.length
      · have cb1 : (T.length : Int) > 20000 := by omega
        have cb2 : ((ints o1).length : Int) > 20000 := by
          unfold Tells at h5
          rw [List.nil_append] at h5
          rcases h5 with h5 | h5
          · rw [hlo, h5]; omega
          · omega
        refine ⟨⟨#[]⟩, ⟨K1 + K4, fun k hk => ?_⟩, ⟨K2 + K3, fun k hk => ?_⟩⟩
        · have h4 : spec_l2Text.f k t 0 [] = some (ints o1) := h4 k (by omega)
          simp (disch := omega) only [spec_WriteTree.f, ↓h1, ↓reduceIte, h4, Option.bind_some, if_pos cb2]
        · have h3 : impl_Tree_write.f k t 0 [] = some T := h3 k (by omega)
          simp (disch := omega) only [impl_WriteTree.f, ↓h2, ↓reduceIte, h3, Option.bind_some, if_pos cb1]
      · have e1 : o1 = T := by
          unfold Tells at h5
          rw [List.nil_append, List.length_nil] at h5
          rcases h5 with h5 | h5
          · exact h5
          · omega
        subst e1
        have cb1 : ¬ (o1.length : Int) > 20000 := by omega
        have cb2 : ¬ ((ints o1).length : Int) > 20000 := by rw [hlo]; omega
        have es : strOfNums (ints o1) = ⟨o1.toArray⟩ := by simp [strOfNums, ints, List.map_map, Function.comp_def]
        refine ⟨⟨o1.toArray⟩, ⟨K1 + K4, fun k hk => ?_⟩, ⟨K2 + K3, fun k hk => ?_⟩⟩
        · have h4 : spec_l2Text.f k t 0 [] = some (ints o1) := h4 k (by omega)
          simp (disch := omega) only [spec_WriteTree.f, ↓h1, ↓reduceIte, h4, Option.bind_some, if_neg cb2, es]
        · have h3 : impl_Tree_write.f k t 0 [] = some o1 := h3 k (by omega)
          simp (disch := omega) only [impl_WriteTree.f, ↓h2, ↓reduceIte, h3, Option.bind_some, if_neg cb1]
    · exfalso
      by_cases c2 : (t.length : Int) > 2000
      · have : Ev (fun k => spec_TreeOk.f k t) false := ⟨0, fun k _ => by simp (disch := omega) only [spec_TreeOk.f, ↓if_neg, ↓if_pos]⟩
        exact absurd (Ev.uniq g1 this) (by decide)
      · obtain ⟨K5, h5⟩ := g5
        have : Ev (fun k => spec_TreeOk.f k t) false := ⟨K5, fun k hk => by
          have h5 : spec_l2Walk.f k t 0 0 = some (-1) := h5 k (by omega)
          simp (disch := omega) only [spec_TreeOk.f, ↓if_neg, h5, Option.bind_some]
          congr 1⟩
        exact absurd (Ev.uniq g1 this) (by decide)
-- SAYS: The program's WriteTree answers as the reference's WriteTree does, for all arguments.
theorem FnExactWriteTree (l0_0 : List S80) (q0_0 : ∀ x ∈ l0_0, x.f0.size ≤ maxLen ∧ (x.f1.length ≤ 9223372036854775807 ∧ ∀ y0 ∈ x.f1, (Lit.int .i64 y0).wf = true)) (hl0_0 : l0_0.length ≤ 9223372036854775807) : ∃ k, laws_FnExactWriteTree.f k l0_0 = some true := by
  obtain ⟨r0, g0, hb0⟩ := sz_Tree (⟨l0_0⟩ : S24) 1048576 (in_Tree (⟨l0_0⟩ : S24) (And.intro hl0_0 q0_0)) (by omega) (by omega)
  obtain ⟨Ks0, s0⟩ := Ev.binds (g0)
  try dsimp only [cv_Tree] at s0
  rcases hb0 with hneg | ⟨p0, z0, u0⟩
  · have c0 := eq_true hneg
    exact ⟨Ks0 + 1 + 1 + 1 + 1, by simp (disch := omega) only [laws_FnExactWriteTree.f, ↓s0, ↓reduceIte, c0]⟩
  have c0 := eq_false (show ¬ r0 < 0 by omega)
  have U0 : UpI_Tree 1048576 ((cv_Tree (⟨l0_0⟩ : S24))) := (upcv_Tree _ _ u0)
  have W0 : WfI_Tree ((cv_Tree (⟨l0_0⟩ : S24))) := wf_Tree (⟨l0_0⟩ : S24) (And.intro hl0_0 q0_0)
  obtain ⟨y0, e1, e2⟩ := writeTree_agree ((l0_0.map cv_Node)) U0 W0
  obtain ⟨Kt0, t0⟩ := Ev.binds (to_Tree (⟨l0_0⟩ : S24) u0)
  try dsimp only [cv_Tree] at t0
  obtain ⟨Khs, hs⟩ := Ev.binds (e1)
  obtain ⟨Khi, hi⟩ := Ev.binds (e2)
  obtain ⟨Ke0_, e0_⟩ := Ev.binds (eq_Tree ((cv_Tree (⟨l0_0⟩ : S24))) U0)
  try dsimp only [cv_Tree] at e0_
  exact ⟨Ks0 + Kt0 + Khs + Khi + Ke0_ + 1 + 1 + 1 + 1, by simp (disch := omega) only [laws_FnExactWriteTree.f, ↓s0, ↓t0, ↓hs, ↓hi, ↓e0_, ↓reduceIte, c0, bne_self_eq_false, Bool.false_eq_true, Bool.not_true, Bool.not_false]⟩

end Go.Proofs.Ytjjlcmfjmdfedaa.Pure
