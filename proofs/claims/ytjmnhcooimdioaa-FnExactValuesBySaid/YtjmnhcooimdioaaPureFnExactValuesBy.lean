/- The program's ValuesBy answers as the reference's ValuesBy does, for all arguments. -/
import Derived.Test.YtjmnhcooimdioaaPFnExactValuesByx9
import Derived.Test.YtjmnhcooimdioaaBits
import Derived.Test.YtjmnhcooimdioaaLoops
namespace Go.Proofs.Ytjmnhcooimdioaa.Pure
open Go Go.RowKit Go.Proofs.Ytjmnhcooimdioaa.PFnExactValuesBy Go.Proofs.YtjmnhcooimdioaaW.PrintWords Go.Proofs.YtjmnhcooimdioaaW.PrintLast Go.Proofs.YtjmnhcooimdioaaW.PrintMore Go.Proofs.Ytjmnhcooimdioaa.BitsLib Go.Proofs.Ytjmnhcooimdioaa.Loops
set_option linter.unusedVariables false
set_option linter.unusedSimpArgs false
set_option maxRecDepth 4000

/-! wrap_next -/
theorem wrap_next (i : Nat) (h : i < 4611686018427387904) : wrap64 ((i : Int) + 1) = ((i + 1 : Nat) : Int) := by
  rw [wrap64_id (by omega) (by omega)]; rfl

/-! szn_out -/
theorem szn_out (n : Nat) (left : Int) (hn : (n : Int) ≤ 9223372036854775807) (h0 : 0 ≤ left) (h1 : left ≤ 1048576) :
    ∃ r, (True → wrap64 (left - (n : Int)) = r) ∧ (r < 0 ∨ (0 ≤ r ∧ r ≤ left ∧ (n : Int) ≤ 1048576)) := by
  refine ⟨left - (n : Int), fun _ => wrap64_id (by omega) (by omega), ?_⟩
  by_cases c : left - (n : Int) < 0
  · exact .inl c
  · exact .inr (by omega)

/-! UpL_Decl -/
def UpL_Decl (c : Int) (x : S142) : Prop := ((x.f0.size : Int) ≤ c)

/-! rdE_T142 -/
theorem rdE_T142 (l : List S142) (i : Nat) (h : i < l.length) : rd_T142 l (i : Int) = l[i] := by
  unfold rd_T142
  rw [List.getD_eq_getElem?_getD, Int.toNat_natCast, List.getElem?_eq_getElem h]; rfl
theorem rdM_T142 (l : List S142) (i : Nat) (h : i < l.length) : rd_T142 l (i : Int) ∈ l := by rw [rdE_T142 l i h]; exact List.getElem_mem h

/-! sz_Decl -/
theorem sz_Decl (x : S142) (left : Int) (hin : UpL_Decl 9223372036854775807 x) (h0 : 0 ≤ left) (h1 : left ≤ 1048576) :
    ∃ r, Ev (fun k => laws_szDecl.f x.f0 x.f1 left) r ∧ (r < 0 ∨ (0 ≤ r ∧ r ≤ left ∧ UpL_Decl 1048576 x)) := by
  unfold UpL_Decl at hin
  have i0 := hin
  obtain ⟨r0, e0, hb0⟩ := szn_out x.f0.size left i0 (by omega) (by omega)
  rcases hb0 with c0 | ⟨p0, q0, u0⟩
  · exact ⟨-1, ⟨0, fun k hk => by dsimp only; unfold laws_szDecl.f; rw [e0 trivial]; rw [if_pos c0]⟩, .inl (by omega)⟩
  exact ⟨r0, ⟨0, fun k hk => by dsimp only; unfold laws_szDecl.f; rw [e0 trivial]; rw [if_neg (by omega)]⟩, .inr ⟨by omega, by omega, u0⟩⟩

/-! sz_DeclS -/
theorem sz_DeclS (x : List S142) (left : Int) (hin : ((x.length : Int) ≤ 9223372036854775807 ∧ ∀ y ∈ x, UpL_Decl 9223372036854775807 y)) (h0 : 0 ≤ left) (h1 : left ≤ 1048576) :
    ∃ r, Ev (fun k => laws_szDeclS.f k x left) r ∧ (r < 0 ∨ (0 ≤ r ∧ r ≤ left ∧ ((x.length : Int) ≤ 1048576 ∧ ∀ y ∈ x, UpL_Decl 1048576 y))) := by
  obtain ⟨hl, hx⟩ := hin
  obtain ⟨r0, hr0, hb0⟩ := szn_out x.length left hl h0 h1
  rcases hb0 with c | ⟨p0, q0, u0⟩
  · exact ⟨-1, ⟨0, fun k _ => by dsimp only; unfold laws_szDeclS.f; rw [hr0 trivial, if_pos c]⟩, .inl (by omega)⟩
  · have main : ∀ d i, x.length - i = d → i ≤ x.length → ∀ lf, 0 ≤ lf → lf ≤ left → ∃ r, Ev (fun k => laws_szDeclS.l0 k x lf (i : Int)) r ∧ (r < 0 ∨ (0 ≤ r ∧ r ≤ lf ∧ ∀ j : Nat, i ≤ j → j < x.length → UpL_Decl 1048576 ((rd_T142 x (j : Int))))) := by
      intro d
      induction d with
      | zero =>
        intro i hd hi lf g0 g1
        exact ⟨lf, Ev.step (f := fun _ => some lf) (fun k => by simp only [laws_szDeclS.l0]; rw [if_neg (by omega)]) (Ev.now _), .inr ⟨g0, Int.le_refl _, fun j g2 g3 => absurd g3 (by omega)⟩⟩
      | succ d ih =>
        intro i hd hi lf g0 g1
        have hil : i < x.length := by omega
        obtain ⟨r, ⟨K, hr⟩, hrb⟩ := sz_Decl (rd_T142 x (i : Int)) lf (hx _ (rdM_T142 x i hil)) g0 (by omega)
        rcases hrb with hneg | ⟨p1, p2, p3⟩
        · refine ⟨-1, ⟨K + 1, fun k hk => ?_⟩, .inl (by omega)⟩
          obtain ⟨m, rfl⟩ : ∃ m, k = m + 1 := ⟨k - 1, by omega⟩
          have hr := hr m (by omega)
          dsimp only at hr ⊢
          simp only [laws_szDeclS.l0]
          rw [if_pos (by omega), if_pos (by omega), hr]
          simp only [Option.bind_some]
          rw [if_pos hneg]
        · obtain ⟨r2, ⟨K2, h2⟩, hb2⟩ := ih (i + 1) (by omega) (by omega) r p1 (by omega)
          refine ⟨r2, ⟨K + K2 + 1, fun k hk => ?_⟩, ?_⟩
          · obtain ⟨m, rfl⟩ : ∃ m, k = m + 1 := ⟨k - 1, by omega⟩
            have hr := hr m (by omega)
            have h2 := h2 m (by omega)
            dsimp only at hr h2 ⊢
            simp only [laws_szDeclS.l0]
            rw [if_pos (by omega), if_pos (by omega), hr]
            simp only [Option.bind_some]
            rw [if_neg (by omega), wrap_next i (by omega)]
            exact h2
          · rcases hb2 with hb2 | ⟨s0, s1, s2⟩
            · exact .inl hb2
            · refine .inr ⟨s0, by omega, fun j g2 g3 => ?_⟩
              by_cases e : j = i
              · rw [e]; exact p3
              · exact s2 j (by omega) g3
    obtain ⟨r, ⟨K, hr⟩, hb⟩ := main x.length 0 (by omega) (by omega) r0 p0 q0
    refine ⟨r, ⟨K, fun k hk => ?_⟩, ?_⟩
    · have hr := hr k hk
      dsimp only at hr ⊢
      unfold laws_szDeclS.f
      rw [hr0 trivial, if_neg (by omega)]
      exact hr
    · rcases hb with hb | ⟨s0, s1, s2⟩
      · exact .inl hb
      · refine .inr ⟨s0, by omega, by omega, fun y hy => ?_⟩
        obtain ⟨j, hjl, rfl⟩ := List.getElem_of_mem hy
        have := s2 j (by omega) hjl
        rwa [rdE_T142 x j hjl] at this

/-! rdE_B -/
theorem rdE_B (l : List Bool) (i : Nat) (h : i < l.length) : rdOf false l (i : Int) = l[i] := by
  unfold rdOf
  rw [List.getD_eq_getElem?_getD, Int.toNat_natCast, List.getElem?_eq_getElem h]
  rfl

/-! to_BoolS -/
theorem to_BoolS (x : List Bool) (h : ((x.length : Int) ≤ 1048576)) : Ev (fun k => laws_toBoolS.f k x) x := by
  have hl := h
  have main := up_loop x.length (filled (fun i => (rdOf false x i)) (List.replicate x.length false)) (fun k xs i => laws_toBoolS.l0 k x xs i)
    (fun i hi r h2 => by
      obtain ⟨K2, h2⟩ := h2
      refine ⟨K2 + 1, fun k hk => ?_⟩
      obtain ⟨m, rfl⟩ : ∃ m, k = m + 1 := ⟨k - 1, by omega⟩
      have h2 := h2 m (by omega)
      dsimp only at h2 ⊢
      rw [← filled_set _ _ (by simpa using hi)] at h2
      simp only [laws_toBoolS.l0]
      rw [if_pos (by omega), if_pos (by omega)]
      rw [if_pos (by rw [filled_len _ _ (by simp; omega)]; simp; omega), Int.toNat_natCast, wrap64_id (by omega) (by omega)]
      exact h2)
    x (Ev.step (f := fun _ => some x) (fun k => by
      simp only [laws_toBoolS.l0]
      rw [if_neg (by omega), filled_all _ _ (by simp)]
      congr 1
      apply List.ext_getElem?
      intro i
      by_cases hi : i < x.length
      · simp [hi, rdE_B]
      · rw [List.getElem?_eq_none (by first | omega | (simp; omega)), List.getElem?_eq_none (by first | omega | (simp; omega))]) (Ev.now _))
  rw [filled_zero] at main
  refine Ev.congr (fun k => ?_) main
  unfold laws_toBoolS.f
  rw [if_pos (by omega), if_pos (by omega), Int.toNat_natCast]

/-! UpI_Decl -/
def UpI_Decl (c : Int) (x : S146) : Prop := ((x.f0.size : Int) ≤ c)

/-! rdE_T146 -/
theorem rdE_T146 (l : List S146) (i : Nat) (h : i < l.length) : rd_T146 l (i : Int) = l[i] := by
  unfold rd_T146
  rw [List.getD_eq_getElem?_getD, Int.toNat_natCast, List.getElem?_eq_getElem h]; rfl
theorem rdM_T146 (l : List S146) (i : Nat) (h : i < l.length) : rd_T146 l (i : Int) ∈ l := by rw [rdE_T146 l i h]; exact List.getElem_mem h

/-! cv_Decl -/
def cv_Decl (x : S142) : S146 := ⟨x.f0, x.f1⟩

/-! upcv_Decl -/
theorem upcv_Decl (c : Int) (x : S142) (h : UpL_Decl c x) : UpI_Decl c (cv_Decl x) := by
  unfold UpL_Decl at h
  unfold UpI_Decl
  have i0 := h
  exact i0

/-! in_Decl -/
theorem in_Decl (x : S142) (h : x.f0.size ≤ maxLen ∧ (Lit.int .i64 x.f1).wf = true) : UpL_Decl 9223372036854775807 x := by
  obtain ⟨j0, j1⟩ := h
  unfold UpL_Decl
  exact (by have := j0; unfold maxLen at this; omega)

/-! to_Decl -/
theorem to_Decl (x : S142) (h : UpL_Decl 1048576 x) : Ev (fun k => laws_toDecl.f x.f0 x.f1) ((cv_Decl x).f0, (cv_Decl x).f1) := by
  unfold UpL_Decl at h
  have i0 := h
  refine ⟨0, fun k hk => ?_⟩
  dsimp only
  simp only [laws_toDecl.f, Option.bind_some]
  all_goals rfl

/-! to_DeclS -/
theorem to_DeclS (x : List S142) (h : ((x.length : Int) ≤ 1048576 ∧ ∀ y ∈ x, UpL_Decl 1048576 y)) : Ev (fun k => laws_toDeclS.f k x) (x.map cv_Decl) := by
  have hl := h.1
  have main := up_loop x.length (filled (fun i => (cv_Decl (rd_T142 x i))) (List.replicate x.length z146)) (fun k xs i => laws_toDeclS.l0 k x xs i)
    (fun i hi r h2 => by
      obtain ⟨K, he⟩ := to_Decl (rd_T142 x (i : Int)) (h.2 _ (rdM_T142 x i hi))
      obtain ⟨K2, h2⟩ := h2
      refine ⟨K + K2 + 1, fun k hk => ?_⟩
      obtain ⟨m, rfl⟩ : ∃ m, k = m + 1 := ⟨k - 1, by omega⟩
      have h2 := h2 m (by omega)
      have he := he m (by omega)
      dsimp only at he h2 ⊢
      rw [← filled_set _ _ (by simpa using hi)] at h2
      simp only [laws_toDeclS.l0]
      rw [if_pos (by omega), if_pos (by omega), he]
      simp only [Option.bind_some]
      rw [if_pos (by rw [filled_len _ _ (by simp; omega)]; simp; omega), Int.toNat_natCast, wrap64_id (by omega) (by omega)]
      exact h2)
    (x.map cv_Decl) (Ev.step (f := fun _ => some (x.map cv_Decl)) (fun k => by
      simp only [laws_toDeclS.l0]
      rw [if_neg (by omega), filled_all _ _ (by simp)]
      congr 1
      apply List.ext_getElem?
      intro i
      by_cases hi : i < x.length
      · simp [hi, rdE_T142]
      · rw [List.getElem?_eq_none (by first | omega | (simp; omega)), List.getElem?_eq_none (by first | omega | (simp; omega))]) (Ev.now _))
  rw [filled_zero] at main
  refine Ev.congr (fun k => ?_) main
  unfold laws_toDeclS.f
  rw [if_pos (by omega), if_pos (by omega), Int.toNat_natCast]

/-! UpI_Bits -/
def UpI_Bits (c : Int) (x : S149) : Prop := ((x.f1.length : Int) ≤ c)

/-! rdE_T149 -/
theorem rdE_T149 (l : List S149) (i : Nat) (h : i < l.length) : rd_T149 l (i : Int) = l[i] := by
  unfold rd_T149
  rw [List.getD_eq_getElem?_getD, Int.toNat_natCast, List.getElem?_eq_getElem h]; rfl
theorem rdM_T149 (l : List S149) (i : Nat) (h : i < l.length) : rd_T149 l (i : Int) ∈ l := by rw [rdE_T149 l i h]; exact List.getElem_mem h

/-! eq_Uint64S -/
theorem eq_Uint64S (x : List Int) (h : ((x.length : Int) ≤ 1048576)) : Ev (fun k => laws_eqUint64S.f k x x) true := by
  have hl := h
  have main := up_loop x.length (fun _ => ()) (fun k _ i => laws_eqUint64S.l0 k x x i)
    (fun i hi r h2 => by
      obtain ⟨K2, h2⟩ := h2
      refine ⟨K2 + 1, fun k hk => ?_⟩
      obtain ⟨m, rfl⟩ : ∃ m, k = m + 1 := ⟨k - 1, by omega⟩
      have h2 := h2 m (by omega)
      dsimp only at h2 ⊢
      simp only [laws_eqUint64S.l0]
      rw [if_pos (by omega), if_pos (by omega), if_pos (by omega)]
      simp only [if_true]
      rw [wrap64_id (by omega) (by omega)]
      exact h2)
    true (Ev.step (f := fun _ => some true) (fun k => by
      simp only [laws_eqUint64S.l0]
      rw [if_neg (by omega)]) (Ev.now _))
  obtain ⟨K, h⟩ := main
  refine ⟨K, fun k hk => ?_⟩
  have h := h k hk
  dsimp only at h ⊢
  unfold laws_eqUint64S.f
  rw [if_pos rfl]
  exact h

/-! eq_Bits -/
theorem eq_Bits (x : S149) (h : UpI_Bits 1048576 x) : Ev (fun k => laws_eqBits.f k x.f0 x.f1 x.f0 x.f1) true := by
  unfold UpI_Bits at h
  have i1 := h
  obtain ⟨K1, e1⟩ := eq_Uint64S x.f1 i1
  refine ⟨K1, fun k hk => ?_⟩
  have e1 := e1 k (by omega)
  dsimp only at e1 ⊢
  simp only [laws_eqBits.f, e1, Option.bind_some, if_true, ↓reduceIte, bne_self_eq_false, Bool.false_eq_true]

/-! eq_BitsS -/
theorem eq_BitsS (x : List S149) (h : ((x.length : Int) ≤ 1048576 ∧ ∀ y ∈ x, UpI_Bits 1048576 y)) : Ev (fun k => laws_eqBitsS.f k x x) true := by
  have hl := h.1
  have main := up_loop x.length (fun _ => ()) (fun k _ i => laws_eqBitsS.l0 k x x i)
    (fun i hi r h2 => by
      obtain ⟨K, he⟩ := eq_Bits (rd_T149 x (i : Int)) (h.2 _ (rdM_T149 x i hi))
      obtain ⟨K2, h2⟩ := h2
      refine ⟨K + K2 + 1, fun k hk => ?_⟩
      obtain ⟨m, rfl⟩ : ∃ m, k = m + 1 := ⟨k - 1, by omega⟩
      have h2 := h2 m (by omega)
      have he := he m (by omega)
      dsimp only at he h2 ⊢
      simp only [laws_eqBitsS.l0]
      rw [if_pos (by omega), if_pos (by omega), if_pos (by omega), he]
      simp only [Option.bind_some, if_true, ↓reduceIte]
      rw [wrap64_id (by omega) (by omega)]
      exact h2)
    true (Ev.step (f := fun _ => some true) (fun k => by
      simp only [laws_eqBitsS.l0]
      rw [if_neg (by omega)]) (Ev.now _))
  obtain ⟨K, h⟩ := main
  refine ⟨K, fun k hk => ?_⟩
  have h := h k hk
  dsimp only at h ⊢
  unfold laws_eqBitsS.f
  rw [if_pos rfl]
  exact h

/-! eq_BoolS -/
theorem eq_BoolS (x : List Bool) (h : ((x.length : Int) ≤ 1048576)) : Ev (fun k => laws_eqBoolS.f k x x) true := by
  have hl := h
  have main := up_loop x.length (fun _ => ()) (fun k _ i => laws_eqBoolS.l0 k x x i)
    (fun i hi r h2 => by
      obtain ⟨K2, h2⟩ := h2
      refine ⟨K2 + 1, fun k hk => ?_⟩
      obtain ⟨m, rfl⟩ : ∃ m, k = m + 1 := ⟨k - 1, by omega⟩
      have h2 := h2 m (by omega)
      dsimp only at h2 ⊢
      simp only [laws_eqBoolS.l0]
      rw [if_pos (by omega), if_pos (by omega), if_pos (by omega)]
      simp only [if_true, bne_self_eq_false, Bool.false_eq_true, ↓reduceIte]
      rw [wrap64_id (by omega) (by omega)]
      exact h2)
    true (Ev.step (f := fun _ => some true) (fun k => by
      simp only [laws_eqBoolS.l0]
      rw [if_neg (by omega)]) (Ev.now _))
  obtain ⟨K, h⟩ := main
  refine ⟨K, fun k hk => ?_⟩
  have h := h k hk
  dsimp only at h ⊢
  unfold laws_eqBoolS.f
  rw [if_pos rfl]
  exact h

/-! eq_Decl -/
theorem eq_Decl (x : S146) (h : UpI_Decl 1048576 x) : Ev (fun k => laws_eqDecl.f x.f0 x.f1 x.f0 x.f1) true := by
  unfold UpI_Decl at h
  have i0 := h
  refine ⟨0, fun k hk => ?_⟩
  dsimp only
  simp only [laws_eqDecl.f, Option.bind_some, if_true, ↓reduceIte, bne_self_eq_false, Bool.false_eq_true]

/-! eq_DeclS -/
theorem eq_DeclS (x : List S146) (h : ((x.length : Int) ≤ 1048576 ∧ ∀ y ∈ x, UpI_Decl 1048576 y)) : Ev (fun k => laws_eqDeclS.f k x x) true := by
  have hl := h.1
  have main := up_loop x.length (fun _ => ()) (fun k _ i => laws_eqDeclS.l0 k x x i)
    (fun i hi r h2 => by
      obtain ⟨K, he⟩ := eq_Decl (rd_T146 x (i : Int)) (h.2 _ (rdM_T146 x i hi))
      obtain ⟨K2, h2⟩ := h2
      refine ⟨K + K2 + 1, fun k hk => ?_⟩
      obtain ⟨m, rfl⟩ : ∃ m, k = m + 1 := ⟨k - 1, by omega⟩
      have h2 := h2 m (by omega)
      have he := he m (by omega)
      dsimp only at he h2 ⊢
      simp only [laws_eqDeclS.l0]
      rw [if_pos (by omega), if_pos (by omega), if_pos (by omega), he]
      simp only [Option.bind_some, if_true, ↓reduceIte]
      rw [wrap64_id (by omega) (by omega)]
      exact h2)
    true (Ev.step (f := fun _ => some true) (fun k => by
      simp only [laws_eqDeclS.l0]
      rw [if_neg (by omega)]) (Ev.now _))
  obtain ⟨K, h⟩ := main
  refine ⟨K, fun k hk => ?_⟩
  have h := h k hk
  dsimp only at h ⊢
  unfold laws_eqDeclS.f
  rw [if_pos rfl]
  exact h

/-! mark_Uint64S -/
theorem mark_Uint64S (x : List Int) (h : ((x.length : Int) ≤ 1048576)) (m : Int) (h0 : 0 ≤ m) (h1 : m ≤ 4611686018426339328) : ∃ (m' : Int) (x' : List Int), Ev (fun k => laws_markUint64S.f k x m) (m', x') ∧ m ≤ m' ∧ m' ≤ m + 1048576 ∧ Ev (fun k => laws_heldUint64S.f k x' m) m' := by
  have hl : (x.length : Int) ≤ 1048576 := h
  obtain ⟨conv, hconv⟩ : ∃ conv : Nat → Int, ∀ i, conv i = IntKind.u64.wrap (m + 1 * (i : Int)) := ⟨fun i => _, fun _ => rfl⟩
  have main := up_loop x.length (fun i => (m + 1 * (i : Int), filled conv x i)) (fun k s i => laws_markUint64S.l0 k s.2 s.1 i)
    (fun i hi r h2 => by
      obtain ⟨K2, h2⟩ := h2
      refine ⟨K2 + 1, fun k hk => ?_⟩
      obtain ⟨mm, rfl⟩ : ∃ mm, k = mm + 1 := ⟨k - 1, by omega⟩
      have h2 := h2 mm (by omega)
      dsimp only at h2 ⊢
      have hlen : i < (filled conv x i).length := by rw [filled_len _ _ (by omega)]; exact hi
      rw [← filled_set conv x hi, hconv] at h2
      simp (disch := first | omega | (simp only [List.length_set]; omega)) only [laws_markUint64S.l0, ↓if_pos, Option.bind_some, Int.toNat_natCast, wrap64_id]
      rw [show m + 1 * (i : Int) + 1 = m + 1 * ((i + 1 : Nat) : Int) by omega]
      exact h2)
    (m + 1 * (x.length : Int), (List.range x.length).map conv) (Ev.step (f := fun _ => some (m + 1 * (x.length : Int), (List.range x.length).map conv)) (fun k => by
      simp only [laws_markUint64S.l0]
      rw [if_neg (by rw [filled_len _ _ (Nat.le_refl _)]; omega), filled_all _ _ rfl]) (Ev.now _))
  simp only [filled_zero] at main
  refine ⟨m + 1 * (x.length : Int), (List.range x.length).map conv, Ev.congr (fun k => by unfold laws_markUint64S.f; simp) main, by omega, by omega, ?_⟩
  have hrd : ∀ i : Nat, i < x.length → rd ((List.range x.length).map conv) (i : Int) = conv i := fun i hi => by
    rw [rd_getD]
    rw [List.getD_eq_getElem?_getD, Int.toNat_natCast, List.getElem?_map, List.getElem?_range hi]; rfl
  have main2 := up_loop x.length (fun i => m + 1 * (i : Int)) (fun k s i => laws_heldUint64S.l0 k ((List.range x.length).map conv) s i)
    (fun i hi r h2 => by
      obtain ⟨K2, h2⟩ := h2
      refine ⟨K2 + 1, fun k hk => ?_⟩
      obtain ⟨mm, rfl⟩ : ∃ mm, k = mm + 1 := ⟨k - 1, by omega⟩
      have h2 := h2 mm (by omega)
      dsimp only at h2 ⊢
      have hr := hrd i hi
      rw [hconv] at hr
      simp (disch := omega) only [laws_heldUint64S.l0, List.length_map, List.length_range, ↓if_pos, hr, wrap64_id, ↓reduceIte, bne_self_eq_false, Bool.false_eq_true]
      rw [show m + 1 * (i : Int) + 1 = m + 1 * ((i + 1 : Nat) : Int) by omega]
      exact h2)
    (m + 1 * (x.length : Int)) (Ev.step (f := fun _ => some (m + 1 * (x.length : Int))) (fun k => by
      simp only [laws_heldUint64S.l0]
      rw [if_neg (by simp)]) (Ev.now _))
  exact Ev.congr (fun k => by unfold laws_heldUint64S.f; simp) main2

/-! mark_BoolS -/
theorem mark_BoolS (x : List Bool) (h : ((x.length : Int) ≤ 1048576)) (m : Int) (h0 : 0 ≤ m) (h1 : m ≤ 4611686018426339328) : ∃ (m' : Int) (x' : List Bool), Ev (fun k => laws_markBoolS.f k x m) (m', x') ∧ m ≤ m' ∧ m' ≤ m + 1048576 := by
  have hl : (x.length : Int) ≤ 1048576 := h
  obtain ⟨conv, hconv⟩ : ∃ conv : Nat → Bool, ∀ i, conv i = (Int.tmod (m + 1 * (i : Int)) 3 == 0) := ⟨fun i => _, fun _ => rfl⟩
  have main := up_loop x.length (fun i => (m + 1 * (i : Int), filled conv x i)) (fun k s i => laws_markBoolS.l0 k s.2 s.1 i)
    (fun i hi r h2 => by
      obtain ⟨K2, h2⟩ := h2
      refine ⟨K2 + 1, fun k hk => ?_⟩
      obtain ⟨mm, rfl⟩ : ∃ mm, k = mm + 1 := ⟨k - 1, by omega⟩
      have h2 := h2 mm (by omega)
      dsimp only at h2 ⊢
      have hlen : i < (filled conv x i).length := by rw [filled_len _ _ (by omega)]; exact hi
      rw [← filled_set conv x hi, hconv] at h2
      simp (disch := first | omega | (simp only [List.length_set]; omega)) only [laws_markBoolS.l0, ↓if_pos, Option.bind_some, Int.toNat_natCast, wrap64_id]
      rw [show m + 1 * (i : Int) + 1 = m + 1 * ((i + 1 : Nat) : Int) by omega]
      exact h2)
    (m + 1 * (x.length : Int), (List.range x.length).map conv) (Ev.step (f := fun _ => some (m + 1 * (x.length : Int), (List.range x.length).map conv)) (fun k => by
      simp only [laws_markBoolS.l0]
      rw [if_neg (by rw [filled_len _ _ (Nat.le_refl _)]; omega), filled_all _ _ rfl]) (Ev.now _))
  simp only [filled_zero] at main
  refine ⟨m + 1 * (x.length : Int), (List.range x.length).map conv, Ev.congr (fun k => by unfold laws_markBoolS.f; simp) main, by omega, by omega⟩

/-! rdset_T146 -/
theorem rdset_T146 (l : List S146) (i : Nat) (h : i < l.length) (v : S146) : rd_T146 (l.set i v) (i : Int) = v := by
  unfold rd_T146
  rw [List.getD_eq_getElem?_getD, Int.toNat_natCast, List.getElem?_set_self h]; rfl

/-! mtext_ev -/
theorem mtext_loop : ∀ n : Nat, ∀ z : Int, 0 ≤ z → z < 10 ^ n → z ≤ 9223372036854775807 → ∀ s : ByteArray, s.size + n ≤ 1000000 → ∃ t, Ev (fun k => laws_markText.l0 k z s) t := by
  intro n
  induction n with
  | zero =>
    intro z h0 h1 big s hs
    have : z = 0 := by simp at h1; omega
    subst this
    exact ⟨_, Ev.step (f := fun _ => some ((⟨#[109]⟩ : ByteArray) ++ s)) (fun k => by simp (disch := omega) only [laws_markText.l0, ↓if_neg, ↓if_pos]) (Ev.now _)⟩
  | succ n ih =>
    intro z h0 h1 big s hs
    by_cases c : z > 0
    · have e1 : Int.tdiv z 10 = z / 10 := Int.tdiv_eq_ediv_of_nonneg (by omega)
      · have hsz : ∀ v : Int, (strOfNums [v]).size = 1 := fun v => rfl
        obtain ⟨t, h⟩ := ih (z / 10) (by omega) (by rw [Int.pow_succ] at h1; omega) (by omega) (strOfNums [(wrap64 (48 + (Int.tmod z 10))) % 256] ++ s) (by rw [ByteArray.size_append, hsz]; omega)
        refine ⟨t, Ev.step (fun k => ?_) h⟩
        have hle : (strOfNums [(wrap64 (48 + (Int.tmod z 10))) % 256]).size + s.size ≤ 9223372036854775807 := by rw [hsz]; omega
        simp only [laws_markText.l0]
        rw [if_pos c]
        simp only [Option.bind_some]
        rw [if_pos hle, e1, wrap64_id (by omega) (by omega)]
    · have : z = 0 := by omega
      subst this
      exact ⟨_, Ev.step (f := fun _ => some ((⟨#[109]⟩ : ByteArray) ++ s)) (fun k => by simp (disch := omega) only [laws_markText.l0, ↓if_neg, ↓if_pos]) (Ev.now _)⟩
theorem mtext_ev : ∀ z : Int, ∃ t : ByteArray, (0 ≤ z → z ≤ 4611686018427387904 → Ev (fun k => laws_markText.f k z) t) := by
  intro z
  by_cases c : 0 ≤ z ∧ z ≤ 4611686018427387904
  · by_cases c0 : z ≤ 0
    · exact ⟨_, fun _ _ => Ev.congr (fun k => by unfold laws_markText.f; rw [if_pos c0]) (Ev.now _)⟩
    · obtain ⟨t, h⟩ := mtext_loop 19 z c.1 (by rw [show (10 : Int) ^ 19 = 10000000000000000000 from by decide]; omega) (by omega) ⟨#[]⟩ (by decide)
      exact ⟨t, fun _ _ => Ev.congr (fun k => by unfold laws_markText.f; rw [if_neg c0]) h⟩
  · exact ⟨ByteArray.empty, fun h0 h1 => absurd ⟨h0, h1⟩ c⟩

/-! mark_DeclS -/
theorem mark_DeclS (x : List S146) (h : ((x.length : Int) ≤ 1048576 ∧ ∀ y ∈ x, UpI_Decl 1048576 y)) (m : Int) (h0 : 0 ≤ m) (h1 : m ≤ 4611686018425290752) : ∃ (m' : Int) (x' : List S146), Ev (fun k => laws_markDeclS.f k x m) (m', x') ∧ m ≤ m' ∧ m' ≤ m + 2097152 := by
  have hl : (x.length : Int) ≤ 1048576 := h.1
  obtain ⟨T, hT⟩ := Classical.axiomOfChoice mtext_ev
  obtain ⟨conv, hconv⟩ : ∃ conv : Nat → S146, ∀ i, conv i = (⟨T (m + 2 * (i : Int)), m + 2 * (i : Int) + 1⟩ : S146) := ⟨fun i => _, fun _ => rfl⟩
  have main := up_loop x.length (fun i => (m + 2 * (i : Int), filled conv x i)) (fun k s i => laws_markDeclS.l0 k s.2 s.1 i)
    (fun i hi r h2 => by
      obtain ⟨K2, h2⟩ := h2
      obtain ⟨K0_, T0_⟩ := Ev.binds (hT (m + 2 * (i : Int)) (by omega) (by omega))
      refine ⟨K0_ + K2 + 1, fun k hk => ?_⟩
      obtain ⟨mm, rfl⟩ : ∃ mm, k = mm + 1 := ⟨k - 1, by omega⟩
      have h2 := h2 mm (by omega)
      dsimp only at h2 ⊢
      have hlen : i < (filled conv x i).length := by rw [filled_len _ _ (by omega)]; exact hi
      rw [← filled_set conv x hi, hconv] at h2
      simp (disch := first | omega | (simp only [List.length_set]; omega)) only [laws_markDeclS.l0, ↓if_pos, Option.bind_some, Int.toNat_natCast, rdset_T146, List.set_set, ↓T0_, wrap64_id]
      rw [show m + 2 * (i : Int) + 1 + 1 = m + 2 * ((i + 1 : Nat) : Int) by omega]
      exact h2)
    (m + 2 * (x.length : Int), (List.range x.length).map conv) (Ev.step (f := fun _ => some (m + 2 * (x.length : Int), (List.range x.length).map conv)) (fun k => by
      simp only [laws_markDeclS.l0]
      rw [if_neg (by rw [filled_len _ _ (Nat.le_refl _)]; omega), filled_all _ _ rfl]) (Ev.now _))
  simp only [filled_zero] at main
  refine ⟨m + 2 * (x.length : Int), (List.range x.length).map conv, Ev.congr (fun k => by unfold laws_markDeclS.f; simp) main, by omega, by omega⟩

/-! WfI_Decl -/
def WfI_Decl (x : S146) : Prop := True ∧ (-9223372036854775808 ≤ x.f1 ∧ x.f1 ≤ 9223372036854775807)

/-! wf_Decl -/
theorem wf_Decl (x : S142) (h : x.f0.size ≤ maxLen ∧ (Lit.int .i64 x.f1).wf = true) : WfI_Decl (cv_Decl x) := by
  obtain ⟨j0, j1⟩ := h
  exact ⟨trivial, (wf_i64 j1)⟩

/-! implInside -/
theorem inside_eq (a b c : Int) : impl_inside.f a b c = some (decide (b ≤ a ∧ a ≤ c)) := by
  unfold impl_inside.f
  by_cases h1 : b ≤ a
  · rw [if_pos h1]; simp [h1]
  · rw [if_neg h1]; simp [h1]

/-! specIn -/
theorem l1In_eq (a b c : Int) : spec_l1In.f a b c = some (decide (b ≤ a ∧ a ≤ c)) := by
  unfold spec_l1In.f
  by_cases h1 : b ≤ a
  · rw [if_pos h1]; simp [h1]
  · rw [if_neg h1]; simp [h1]

/-! wordsFor -/
theorem wordsFor_eq (w : Int) (h0 : 0 ≤ w) (h1 : w ≤ 1000000000) : impl_wordsFor.f w = some ((w + 63) / 64) := by
  unfold impl_wordsFor.f
  rw [wrap64_id (x := w + 63) (by omega) (by omega), Int.tdiv_eq_ediv_of_nonneg (by omega), wrap64_id (by omega) (by omega)]

/-! packs -/
/-- ws is the row whose bits are z. -/
structure Packs (z : List Int) (ws : List Int) : Prop where
  right : Right (z.length : Int) ws
  bit : ∀ j, j < z.length → bitN ws j = decide (rd z (j : Int) = 1)
theorem Packs.uniq {z ws ws' : List Int} (h : Packs z ws) (k : Packs z ws') : ws = ws' :=
  h.right.ext k.right fun i hi => by rw [h.bit i (by omega), k.bit i (by omega)]
theorem packs_of {w : Int} {z ws : List Int} (hw : w = z.length) (h : Right w ws) (hb : ∀ j, j < z.length → bitN ws j = decide (rd z (j : Int) = 1)) : Packs z ws := by
  subst hw
  exact ⟨h, hb⟩

/-! l1From -/
theorem l1From_ev (z : List Int) (h01 : Bits01 z) (h1 : 1 ≤ z.length) (h2 : z.length ≤ 4096) :
    ∃ ws, Ev (fun k => spec_l1From.f k z) ((z.length : Int), ws, true) ∧ Packs z ws := by
  have ew := fun (_ : True) => words_of (z.length : Int) (by omega) (by omega)
  obtain ⟨ws, hI, hr⟩ := inv_loop z.length (fun i (ws : List Int) => (ws.length : Int) = ((z.length : Int) + 63) / 64 ∧ U64s ws ∧ ∀ j, bitN ws j = (decide (j < i) && decide (rd z (j : Int) = 1)))
    (fun k ws i => spec_l1From.l0 k z i (z.length : Int) ws)
    (fun i hi ws ⟨hl, hu, hb⟩ => by
      have hk : i / 64 < ws.length := by omega
      have hz := rd_01 h01 (i : Int)
      have e3 := fun (_ : True) => wrap_u64_id (x := rd z (i : Int)) (by omega) (by omega)
      have hzw : W64 (rd z (i : Int)) := by unfold W64; omega
      have hs := shl_nat hzw (i % 64)
      have ho := or_w64 (rd_w64 hu ((i / 64 : Nat) : Int)) hs.1
      refine ⟨ws.set (i / 64) (Go.bits .or .u64 (rd ws ((i / 64 : Nat) : Int)) (shl .u64 (rd z (i : Int)) ((i % 64 : Nat) : Int))), ⟨by simpa using hl, hu.set _ ho.1, fun j => ?_⟩, fun r h => Ev.step (fun k => ?_) h⟩
      · rw [bitN_set hk]
        by_cases hj : j / 64 = i / 64
        · have e4 : (rd ws ((i / 64 : Nat) : Int)).toNat.testBit (j % 64) = bitN ws j := by unfold bitN; rw [hj]; rfl
          rw [if_pos hj, ho.2, hs.2 _ (by omega), e4, hb, testBit_01 hz]
          by_cases hji : j = i
          · subst hji
            simp
          · have e5 : (decide (i % 64 ≤ j % 64) && decide (j % 64 - i % 64 = 0)) = false := by
              by_cases hle : i % 64 ≤ j % 64
              · rw [decide_eq_false (show ¬ j % 64 - i % 64 = 0 by omega)]; simp
              · rw [decide_eq_false hle]; simp
            rw [← Bool.and_assoc, e5]
            by_cases hlt : j < i
            · simp [hlt, show j < i + 1 by omega]
            · simp [hlt, show ¬ j < i + 1 by omega]
        · rw [if_neg hj, hb]
          have : j ≠ i := fun e => hj (by rw [e])
          by_cases hji : j < i
          · simp [hji, show j < i + 1 by omega]
          · simp [hji, show ¬ j < i + 1 by omega]
      · simp only [spec_l1From.l0]
        rw [if_pos (by omega), tdiv64 i (by omega), utmod64, e3 trivial, if_pos (by omega), if_pos (by omega), if_pos (by omega), if_pos (by omega), wrap_succ i (by omega), Int.toNat_natCast])
    (List.replicate (((z.length : Int) + 63) / 64).toNat 0) ⟨by simp; omega, U64s.replicate _, fun j => by rw [bitN_replicate]; simp⟩
  obtain ⟨hl, hu, hb⟩ := hI
  have hright : Right (z.length : Int) ws := ⟨by omega, by omega, by omega, hu, fun i hi => by rw [hb]; simp; omega⟩
  refine ⟨ws, ?_, hright, fun j hj => by rw [hb]; simp [hj]⟩
  have := hr ((z.length : Int), ws, true) (Ev.step (f := fun _ => some ((z.length : Int), ws, true)) (fun k => by simp only [spec_l1From.l0]; rw [if_neg (by omega)]) (Ev.now _))
  obtain ⟨K, hK⟩ := this
  refine ⟨K + 1, fun k hk => ?_⟩
  obtain ⟨m, rfl⟩ : ∃ m, k = m + 1 := ⟨k - 1, by omega⟩
  dsimp only
  unfold spec_l1From.f
  rw [if_neg (by omega), decide_eq_false (by omega)]
  simp only [spec_l1From.j0]
  rw [if_neg (by simp), ew trivial, if_pos (by omega), if_pos (by omega)]
  exact hK m (by omega)
theorem l1From_none (z : List Int) (h : z.length < 1 ∨ 4096 < z.length) : Ev (fun k => spec_l1From.f k z) (0, [], false) := by
  refine ⟨1, fun k hk => ?_⟩
  obtain ⟨m, rfl⟩ : ∃ m, k = m + 1 := ⟨k - 1, by omega⟩
  dsimp only
  unfold spec_l1From.f
  by_cases h1 : (z.length : Int) < 1
  · rw [if_pos h1]; simp [spec_l1From.j0]
  · rw [if_neg h1, decide_eq_true (by omega)]; simp [spec_l1From.j0]

/-! zeroBits -/
theorem zeroBits_eq (w : Int) (h0 : 0 ≤ w) (h1 : w ≤ 1000000) : impl_zeroBits.f w = some (w, List.replicate ((w + 63) / 64).toNat 0) := by
  unfold impl_zeroBits.f
  rw [wordsFor_eq w h0 (by omega)]
  simp only [Option.bind_some]
  rw [if_pos (by omega), if_pos (by omega)]

/-! implSet -/
theorem implSet_eq (w : Int) (l : List Int) (h : U64s l) (i : Nat) (hi : i < 64 * l.length) (hl : l.length ≤ 1048576) :
    ∃ l', impl_Bits_set.f w l (i : Int) = some l' ∧ l'.length = l.length ∧ U64s l' ∧ ∀ j, bitN l' j = (bitN l j || decide (j = i)) := by
  have h1 := or_lay h (x := 1) (by unfold W64; omega) (i / 64) (i % 64) (by omega) (by omega)
  refine ⟨_, ?_, by simp, h1.1, fun j => ?_⟩
  · unfold impl_Bits_set.f
    rw [tdiv64 i (by omega), tmod64, if_pos (by omega), if_pos (by omega), if_pos (by omega), Int.toNat_natCast]
  · rw [h1.2, testBit_01 (.inr rfl)]
    congr 1
    by_cases c : j = i
    · subst c; simp
    · have : ¬ (j / 64 = i / 64 ∧ i % 64 ≤ j % 64 ∧ j % 64 - i % 64 = 0) := by omega
      rw [decide_eq_false c]
      by_cases c1 : j / 64 = i / 64
      · by_cases c2 : i % 64 ≤ j % 64
        · simp [c1, c2, show ¬ j % 64 - i % 64 = 0 by omega]
        · simp [c2]
      · simp [c1]

/-! memD -/
theorem rdD (l : List S146) (i : Nat) (h : i < l.length) : rd_T146 l (i : Int) = l[i] := by
  unfold rd_T146
  rw [List.getD_eq_getElem?_getD, Int.toNat_natCast, List.getElem?_eq_getElem h]; rfl
theorem rdD_mem (l : List S146) (i : Nat) (h : i < l.length) : rd_T146 l (i : Int) ∈ l := by rw [rdD l i h]; exact List.getElem_mem h

/-! names -/
theorem names_agree (s : ByteArray) (hs : s.size ≤ 1048576) : ∃ b, Ev (fun k => spec_l1Name.f k s) b ∧ Ev (fun k => impl_nameOk.f k s) b := by
  have digit : ∀ c, spec_l1Digit.f c = some (decide (48 ≤ c ∧ c ≤ 57)) := fun c => by
    unfold spec_l1Digit.f
    by_cases h : 48 ≤ c
    · rw [if_pos h]; simp [h]
    · rw [if_neg h]; simp [h]
  have main : ∀ d i, s.size - i = d → i ≤ s.size → ∃ b, Ev (fun k => spec_l1Name.l0 k s (i : Int)) b ∧ Ev (fun k => impl_nameOk.l0 k s (i : Int)) b := by
    intro d
    induction d with
    | zero =>
      intro i hd hi
      refine ⟨true, Ev.step (f := fun _ => some true) (fun k => ?_) (Ev.now _), Ev.step (f := fun _ => some true) (fun k => ?_) (Ev.now _)⟩
      · simp only [spec_l1Name.l0]; rw [if_neg (by omega)]
      · simp only [impl_nameOk.l0]; rw [if_neg (by omega)]
    | succ d ih =>
      intro i hd hi
      obtain ⟨b, h1, h2⟩ := ih (i + 1) (by omega) (by omega)
      have hw : True → wrap64 ((i : Int) + 1) = ((i + 1 : Nat) : Int) := fun _ => wrap_succ' i (by omega)
      have p1 : (i : Int) < (s.size : Int) := by omega
      have p2 : (0 : Int) ≤ (i : Int) := by omega
      by_cases cd : 48 ≤ bt s (i : Int) ∧ bt s (i : Int) ≤ 57
      · refine ⟨b, Ev.step (fun k => ?_) h1, Ev.step (fun k => ?_) h2⟩
        · simp only [spec_l1Name.l0]
          rw [hw trivial, if_pos p1, if_pos p2, digit, decide_eq_true cd]
          simp only [Option.bind_some, if_true]
        · simp only [impl_nameOk.l0]
          rw [hw trivial, if_pos p1, if_pos p2, if_pos (by omega), if_neg (by omega), if_neg (by omega)]
      · by_cases ca : bt s (i : Int) < 97
        · refine ⟨false, Ev.step (f := fun _ => some false) (fun k => ?_) (Ev.now _), Ev.step (f := fun _ => some false) (fun k => ?_) (Ev.now _)⟩
          · simp only [spec_l1Name.l0]
            rw [if_pos p1, if_pos p2, digit, decide_eq_false cd]
            simp only [Option.bind_some]
            rw [if_neg (by decide), if_pos ca]
          · simp only [impl_nameOk.l0]
            rw [if_pos p1, if_pos p2, if_pos ca]
            by_cases c48 : bt s (i : Int) < 48
            · rw [if_pos c48]
            · rw [if_neg c48, if_pos (by omega)]
        · by_cases cz : bt s (i : Int) > 122
          · refine ⟨false, Ev.step (f := fun _ => some false) (fun k => ?_) (Ev.now _), Ev.step (f := fun _ => some false) (fun k => ?_) (Ev.now _)⟩
            · simp only [spec_l1Name.l0]
              rw [if_pos p1, if_pos p2, digit, decide_eq_false cd]
              simp only [Option.bind_some]
              rw [if_neg (by decide), if_neg ca, if_pos cz]
            · simp only [impl_nameOk.l0]
              rw [if_pos p1, if_pos p2, if_neg ca, if_pos cz, if_neg (by omega), if_pos (by omega)]
          · refine ⟨b, Ev.step (fun k => ?_) h1, Ev.step (fun k => ?_) h2⟩
            · simp only [spec_l1Name.l0]
              rw [hw trivial, if_pos p1, if_pos p2, digit, decide_eq_false cd]
              simp only [Option.bind_some]
              rw [if_neg (by decide), if_neg ca, if_neg cz]
            · simp only [impl_nameOk.l0]
              rw [hw trivial, if_pos p1, if_pos p2, if_neg ca, if_neg cz]
  have yes1 : Ev (fun k => spec_l1Name.j0 k s true) false := Ev.step (f := fun _ => some false) (fun k => by simp only [spec_l1Name.j0, if_true]) (Ev.now _)
  have yes2 : Ev (fun k => impl_nameOk.j0 k s true) false := Ev.step (f := fun _ => some false) (fun k => by simp only [impl_nameOk.j0, if_true]) (Ev.now _)
  by_cases c1 : (s.size : Int) < 1
  · exact ⟨false, Ev.congr (fun k => by unfold spec_l1Name.f; rw [if_pos c1]) yes1, Ev.congr (fun k => by unfold impl_nameOk.f; rw [if_pos c1]) yes2⟩
  · by_cases c2 : (s.size : Int) > 12
    · exact ⟨false, Ev.congr (fun k => by unfold spec_l1Name.f; rw [if_neg c1, if_pos c2]) yes1, Ev.congr (fun k => by unfold impl_nameOk.f; rw [if_neg c1, if_pos c2]) yes2⟩
    · obtain ⟨b, h1, h2⟩ := main s.size 0 (by omega) (by omega)
      have p0 : (0 : Int) < (s.size : Int) := by omega
      have go1 : ∀ z, z = false → Ev (fun k => spec_l1Name.j0 k s z) b := fun z hz => Ev.step (fun k => by subst hz; simp only [spec_l1Name.j0]; rw [if_neg (by decide)]; rfl) h1
      have go2 : ∀ z, z = false → Ev (fun k => impl_nameOk.j0 k s z) b := fun z hz => Ev.step (fun k => by subst hz; simp only [impl_nameOk.j0]; rw [if_neg (by decide)]; rfl) h2
      by_cases cd : 48 ≤ bt s 0 ∧ bt s 0 ≤ 57
      · refine ⟨false, Ev.congr (fun k => ?_) yes1, Ev.congr (fun k => ?_) yes2⟩
        · unfold spec_l1Name.f; rw [if_neg c1, if_neg c2, if_pos p0, digit, decide_eq_true cd]; rfl
        · unfold impl_nameOk.f; rw [if_neg c1, if_neg c2, if_pos p0, if_pos (by omega)]
      · have e1 : ∀ k, spec_l1Name.f k s = spec_l1Name.j0 k s false := fun k => by unfold spec_l1Name.f; rw [if_neg c1, if_neg c2, if_pos p0, digit, decide_eq_false cd]; rfl
        by_cases ca : bt s 0 < 97
        · -- the loop's first round says no
          obtain ⟨d, hd⟩ : ∃ d, d = s.size := ⟨_, rfl⟩
          refine ⟨false, Ev.congr e1 (Ev.step (fun k => by simp only [spec_l1Name.j0]; rw [if_neg (by decide)]) (Ev.step (g := fun k => spec_l1Name.l0 k s 0) (f := fun _ => some false) (fun k => ?_) (Ev.now _))), Ev.congr (fun k => ?_) yes2⟩
          · simp only [spec_l1Name.l0]
            rw [if_pos p0, if_pos (by decide), digit, decide_eq_false cd]
            simp only [Option.bind_some]
            rw [if_neg (by decide), if_pos ca]
          · unfold impl_nameOk.f; rw [if_neg c1, if_neg c2, if_pos p0, if_pos ca]
        · by_cases cz : bt s 0 > 122
          · refine ⟨false, Ev.congr e1 (Ev.step (fun k => by simp only [spec_l1Name.j0]; rw [if_neg (by decide)]) (Ev.step (g := fun k => spec_l1Name.l0 k s 0) (f := fun _ => some false) (fun k => ?_) (Ev.now _))), Ev.congr (fun k => ?_) yes2⟩
            · simp only [spec_l1Name.l0]
              rw [if_pos p0, if_pos (by decide), digit, decide_eq_false cd]
              simp only [Option.bind_some]
              rw [if_neg (by decide), if_neg ca, if_pos cz]
            · unfold impl_nameOk.f; rw [if_neg c1, if_neg c2, if_pos p0, if_neg ca, decide_eq_true cz]
          · refine ⟨b, Ev.congr e1 (go1 _ rfl), Ev.congr (fun k => ?_) (go2 _ (decide_eq_false cz))⟩
            unfold impl_nameOk.f; rw [if_neg c1, if_neg c2, if_pos p0, if_neg ca]

/-! idxD -/
theorem idxD_none (nm : ByteArray) : ∀ (l : List S146) (i : Int), (∀ x ∈ l, x.f0.toList ≠ nm.toList) → idxD nm l i = -1
  | [], i, _ => rfl
  | x :: xs, i, h => by
    simp only [idxD]
    rw [if_neg (by have := h x (by simp); simpa using this)]
    exact idxD_none nm xs (i + 1) fun y hy => h y (by simp [hy])
theorem idxD_some (nm : ByteArray) : ∀ (l : List S146) (i : Int), 0 ≤ i → (∃ x ∈ l, x.f0.toList = nm.toList) → 0 ≤ idxD nm l i
  | [], i, _, h => by obtain ⟨x, hx, _⟩ := h; cases hx
  | x :: xs, i, hi, h => by
    simp only [idxD]
    by_cases c : (x.f0.toList == nm.toList) = true
    · rw [if_pos c]; exact hi
    · rw [if_neg c]
      obtain ⟨y, hy, he⟩ := h
      rcases List.mem_cons.1 hy with rfl | hy
      · exact absurd (by simpa using he) c
      · exact idxD_some nm xs (i + 1) (by omega) ⟨y, hy, he⟩

/-! declsOk -/
def sumD : List S146 → Int
  | [] => 0
  | x :: xs => x.f1 + sumD xs
/-- What right decls are good for. -/
structure GoodDecls (l : List S146) : Prop where
  len : l.length ≤ 60
  width : ∀ x ∈ l, 1 ≤ x.f1 ∧ x.f1 ≤ 4096
  total : sumD l ≤ 20000
theorem decls_loops (l : List S146) (hl : l.length ≤ 60) (hx : ∀ x ∈ l, x.f0.size ≤ 1048576) :
    ∀ d i, l.length - i = d → i ≤ l.length → ∀ s : Int, 0 ≤ s → s ≤ 4096 * i → ∃ b, Ev (fun k => spec_DeclsOk.l0 k l s (i : Int)) b ∧ Ev (fun k => impl_DeclsOk.l0 k l s l (l.length : Int) (i : Int)) b ∧
      (b = true → (∀ x ∈ l.drop i, 1 ≤ x.f1 ∧ x.f1 ≤ 4096) ∧ s + sumD (l.drop i) ≤ 20000) := by
  intro d
  induction d with
  | zero =>
    intro i hd hi s g0 g1
    refine ⟨decide (s ≤ 20000), Ev.step (f := fun _ => some (decide (s ≤ 20000))) (fun k => ?_) (Ev.now _), Ev.step (f := fun _ => some (decide (s ≤ 20000))) (fun k => ?_) (Ev.now _), fun hb => ?_⟩
    · simp only [spec_DeclsOk.l0]; rw [if_neg (by omega)]
    · simp only [impl_DeclsOk.l0]; rw [if_neg (by omega)]
    · have e : l.drop i = [] := List.drop_eq_nil_of_le (by omega)
      rw [e]
      refine ⟨(fun x hx => by cases hx), ?_⟩
      have := of_decide_eq_true hb
      show s + 0 ≤ 20000
      omega
  | succ d ih =>
    intro i hd hi s g0 g1
    have hil : i < l.length := by omega
    obtain ⟨x, hxx⟩ : ∃ x, x = rd_T146 l (i : Int) := ⟨_, rfl⟩
    have hxm : x ∈ l := by rw [hxx]; exact rdD_mem l i hil
    have hdrop : l.drop i = x :: l.drop (i + 1) := by rw [List.drop_eq_getElem_cons hil, hxx, rdD l i hil]
    obtain ⟨bn, ⟨K1, h1⟩, ⟨K2, h2⟩⟩ := names_agree x.f0 (hx x hxm)
    have q1 : (i : Int) < (l.length : Int) := by omega
    have q2 : (0 : Int) ≤ (i : Int) := by omega
    have q3 : (i : Int) ≤ (l.length : Int) := by omega
    have no : ∀ (P : Prop), ((false : Bool) = true → P) := fun P h => by cases h
    have specNo : ∀ m, spec_DeclsOk.j1 (m + 1) l s (i : Int) true = some false := fun m => by simp only [spec_DeclsOk.j1, if_true]
    cases bn with
    | false =>
      refine ⟨false, ⟨K1 + 2, fun k hk => ?_⟩, ⟨K2 + 1, fun k hk => ?_⟩, no _⟩
      · obtain ⟨m, rfl⟩ : ∃ m, k = m + 1 + 1 := ⟨k - 2, by omega⟩
        have h1 := h1 (m + 1) (by omega)
        dsimp only at h1 ⊢
        simp only [spec_DeclsOk.l0]
        rw [← hxx, if_pos q1, if_pos q2, h1]
        simp only [Option.bind_some]
        rw [if_neg (by decide)]
        exact specNo m
      · obtain ⟨m, rfl⟩ : ∃ m, k = m + 1 := ⟨k - 1, by omega⟩
        have h2 := h2 m (by omega)
        dsimp only at h2 ⊢
        simp only [impl_DeclsOk.l0]
        rw [← hxx, if_pos q1, if_pos q2, if_pos q1, h2]
        simp only [Option.bind_some]
        rw [if_neg (by decide)]
    | true =>
      by_cases cw : 1 ≤ x.f1 ∧ x.f1 ≤ 4096
      · by_cases cd : ∃ y ∈ l.take i, y.f0.toList = x.f0.toList
        · have hidx := idxD_some x.f0 (l.take i) 0 (by decide) cd
          -- the reference's inner loop finds it
          have inner : Ev (fun k => spec_DeclsOk.l1 k l s (i : Int) 0) false := by
            obtain ⟨y, hy, he⟩ := cd
            obtain ⟨j0, hj0, hyj⟩ := List.getElem_of_mem hy
            rw [List.length_take] at hj0
            rw [List.getElem_take] at hyj
            have heq : (rd_T146 l (j0 : Int)).f0.toList = x.f0.toList := by rw [rdD l j0 (by omega), hyj]; exact he
            have go : ∀ d j, j0 - j = d → j ≤ j0 → Ev (fun k => spec_DeclsOk.l1 k l s (i : Int) (j : Int)) false := by
              intro d
              induction d with
              | zero =>
                intro j hd hj
                have e : j = j0 := by omega
                subst e
                refine Ev.step (f := fun _ => some false) (fun k => ?_) (Ev.now _)
                simp only [spec_DeclsOk.l1]
                rw [← hxx, if_pos (by omega), if_pos (by omega), if_pos (by omega), if_pos q2, if_pos q1, if_pos heq]
              | succ d ih2 =>
                intro j hd hj
                by_cases e : (rd_T146 l (j : Int)).f0.toList = x.f0.toList
                · refine Ev.step (f := fun _ => some false) (fun k => ?_) (Ev.now _)
                  simp only [spec_DeclsOk.l1]
                  rw [← hxx, if_pos (by omega), if_pos (by omega), if_pos (by omega), if_pos q2, if_pos q1, if_pos e]
                · refine Ev.step (fun k => ?_) (ih2 (j + 1) (by omega) (by omega))
                  simp only [spec_DeclsOk.l1]
                  rw [← hxx, if_pos (by omega), if_pos (by omega), if_pos (by omega), if_pos q2, if_pos q1, if_neg e, wrap_succ' j (by omega)]
            exact go j0 0 (by omega) (by omega)
          obtain ⟨K3, h3⟩ := inner
          refine ⟨false, ⟨K1 + K3 + 2, fun k hk => ?_⟩, ⟨K2 + 1, fun k hk => ?_⟩, no _⟩
          · obtain ⟨m, rfl⟩ : ∃ m, k = m + 1 + 1 := ⟨k - 2, by omega⟩
            have h1 := h1 (m + 1) (by omega)
            have h3 := h3 m (by omega)
            dsimp only at h1 h3 ⊢
            simp only [spec_DeclsOk.l0]
            rw [← hxx, if_pos q1, if_pos q2, h1]
            simp only [Option.bind_some, if_true]
            rw [l1In_eq, decide_eq_true cw]
            simp only [Option.bind_some, Bool.not_true, spec_DeclsOk.j1]
            rw [if_neg (by decide)]
            exact h3
          · obtain ⟨m, rfl⟩ : ∃ m, k = m + 1 := ⟨k - 1, by omega⟩
            have h2 := h2 m (by omega)
            dsimp only at h2 ⊢
            simp only [impl_DeclsOk.l0, impl_declared.f]
            rw [← hxx, if_pos q1, if_pos q2, if_pos q1, h2]
            simp only [Option.bind_some, if_true]
            rw [inside_eq, decide_eq_true cw]
            simp only [Option.bind_some, if_true]
            rw [if_pos q3, Int.toNat_natCast, if_pos hidx]
        · have hidx := idxD_none x.f0 (l.take i) 0 (fun y hy he => cd ⟨y, hy, he⟩)
          obtain ⟨b, hs, hi2, hb⟩ := ih (i + 1) (by omega) (by omega) (s + x.f1) (by omega) (by omega)
          have hws : True → wrap64 (s + x.f1) = s + x.f1 := fun _ => wrap64_id (by omega) (by omega)
          have hwi : True → wrap64 ((i : Int) + 1) = ((i + 1 : Nat) : Int) := fun _ => wrap_succ' i (by omega)
          have inner : Ev (fun k => spec_DeclsOk.l1 k l s (i : Int) 0) b := by
            refine up_loop i (fun _ => ()) (fun k _ j => spec_DeclsOk.l1 k l s (i : Int) j) (fun j hj r h => Ev.step (fun k => ?_) h) b (Ev.step (fun k => ?_) hs)
            · have hne : ¬ (rd_T146 l (j : Int)).f0.toList = x.f0.toList := fun he => cd ⟨rd_T146 l (j : Int), by rw [rdD l j (by omega)]; exact List.mem_take_iff_getElem.2 ⟨j, by omega, rfl⟩, he⟩
              simp only [spec_DeclsOk.l1]
              rw [← hxx, if_pos (by omega), if_pos (by omega), if_pos (by omega), if_pos q2, if_pos q1, if_neg hne, wrap64_id (by omega) (by omega)]
            · simp only [spec_DeclsOk.l1]
              rw [← hxx, hws trivial, hwi trivial, if_neg (by omega), if_pos q2, if_pos q1]
          obtain ⟨K3, h3⟩ := inner
          obtain ⟨K4, h4⟩ := hi2
          refine ⟨b, ⟨K1 + K3 + 2, fun k hk => ?_⟩, ⟨K2 + K4 + 1, fun k hk => ?_⟩, fun hbt => ?_⟩
          · obtain ⟨m, rfl⟩ : ∃ m, k = m + 1 + 1 := ⟨k - 2, by omega⟩
            have h1 := h1 (m + 1) (by omega)
            have h3 := h3 m (by omega)
            dsimp only at h1 h3 ⊢
            simp only [spec_DeclsOk.l0]
            rw [← hxx, if_pos q1, if_pos q2, h1]
            simp only [Option.bind_some, if_true]
            rw [l1In_eq, decide_eq_true cw]
            simp only [Option.bind_some, Bool.not_true, spec_DeclsOk.j1]
            rw [if_neg (by decide)]
            exact h3
          · obtain ⟨m, rfl⟩ : ∃ m, k = m + 1 := ⟨k - 1, by omega⟩
            have h2 := h2 m (by omega)
            have h4 := h4 m (by omega)
            dsimp only at h2 h4 ⊢
            simp only [impl_DeclsOk.l0, impl_declared.f]
            rw [← hxx, if_pos q1, if_pos q2, if_pos q1, h2]
            simp only [Option.bind_some, if_true]
            rw [inside_eq, decide_eq_true cw]
            simp only [Option.bind_some, if_true]
            rw [if_pos q3, Int.toNat_natCast, hidx, if_neg (by decide), hws trivial, hwi trivial]
            exact h4
          · obtain ⟨t1, t2⟩ := hb hbt
            rw [hdrop]
            refine ⟨fun y hy => ?_, ?_⟩
            · rcases List.mem_cons.1 hy with rfl | hy
              · exact cw
              · exact t1 y hy
            · show s + (x.f1 + sumD (l.drop (i + 1))) ≤ 20000
              omega
      · refine ⟨false, ⟨K1 + 2, fun k hk => ?_⟩, ⟨K2 + 1, fun k hk => ?_⟩, no _⟩
        · obtain ⟨m, rfl⟩ : ∃ m, k = m + 1 + 1 := ⟨k - 2, by omega⟩
          have h1 := h1 (m + 1) (by omega)
          dsimp only at h1 ⊢
          simp only [spec_DeclsOk.l0]
          rw [← hxx, if_pos q1, if_pos q2, h1]
          simp only [Option.bind_some, if_true]
          rw [l1In_eq, decide_eq_false cw]
          simp only [Option.bind_some, Bool.not_false]
          exact specNo m
        · obtain ⟨m, rfl⟩ : ∃ m, k = m + 1 := ⟨k - 1, by omega⟩
          have h2 := h2 m (by omega)
          dsimp only at h2 ⊢
          simp only [impl_DeclsOk.l0]
          rw [← hxx, if_pos q1, if_pos q2, if_pos q1, h2]
          simp only [Option.bind_some, if_true]
          rw [inside_eq, decide_eq_false cw]
          rfl
theorem declsOk_agree (l : List S146) (hx : ∀ x ∈ l, x.f0.size ≤ 1048576) :
    ∃ b, Ev (fun k => spec_DeclsOk.f k l) b ∧ Ev (fun k => impl_DeclsOk.f k l) b ∧ (b = true → GoodDecls l) := by
  by_cases c : (l.length : Int) > 60
  · exact ⟨false, Ev.congr (fun k => by unfold spec_DeclsOk.f; rw [if_pos c]) (Ev.now _), Ev.congr (fun k => by unfold impl_DeclsOk.f; rw [if_pos c]) (Ev.now _), fun h => by cases h⟩
  · obtain ⟨b, h1, h2, h3⟩ := decls_loops l (by omega) hx l.length 0 (by omega) (by omega) 0 (by decide) (by decide)
    refine ⟨b, Ev.congr (fun k => by unfold spec_DeclsOk.f; rw [if_neg c]; rfl) h1, Ev.congr (fun k => by unfold impl_DeclsOk.f; rw [if_neg c]; rfl) h2, fun hb => ?_⟩
    obtain ⟨t1, t2⟩ := h3 hb
    rw [List.drop_zero] at t1 t2
    exact ⟨by omega, t1, by omega⟩

/-! upDecl -/
theorem upDecl {l : List S146} (U : (l.length : Int) ≤ 1048576 ∧ ∀ y ∈ l, UpI_Decl 1048576 y) : ∀ x ∈ l, x.f0.size ≤ 1048576 := fun x hx => by
  have := U.2 x hx
  unfold UpI_Decl at this
  omega

/-! markBitsS2 -/
theorem mark_BitsS_loop2 (x : List S149) (hl : x.length ≤ 1048576) (hx : ∀ j : Nat, j < x.length → ((rd_T149 x (j : Int)).f1.length : Int) ≤ 1048576) :
    ∀ d i, x.length - i = d → i ≤ x.length → ∀ (xs : List S149) (m : Int), xs.length = x.length → (∀ j : Nat, i ≤ j → j < x.length → rd_T149 xs (j : Int) = rd_T149 x (j : Int)) → 0 ≤ m → m ≤ 4611686018427387904 - (d : Int) * 1048577 →
      ∃ (m' : Int) (x' : List S149), Ev (fun k => laws_markBitsS.l0 k xs m (i : Int)) (m', x') ∧ m ≤ m' ∧ m' ≤ m + (d : Int) * 1048577 ∧ x'.length = x.length ∧ (∀ j : Nat, j < i → rd_T149 x' (j : Int) = rd_T149 xs (j : Int)) ∧ Ev (fun k => laws_heldBitsS.l0 k x' m (i : Int)) m' := by
  intro d
  induction d with
  | zero =>
    intro i hd hi xs m hlen hrd h0 h1
    refine ⟨m, xs, Ev.step (f := fun _ => some (m, xs)) (fun k => ?_) (Ev.now _), by omega, by omega, hlen, fun _ _ => rfl, Ev.step (f := fun _ => some m) (fun k => ?_) (Ev.now _)⟩
    · simp (disch := omega) only [laws_markBitsS.l0, ↓if_neg]
    · simp (disch := omega) only [laws_heldBitsS.l0, ↓if_neg]
  | succ d ih =>
    intro i hd hi xs m hlen hrd h0 h1
    have hil : i < x.length := by omega
    have hr := hrd i (Nat.le_refl _) hil
    have hb := hx i hil
    rw [← hr] at hb
    obtain ⟨m1, z, g, o1, o2, ⟨K3, e3⟩⟩ := mark_Uint64S (rd_T149 xs (i : Int)).f1 hb (m + 1) (by omega) (by omega)
    obtain ⟨m2, x', ⟨K2, e2⟩, p1, p2, p3, p4, ⟨K4, e4⟩⟩ := ih (i + 1) (by omega) (by omega) (xs.set i ⟨m, z⟩) m1 (by rw [List.length_set]; exact hlen) (fun j hj hjl => by
      rw [← hrd j (by omega) hjl]
      unfold rd_T149
      rw [List.getD_eq_getElem?_getD, List.getD_eq_getElem?_getD, Int.toNat_natCast, List.getElem?_set_ne (by omega)]) (by omega) (by omega)
    obtain ⟨K1, e1⟩ := g
    have hri : rd_T149 x' (i : Int) = ⟨m, z⟩ := by
      rw [p4 i (by omega)]
      unfold rd_T149
      rw [List.getD_eq_getElem?_getD, Int.toNat_natCast, List.getElem?_set_self (by omega)]
      rfl
    refine ⟨m2, x', ⟨K1 + K2 + 1, fun k hk => ?_⟩, by omega, by omega, p3, fun j hj => ?_, ⟨K3 + K4 + 1, fun k hk => ?_⟩⟩
    · obtain ⟨mm, rfl⟩ : ∃ mm, k = mm + 1 := ⟨k - 1, by omega⟩
      have e1 := e1 mm (by omega)
      have e2 := e2 mm (by omega)
      dsimp only at e1 e2 ⊢
      simp (disch := omega) only [laws_markBitsS.l0, ↓if_pos, wrap64_id (x := m + 1), e1, Option.bind_some, Int.toNat_natCast, wrap_next]
      exact e2
    · rw [p4 j (by omega)]
      unfold rd_T149
      rw [List.getD_eq_getElem?_getD, List.getD_eq_getElem?_getD, Int.toNat_natCast, List.getElem?_set_ne (by omega)]
    · obtain ⟨mm, rfl⟩ : ∃ mm, k = mm + 1 := ⟨k - 1, by omega⟩
      have e3 := e3 mm (by omega)
      have e4 := e4 mm (by omega)
      dsimp only at e3 e4 ⊢
      simp (disch := omega) only [laws_heldBitsS.l0, hri, ↓if_pos, ↓reduceIte, wrap64_id (x := m + 1), e3, Option.bind_some, ↓if_neg, wrap_next]
      exact e4
theorem mark_BitsS (x : List S149) (h : ((x.length : Int) ≤ 1048576 ∧ ∀ y ∈ x, UpI_Bits 1048576 y)) (m : Int) (h0 : 0 ≤ m) (h1 : m ≤ 4611686018427387904 - 1099512676352) : ∃ (m' : Int) (x' : List S149), Ev (fun k => laws_markBitsS.f k x m) (m', x') ∧ m ≤ m' ∧ m' ≤ m + 1099512676352 ∧ Ev (fun k => laws_heldBitsS.f k x' m) m' := by
  obtain ⟨h2, h3⟩ := h
  obtain ⟨m', x', e, p1, p2, _, _, e2⟩ := mark_BitsS_loop2 x (by omega) (fun j hj => h3 _ (rdM_T149 x j hj)) x.length 0 (by omega) (by omega) x m rfl (fun _ _ _ => rfl) h0 (by omega)
  exact ⟨m', x', e, p1, by omega, e2⟩

/-! valuesBy -/
/-- Where variable v's bits begin. -/
def offN (l : List S146) : Nat → Nat
  | 0 => 0
  | v + 1 => offN l v + (rd_T146 l (v : Int)).f1.toNat
theorem offN_le (l : List S146) (hg : GoodDecls l) : ∀ v, v ≤ l.length → offN l v ≤ 4096 * v
  | 0, _ => by simp [offN]
  | v + 1, h => by
    have h1 := offN_le l hg v (by omega)
    have h2 := hg.width _ (rdD_mem l v (by omega))
    simp only [offN]
    omega
theorem offN_mono (l : List S146) : ∀ d v, offN l v ≤ offN l (v + d)
  | 0, v => Nat.le_refl _
  | d + 1, v => by
    have := offN_mono l d v
    show offN l v ≤ offN l (v + d) + _
    omega
def offL (l : List S146) (v : Nat) : List Int := (List.range v).map fun (u : Nat) => (offN l u : Int)
theorem offL_rd (l : List S146) (n v : Nat) (h : v < n) : rd (offL l n) (v : Int) = (offN l v : Int) := by simp [rd, offL, List.getD_eq_getElem?_getD, h]
theorem offL_len (l : List S146) (n : Nat) : (offL l n).length = n := by simp [offL]
theorem offsets_ev (l : List S146) (hg : GoodDecls l) : Ev (fun k => spec_l19Offsets.f k l) (offL l l.length, (offN l l.length : Int)) := by
  have hl := hg.len
  have main := up_loop l.length (fun v => (offL l v, (offN l v : Int))) (fun k (s : List Int × Int) i => spec_l19Offsets.l0 k l s.1 s.2 i)
    (fun v hv r h => by
      have h1 := offN_le l hg v (by omega)
      have h2 := hg.width _ (rdD_mem l v hv)
      have e1 : offL l (v + 1) = offL l v ++ [(offN l v : Int)] := by simp [offL, List.range_succ]
      have e2 : ((offN l (v + 1) : Nat) : Int) = (offN l v : Int) + (rd_T146 l (v : Int)).f1 := by simp only [offN]; omega
      dsimp only at h ⊢
      rw [e1, e2] at h
      refine Ev.step (fun k => ?_) h
      simp only [spec_l19Offsets.l0]
      rw [if_pos (by omega), if_pos (by rw [offL_len]; omega), if_pos (by omega), wrap64_id (x := (offN l v : Int) + _) (by omega) (by omega), wrap64_id (by omega) (by omega)])
    (offL l l.length, (offN l l.length : Int)) (Ev.step (f := fun _ => some (offL l l.length, (offN l l.length : Int))) (fun k => by
      simp only [spec_l19Offsets.l0]
      rw [if_neg (by omega)]) (Ev.now _))
  exact Ev.congr (fun k => rfl) main
theorem total_ev (l : List S146) (hg : GoodDecls l) : Ev (fun k => impl_totalWidth.f k l) (offN l l.length : Int) := by
  have hl := hg.len
  have main := up_loop l.length (fun v => (offN l v : Int)) (fun k (s : Int) i => impl_totalWidth.l0 k s l (l.length : Int) i)
    (fun v hv r h => by
      have h1 := offN_le l hg v (by omega)
      have h2 := hg.width _ (rdD_mem l v hv)
      have e2 : ((offN l (v + 1) : Nat) : Int) = (offN l v : Int) + (rd_T146 l (v : Int)).f1 := by simp only [offN]; omega
      rw [e2] at h
      refine Ev.step (fun k => ?_) h
      simp only [impl_totalWidth.l0]
      rw [if_pos (by omega), if_pos (by omega), if_pos (by omega), wrap64_id (x := (offN l v : Int) + _) (by omega) (by omega), wrap64_id (by omega) (by omega)])
    (offN l l.length : Int) (Ev.step (f := fun _ => some (offN l l.length : Int)) (fun k => by
      simp only [impl_totalWidth.l0]
      rw [if_neg (by omega)]) (Ev.now _))
  exact Ev.congr (fun k => rfl) main
/-- The bits of w places from a on, as digits. -/
def zL (on : List Bool) (a w : Nat) : List Int := (List.range w).map fun (i : Nat) => if rdOf false on ((a + i : Nat) : Int) then (1 : Int) else 0
theorem zL_len (on : List Bool) (a w : Nat) : (zL on a w).length = w := by simp [zL]
theorem zL_succ (on : List Bool) (a w : Nat) : zL on a (w + 1) = zL on a w ++ [if rdOf false on ((a + w : Nat) : Int) then (1 : Int) else 0] := by simp [zL, List.range_succ]
theorem zL_01 (on : List Bool) (a w : Nat) : Bits01 (zL on a w) := by
  intro x hx
  unfold zL at hx
  obtain ⟨i, _, rfl⟩ := List.mem_map.1 hx
  split
  · exact .inr rfl
  · exact .inl rfl
theorem zL_rd (on : List Bool) (a w j : Nat) (h : j < w) : rd (zL on a w) (j : Int) = if rdOf false on ((a + j : Nat) : Int) then (1 : Int) else 0 := by simp [rd, zL, List.getD_eq_getElem?_getD, h]
theorem rdOf_drop (on : List Bool) (a i : Nat) : rdOf false (on.drop a) (i : Int) = rdOf false on ((a + i : Nat) : Int) := by
  unfold rdOf
  rw [List.getD_eq_getElem?_getD, List.getD_eq_getElem?_getD, List.getElem?_drop, Int.toNat_natCast, Int.toNat_natCast]
theorem row_ev (on : List Bool) (a w : Nat) (hw : 1 ≤ w ∧ w ≤ 4096) (ha : a + w ≤ on.length) (ho : on.length ≤ 1048576) :
    ∃ ws, Packs (zL on a w) ws ∧ ws.length ≤ 64 ∧ Ev (fun k => impl_ValuesBy.l1 k (w : Int) (List.replicate (((w : Int) + 63) / 64).toNat 0) (w : Int) (on.drop a) 0) ws := by
  obtain ⟨ws, ⟨hl, hu, hb⟩, hr⟩ := inv_loop w (fun i (s : List Int) => s.length = (w + 63) / 64 ∧ U64s s ∧ ∀ j, bitN s j = (decide (j < i) && rdOf false on ((a + j : Nat) : Int)))
    (fun k s i => impl_ValuesBy.l1 k (w : Int) s (w : Int) (on.drop a) i)
    (fun i hi s ⟨hl, hu, hb⟩ => by
      have hd := rdOf_drop on a i
      have hdl : (on.drop a).length = on.length - a := List.length_drop
      cases hc : rdOf false on ((a + i : Nat) : Int) with
      | false =>
        rw [hc] at hd
        refine ⟨s, ⟨hl, hu, fun j => ?_⟩, fun r h => Ev.step (fun k => ?_) h⟩
        · rw [hb]
          by_cases e : j = i
          · subst e; rw [hc]; simp
          · by_cases e2 : j < i
            · simp [e2, show j < i + 1 by omega]
            · simp [e2, show ¬ j < i + 1 by omega]
        · simp only [impl_ValuesBy.l1]
          rw [if_pos (by omega), if_pos (by omega), if_pos (by omega), hd, if_neg (by decide), wrap64_id (by omega) (by omega)]
      | true =>
        rw [hc] at hd
        obtain ⟨s', he, hl', hu', hb'⟩ := implSet_eq (w : Int) s hu i (by omega) (by omega)
        refine ⟨s', ⟨by omega, hu', fun j => ?_⟩, fun r h => Ev.step (fun k => ?_) h⟩
        · rw [hb', hb]
          by_cases e : j = i
          · subst e; rw [hc]; simp
          · by_cases e2 : j < i
            · simp [e, e2, show j < i + 1 by omega]
            · simp [e, e2, show ¬ j < i + 1 by omega]
        · simp only [impl_ValuesBy.l1]
          rw [if_pos (by omega), if_pos (by omega), if_pos (by omega), hd, if_pos rfl, he]
          simp only [Option.bind_some]
          rw [wrap64_id (by omega) (by omega)])
    (List.replicate (((w : Int) + 63) / 64).toNat 0) ⟨by simp; omega, U64s.replicate _, fun j => by rw [bitN_replicate]; simp⟩
  refine ⟨ws, packs_of (w := (w : Int)) (by rw [zL_len]) ⟨by omega, by omega, by omega, hu, fun j hj => by rw [hb]; simp; omega⟩ fun j hj => ?_, by omega, hr ws (Ev.step (f := fun _ => some ws) (fun k => by
    simp only [impl_ValuesBy.l1]
    rw [if_neg (by omega)]) (Ev.now _))⟩
  rw [zL_len] at hj
  rw [hb, zL_rd on a w j hj]
  cases rdOf false on ((a + j : Nat) : Int) <;> simp [hj]
theorem add_small (a i n : Nat) (h : a + i < n) (hn : n ≤ 1048576) : wrap64 ((a : Int) + (i : Int)) = ((a + i : Nat) : Int) := by rw [wrap64_id (by omega) (by omega)]; omega
theorem next_small (i w : Nat) (h : i < w) (hw : w ≤ 4096) : wrap64 ((i : Int) + 1) = ((i + 1 : Nat) : Int) := by rw [wrap64_id (by omega) (by omega)]; rfl
theorem row_spec (l : List S146) (on : List Bool) (out : List S149) (hg : GoodDecls l) (v a w : Nat) (hv : v < l.length) (hw : (rd_T146 l (v : Int)).f1 = (w : Int)) (hw2 : w ≤ 4096) (he : offN l v = a) (ha : a + w ≤ on.length) (ho : on.length ≤ 1048576) (r : List S149 × Bool)
    (hend : Ev (fun k => spec_ValuesBy.l1 k l on out (offL l l.length) (v : Int) (zL on a w) (w : Int)) r) :
    ∀ d i, w - i = d → i ≤ w → Ev (fun k => spec_ValuesBy.l1 k l on out (offL l l.length) (v : Int) (zL on a i) (i : Int)) r := by
  intro d
  induction d with
  | zero =>
    intro i hd hi
    have e : i = w := by omega
    subst e
    exact hend
  | succ d ih =>
    intro i hd hi
    have h := ih (i + 1) (by omega) (by omega)
    have p1 : (0 : Int) ≤ (v : Int) := Int.natCast_nonneg v
    have p2 : (v : Int) < (l.length : Int) := Int.ofNat_lt.2 hv
    have p0 : i < w := by clear hw he hend ih; omega
    have p3 : (i : Int) < (w : Int) := Int.ofNat_lt.2 p0
    have p4 : (v : Int) < ((offL l l.length).length : Int) := by rw [offL_len]; exact p2
    have p5 : (0 : Int) ≤ ((a + i : Nat) : Int) := Int.natCast_nonneg _
    have p9 : a + i < on.length := by clear hw he hend ih; omega
    have p6 : ((a + i : Nat) : Int) < (on.length : Int) := Int.ofNat_lt.2 p9
    have p7 : (zL on a i).length < 140737488355328 := by rw [zL_len]; clear hw he hend ih; omega
    have p8 : wrap64 ((i : Int) + 1) = ((i + 1 : Nat) : Int) := next_small i w p0 hw2
    have hwr : wrap64 ((a : Int) + (i : Int)) = ((a + i : Nat) : Int) := add_small a i on.length p9 ho
    have hro := offL_rd l l.length v hv
    rw [he] at hro
    rw [zL_succ] at h
    refine Ev.step (fun k => ?_) h
    simp only [spec_ValuesBy.l1]
    rw [if_pos p1, if_pos p2, hw, if_pos p3, if_pos p4, hro, hwr, if_pos p5, if_pos p6]
    cases rdOf false on ((a + i : Nat) : Int) with
    | false => rw [if_neg (by decide), if_pos p7, p8]; rfl
    | true => rw [if_pos rfl, if_pos p7, p8]; rfl
theorem values_rows (l : List S146) (on : List Bool) (hg : GoodDecls l) (ha : offN l l.length ≤ on.length) (ho : on.length ≤ 1048576) :
    ∀ d v, l.length - v = d → v ≤ l.length → ∀ (outS outI : List S149), outS.length = v → outI.length = l.length → outI.take v = outS → (∀ y ∈ outS, y.f1.length ≤ 64) →
      ∃ r : List S149, Ev (fun k => spec_ValuesBy.l0 k l on outS (offL l l.length) (v : Int)) (r, true) ∧ Ev (fun k => impl_ValuesBy.l0 k l outI (on.drop (offN l v)) (v : Int)) r ∧ r.length = l.length ∧ ∀ y ∈ r, y.f1.length ≤ 64 := by
  have hl := hg.len
  intro d
  induction d with
  | zero =>
    intro v hd hv outS outI h1 h2 h3 h4
    have e : outI = outS := by rw [← h3, List.take_of_length_le (by omega)]
    refine ⟨outS, Ev.step (f := fun _ => some (outS, true)) (fun k => ?_) (Ev.now _), Ev.step (f := fun _ => some outS) (fun k => ?_) (Ev.now _), by omega, h4⟩
    · simp only [spec_ValuesBy.l0]
      rw [if_neg (by omega)]
    · simp only [impl_ValuesBy.l0]
      rw [if_neg (by omega), e]
  | succ d ih =>
    intro v hd hv outS outI h1 h2 h3 h4
    have hvl : v < l.length := by omega
    have hwid := hg.width _ (rdD_mem l v hvl)
    obtain ⟨w, hw⟩ := Int.eq_ofNat_of_zero_le (show 0 ≤ (rd_T146 l (v : Int)).f1 by omega)
    have hsucc : offN l (v + 1) = offN l v + w := by simp only [offN]; rw [hw]; rfl
    have hmono := offN_mono l (l.length - (v + 1)) (v + 1)
    rw [show v + 1 + (l.length - (v + 1)) = l.length by omega] at hmono
    have hwl : 1 ≤ w ∧ w ≤ 4096 := by omega
    obtain ⟨ws, hp, hwl2, K1, e1⟩ := row_ev on (offN l v) w hwl (by omega) ho
    obtain ⟨ws', hf, hp'⟩ := l1From_ev (zL on (offN l v) w) (zL_01 _ _ _) (by rw [zL_len]; omega) (by rw [zL_len]; omega)
    have ee := hp'.uniq hp
    subst ee
    rw [zL_len] at hf
    obtain ⟨K2, hf⟩ := Ev.binds hf
    have ez := zeroBits_eq (w : Int) (by omega) (by omega)
    obtain ⟨r, g1, g2, g3, g4⟩ := ih (v + 1) (by omega) (by omega) (outS ++ [⟨(w : Int), ws'⟩]) (outI.set v ⟨(w : Int), ws'⟩) (by simp; omega) (by simp; omega)
      (by rw [List.take_add_one, List.take_set_of_le (Nat.le_refl _), List.getElem?_set_self (by omega), h3]; rfl)
      (fun y hy => by
        rcases List.mem_append.1 hy with hy | hy
        · exact h4 y hy
        · rw [List.mem_singleton.1 hy]; exact hwl2)
    refine ⟨r, ?_, ?_, g3, g4⟩
    · have hend : Ev (fun k => spec_ValuesBy.l1 k l on outS (offL l l.length) (v : Int) (zL on (offN l v) w) (w : Int)) (r, true) := by
        obtain ⟨K3, g1⟩ := g1
        refine ⟨K2 + K3 + 1, fun k hk => ?_⟩
        obtain ⟨m, rfl⟩ : ∃ m, k = m + 1 := ⟨k - 1, by omega⟩
        dsimp only
        simp only [spec_ValuesBy.l1]
        rw [if_pos (by omega), if_pos (by omega), hw, if_neg (by omega), hf m (by omega), if_pos (by omega), wrap64_id (by omega) (by omega)]
        exact g1 m (by omega)
      have h0 := row_spec l on outS hg v (offN l v) w hvl hw hwl.2 rfl (by omega) ho (r, true) hend w 0 (by omega) (by omega)
      refine Ev.step (fun k => ?_) h0
      simp only [spec_ValuesBy.l0]
      rw [if_pos (by omega)]
      rfl
    · obtain ⟨K3, g2⟩ := g2
      refine ⟨K1 + K3 + 1, fun k hk => ?_⟩
      obtain ⟨m, rfl⟩ : ∃ m, k = m + 1 := ⟨k - 1, by omega⟩
      have e1 := e1 m (by omega)
      have g2 := g2 m (by omega)
      dsimp only at e1 g2 ⊢
      have hdl : (on.drop (offN l v)).length = on.length - offN l v := List.length_drop
      simp only [impl_ValuesBy.l0]
      rw [if_pos (by omega), if_pos (by omega), hw, ez]
      simp only [Option.bind_some]
      rw [e1]
      simp only [Option.bind_some]
      rw [if_pos (by omega), if_pos (by omega), wrap64_id (by omega) (by omega), Int.toNat_natCast, Int.toNat_natCast, List.drop_drop, ← hsucc]
      exact g2
theorem valuesBy_agree (l : List S146) (on : List Bool) (U0 : (l.length : Int) ≤ 1048576 ∧ ∀ y ∈ l, UpI_Decl 1048576 y) (W0 : ∀ y ∈ l, WfI_Decl y) (U1 : (on.length : Int) ≤ 1048576) (W1 : ∀ y ∈ on, True) :
    ∃ (y0 : List S149) (y1 : Bool), Ev (fun k => spec_ValuesBy.f k l on) (y0, y1) ∧ Ev (fun k => impl_ValuesBy.f k l on) (y0, y1) ∧ ((y0.length : Int) ≤ 1048576 ∧ ∀ y ∈ y0, UpI_Bits 1048576 y) := by
  obtain ⟨b, g1, g2, hg⟩ := declsOk_agree l (upDecl U0)
  obtain ⟨K1, h1⟩ := Ev.binds g1
  obtain ⟨K2, h2⟩ := Ev.binds g2
  cases b with
  | false => exact ⟨[], false, ⟨K1, fun k hk => by simp (disch := omega) only [spec_ValuesBy.f, Option.bind_some, ↓h1, ↓reduceIte, Bool.false_eq_true]⟩, ⟨K2, fun k hk => by simp (disch := omega) only [impl_ValuesBy.f, ↓h2, ↓reduceIte, Bool.false_eq_true]⟩, by simp, fun y hy => by cases hy⟩
  | true =>
    have hgd := hg rfl
    have hl := hgd.len
    obtain ⟨K3, h3⟩ := Ev.binds (offsets_ev l hgd)
    obtain ⟨K4, h4⟩ := Ev.binds (total_ev l hgd)
    by_cases c : (on.length : Int) < (offN l l.length : Int)
    · have c1 := eq_true c
      exact ⟨[], false, ⟨K1 + K3, fun k hk => by simp (disch := omega) only [spec_ValuesBy.f, Option.bind_some, ↓h1, ↓h3, ↓reduceIte, c1]⟩, ⟨K2 + K4, fun k hk => by simp (disch := omega) only [impl_ValuesBy.f, ↓h2, ↓h4, ↓reduceIte, c1]⟩, by simp, fun y hy => by cases hy⟩
    · have c1 := eq_false c
      obtain ⟨r, e1, e2, e3, e4⟩ := values_rows l on hgd (by omega) (by omega) l.length 0 (by omega) (by omega) [] (List.replicate l.length z149) rfl (by simp) rfl (fun y hy => by cases hy)
      obtain ⟨K5, e1⟩ := e1
      obtain ⟨K6, e2⟩ := Ev.binds e2
      refine ⟨r, true, ⟨K1 + K3 + K5, fun k hk => ?_⟩, ⟨K2 + K4 + K6, fun k hk => ?_⟩, by omega, fun y hy => ?_⟩
      · have e1 := e1 k (by omega)
        simp (disch := omega) only [spec_ValuesBy.f, Option.bind_some, ↓h1, ↓h3, ↓reduceIte, c1]
        exact e1
      · have e2 := e2 k (by omega)
        simp only [offN, List.drop_zero, Int.natCast_zero] at e2
        simp (disch := omega) only [impl_ValuesBy.f, ↓h2, ↓h4, ↓reduceIte, c1, ↓if_pos]
        exact e2 _ _
      · have := e4 y hy
        unfold UpI_Bits
        omega
-- SAYS: The program's ValuesBy answers as the reference's ValuesBy does, for all arguments.
theorem FnExactValuesBy (l0 : List S142) (l1 : List Bool) (q0 : ∀ x ∈ l0, x.f0.size ≤ maxLen ∧ (Lit.int .i64 x.f1).wf = true) (hl0 : l0.length ≤ 9223372036854775807) (q1 : ∀ x ∈ l1, True) (hl1 : l1.length ≤ 9223372036854775807) : ∃ k, laws_FnExactValuesBy.f k l0 l1 = some true := by
  by_cases b1 : (l1.length : Int) > 1048576
  · have c1 := eq_true b1
    exact ⟨1 + 1 + 1 + 1, by simp (disch := omega) only [laws_FnExactValuesBy.f, ↓reduceIte, c1]⟩
  have c1 := eq_false b1
  have u1 : (l1.length : Int) ≤ 1048576 := by omega
  obtain ⟨r0, g0, hb0⟩ := sz_DeclS l0 1048576 (⟨Int.ofNat_le.2 (And.intro hl0 q0).1, fun y hy => in_Decl y ((And.intro hl0 q0).2 y hy)⟩) (by omega) (by omega)
  obtain ⟨Ks0, s0⟩ := Ev.binds (g0)
  rcases hb0 with hneg | ⟨p0, z0, u0⟩
  · have c0 := eq_true hneg
    exact ⟨Ks0 + 1 + 1 + 1 + 1, by simp (disch := omega) only [laws_FnExactValuesBy.f, ↓s0, ↓reduceIte, c1, c0]⟩
  have c0 := eq_false (show ¬ r0 < 0 by omega)
  have U0 : (((l0.map cv_Decl).length : Int) ≤ 1048576 ∧ ∀ y ∈ (l0.map cv_Decl), UpI_Decl 1048576 y) := ⟨by simpa using u0.1, fun y hy => by obtain ⟨z, hz, rfl⟩ := List.mem_map.1 hy; exact upcv_Decl _ z (u0.2 z hz)⟩
  have W0 : (∀ y ∈ (l0.map cv_Decl), WfI_Decl y) := (fun y hy => by obtain ⟨z, hz, rfl⟩ := List.mem_map.1 hy; exact wf_Decl z ((And.intro hl0 q0).2 z hz))
  have U1 : ((l1.length : Int) ≤ 1048576) := u1
  have W1 : (∀ y ∈ l1, True) := (fun a2_ ha2_ => trivial)
  obtain ⟨y0, y1, e1, e2, v0⟩ := valuesBy_agree ((l0.map cv_Decl)) l1 U0 W0 U1 W1
  obtain ⟨Kt0, t0⟩ := Ev.binds (to_DeclS l0 u0)
  obtain ⟨Kt1, t1⟩ := Ev.binds (to_BoolS l1 u1)
  obtain ⟨Khs, hs⟩ := Ev.binds (e1)
  obtain ⟨Khi, hi⟩ := Ev.binds (e2)
  obtain ⟨Ke0_, e0_⟩ := Ev.binds (eq_DeclS ((l0.map cv_Decl)) U0)
  obtain ⟨Ke1_, e1_⟩ := Ev.binds (eq_BoolS l1 U1)
  obtain ⟨Kf0_, f0_⟩ := Ev.binds (eq_BitsS y0 v0)
  obtain ⟨m0, n0_0, g0_, o0, w0⟩ := mark_DeclS ((l0.map cv_Decl)) U0 1 (by omega) (by omega)
  obtain ⟨Kk0_, k0_⟩ := Ev.binds (g0_)
  obtain ⟨m1, n1_0, g1_, o1, w1⟩ := mark_BoolS l1 U1 m0 (by omega) (by omega)
  obtain ⟨Kk1_, k1_⟩ := Ev.binds (g1_)
  have cm := eq_false (show ¬ m1 < 0 by omega)
  obtain ⟨M0, N0_0, G0_, O0, A0, H0_⟩ := mark_BitsS y0 v0 1 (by omega) (by omega)
  obtain ⟨Kx0_, x0_⟩ := Ev.binds (G0_)
  obtain ⟨Kz0_, z0_⟩ := Ev.binds (H0_)
  have cn0 := eq_false (show ¬ M0 < 0 by omega)
  exact ⟨Ks0 + Kt0 + Kt1 + Khs + Khi + Ke0_ + Ke1_ + Kf0_ + Kk0_ + Kk1_ + Kx0_ + Kz0_ + 1 + 1 + 1 + 1, by simp (disch := omega) only [laws_FnExactValuesBy.f, ↓s0, ↓t0, ↓t1, ↓hs, ↓hi, ↓e0_, ↓e1_, ↓f0_, ↓k0_, ↓k1_, ↓x0_, ↓z0_, ↓reduceIte, c1, c0, cm, cn0, bne_self_eq_false, Bool.false_eq_true, Bool.not_true, Bool.not_false]⟩

end Go.Proofs.Ytjmnhcooimdioaa.Pure
