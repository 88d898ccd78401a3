/- The program's Merge answers as the reference's Merge does, for all arguments. -/
import Derived.Test.YtjmnhcooimdioaaPFnExactMergex12
import Derived.Test.YtjmnhcooimdioaaBits
import Derived.Test.YtjmnhcooimdioaaLoops
namespace Go.Proofs.Ytjmnhcooimdioaa.Pure
open Go Go.RowKit Go.Proofs.Ytjmnhcooimdioaa.PFnExactMerge Go.Proofs.YtjmnhcooimdioaaW.PrintWords Go.Proofs.YtjmnhcooimdioaaW.PrintLast Go.Proofs.YtjmnhcooimdioaaW.PrintMore Go.Proofs.Ytjmnhcooimdioaa.BitsLib Go.Proofs.Ytjmnhcooimdioaa.Loops
set_option linter.unusedVariables false
set_option linter.unusedSimpArgs false
set_option maxRecDepth 4000

/-! wrap_next -/
theorem wrap_next (i : Nat) (h : i < 4611686018427387904) : wrap64 ((i : Int) + 1) = ((i + 1 : Nat) : Int) := by
  rw [wrap64_id (by omega) (by omega)]; rfl

/-! szn_out -/
theorem szn_out (n : Nat) (left : Int) (hn : (n : Int) ≤ 9223372036854775807) (h0 : 0 ≤ left) (h1 : left ≤ 1048576) :
    ∃ r, (True → wrap64 (left - (n : Int)) = r) ∧ (r < 0 ∨ (0 ≤ r ∧ r ≤ left ∧ (n : Int) ≤ 1048576)) := by
  refine ⟨left - (n : Int), fun _ => wrap64_id (by omega) (by omega), ?_⟩
  by_cases c : left - (n : Int) < 0
  · exact .inl c
  · exact .inr (by omega)

/-! UpL_Bits -/
def UpL_Bits (c : Int) (x : S160) : Prop := ((x.f1.length : Int) ≤ c)

/-! rdE_T160 -/
theorem rdE_T160 (l : List S160) (i : Nat) (h : i < l.length) : rd_T160 l (i : Int) = l[i] := by
  unfold rd_T160
  rw [List.getD_eq_getElem?_getD, Int.toNat_natCast, List.getElem?_eq_getElem h]; rfl
theorem rdM_T160 (l : List S160) (i : Nat) (h : i < l.length) : rd_T160 l (i : Int) ∈ l := by rw [rdE_T160 l i h]; exact List.getElem_mem h

/-! sz_Uint64S -/
theorem sz_Uint64S (x : List Int) (left : Int) (hin : ((x.length : Int) ≤ 9223372036854775807)) (h0 : 0 ≤ left) (h1 : left ≤ 1048576) :
    ∃ r, Ev (fun k => laws_szUint64S.f x left) r ∧ (r < 0 ∨ (0 ≤ r ∧ r ≤ left ∧ ((x.length : Int) ≤ 1048576))) := by
  obtain ⟨r, hr, hb⟩ := szn_out x.length left hin h0 h1
  rcases hb with c | ⟨p0, q0, u0⟩
  · exact ⟨-1, ⟨0, fun k _ => by dsimp only; unfold laws_szUint64S.f; rw [hr trivial, if_pos c]⟩, .inl (by omega)⟩
  · exact ⟨r, ⟨0, fun k _ => by dsimp only; unfold laws_szUint64S.f; rw [hr trivial, if_neg (by omega)]⟩, .inr ⟨p0, q0, u0⟩⟩

/-! sz_Bits -/
theorem sz_Bits (x : S160) (left : Int) (hin : UpL_Bits 9223372036854775807 x) (h0 : 0 ≤ left) (h1 : left ≤ 1048576) :
    ∃ r, Ev (fun k => laws_szBits.f x.f0 x.f1 left) r ∧ (r < 0 ∨ (0 ≤ r ∧ r ≤ left ∧ UpL_Bits 1048576 x)) := by
  unfold UpL_Bits at hin
  have i1 := hin
  obtain ⟨r1, ⟨K1, e1⟩, hb1⟩ := sz_Uint64S x.f1 left i1 (by omega) (by omega)
  rcases hb1 with c1 | ⟨p1, q1, u1⟩
  · exact ⟨-1, ⟨K1, fun k hk => by have e1 := e1 k (by omega); dsimp only at e1 ⊢; unfold laws_szBits.f; rw [e1]; simp only [Option.bind_some]; rw [if_pos c1]⟩, .inl (by omega)⟩
  exact ⟨r1, ⟨K1, fun k hk => by have e1 := e1 k (by omega); dsimp only at e1 ⊢; unfold laws_szBits.f; rw [e1]; simp only [Option.bind_some]; rw [if_neg (by omega)]⟩, .inr ⟨by omega, by omega, u1⟩⟩

/-! sz_BitsS -/
theorem sz_BitsS (x : List S160) (left : Int) (hin : ((x.length : Int) ≤ 9223372036854775807 ∧ ∀ y ∈ x, UpL_Bits 9223372036854775807 y)) (h0 : 0 ≤ left) (h1 : left ≤ 1048576) :
    ∃ r, Ev (fun k => laws_szBitsS.f k x left) r ∧ (r < 0 ∨ (0 ≤ r ∧ r ≤ left ∧ ((x.length : Int) ≤ 1048576 ∧ ∀ y ∈ x, UpL_Bits 1048576 y))) := by
  obtain ⟨hl, hx⟩ := hin
  obtain ⟨r0, hr0, hb0⟩ := szn_out x.length left hl h0 h1
  rcases hb0 with c | ⟨p0, q0, u0⟩
  · exact ⟨-1, ⟨0, fun k _ => by dsimp only; unfold laws_szBitsS.f; rw [hr0 trivial, if_pos c]⟩, .inl (by omega)⟩
  · have main : ∀ d i, x.length - i = d → i ≤ x.length → ∀ lf, 0 ≤ lf → lf ≤ left → ∃ r, Ev (fun k => laws_szBitsS.l0 k x lf (i : Int)) r ∧ (r < 0 ∨ (0 ≤ r ∧ r ≤ lf ∧ ∀ j : Nat, i ≤ j → j < x.length → UpL_Bits 1048576 ((rd_T160 x (j : Int))))) := by
      intro d
      induction d with
      | zero =>
        intro i hd hi lf g0 g1
        exact ⟨lf, Ev.step (f := fun _ => some lf) (fun k => by simp only [laws_szBitsS.l0]; rw [if_neg (by omega)]) (Ev.now _), .inr ⟨g0, Int.le_refl _, fun j g2 g3 => absurd g3 (by omega)⟩⟩
      | succ d ih =>
        intro i hd hi lf g0 g1
        have hil : i < x.length := by omega
        obtain ⟨r, ⟨K, hr⟩, hrb⟩ := sz_Bits (rd_T160 x (i : Int)) lf (hx _ (rdM_T160 x i hil)) g0 (by omega)
        rcases hrb with hneg | ⟨p1, p2, p3⟩
        · refine ⟨-1, ⟨K + 1, fun k hk => ?_⟩, .inl (by omega)⟩
          obtain ⟨m, rfl⟩ : ∃ m, k = m + 1 := ⟨k - 1, by omega⟩
          have hr := hr m (by omega)
          dsimp only at hr ⊢
          simp only [laws_szBitsS.l0]
          rw [if_pos (by omega), if_pos (by omega), hr]
          simp only [Option.bind_some]
          rw [if_pos hneg]
        · obtain ⟨r2, ⟨K2, h2⟩, hb2⟩ := ih (i + 1) (by omega) (by omega) r p1 (by omega)
          refine ⟨r2, ⟨K + K2 + 1, fun k hk => ?_⟩, ?_⟩
          · obtain ⟨m, rfl⟩ : ∃ m, k = m + 1 := ⟨k - 1, by omega⟩
            have hr := hr m (by omega)
            have h2 := h2 m (by omega)
            dsimp only at hr h2 ⊢
            simp only [laws_szBitsS.l0]
            rw [if_pos (by omega), if_pos (by omega), hr]
            simp only [Option.bind_some]
            rw [if_neg (by omega), wrap_next i (by omega)]
            exact h2
          · rcases hb2 with hb2 | ⟨s0, s1, s2⟩
            · exact .inl hb2
            · refine .inr ⟨s0, by omega, fun j g2 g3 => ?_⟩
              by_cases e : j = i
              · rw [e]; exact p3
              · exact s2 j (by omega) g3
    obtain ⟨r, ⟨K, hr⟩, hb⟩ := main x.length 0 (by omega) (by omega) r0 p0 q0
    refine ⟨r, ⟨K, fun k hk => ?_⟩, ?_⟩
    · have hr := hr k hk
      dsimp only at hr ⊢
      unfold laws_szBitsS.f
      rw [hr0 trivial, if_neg (by omega)]
      exact hr
    · rcases hb with hb | ⟨s0, s1, s2⟩
      · exact .inl hb
      · refine .inr ⟨s0, by omega, by omega, fun y hy => ?_⟩
        obtain ⟨j, hjl, rfl⟩ := List.getElem_of_mem hy
        have := s2 j (by omega) hjl
        rwa [rdE_T160 x j hjl] at this

/-! UpL_Decl -/
def UpL_Decl (c : Int) (x : S142) : Prop := ((x.f0.size : Int) ≤ c)

/-! rdE_T142 -/
theorem rdE_T142 (l : List S142) (i : Nat) (h : i < l.length) : rd_T142 l (i : Int) = l[i] := by
  unfold rd_T142
  rw [List.getD_eq_getElem?_getD, Int.toNat_natCast, List.getElem?_eq_getElem h]; rfl
theorem rdM_T142 (l : List S142) (i : Nat) (h : i < l.length) : rd_T142 l (i : Int) ∈ l := by rw [rdE_T142 l i h]; exact List.getElem_mem h

/-! sz_Decl -/
theorem sz_Decl (x : S142) (left : Int) (hin : UpL_Decl 9223372036854775807 x) (h0 : 0 ≤ left) (h1 : left ≤ 1048576) :
    ∃ r, Ev (fun k => laws_szDecl.f x.f0 x.f1 left) r ∧ (r < 0 ∨ (0 ≤ r ∧ r ≤ left ∧ UpL_Decl 1048576 x)) := by
  unfold UpL_Decl at hin
  have i0 := hin
  obtain ⟨r0, e0, hb0⟩ := szn_out x.f0.size left i0 (by omega) (by omega)
  rcases hb0 with c0 | ⟨p0, q0, u0⟩
  · exact ⟨-1, ⟨0, fun k hk => by dsimp only; unfold laws_szDecl.f; rw [e0 trivial]; rw [if_pos c0]⟩, .inl (by omega)⟩
  exact ⟨r0, ⟨0, fun k hk => by dsimp only; unfold laws_szDecl.f; rw [e0 trivial]; rw [if_neg (by omega)]⟩, .inr ⟨by omega, by omega, u0⟩⟩

/-! sz_DeclS -/
theorem sz_DeclS (x : List S142) (left : Int) (hin : ((x.length : Int) ≤ 9223372036854775807 ∧ ∀ y ∈ x, UpL_Decl 9223372036854775807 y)) (h0 : 0 ≤ left) (h1 : left ≤ 1048576) :
    ∃ r, Ev (fun k => laws_szDeclS.f k x left) r ∧ (r < 0 ∨ (0 ≤ r ∧ r ≤ left ∧ ((x.length : Int) ≤ 1048576 ∧ ∀ y ∈ x, UpL_Decl 1048576 y))) := by
  obtain ⟨hl, hx⟩ := hin
  obtain ⟨r0, hr0, hb0⟩ := szn_out x.length left hl h0 h1
  rcases hb0 with c | ⟨p0, q0, u0⟩
  · exact ⟨-1, ⟨0, fun k _ => by dsimp only; unfold laws_szDeclS.f; rw [hr0 trivial, if_pos c]⟩, .inl (by omega)⟩
  · have main : ∀ d i, x.length - i = d → i ≤ x.length → ∀ lf, 0 ≤ lf → lf ≤ left → ∃ r, Ev (fun k => laws_szDeclS.l0 k x lf (i : Int)) r ∧ (r < 0 ∨ (0 ≤ r ∧ r ≤ lf ∧ ∀ j : Nat, i ≤ j → j < x.length → UpL_Decl 1048576 ((rd_T142 x (j : Int))))) := by
      intro d
      induction d with
      | zero =>
        intro i hd hi lf g0 g1
        exact ⟨lf, Ev.step (f := fun _ => some lf) (fun k => by simp only [laws_szDeclS.l0]; rw [if_neg (by omega)]) (Ev.now _), .inr ⟨g0, Int.le_refl _, fun j g2 g3 => absurd g3 (by omega)⟩⟩
      | succ d ih =>
        intro i hd hi lf g0 g1
        have hil : i < x.length := by omega
        obtain ⟨r, ⟨K, hr⟩, hrb⟩ := sz_Decl (rd_T142 x (i : Int)) lf (hx _ (rdM_T142 x i hil)) g0 (by omega)
        rcases hrb with hneg | ⟨p1, p2, p3⟩
        · refine ⟨-1, ⟨K + 1, fun k hk => ?_⟩, .inl (by omega)⟩
          obtain ⟨m, rfl⟩ : ∃ m, k = m + 1 := ⟨k - 1, by omega⟩
          have hr := hr m (by omega)
          dsimp only at hr ⊢
          simp only [laws_szDeclS.l0]
          rw [if_pos (by omega), if_pos (by omega), hr]
          simp only [Option.bind_some]
          rw [if_pos hneg]
        · obtain ⟨r2, ⟨K2, h2⟩, hb2⟩ := ih (i + 1) (by omega) (by omega) r p1 (by omega)
          refine ⟨r2, ⟨K + K2 + 1, fun k hk => ?_⟩, ?_⟩
          · obtain ⟨m, rfl⟩ : ∃ m, k = m + 1 := ⟨k - 1, by omega⟩
            have hr := hr m (by omega)
            have h2 := h2 m (by omega)
            dsimp only at hr h2 ⊢
            simp only [laws_szDeclS.l0]
            rw [if_pos (by omega), if_pos (by omega), hr]
            simp only [Option.bind_some]
            rw [if_neg (by omega), wrap_next i (by omega)]
            exact h2
          · rcases hb2 with hb2 | ⟨s0, s1, s2⟩
            · exact .inl hb2
            · refine .inr ⟨s0, by omega, fun j g2 g3 => ?_⟩
              by_cases e : j = i
              · rw [e]; exact p3
              · exact s2 j (by omega) g3
    obtain ⟨r, ⟨K, hr⟩, hb⟩ := main x.length 0 (by omega) (by omega) r0 p0 q0
    refine ⟨r, ⟨K, fun k hk => ?_⟩, ?_⟩
    · have hr := hr k hk
      dsimp only at hr ⊢
      unfold laws_szDeclS.f
      rw [hr0 trivial, if_neg (by omega)]
      exact hr
    · rcases hb with hb | ⟨s0, s1, s2⟩
      · exact .inl hb
      · refine .inr ⟨s0, by omega, by omega, fun y hy => ?_⟩
        obtain ⟨j, hjl, rfl⟩ := List.getElem_of_mem hy
        have := s2 j (by omega) hjl
        rwa [rdE_T142 x j hjl] at this

/-! UpI_Bits -/
def UpI_Bits (c : Int) (x : S149) : Prop := ((x.f1.length : Int) ≤ c)

/-! rdE_T149 -/
theorem rdE_T149 (l : List S149) (i : Nat) (h : i < l.length) : rd_T149 l (i : Int) = l[i] := by
  unfold rd_T149
  rw [List.getD_eq_getElem?_getD, Int.toNat_natCast, List.getElem?_eq_getElem h]; rfl
theorem rdM_T149 (l : List S149) (i : Nat) (h : i < l.length) : rd_T149 l (i : Int) ∈ l := by rw [rdE_T149 l i h]; exact List.getElem_mem h

/-! cv_Bits -/
def cv_Bits (x : S160) : S149 := ⟨x.f0, x.f1⟩

/-! upcv_Bits -/
theorem upcv_Bits (c : Int) (x : S160) (h : UpL_Bits c x) : UpI_Bits c (cv_Bits x) := by
  unfold UpL_Bits at h
  unfold UpI_Bits
  have i1 := h
  exact i1

/-! in_Bits -/
theorem in_Bits (x : S160) (h : (Lit.int .i64 x.f0).wf = true ∧ (x.f1.length ≤ 9223372036854775807 ∧ ∀ y0 ∈ x.f1, (Lit.int .u64 y0).wf = true)) : UpL_Bits 9223372036854775807 x := by
  obtain ⟨j0, j1⟩ := h
  unfold UpL_Bits
  exact (Int.ofNat_le.2 j1.1)

/-! to_Uint64S -/
theorem to_Uint64S (x : List Int) (h : ((x.length : Int) ≤ 1048576)) : Ev (fun k => laws_toUint64S.f k x) x := by
  have hl := h
  have main := up_loop x.length (filled (fun i => (rd x i)) (List.replicate x.length 0)) (fun k xs i => laws_toUint64S.l0 k x xs i)
    (fun i hi r h2 => by
      obtain ⟨K2, h2⟩ := h2
      refine ⟨K2 + 1, fun k hk => ?_⟩
      obtain ⟨m, rfl⟩ : ∃ m, k = m + 1 := ⟨k - 1, by omega⟩
      have h2 := h2 m (by omega)
      dsimp only at h2 ⊢
      rw [← filled_set _ _ (by simpa using hi)] at h2
      simp only [laws_toUint64S.l0]
      rw [if_pos (by omega), if_pos (by omega)]
      rw [if_pos (by rw [filled_len _ _ (by simp; omega)]; simp; omega), Int.toNat_natCast, wrap64_id (by omega) (by omega)]
      exact h2)
    x (Ev.step (f := fun _ => some x) (fun k => by
      simp only [laws_toUint64S.l0]
      rw [if_neg (by omega), filled_all _ _ (by simp)]
      congr 1
      exact list_of_rd x) (Ev.now _))
  rw [filled_zero] at main
  refine Ev.congr (fun k => ?_) main
  unfold laws_toUint64S.f
  rw [if_pos (by omega), if_pos (by omega), Int.toNat_natCast]

/-! to_Bits -/
theorem to_Bits (x : S160) (h : UpL_Bits 1048576 x) : Ev (fun k => laws_toBits.f k x.f0 x.f1) ((cv_Bits x).f0, (cv_Bits x).f1) := by
  unfold UpL_Bits at h
  have i1 := h
  obtain ⟨K1, e1⟩ := to_Uint64S x.f1 i1
  refine ⟨K1, fun k hk => ?_⟩
  have e1 := e1 k (by omega)
  dsimp only at e1 ⊢
  simp only [laws_toBits.f, e1, Option.bind_some]
  all_goals rfl

/-! to_BitsS -/
theorem to_BitsS (x : List S160) (h : ((x.length : Int) ≤ 1048576 ∧ ∀ y ∈ x, UpL_Bits 1048576 y)) : Ev (fun k => laws_toBitsS.f k x) (x.map cv_Bits) := by
  have hl := h.1
  have main := up_loop x.length (filled (fun i => (cv_Bits (rd_T160 x i))) (List.replicate x.length z149)) (fun k xs i => laws_toBitsS.l0 k x xs i)
    (fun i hi r h2 => by
      obtain ⟨K, he⟩ := to_Bits (rd_T160 x (i : Int)) (h.2 _ (rdM_T160 x i hi))
      obtain ⟨K2, h2⟩ := h2
      refine ⟨K + K2 + 1, fun k hk => ?_⟩
      obtain ⟨m, rfl⟩ : ∃ m, k = m + 1 := ⟨k - 1, by omega⟩
      have h2 := h2 m (by omega)
      have he := he m (by omega)
      dsimp only at he h2 ⊢
      rw [← filled_set _ _ (by simpa using hi)] at h2
      simp only [laws_toBitsS.l0]
      rw [if_pos (by omega), if_pos (by omega), he]
      simp only [Option.bind_some]
      rw [if_pos (by rw [filled_len _ _ (by simp; omega)]; simp; omega), Int.toNat_natCast, wrap64_id (by omega) (by omega)]
      exact h2)
    (x.map cv_Bits) (Ev.step (f := fun _ => some (x.map cv_Bits)) (fun k => by
      simp only [laws_toBitsS.l0]
      rw [if_neg (by omega), filled_all _ _ (by simp)]
      congr 1
      apply List.ext_getElem?
      intro i
      by_cases hi : i < x.length
      · simp [hi, rdE_T160]
      · rw [List.getElem?_eq_none (by first | omega | (simp; omega)), List.getElem?_eq_none (by first | omega | (simp; omega))]) (Ev.now _))
  rw [filled_zero] at main
  refine Ev.congr (fun k => ?_) main
  unfold laws_toBitsS.f
  rw [if_pos (by omega), if_pos (by omega), Int.toNat_natCast]

/-! UpI_Decl -/
def UpI_Decl (c : Int) (x : S146) : Prop := ((x.f0.size : Int) ≤ c)

/-! rdE_T146 -/
theorem rdE_T146 (l : List S146) (i : Nat) (h : i < l.length) : rd_T146 l (i : Int) = l[i] := by
  unfold rd_T146
  rw [List.getD_eq_getElem?_getD, Int.toNat_natCast, List.getElem?_eq_getElem h]; rfl
theorem rdM_T146 (l : List S146) (i : Nat) (h : i < l.length) : rd_T146 l (i : Int) ∈ l := by rw [rdE_T146 l i h]; exact List.getElem_mem h

/-! cv_Decl -/
def cv_Decl (x : S142) : S146 := ⟨x.f0, x.f1⟩

/-! upcv_Decl -/
theorem upcv_Decl (c : Int) (x : S142) (h : UpL_Decl c x) : UpI_Decl c (cv_Decl x) := by
  unfold UpL_Decl at h
  unfold UpI_Decl
  have i0 := h
  exact i0

/-! in_Decl -/
theorem in_Decl (x : S142) (h : x.f0.size ≤ maxLen ∧ (Lit.int .i64 x.f1).wf = true) : UpL_Decl 9223372036854775807 x := by
  obtain ⟨j0, j1⟩ := h
  unfold UpL_Decl
  exact (by have := j0; unfold maxLen at this; omega)

/-! to_Decl -/
theorem to_Decl (x : S142) (h : UpL_Decl 1048576 x) : Ev (fun k => laws_toDecl.f x.f0 x.f1) ((cv_Decl x).f0, (cv_Decl x).f1) := by
  unfold UpL_Decl at h
  have i0 := h
  refine ⟨0, fun k hk => ?_⟩
  dsimp only
  simp only [laws_toDecl.f, Option.bind_some]
  all_goals rfl

/-! to_DeclS -/
theorem to_DeclS (x : List S142) (h : ((x.length : Int) ≤ 1048576 ∧ ∀ y ∈ x, UpL_Decl 1048576 y)) : Ev (fun k => laws_toDeclS.f k x) (x.map cv_Decl) := by
  have hl := h.1
  have main := up_loop x.length (filled (fun i => (cv_Decl (rd_T142 x i))) (List.replicate x.length z146)) (fun k xs i => laws_toDeclS.l0 k x xs i)
    (fun i hi r h2 => by
      obtain ⟨K, he⟩ := to_Decl (rd_T142 x (i : Int)) (h.2 _ (rdM_T142 x i hi))
      obtain ⟨K2, h2⟩ := h2
      refine ⟨K + K2 + 1, fun k hk => ?_⟩
      obtain ⟨m, rfl⟩ : ∃ m, k = m + 1 := ⟨k - 1, by omega⟩
      have h2 := h2 m (by omega)
      have he := he m (by omega)
      dsimp only at he h2 ⊢
      rw [← filled_set _ _ (by simpa using hi)] at h2
      simp only [laws_toDeclS.l0]
      rw [if_pos (by omega), if_pos (by omega), he]
      simp only [Option.bind_some]
      rw [if_pos (by rw [filled_len _ _ (by simp; omega)]; simp; omega), Int.toNat_natCast, wrap64_id (by omega) (by omega)]
      exact h2)
    (x.map cv_Decl) (Ev.step (f := fun _ => some (x.map cv_Decl)) (fun k => by
      simp only [laws_toDeclS.l0]
      rw [if_neg (by omega), filled_all _ _ (by simp)]
      congr 1
      apply List.ext_getElem?
      intro i
      by_cases hi : i < x.length
      · simp [hi, rdE_T142]
      · rw [List.getElem?_eq_none (by first | omega | (simp; omega)), List.getElem?_eq_none (by first | omega | (simp; omega))]) (Ev.now _))
  rw [filled_zero] at main
  refine Ev.congr (fun k => ?_) main
  unfold laws_toDeclS.f
  rw [if_pos (by omega), if_pos (by omega), Int.toNat_natCast]

/-! to_Int64S -/
theorem to_Int64S (x : List Int) (h : ((x.length : Int) ≤ 1048576)) : Ev (fun k => laws_toInt64S.f k x) x := by
  have hl := h
  have main := up_loop x.length (filled (fun i => (rd x i)) (List.replicate x.length 0)) (fun k xs i => laws_toInt64S.l0 k x xs i)
    (fun i hi r h2 => by
      obtain ⟨K2, h2⟩ := h2
      refine ⟨K2 + 1, fun k hk => ?_⟩
      obtain ⟨m, rfl⟩ : ∃ m, k = m + 1 := ⟨k - 1, by omega⟩
      have h2 := h2 m (by omega)
      dsimp only at h2 ⊢
      rw [← filled_set _ _ (by simpa using hi)] at h2
      simp only [laws_toInt64S.l0]
      rw [if_pos (by omega), if_pos (by omega)]
      rw [if_pos (by rw [filled_len _ _ (by simp; omega)]; simp; omega), Int.toNat_natCast, wrap64_id (by omega) (by omega)]
      exact h2)
    x (Ev.step (f := fun _ => some x) (fun k => by
      simp only [laws_toInt64S.l0]
      rw [if_neg (by omega), filled_all _ _ (by simp)]
      congr 1
      exact list_of_rd x) (Ev.now _))
  rw [filled_zero] at main
  refine Ev.congr (fun k => ?_) main
  unfold laws_toInt64S.f
  rw [if_pos (by omega), if_pos (by omega), Int.toNat_natCast]

/-! eq_Uint64S -/
theorem eq_Uint64S (x : List Int) (h : ((x.length : Int) ≤ 1048576)) : Ev (fun k => laws_eqUint64S.f k x x) true := by
  have hl := h
  have main := up_loop x.length (fun _ => ()) (fun k _ i => laws_eqUint64S.l0 k x x i)
    (fun i hi r h2 => by
      obtain ⟨K2, h2⟩ := h2
      refine ⟨K2 + 1, fun k hk => ?_⟩
      obtain ⟨m, rfl⟩ : ∃ m, k = m + 1 := ⟨k - 1, by omega⟩
      have h2 := h2 m (by omega)
      dsimp only at h2 ⊢
      simp only [laws_eqUint64S.l0]
      rw [if_pos (by omega), if_pos (by omega), if_pos (by omega)]
      simp only [if_true]
      rw [wrap64_id (by omega) (by omega)]
      exact h2)
    true (Ev.step (f := fun _ => some true) (fun k => by
      simp only [laws_eqUint64S.l0]
      rw [if_neg (by omega)]) (Ev.now _))
  obtain ⟨K, h⟩ := main
  refine ⟨K, fun k hk => ?_⟩
  have h := h k hk
  dsimp only at h ⊢
  unfold laws_eqUint64S.f
  rw [if_pos rfl]
  exact h

/-! eq_Bits -/
theorem eq_Bits (x : S149) (h : UpI_Bits 1048576 x) : Ev (fun k => laws_eqBits.f k x.f0 x.f1 x.f0 x.f1) true := by
  unfold UpI_Bits at h
  have i1 := h
  obtain ⟨K1, e1⟩ := eq_Uint64S x.f1 i1
  refine ⟨K1, fun k hk => ?_⟩
  have e1 := e1 k (by omega)
  dsimp only at e1 ⊢
  simp only [laws_eqBits.f, e1, Option.bind_some, if_true, ↓reduceIte, bne_self_eq_false, Bool.false_eq_true]

/-! eq_BitsS -/
theorem eq_BitsS (x : List S149) (h : ((x.length : Int) ≤ 1048576 ∧ ∀ y ∈ x, UpI_Bits 1048576 y)) : Ev (fun k => laws_eqBitsS.f k x x) true := by
  have hl := h.1
  have main := up_loop x.length (fun _ => ()) (fun k _ i => laws_eqBitsS.l0 k x x i)
    (fun i hi r h2 => by
      obtain ⟨K, he⟩ := eq_Bits (rd_T149 x (i : Int)) (h.2 _ (rdM_T149 x i hi))
      obtain ⟨K2, h2⟩ := h2
      refine ⟨K + K2 + 1, fun k hk => ?_⟩
      obtain ⟨m, rfl⟩ : ∃ m, k = m + 1 := ⟨k - 1, by omega⟩
      have h2 := h2 m (by omega)
      have he := he m (by omega)
      dsimp only at he h2 ⊢
      simp only [laws_eqBitsS.l0]
      rw [if_pos (by omega), if_pos (by omega), if_pos (by omega), he]
      simp only [Option.bind_some, if_true, ↓reduceIte]
      rw [wrap64_id (by omega) (by omega)]
      exact h2)
    true (Ev.step (f := fun _ => some true) (fun k => by
      simp only [laws_eqBitsS.l0]
      rw [if_neg (by omega)]) (Ev.now _))
  obtain ⟨K, h⟩ := main
  refine ⟨K, fun k hk => ?_⟩
  have h := h k hk
  dsimp only at h ⊢
  unfold laws_eqBitsS.f
  rw [if_pos rfl]
  exact h

/-! eq_Decl -/
theorem eq_Decl (x : S146) (h : UpI_Decl 1048576 x) : Ev (fun k => laws_eqDecl.f x.f0 x.f1 x.f0 x.f1) true := by
  unfold UpI_Decl at h
  have i0 := h
  refine ⟨0, fun k hk => ?_⟩
  dsimp only
  simp only [laws_eqDecl.f, Option.bind_some, if_true, ↓reduceIte, bne_self_eq_false, Bool.false_eq_true]

/-! eq_DeclS -/
theorem eq_DeclS (x : List S146) (h : ((x.length : Int) ≤ 1048576 ∧ ∀ y ∈ x, UpI_Decl 1048576 y)) : Ev (fun k => laws_eqDeclS.f k x x) true := by
  have hl := h.1
  have main := up_loop x.length (fun _ => ()) (fun k _ i => laws_eqDeclS.l0 k x x i)
    (fun i hi r h2 => by
      obtain ⟨K, he⟩ := eq_Decl (rd_T146 x (i : Int)) (h.2 _ (rdM_T146 x i hi))
      obtain ⟨K2, h2⟩ := h2
      refine ⟨K + K2 + 1, fun k hk => ?_⟩
      obtain ⟨m, rfl⟩ : ∃ m, k = m + 1 := ⟨k - 1, by omega⟩
      have h2 := h2 m (by omega)
      have he := he m (by omega)
      dsimp only at he h2 ⊢
      simp only [laws_eqDeclS.l0]
      rw [if_pos (by omega), if_pos (by omega), if_pos (by omega), he]
      simp only [Option.bind_some, if_true, ↓reduceIte]
      rw [wrap64_id (by omega) (by omega)]
      exact h2)
    true (Ev.step (f := fun _ => some true) (fun k => by
      simp only [laws_eqDeclS.l0]
      rw [if_neg (by omega)]) (Ev.now _))
  obtain ⟨K, h⟩ := main
  refine ⟨K, fun k hk => ?_⟩
  have h := h k hk
  dsimp only at h ⊢
  unfold laws_eqDeclS.f
  rw [if_pos rfl]
  exact h

/-! eq_Int64S -/
theorem eq_Int64S (x : List Int) (h : ((x.length : Int) ≤ 1048576)) : Ev (fun k => laws_eqInt64S.f k x x) true := by
  have hl := h
  have main := up_loop x.length (fun _ => ()) (fun k _ i => laws_eqInt64S.l0 k x x i)
    (fun i hi r h2 => by
      obtain ⟨K2, h2⟩ := h2
      refine ⟨K2 + 1, fun k hk => ?_⟩
      obtain ⟨m, rfl⟩ : ∃ m, k = m + 1 := ⟨k - 1, by omega⟩
      have h2 := h2 m (by omega)
      dsimp only at h2 ⊢
      simp only [laws_eqInt64S.l0]
      rw [if_pos (by omega), if_pos (by omega), if_pos (by omega)]
      simp only [if_true]
      rw [wrap64_id (by omega) (by omega)]
      exact h2)
    true (Ev.step (f := fun _ => some true) (fun k => by
      simp only [laws_eqInt64S.l0]
      rw [if_neg (by omega)]) (Ev.now _))
  obtain ⟨K, h⟩ := main
  refine ⟨K, fun k hk => ?_⟩
  have h := h k hk
  dsimp only at h ⊢
  unfold laws_eqInt64S.f
  rw [if_pos rfl]
  exact h

/-! mark_Uint64S -/
theorem mark_Uint64S (x : List Int) (h : ((x.length : Int) ≤ 1048576)) (m : Int) (h0 : 0 ≤ m) (h1 : m ≤ 4611686018426339328) : ∃ (m' : Int) (x' : List Int), Ev (fun k => laws_markUint64S.f k x m) (m', x') ∧ m ≤ m' ∧ m' ≤ m + 1048576 ∧ Ev (fun k => laws_heldUint64S.f k x' m) m' := by
  have hl : (x.length : Int) ≤ 1048576 := h
  obtain ⟨conv, hconv⟩ : ∃ conv : Nat → Int, ∀ i, conv i = IntKind.u64.wrap (m + 1 * (i : Int)) := ⟨fun i => _, fun _ => rfl⟩
  have main := up_loop x.length (fun i => (m + 1 * (i : Int), filled conv x i)) (fun k s i => laws_markUint64S.l0 k s.2 s.1 i)
    (fun i hi r h2 => by
      obtain ⟨K2, h2⟩ := h2
      refine ⟨K2 + 1, fun k hk => ?_⟩
      obtain ⟨mm, rfl⟩ : ∃ mm, k = mm + 1 := ⟨k - 1, by omega⟩
      have h2 := h2 mm (by omega)
      dsimp only at h2 ⊢
      have hlen : i < (filled conv x i).length := by rw [filled_len _ _ (by omega)]; exact hi
      rw [← filled_set conv x hi, hconv] at h2
      simp (disch := first | omega | (simp only [List.length_set]; omega)) only [laws_markUint64S.l0, ↓if_pos, Option.bind_some, Int.toNat_natCast, wrap64_id]
      rw [show m + 1 * (i : Int) + 1 = m + 1 * ((i + 1 : Nat) : Int) by omega]
      exact h2)
    (m + 1 * (x.length : Int), (List.range x.length).map conv) (Ev.step (f := fun _ => some (m + 1 * (x.length : Int), (List.range x.length).map conv)) (fun k => by
      simp only [laws_markUint64S.l0]
      rw [if_neg (by rw [filled_len _ _ (Nat.le_refl _)]; omega), filled_all _ _ rfl]) (Ev.now _))
  simp only [filled_zero] at main
  refine ⟨m + 1 * (x.length : Int), (List.range x.length).map conv, Ev.congr (fun k => by unfold laws_markUint64S.f; simp) main, by omega, by omega, ?_⟩
  have hrd : ∀ i : Nat, i < x.length → rd ((List.range x.length).map conv) (i : Int) = conv i := fun i hi => by
    rw [rd_getD]
    rw [List.getD_eq_getElem?_getD, Int.toNat_natCast, List.getElem?_map, List.getElem?_range hi]; rfl
  have main2 := up_loop x.length (fun i => m + 1 * (i : Int)) (fun k s i => laws_heldUint64S.l0 k ((List.range x.length).map conv) s i)
    (fun i hi r h2 => by
      obtain ⟨K2, h2⟩ := h2
      refine ⟨K2 + 1, fun k hk => ?_⟩
      obtain ⟨mm, rfl⟩ : ∃ mm, k = mm + 1 := ⟨k - 1, by omega⟩
      have h2 := h2 mm (by omega)
      dsimp only at h2 ⊢
      have hr := hrd i hi
      rw [hconv] at hr
      simp (disch := omega) only [laws_heldUint64S.l0, List.length_map, List.length_range, ↓if_pos, hr, wrap64_id, ↓reduceIte, bne_self_eq_false, Bool.false_eq_true]
      rw [show m + 1 * (i : Int) + 1 = m + 1 * ((i + 1 : Nat) : Int) by omega]
      exact h2)
    (m + 1 * (x.length : Int)) (Ev.step (f := fun _ => some (m + 1 * (x.length : Int))) (fun k => by
      simp only [laws_heldUint64S.l0]
      rw [if_neg (by simp)]) (Ev.now _))
  exact Ev.congr (fun k => by unfold laws_heldUint64S.f; simp) main2

/-! rdset_T146 -/
theorem rdset_T146 (l : List S146) (i : Nat) (h : i < l.length) (v : S146) : rd_T146 (l.set i v) (i : Int) = v := by
  unfold rd_T146
  rw [List.getD_eq_getElem?_getD, Int.toNat_natCast, List.getElem?_set_self h]; rfl

/-! mtext_ev -/
theorem mtext_loop : ∀ n : Nat, ∀ z : Int, 0 ≤ z → z < 10 ^ n → z ≤ 9223372036854775807 → ∀ s : ByteArray, s.size + n ≤ 1000000 → ∃ t, Ev (fun k => laws_markText.l0 k z s) t := by
  intro n
  induction n with
  | zero =>
    intro z h0 h1 big s hs
    have : z = 0 := by simp at h1; omega
    subst this
    exact ⟨_, Ev.step (f := fun _ => some ((⟨#[109]⟩ : ByteArray) ++ s)) (fun k => by simp (disch := omega) only [laws_markText.l0, ↓if_neg, ↓if_pos]) (Ev.now _)⟩
  | succ n ih =>
    intro z h0 h1 big s hs
    by_cases c : z > 0
    · have e1 : Int.tdiv z 10 = z / 10 := Int.tdiv_eq_ediv_of_nonneg (by omega)
      · have hsz : ∀ v : Int, (strOfNums [v]).size = 1 := fun v => rfl
        obtain ⟨t, h⟩ := ih (z / 10) (by omega) (by rw [Int.pow_succ] at h1; omega) (by omega) (strOfNums [(wrap64 (48 + (Int.tmod z 10))) % 256] ++ s) (by rw [ByteArray.size_append, hsz]; omega)
        refine ⟨t, Ev.step (fun k => ?_) h⟩
        have hle : (strOfNums [(wrap64 (48 + (Int.tmod z 10))) % 256]).size + s.size ≤ 9223372036854775807 := by rw [hsz]; omega
        simp only [laws_markText.l0]
        rw [if_pos c]
        simp only [Option.bind_some]
        rw [if_pos hle, e1, wrap64_id (by omega) (by omega)]
    · have : z = 0 := by omega
      subst this
      exact ⟨_, Ev.step (f := fun _ => some ((⟨#[109]⟩ : ByteArray) ++ s)) (fun k => by simp (disch := omega) only [laws_markText.l0, ↓if_neg, ↓if_pos]) (Ev.now _)⟩
theorem mtext_ev : ∀ z : Int, ∃ t : ByteArray, (0 ≤ z → z ≤ 4611686018427387904 → Ev (fun k => laws_markText.f k z) t) := by
  intro z
  by_cases c : 0 ≤ z ∧ z ≤ 4611686018427387904
  · by_cases c0 : z ≤ 0
    · exact ⟨_, fun _ _ => Ev.congr (fun k => by unfold laws_markText.f; rw [if_pos c0]) (Ev.now _)⟩
    · obtain ⟨t, h⟩ := mtext_loop 19 z c.1 (by rw [show (10 : Int) ^ 19 = 10000000000000000000 from by decide]; omega) (by omega) ⟨#[]⟩ (by decide)
      exact ⟨t, fun _ _ => Ev.congr (fun k => by unfold laws_markText.f; rw [if_neg c0]) h⟩
  · exact ⟨ByteArray.empty, fun h0 h1 => absurd ⟨h0, h1⟩ c⟩

/-! mark_DeclS -/
theorem mark_DeclS (x : List S146) (h : ((x.length : Int) ≤ 1048576 ∧ ∀ y ∈ x, UpI_Decl 1048576 y)) (m : Int) (h0 : 0 ≤ m) (h1 : m ≤ 4611686018425290752) : ∃ (m' : Int) (x' : List S146), Ev (fun k => laws_markDeclS.f k x m) (m', x') ∧ m ≤ m' ∧ m' ≤ m + 2097152 := by
  have hl : (x.length : Int) ≤ 1048576 := h.1
  obtain ⟨T, hT⟩ := Classical.axiomOfChoice mtext_ev
  obtain ⟨conv, hconv⟩ : ∃ conv : Nat → S146, ∀ i, conv i = (⟨T (m + 2 * (i : Int)), m + 2 * (i : Int) + 1⟩ : S146) := ⟨fun i => _, fun _ => rfl⟩
  have main := up_loop x.length (fun i => (m + 2 * (i : Int), filled conv x i)) (fun k s i => laws_markDeclS.l0 k s.2 s.1 i)
    (fun i hi r h2 => by
      obtain ⟨K2, h2⟩ := h2
      obtain ⟨K0_, T0_⟩ := Ev.binds (hT (m + 2 * (i : Int)) (by omega) (by omega))
      refine ⟨K0_ + K2 + 1, fun k hk => ?_⟩
      obtain ⟨mm, rfl⟩ : ∃ mm, k = mm + 1 := ⟨k - 1, by omega⟩
      have h2 := h2 mm (by omega)
      dsimp only at h2 ⊢
      have hlen : i < (filled conv x i).length := by rw [filled_len _ _ (by omega)]; exact hi
      rw [← filled_set conv x hi, hconv] at h2
      simp (disch := first | omega | (simp only [List.length_set]; omega)) only [laws_markDeclS.l0, ↓if_pos, Option.bind_some, Int.toNat_natCast, rdset_T146, List.set_set, ↓T0_, wrap64_id]
      rw [show m + 2 * (i : Int) + 1 + 1 = m + 2 * ((i + 1 : Nat) : Int) by omega]
      exact h2)
    (m + 2 * (x.length : Int), (List.range x.length).map conv) (Ev.step (f := fun _ => some (m + 2 * (x.length : Int), (List.range x.length).map conv)) (fun k => by
      simp only [laws_markDeclS.l0]
      rw [if_neg (by rw [filled_len _ _ (Nat.le_refl _)]; omega), filled_all _ _ rfl]) (Ev.now _))
  simp only [filled_zero] at main
  refine ⟨m + 2 * (x.length : Int), (List.range x.length).map conv, Ev.congr (fun k => by unfold laws_markDeclS.f; simp) main, by omega, by omega⟩

/-! mark_Int64S -/
theorem mark_Int64S (x : List Int) (h : ((x.length : Int) ≤ 1048576)) (m : Int) (h0 : 0 ≤ m) (h1 : m ≤ 4611686018426339328) : ∃ (m' : Int) (x' : List Int), Ev (fun k => laws_markInt64S.f k x m) (m', x') ∧ m ≤ m' ∧ m' ≤ m + 1048576 := by
  have hl : (x.length : Int) ≤ 1048576 := h
  obtain ⟨conv, hconv⟩ : ∃ conv : Nat → Int, ∀ i, conv i = m + 1 * (i : Int) := ⟨fun i => _, fun _ => rfl⟩
  have main := up_loop x.length (fun i => (m + 1 * (i : Int), filled conv x i)) (fun k s i => laws_markInt64S.l0 k s.2 s.1 i)
    (fun i hi r h2 => by
      obtain ⟨K2, h2⟩ := h2
      refine ⟨K2 + 1, fun k hk => ?_⟩
      obtain ⟨mm, rfl⟩ : ∃ mm, k = mm + 1 := ⟨k - 1, by omega⟩
      have h2 := h2 mm (by omega)
      dsimp only at h2 ⊢
      have hlen : i < (filled conv x i).length := by rw [filled_len _ _ (by omega)]; exact hi
      rw [← filled_set conv x hi, hconv] at h2
      simp (disch := first | omega | (simp only [List.length_set]; omega)) only [laws_markInt64S.l0, ↓if_pos, Option.bind_some, Int.toNat_natCast, wrap64_id]
      rw [show m + 1 * (i : Int) + 1 = m + 1 * ((i + 1 : Nat) : Int) by omega]
      exact h2)
    (m + 1 * (x.length : Int), (List.range x.length).map conv) (Ev.step (f := fun _ => some (m + 1 * (x.length : Int), (List.range x.length).map conv)) (fun k => by
      simp only [laws_markInt64S.l0]
      rw [if_neg (by rw [filled_len _ _ (Nat.le_refl _)]; omega), filled_all _ _ rfl]) (Ev.now _))
  simp only [filled_zero] at main
  refine ⟨m + 1 * (x.length : Int), (List.range x.length).map conv, Ev.congr (fun k => by unfold laws_markInt64S.f; simp) main, by omega, by omega⟩

/-! WfI_Decl -/
def WfI_Decl (x : S146) : Prop := True ∧ (-9223372036854775808 ≤ x.f1 ∧ x.f1 ≤ 9223372036854775807)

/-! wf_Decl -/
theorem wf_Decl (x : S142) (h : x.f0.size ≤ maxLen ∧ (Lit.int .i64 x.f1).wf = true) : WfI_Decl (cv_Decl x) := by
  obtain ⟨j0, j1⟩ := h
  exact ⟨trivial, (wf_i64 j1)⟩

/-! WfI_Bits -/
def WfI_Bits (x : S149) : Prop := (-9223372036854775808 ≤ x.f0 ∧ x.f0 ≤ 9223372036854775807) ∧ (∀ y ∈ x.f1, W64 y)

/-! wf_Bits -/
theorem wf_Bits (x : S160) (h : (Lit.int .i64 x.f0).wf = true ∧ (x.f1.length ≤ 9223372036854775807 ∧ ∀ y0 ∈ x.f1, (Lit.int .u64 y0).wf = true)) : WfI_Bits (cv_Bits x) := by
  obtain ⟨j0, j1⟩ := h
  exact ⟨(wf_i64 j0), (fun a1_ ha1_ => (wf_u64 (j1.2 a1_ ha1_)))⟩

/-! okB -/
noncomputable def okB (w : Int) (l : List Int) : Bool := @decide (Right w l) (Classical.propDecidable _)
theorem okB_true {w : Int} {l : List Int} (h : Right w l) : okB w l = true := by unfold okB; exact @decide_eq_true _ (Classical.propDecidable _) h
theorem okB_false {w : Int} {l : List Int} (h : ¬ Right w l) : okB w l = false := by unfold okB; exact @decide_eq_false _ (Classical.propDecidable _) h
theorem okB_cases (w : Int) (l : List Int) : (okB w l = true ∧ Right w l) ∨ (okB w l = false ∧ ¬ Right w l) := by
  by_cases h : Right w l
  · exact .inl ⟨okB_true h, h⟩
  · exact .inr ⟨okB_false h, h⟩

/-! l1Bit -/
theorem l1Bit_eq (w : Int) (l : List Int) (h : U64s l) (i : Nat) (hi : i < 64 * l.length) (hl : l.length ≤ 1048576) : spec_l1Bit.f w l (i : Int) = some (bitI l i) := by
  unfold spec_l1Bit.f
  rw [tdiv64 i (by omega), utmod64, if_pos (by omega), if_pos (by omega), if_pos (by omega), bit_reads h]
  rcases bitI_01 l i with e | e <;> simp [e]

/-! specBitsOk -/
theorem specBitsOk_l0 (w : Int) (l : List Int) (h : U64s l) (hl : l.length ≤ 1048576) (h1 : 1 ≤ w) (hw : w ≤ 64 * l.length) :
    ∃ b, Ev (fun k => spec_BitsOk.l0 k w w l) b ∧ (b = true ↔ ∀ i : Nat, w ≤ i → bitN l i = false) := by
  rcases find_loop (64 * l.length - w.toNat) (fun i => bitN l (w.toNat + i)) (fun k i => spec_BitsOk.l0 k (w + i) w l) (fun _ => false) true
    (fun i hi hp => Ev.step (f := fun _ => some false) (fun k => by
      simp only [spec_BitsOk.l0]
      rw [wrap64_id (by omega) (by omega), if_pos (by omega), show w + (i : Int) = ((w.toNat + i : Nat) : Int) by omega, l1Bit_eq w l h _ (by omega) hl]
      simp only [Option.bind_some]
      rw [if_neg (by simp only [bitI, hp, if_true]; decide)]) (Ev.now _))
    (fun i hi hp r hr => Ev.step (fun k => by
      simp only [spec_BitsOk.l0]
      rw [wrap64_id (x := 64 * (l.length : Int)) (by omega) (by omega), if_pos (by omega)]
      have e := l1Bit_eq w l h (w.toNat + i) (by omega) hl
      rw [show w + (i : Int) = ((w.toNat + i : Nat) : Int) by omega, e]
      simp only [Option.bind_some]
      rw [if_pos (by simp only [bitI, hp]; rfl), wrap64_id (by omega) (by omega), show ((w.toNat + i : Nat) : Int) + 1 = w + ((i : Int) + 1) by omega]) hr)
    (Ev.step (f := fun _ => some true) (fun k => by
      simp only [spec_BitsOk.l0]
      rw [wrap64_id (by omega) (by omega), if_neg (by omega)]) (Ev.now _)) with ⟨i, hi, hp, _, hr⟩ | ⟨hp, hr⟩
  · refine ⟨false, by simpa using hr, (fun hb => by cases hb), fun hb => ?_⟩
    have := hb (w.toNat + i) (by omega)
    rw [this] at hp; cases hp
  · refine ⟨true, by simpa using hr, fun _ i hi => ?_, fun _ => rfl⟩
    by_cases ho : i < 64 * l.length
    · have := hp (i - w.toNat) (by omega)
      rwa [show w.toNat + (i - w.toNat) = i by omega] at this
    · exact bitN_out (by omega)
theorem specBitsOk_ev (w : Int) (l : List Int) (h : U64s l) (hl : l.length ≤ 1048576) (hw0 : -9223372036854775808 ≤ w) (hw1 : w ≤ 9223372036854775807) : Ev (fun k => spec_BitsOk.f k w l) (okB w l) := by
  by_cases hin : 1 ≤ w ∧ w ≤ 4096
  · have e1 : spec_l1In.f w 1 4096 = some true := by unfold spec_l1In.f; rw [if_pos (by omega), decide_eq_true (by omega)]
    have e2 := fun (_ : True) => words_of w (by omega) (by omega)
    by_cases hlen : (l.length : Int) = (w + 63) / 64
    · obtain ⟨b, hb, hbi⟩ := specBitsOk_l0 w l h hl hin.1 (by omega)
      have : okB w l = b := by
        cases b with
        | true => exact okB_true ⟨hin.1, hin.2, hlen, h, hbi.1 rfl⟩
        | false => exact okB_false fun hr => by have := hbi.2 hr.top; cases this
      rw [this]
      obtain ⟨K, hb⟩ := hb
      refine ⟨K + 1, fun k hk => ?_⟩
      obtain ⟨m, rfl⟩ : ∃ m, k = m + 1 := ⟨k - 1, by omega⟩
      dsimp only
      unfold spec_BitsOk.f
      rw [e1, e2 trivial]
      simp only [Option.bind_some, if_true, spec_BitsOk.j0]
      rw [if_neg (by simp [hlen])]
      exact hb m (by omega)
    · rw [okB_false fun hr => hlen hr.len]
      refine ⟨1, fun k hk => ?_⟩
      obtain ⟨m, rfl⟩ : ∃ m, k = m + 1 := ⟨k - 1, by omega⟩
      dsimp only
      unfold spec_BitsOk.f
      rw [e1, e2 trivial]
      simp only [Option.bind_some, if_true, spec_BitsOk.j0]
      rw [if_pos (by simpa using hlen)]
  · rw [okB_false fun hr => hin ⟨hr.low, hr.high⟩]
    have e1 : spec_l1In.f w 1 4096 = some false := by
      unfold spec_l1In.f
      by_cases h1 : w ≥ 1
      · rw [if_pos h1, decide_eq_false (by omega)]
      · rw [if_neg h1]
    refine ⟨1, fun k hk => ?_⟩
    obtain ⟨m, rfl⟩ : ∃ m, k = m + 1 := ⟨k - 1, by omega⟩
    dsimp only
    unfold spec_BitsOk.f
    rw [e1]
    simp [spec_BitsOk.j0]

/-! implInside -/
theorem inside_eq (a b c : Int) : impl_inside.f a b c = some (decide (b ≤ a ∧ a ≤ c)) := by
  unfold impl_inside.f
  by_cases h1 : b ≤ a
  · rw [if_pos h1]; simp [h1]
  · rw [if_neg h1]; simp [h1]

/-! specIn -/
theorem l1In_eq (a b c : Int) : spec_l1In.f a b c = some (decide (b ≤ a ∧ a ≤ c)) := by
  unfold spec_l1In.f
  by_cases h1 : b ≤ a
  · rw [if_pos h1]; simp [h1]
  · rw [if_neg h1]; simp [h1]

/-! wordsFor -/
theorem wordsFor_eq (w : Int) (h0 : 0 ≤ w) (h1 : w ≤ 1000000000) : impl_wordsFor.f w = some ((w + 63) / 64) := by
  unfold impl_wordsFor.f
  rw [wrap64_id (x := w + 63) (by omega) (by omega), Int.tdiv_eq_ediv_of_nonneg (by omega), wrap64_id (by omega) (by omega)]

/-! implBitsOk -/
theorem implBitsOk_eq (w : Int) (l : List Int) (h : U64s l) (hl : l.length ≤ 1048576) : impl_BitsOk.f w l = some (okB w l) := by
  unfold impl_BitsOk.f
  rw [inside_eq]
  simp only [Option.bind_some]
  by_cases hin : 1 ≤ w ∧ w ≤ 4096
  · rw [if_pos (decide_eq_true hin), wordsFor_eq w (by omega) (by omega)]
    simp only [Option.bind_some]
    by_cases hlen : (l.length : Int) = (w + 63) / 64
    · rw [if_pos hlen, Int.tmod_eq_emod_of_nonneg (by omega)]
      by_cases hm : w % 64 = 0
      · rw [if_pos hm, okB_true ⟨hin.1, hin.2, hlen, h, fun i hi => bitN_out (by omega)⟩]
      · rw [if_neg hm, wrap64_id (x := (l.length : Int) - 1) (by omega) (by omega), if_pos (by omega), if_pos (by omega), if_pos (by omega)]
        congr 1
        have hx := rd_w64 h ((l.length : Int) - 1)
        have hs := shr_w64 hx (n := w % 64) (by omega)
        by_cases hz : shr .u64 (rd l ((l.length : Int) - 1)) (w % 64) = 0
        · rw [hz]
          refine (okB_true ⟨hin.1, hin.2, hlen, h, fun i hi => ?_⟩).symm
          by_cases ho : i < 64 * l.length
          · have h2 := hs.2 (i % 64 - (w % 64).toNat)
            rw [hz] at h2
            have e : i / 64 = l.length - 1 := by omega
            unfold bitN
            rw [e, ← show (w % 64).toNat + (i % 64 - (w % 64).toNat) = i % 64 by omega]
            rw [rd_getD, show ((l.length : Int) - 1).toNat = l.length - 1 by omega] at h2
            rw [← h2]; simp
          · exact bitN_out (by omega)
        · have e : (shr .u64 (rd l ((l.length : Int) - 1)) (w % 64) == 0) = false := by simpa using hz
          rw [e]
          refine (okB_false fun hr => hz ?_).symm
          have h0 : (shr .u64 (rd l ((l.length : Int) - 1)) (w % 64)).toNat = 0 := by
            apply testBit_ext (by have := hs.1; unfold W64 at this; omega) (by decide)
            intro j hj
            rw [hs.2]
            by_cases hb : (w % 64).toNat + j < 64
            · have := hr.top (64 * (l.length - 1) + ((w % 64).toNat + j)) (by omega)
              unfold bitN at this
              rw [show (64 * (l.length - 1) + ((w % 64).toNat + j)) / 64 = l.length - 1 by omega, show (64 * (l.length - 1) + ((w % 64).toNat + j)) % 64 = (w % 64).toNat + j by omega] at this
              rw [rd_getD, show ((l.length : Int) - 1).toNat = l.length - 1 by omega, this]; simp
            · rw [testBit_w64 hx (by omega)]; simp
          have := hs.1.1
          omega
    · rw [if_neg hlen, okB_false fun hr => hlen hr.len]
  · rw [if_neg (by simpa using hin), okB_false fun hr => hin ⟨hr.low, hr.high⟩]

/-! memD -/
theorem rdD (l : List S146) (i : Nat) (h : i < l.length) : rd_T146 l (i : Int) = l[i] := by
  unfold rd_T146
  rw [List.getD_eq_getElem?_getD, Int.toNat_natCast, List.getElem?_eq_getElem h]; rfl
theorem rdD_mem (l : List S146) (i : Nat) (h : i < l.length) : rd_T146 l (i : Int) ∈ l := by rw [rdD l i h]; exact List.getElem_mem h

/-! names -/
theorem names_agree (s : ByteArray) (hs : s.size ≤ 1048576) : ∃ b, Ev (fun k => spec_l1Name.f k s) b ∧ Ev (fun k => impl_nameOk.f k s) b := by
  have digit : ∀ c, spec_l1Digit.f c = some (decide (48 ≤ c ∧ c ≤ 57)) := fun c => by
    unfold spec_l1Digit.f
    by_cases h : 48 ≤ c
    · rw [if_pos h]; simp [h]
    · rw [if_neg h]; simp [h]
  have main : ∀ d i, s.size - i = d → i ≤ s.size → ∃ b, Ev (fun k => spec_l1Name.l0 k s (i : Int)) b ∧ Ev (fun k => impl_nameOk.l0 k s (i : Int)) b := by
    intro d
    induction d with
    | zero =>
      intro i hd hi
      refine ⟨true, Ev.step (f := fun _ => some true) (fun k => ?_) (Ev.now _), Ev.step (f := fun _ => some true) (fun k => ?_) (Ev.now _)⟩
      · simp only [spec_l1Name.l0]; rw [if_neg (by omega)]
      · simp only [impl_nameOk.l0]; rw [if_neg (by omega)]
    | succ d ih =>
      intro i hd hi
      obtain ⟨b, h1, h2⟩ := ih (i + 1) (by omega) (by omega)
      have hw : True → wrap64 ((i : Int) + 1) = ((i + 1 : Nat) : Int) := fun _ => wrap_succ' i (by omega)
      have p1 : (i : Int) < (s.size : Int) := by omega
      have p2 : (0 : Int) ≤ (i : Int) := by omega
      by_cases cd : 48 ≤ bt s (i : Int) ∧ bt s (i : Int) ≤ 57
      · refine ⟨b, Ev.step (fun k => ?_) h1, Ev.step (fun k => ?_) h2⟩
        · simp only [spec_l1Name.l0]
          rw [hw trivial, if_pos p1, if_pos p2, digit, decide_eq_true cd]
          simp only [Option.bind_some, if_true]
        · simp only [impl_nameOk.l0]
          rw [hw trivial, if_pos p1, if_pos p2, if_pos (by omega), if_neg (by omega), if_neg (by omega)]
      · by_cases ca : bt s (i : Int) < 97
        · refine ⟨false, Ev.step (f := fun _ => some false) (fun k => ?_) (Ev.now _), Ev.step (f := fun _ => some false) (fun k => ?_) (Ev.now _)⟩
          · simp only [spec_l1Name.l0]
            rw [if_pos p1, if_pos p2, digit, decide_eq_false cd]
            simp only [Option.bind_some]
            rw [if_neg (by decide), if_pos ca]
          · simp only [impl_nameOk.l0]
            rw [if_pos p1, if_pos p2, if_pos ca]
            by_cases c48 : bt s (i : Int) < 48
            · rw [if_pos c48]
            · rw [if_neg c48, if_pos (by omega)]
        · by_cases cz : bt s (i : Int) > 122
          · refine ⟨false, Ev.step (f := fun _ => some false) (fun k => ?_) (Ev.now _), Ev.step (f := fun _ => some false) (fun k => ?_) (Ev.now _)⟩
            · simp only [spec_l1Name.l0]
              rw [if_pos p1, if_pos p2, digit, decide_eq_false cd]
              simp only [Option.bind_some]
              rw [if_neg (by decide), if_neg ca, if_pos cz]
            · simp only [impl_nameOk.l0]
              rw [if_pos p1, if_pos p2, if_neg ca, if_pos cz, if_neg (by omega), if_pos (by omega)]
          · refine ⟨b, Ev.step (fun k => ?_) h1, Ev.step (fun k => ?_) h2⟩
            · simp only [spec_l1Name.l0]
              rw [hw trivial, if_pos p1, if_pos p2, digit, decide_eq_false cd]
              simp only [Option.bind_some]
              rw [if_neg (by decide), if_neg ca, if_neg cz]
            · simp only [impl_nameOk.l0]
              rw [hw trivial, if_pos p1, if_pos p2, if_neg ca, if_neg cz]
  have yes1 : Ev (fun k => spec_l1Name.j0 k s true) false := Ev.step (f := fun _ => some false) (fun k => by simp only [spec_l1Name.j0, if_true]) (Ev.now _)
  have yes2 : Ev (fun k => impl_nameOk.j0 k s true) false := Ev.step (f := fun _ => some false) (fun k => by simp only [impl_nameOk.j0, if_true]) (Ev.now _)
  by_cases c1 : (s.size : Int) < 1
  · exact ⟨false, Ev.congr (fun k => by unfold spec_l1Name.f; rw [if_pos c1]) yes1, Ev.congr (fun k => by unfold impl_nameOk.f; rw [if_pos c1]) yes2⟩
  · by_cases c2 : (s.size : Int) > 12
    · exact ⟨false, Ev.congr (fun k => by unfold spec_l1Name.f; rw [if_neg c1, if_pos c2]) yes1, Ev.congr (fun k => by unfold impl_nameOk.f; rw [if_neg c1, if_pos c2]) yes2⟩
    · obtain ⟨b, h1, h2⟩ := main s.size 0 (by omega) (by omega)
      have p0 : (0 : Int) < (s.size : Int) := by omega
      have go1 : ∀ z, z = false → Ev (fun k => spec_l1Name.j0 k s z) b := fun z hz => Ev.step (fun k => by subst hz; simp only [spec_l1Name.j0]; rw [if_neg (by decide)]; rfl) h1
      have go2 : ∀ z, z = false → Ev (fun k => impl_nameOk.j0 k s z) b := fun z hz => Ev.step (fun k => by subst hz; simp only [impl_nameOk.j0]; rw [if_neg (by decide)]; rfl) h2
      by_cases cd : 48 ≤ bt s 0 ∧ bt s 0 ≤ 57
      · refine ⟨false, Ev.congr (fun k => ?_) yes1, Ev.congr (fun k => ?_) yes2⟩
        · unfold spec_l1Name.f; rw [if_neg c1, if_neg c2, if_pos p0, digit, decide_eq_true cd]; rfl
        · unfold impl_nameOk.f; rw [if_neg c1, if_neg c2, if_pos p0, if_pos (by omega)]
      · have e1 : ∀ k, spec_l1Name.f k s = spec_l1Name.j0 k s false := fun k => by unfold spec_l1Name.f; rw [if_neg c1, if_neg c2, if_pos p0, digit, decide_eq_false cd]; rfl
        by_cases ca : bt s 0 < 97
        · -- the loop's first round says no
          obtain ⟨d, hd⟩ : ∃ d, d = s.size := ⟨_, rfl⟩
          refine ⟨false, Ev.congr e1 (Ev.step (fun k => by simp only [spec_l1Name.j0]; rw [if_neg (by decide)]) (Ev.step (g := fun k => spec_l1Name.l0 k s 0) (f := fun _ => some false) (fun k => ?_) (Ev.now _))), Ev.congr (fun k => ?_) yes2⟩
          · simp only [spec_l1Name.l0]
            rw [if_pos p0, if_pos (by decide), digit, decide_eq_false cd]
            simp only [Option.bind_some]
            rw [if_neg (by decide), if_pos ca]
          · unfold impl_nameOk.f; rw [if_neg c1, if_neg c2, if_pos p0, if_pos ca]
        · by_cases cz : bt s 0 > 122
          · refine ⟨false, Ev.congr e1 (Ev.step (fun k => by simp only [spec_l1Name.j0]; rw [if_neg (by decide)]) (Ev.step (g := fun k => spec_l1Name.l0 k s 0) (f := fun _ => some false) (fun k => ?_) (Ev.now _))), Ev.congr (fun k => ?_) yes2⟩
            · simp only [spec_l1Name.l0]
              rw [if_pos p0, if_pos (by decide), digit, decide_eq_false cd]
              simp only [Option.bind_some]
              rw [if_neg (by decide), if_neg ca, if_pos cz]
            · unfold impl_nameOk.f; rw [if_neg c1, if_neg c2, if_pos p0, if_neg ca, decide_eq_true cz]
          · refine ⟨b, Ev.congr e1 (go1 _ rfl), Ev.congr (fun k => ?_) (go2 _ (decide_eq_false cz))⟩
            unfold impl_nameOk.f; rw [if_neg c1, if_neg c2, if_pos p0, if_neg ca]

/-! idxD -/
theorem idxD_none (nm : ByteArray) : ∀ (l : List S146) (i : Int), (∀ x ∈ l, x.f0.toList ≠ nm.toList) → idxD nm l i = -1
  | [], i, _ => rfl
  | x :: xs, i, h => by
    simp only [idxD]
    rw [if_neg (by have := h x (by simp); simpa using this)]
    exact idxD_none nm xs (i + 1) fun y hy => h y (by simp [hy])
theorem idxD_some (nm : ByteArray) : ∀ (l : List S146) (i : Int), 0 ≤ i → (∃ x ∈ l, x.f0.toList = nm.toList) → 0 ≤ idxD nm l i
  | [], i, _, h => by obtain ⟨x, hx, _⟩ := h; cases hx
  | x :: xs, i, hi, h => by
    simp only [idxD]
    by_cases c : (x.f0.toList == nm.toList) = true
    · rw [if_pos c]; exact hi
    · rw [if_neg c]
      obtain ⟨y, hy, he⟩ := h
      rcases List.mem_cons.1 hy with rfl | hy
      · exact absurd (by simpa using he) c
      · exact idxD_some nm xs (i + 1) (by omega) ⟨y, hy, he⟩

/-! declsOk -/
def sumD : List S146 → Int
  | [] => 0
  | x :: xs => x.f1 + sumD xs
/-- What right decls are good for. -/
structure GoodDecls (l : List S146) : Prop where
  len : l.length ≤ 60
  width : ∀ x ∈ l, 1 ≤ x.f1 ∧ x.f1 ≤ 4096
  total : sumD l ≤ 20000
theorem decls_loops (l : List S146) (hl : l.length ≤ 60) (hx : ∀ x ∈ l, x.f0.size ≤ 1048576) :
    ∀ d i, l.length - i = d → i ≤ l.length → ∀ s : Int, 0 ≤ s → s ≤ 4096 * i → ∃ b, Ev (fun k => spec_DeclsOk.l0 k l s (i : Int)) b ∧ Ev (fun k => impl_DeclsOk.l0 k l s l (l.length : Int) (i : Int)) b ∧
      (b = true → (∀ x ∈ l.drop i, 1 ≤ x.f1 ∧ x.f1 ≤ 4096) ∧ s + sumD (l.drop i) ≤ 20000) := by
  intro d
  induction d with
  | zero =>
    intro i hd hi s g0 g1
    refine ⟨decide (s ≤ 20000), Ev.step (f := fun _ => some (decide (s ≤ 20000))) (fun k => ?_) (Ev.now _), Ev.step (f := fun _ => some (decide (s ≤ 20000))) (fun k => ?_) (Ev.now _), fun hb => ?_⟩
    · simp only [spec_DeclsOk.l0]; rw [if_neg (by omega)]
    · simp only [impl_DeclsOk.l0]; rw [if_neg (by omega)]
    · have e : l.drop i = [] := List.drop_eq_nil_of_le (by omega)
      rw [e]
      refine ⟨(fun x hx => by cases hx), ?_⟩
      have := of_decide_eq_true hb
      show s + 0 ≤ 20000
      omega
  | succ d ih =>
    intro i hd hi s g0 g1
    have hil : i < l.length := by omega
    obtain ⟨x, hxx⟩ : ∃ x, x = rd_T146 l (i : Int) := ⟨_, rfl⟩
    have hxm : x ∈ l := by rw [hxx]; exact rdD_mem l i hil
    have hdrop : l.drop i = x :: l.drop (i + 1) := by rw [List.drop_eq_getElem_cons hil, hxx, rdD l i hil]
    obtain ⟨bn, ⟨K1, h1⟩, ⟨K2, h2⟩⟩ := names_agree x.f0 (hx x hxm)
    have q1 : (i : Int) < (l.length : Int) := by omega
    have q2 : (0 : Int) ≤ (i : Int) := by omega
    have q3 : (i : Int) ≤ (l.length : Int) := by omega
    have no : ∀ (P : Prop), ((false : Bool) = true → P) := fun P h => by cases h
    have specNo : ∀ m, spec_DeclsOk.j1 (m + 1) l s (i : Int) true = some false := fun m => by simp only [spec_DeclsOk.j1, if_true]
    cases bn with
    | false =>
      refine ⟨false, ⟨K1 + 2, fun k hk => ?_⟩, ⟨K2 + 1, fun k hk => ?_⟩, no _⟩
      · obtain ⟨m, rfl⟩ : ∃ m, k = m + 1 + 1 := ⟨k - 2, by omega⟩
        have h1 := h1 (m + 1) (by omega)
        dsimp only at h1 ⊢
        simp only [spec_DeclsOk.l0]
        rw [← hxx, if_pos q1, if_pos q2, h1]
        simp only [Option.bind_some]
        rw [if_neg (by decide)]
        exact specNo m
      · obtain ⟨m, rfl⟩ : ∃ m, k = m + 1 := ⟨k - 1, by omega⟩
        have h2 := h2 m (by omega)
        dsimp only at h2 ⊢
        simp only [impl_DeclsOk.l0]
        rw [← hxx, if_pos q1, if_pos q2, if_pos q1, h2]
        simp only [Option.bind_some]
        rw [if_neg (by decide)]
    | true =>
      by_cases cw : 1 ≤ x.f1 ∧ x.f1 ≤ 4096
      · by_cases cd : ∃ y ∈ l.take i, y.f0.toList = x.f0.toList
        · have hidx := idxD_some x.f0 (l.take i) 0 (by decide) cd
          -- the reference's inner loop finds it
          have inner : Ev (fun k => spec_DeclsOk.l1 k l s (i : Int) 0) false := by
            obtain ⟨y, hy, he⟩ := cd
            obtain ⟨j0, hj0, hyj⟩ := List.getElem_of_mem hy
            rw [List.length_take] at hj0
            rw [List.getElem_take] at hyj
            have heq : (rd_T146 l (j0 : Int)).f0.toList = x.f0.toList := by rw [rdD l j0 (by omega), hyj]; exact he
            have go : ∀ d j, j0 - j = d → j ≤ j0 → Ev (fun k => spec_DeclsOk.l1 k l s (i : Int) (j : Int)) false := by
              intro d
              induction d with
              | zero =>
                intro j hd hj
                have e : j = j0 := by omega
                subst e
                refine Ev.step (f := fun _ => some false) (fun k => ?_) (Ev.now _)
                simp only [spec_DeclsOk.l1]
                rw [← hxx, if_pos (by omega), if_pos (by omega), if_pos (by omega), if_pos q2, if_pos q1, if_pos heq]
              | succ d ih2 =>
                intro j hd hj
                by_cases e : (rd_T146 l (j : Int)).f0.toList = x.f0.toList
                · refine Ev.step (f := fun _ => some false) (fun k => ?_) (Ev.now _)
                  simp only [spec_DeclsOk.l1]
                  rw [← hxx, if_pos (by omega), if_pos (by omega), if_pos (by omega), if_pos q2, if_pos q1, if_pos e]
                · refine Ev.step (fun k => ?_) (ih2 (j + 1) (by omega) (by omega))
                  simp only [spec_DeclsOk.l1]
                  rw [← hxx, if_pos (by omega), if_pos (by omega), if_pos (by omega), if_pos q2, if_pos q1, if_neg e, wrap_succ' j (by omega)]
            exact go j0 0 (by omega) (by omega)
          obtain ⟨K3, h3⟩ := inner
          refine ⟨false, ⟨K1 + K3 + 2, fun k hk => ?_⟩, ⟨K2 + 1, fun k hk => ?_⟩, no _⟩
          · obtain ⟨m, rfl⟩ : ∃ m, k = m + 1 + 1 := ⟨k - 2, by omega⟩
            have h1 := h1 (m + 1) (by omega)
            have h3 := h3 m (by omega)
            dsimp only at h1 h3 ⊢
            simp only [spec_DeclsOk.l0]
            rw [← hxx, if_pos q1, if_pos q2, h1]
            simp only [Option.bind_some, if_true]
            rw [l1In_eq, decide_eq_true cw]
            simp only [Option.bind_some, Bool.not_true, spec_DeclsOk.j1]
            rw [if_neg (by decide)]
            exact h3
          · obtain ⟨m, rfl⟩ : ∃ m, k = m + 1 := ⟨k - 1, by omega⟩
            have h2 := h2 m (by omega)
            dsimp only at h2 ⊢
            simp only [impl_DeclsOk.l0, impl_declared.f]
            rw [← hxx, if_pos q1, if_pos q2, if_pos q1, h2]
            simp only [Option.bind_some, if_true]
            rw [inside_eq, decide_eq_true cw]
            simp only [Option.bind_some, if_true]
            rw [if_pos q3, Int.toNat_natCast, if_pos hidx]
        · have hidx := idxD_none x.f0 (l.take i) 0 (fun y hy he => cd ⟨y, hy, he⟩)
          obtain ⟨b, hs, hi2, hb⟩ := ih (i + 1) (by omega) (by omega) (s + x.f1) (by omega) (by omega)
          have hws : True → wrap64 (s + x.f1) = s + x.f1 := fun _ => wrap64_id (by omega) (by omega)
          have hwi : True → wrap64 ((i : Int) + 1) = ((i + 1 : Nat) : Int) := fun _ => wrap_succ' i (by omega)
          have inner : Ev (fun k => spec_DeclsOk.l1 k l s (i : Int) 0) b := by
            refine up_loop i (fun _ => ()) (fun k _ j => spec_DeclsOk.l1 k l s (i : Int) j) (fun j hj r h => Ev.step (fun k => ?_) h) b (Ev.step (fun k => ?_) hs)
            · have hne : ¬ (rd_T146 l (j : Int)).f0.toList = x.f0.toList := fun he => cd ⟨rd_T146 l (j : Int), by rw [rdD l j (by omega)]; exact List.mem_take_iff_getElem.2 ⟨j, by omega, rfl⟩, he⟩
              simp only [spec_DeclsOk.l1]
              rw [← hxx, if_pos (by omega), if_pos (by omega), if_pos (by omega), if_pos q2, if_pos q1, if_neg hne, wrap64_id (by omega) (by omega)]
            · simp only [spec_DeclsOk.l1]
              rw [← hxx, hws trivial, hwi trivial, if_neg (by omega), if_pos q2, if_pos q1]
          obtain ⟨K3, h3⟩ := inner
          obtain ⟨K4, h4⟩ := hi2
          refine ⟨b, ⟨K1 + K3 + 2, fun k hk => ?_⟩, ⟨K2 + K4 + 1, fun k hk => ?_⟩, fun hbt => ?_⟩
          · obtain ⟨m, rfl⟩ : ∃ m, k = m + 1 + 1 := ⟨k - 2, by omega⟩
            have h1 := h1 (m + 1) (by omega)
            have h3 := h3 m (by omega)
            dsimp only at h1 h3 ⊢
            simp only [spec_DeclsOk.l0]
            rw [← hxx, if_pos q1, if_pos q2, h1]
            simp only [Option.bind_some, if_true]
            rw [l1In_eq, decide_eq_true cw]
            simp only [Option.bind_some, Bool.not_true, spec_DeclsOk.j1]
            rw [if_neg (by decide)]
            exact h3
          · obtain ⟨m, rfl⟩ : ∃ m, k = m + 1 := ⟨k - 1, by omega⟩
            have h2 := h2 m (by omega)
            have h4 := h4 m (by omega)
            dsimp only at h2 h4 ⊢
            simp only [impl_DeclsOk.l0, impl_declared.f]
            rw [← hxx, if_pos q1, if_pos q2, if_pos q1, h2]
            simp only [Option.bind_some, if_true]
            rw [inside_eq, decide_eq_true cw]
            simp only [Option.bind_some, if_true]
            rw [if_pos q3, Int.toNat_natCast, hidx, if_neg (by decide), hws trivial, hwi trivial]
            exact h4
          · obtain ⟨t1, t2⟩ := hb hbt
            rw [hdrop]
            refine ⟨fun y hy => ?_, ?_⟩
            · rcases List.mem_cons.1 hy with rfl | hy
              · exact cw
              · exact t1 y hy
            · show s + (x.f1 + sumD (l.drop (i + 1))) ≤ 20000
              omega
      · refine ⟨false, ⟨K1 + 2, fun k hk => ?_⟩, ⟨K2 + 1, fun k hk => ?_⟩, no _⟩
        · obtain ⟨m, rfl⟩ : ∃ m, k = m + 1 + 1 := ⟨k - 2, by omega⟩
          have h1 := h1 (m + 1) (by omega)
          dsimp only at h1 ⊢
          simp only [spec_DeclsOk.l0]
          rw [← hxx, if_pos q1, if_pos q2, h1]
          simp only [Option.bind_some, if_true]
          rw [l1In_eq, decide_eq_false cw]
          simp only [Option.bind_some, Bool.not_false]
          exact specNo m
        · obtain ⟨m, rfl⟩ : ∃ m, k = m + 1 := ⟨k - 1, by omega⟩
          have h2 := h2 m (by omega)
          dsimp only at h2 ⊢
          simp only [impl_DeclsOk.l0]
          rw [← hxx, if_pos q1, if_pos q2, if_pos q1, h2]
          simp only [Option.bind_some, if_true]
          rw [inside_eq, decide_eq_false cw]
          rfl
theorem declsOk_agree (l : List S146) (hx : ∀ x ∈ l, x.f0.size ≤ 1048576) :
    ∃ b, Ev (fun k => spec_DeclsOk.f k l) b ∧ Ev (fun k => impl_DeclsOk.f k l) b ∧ (b = true → GoodDecls l) := by
  by_cases c : (l.length : Int) > 60
  · exact ⟨false, Ev.congr (fun k => by unfold spec_DeclsOk.f; rw [if_pos c]) (Ev.now _), Ev.congr (fun k => by unfold impl_DeclsOk.f; rw [if_pos c]) (Ev.now _), fun h => by cases h⟩
  · obtain ⟨b, h1, h2, h3⟩ := decls_loops l (by omega) hx l.length 0 (by omega) (by omega) 0 (by decide) (by decide)
    refine ⟨b, Ev.congr (fun k => by unfold spec_DeclsOk.f; rw [if_neg c]; rfl) h1, Ev.congr (fun k => by unfold impl_DeclsOk.f; rw [if_neg c]; rfl) h2, fun hb => ?_⟩
    obtain ⟨t1, t2⟩ := h3 hb
    rw [List.drop_zero] at t1 t2
    exact ⟨by omega, t1, by omega⟩

/-! upDecl -/
theorem upDecl {l : List S146} (U : (l.length : Int) ≤ 1048576 ∧ ∀ y ∈ l, UpI_Decl 1048576 y) : ∀ x ∈ l, x.f0.size ≤ 1048576 := fun x hx => by
  have := U.2 x hx
  unfold UpI_Decl at this
  omega

/-! valuesOk -/
/-- Right values for decls. -/
def GoodValues (l : List S146) (b : List S149) : Prop := b.length = l.length ∧ ∀ v : Nat, v < b.length → (rd_T149 b (v : Int)).f0 = (rd_T146 l (v : Int)).f1 ∧ Right (rd_T149 b (v : Int)).f0 (rd_T149 b (v : Int)).f1
theorem values_loops (l : List S146) (b : List S149) (hg : GoodDecls l) (hlen : b.length = l.length) (hb : ∀ y ∈ b, U64s y.f1 ∧ y.f1.length ≤ 1048576 ∧ -9223372036854775808 ≤ y.f0 ∧ y.f0 ≤ 9223372036854775807) :
    ∀ d v, b.length - v = d → v ≤ b.length → ∃ z, Ev (fun k => spec_ValuesOk.l0 k l b (v : Int)) z ∧ Ev (fun k => impl_valuesOk.l0 k l b (b.length : Int) (v : Int)) z ∧
      (z = true → ∀ u : Nat, v ≤ u → u < b.length → (rd_T149 b (u : Int)).f0 = (rd_T146 l (u : Int)).f1 ∧ Right (rd_T149 b (u : Int)).f0 (rd_T149 b (u : Int)).f1) := by
  have no : ∀ (P : Prop), ((false : Bool) = true → P) := fun P h => by cases h
  have hl := hg.len
  intro d
  induction d with
  | zero =>
    intro v hd hv
    refine ⟨true, Ev.step (f := fun _ => some true) (fun k => ?_) (Ev.now _), Ev.step (f := fun _ => some true) (fun k => ?_) (Ev.now _), fun _ u g1 g2 => absurd g1 (by omega)⟩
    · simp (disch := omega) only [spec_ValuesOk.l0, ↓if_neg]
    · simp (disch := omega) only [impl_valuesOk.l0, ↓if_neg]
  | succ d ih =>
    intro v hd hv
    have hvl : v < b.length := by omega
    obtain ⟨z, ⟨K1, h1⟩, ⟨K2, h2⟩, h3⟩ := ih (v + 1) (by omega) (by omega)
    obtain ⟨x, hx⟩ : ∃ x, x = rd_T149 b (v : Int) := ⟨_, rfl⟩
    obtain ⟨w, hwe⟩ : ∃ w, w = (rd_T146 l (v : Int)).f1 := ⟨_, rfl⟩
    obtain ⟨u1, u2, u3, u4⟩ := hb x (by rw [hx]; exact rdM_T149 b v hvl)
    have hi := implBitsOk_eq x.f0 x.f1 u1 u2
    obtain ⟨K3, hs⟩ := Ev.binds (specBitsOk_ev x.f0 x.f1 u1 u2 u3 u4)
    by_cases cw : x.f0 = w
    · rcases okB_cases x.f0 x.f1 with ⟨e, hr⟩ | ⟨e, hr⟩
      · refine ⟨z, ⟨K1 + K3 + 1, fun k hk => ?_⟩, ⟨K2 + 1, fun k hk => ?_⟩, fun hz u g1 g2 => ?_⟩
        · obtain ⟨m, rfl⟩ : ∃ m, k = m + 1 := ⟨k - 1, by omega⟩
          have h1 := h1 m (by omega)
          simp (disch := omega) only [spec_ValuesOk.l0, ← hx, ← hwe, ↓if_pos, ↓if_neg, cw, wrap_next]
          rw [cw] at hs e
          simp (disch := omega) only [↓hs, e, ↓reduceIte]
          exact h1
        · obtain ⟨m, rfl⟩ : ∃ m, k = m + 1 := ⟨k - 1, by omega⟩
          have h2 := h2 m (by omega)
          simp (disch := omega) only [impl_valuesOk.l0, ← hx, ← hwe, ↓if_pos, ↓if_neg, hi, e, Option.bind_some, ↓reduceIte, wrap_next]
          exact h2
        · by_cases eu : u = v
          · subst eu
            rw [← hx, ← hwe]
            exact ⟨cw, hr⟩
          · exact h3 hz u (by omega) g2
      · refine ⟨false, ⟨K3 + 1, fun k hk => ?_⟩, Ev.step (f := fun _ => some false) (fun k => ?_) (Ev.now _), no _⟩
        · obtain ⟨m, rfl⟩ : ∃ m, k = m + 1 := ⟨k - 1, by omega⟩
          simp (disch := omega) only [spec_ValuesOk.l0, ← hx, ← hwe, ↓if_pos, ↓if_neg, cw]
          rw [cw] at hs e
          simp (disch := omega) only [↓hs, e, ↓reduceIte, Bool.false_eq_true]
        · simp (disch := omega) only [impl_valuesOk.l0, ← hx, ← hwe, ↓if_pos, ↓if_neg, hi, e, Option.bind_some, ↓reduceIte, Bool.false_eq_true]
    · refine ⟨false, Ev.step (f := fun _ => some false) (fun k => ?_) (Ev.now _), Ev.step (f := fun _ => some false) (fun k => ?_) (Ev.now _), no _⟩
      · simp (disch := omega) only [spec_ValuesOk.l0, ← hx, ← hwe, ↓if_pos, ↓if_neg, cw, ↓reduceIte]
      · rcases okB_cases x.f0 x.f1 with ⟨e, hr⟩ | ⟨e, hr⟩
        · simp (disch := omega) only [impl_valuesOk.l0, ← hx, ← hwe, ↓if_pos, ↓if_neg, hi, e, Option.bind_some, ↓reduceIte, cw]
        · simp (disch := omega) only [impl_valuesOk.l0, ← hx, ← hwe, ↓if_pos, ↓if_neg, hi, e, Option.bind_some, ↓reduceIte, Bool.false_eq_true]
theorem values_core (l : List S146) (b : List S149) (hx : ∀ x ∈ l, x.f0.size ≤ 1048576) (hbl : (b.length : Int) ≤ 1048576) (hb : ∀ y ∈ b, U64s y.f1 ∧ y.f1.length ≤ 1048576 ∧ -9223372036854775808 ≤ y.f0 ∧ y.f0 ≤ 9223372036854775807) :
    ∃ z, Ev (fun k => spec_ValuesOk.f k l b) z ∧ Ev (fun k => impl_ValuesOk.f k l b) z ∧ (z = true → GoodDecls l ∧ GoodValues l b) := by
  have no : ∀ (P : Prop), ((false : Bool) = true → P) := fun P h => by cases h
  obtain ⟨bd, g1, g2, hg⟩ := declsOk_agree l hx
  obtain ⟨K1, h1⟩ := Ev.binds g1
  obtain ⟨K2, h2⟩ := Ev.binds g2
  cases bd with
  | false =>
    refine ⟨false, ⟨K1 + 2, fun k hk => ?_⟩, ⟨K2, fun k hk => ?_⟩, no _⟩
    · obtain ⟨m, rfl⟩ : ∃ m, k = m + 1 := ⟨k - 1, by omega⟩
      simp (disch := omega) only [spec_ValuesOk.f, ↓h1, ↓reduceIte, Bool.false_eq_true, spec_ValuesOk.j0]
    · simp (disch := omega) only [impl_ValuesOk.f, ↓h2, ↓reduceIte, Bool.false_eq_true]
  | true =>
    have hg := hg rfl
    by_cases c : b.length = l.length
    · obtain ⟨z, e1, e2, e3⟩ := values_loops l b hg c hb b.length 0 (by omega) (by omega)
      obtain ⟨K3, h3⟩ := e1
      obtain ⟨K4, h4⟩ := Ev.binds e2
      have cn : ((b.length : Int) != (l.length : Int)) = false := by rw [c]; exact bne_self_eq_false _
      refine ⟨z, ⟨K1 + K3 + 1, fun k hk => ?_⟩, ⟨K2 + K4, fun k hk => ?_⟩, fun hz => ⟨hg, c, fun v hv => e3 hz v (by omega) hv⟩⟩
      · obtain ⟨m, rfl⟩ : ∃ m, k = m + 1 := ⟨k - 1, by omega⟩
        have h3 := h3 m (by omega)
        simp (disch := omega) only [spec_ValuesOk.f, ↓h1, ↓reduceIte, cn, spec_ValuesOk.j0, Bool.false_eq_true]
        exact h3
      · have e : impl_valuesOk.f k l b = impl_valuesOk.l0 k l b (b.length : Int) ((0 : Nat) : Int) := by unfold impl_valuesOk.f; rw [if_pos (by omega)]; rfl
        simp (disch := omega) only [impl_ValuesOk.f, ↓h2, ↓reduceIte]
        rw [e]
        exact h4 k (by omega) _ _
    · have cn : ((b.length : Int) != (l.length : Int)) = true := bne_iff_ne.2 (by omega)
      refine ⟨false, ⟨K1 + 2, fun k hk => ?_⟩, ⟨K2, fun k hk => ?_⟩, no _⟩
      · obtain ⟨m, rfl⟩ : ∃ m, k = m + 1 := ⟨k - 1, by omega⟩
        simp (disch := omega) only [spec_ValuesOk.f, ↓h1, ↓reduceIte, cn, spec_ValuesOk.j0]
      · simp (disch := omega) only [impl_ValuesOk.f, ↓h2, ↓reduceIte, impl_valuesOk.f, ↓if_neg, Option.bind_some]
theorem upBits {b : List S149} (U : (b.length : Int) ≤ 1048576 ∧ ∀ y ∈ b, UpI_Bits 1048576 y) (W : ∀ y ∈ b, WfI_Bits y) : ∀ y ∈ b, U64s y.f1 ∧ y.f1.length ≤ 1048576 ∧ -9223372036854775808 ≤ y.f0 ∧ y.f0 ≤ 9223372036854775807 := fun y hy => by
  have u := U.2 y hy
  have w := W y hy
  unfold UpI_Bits at u
  exact ⟨w.2, by omega, w.1.1, w.1.2⟩
theorem valuesOk_agree (l : List S146) (b : List S149) (U0 : (l.length : Int) ≤ 1048576 ∧ ∀ y ∈ l, UpI_Decl 1048576 y) (W0 : ∀ y ∈ l, WfI_Decl y) (U1 : (b.length : Int) ≤ 1048576 ∧ ∀ y ∈ b, UpI_Bits 1048576 y) (W1 : ∀ y ∈ b, WfI_Bits y) :
    ∃ z, Ev (fun k => spec_ValuesOk.f k l b) z ∧ Ev (fun k => impl_ValuesOk.f k l b) z := by
  obtain ⟨z, h1, h2, _⟩ := values_core l b (upDecl U0) U1.1 (upBits U1 W1)
  exact ⟨z, h1, h2⟩

/-! markBitsS2 -/
theorem mark_BitsS_loop2 (x : List S149) (hl : x.length ≤ 1048576) (hx : ∀ j : Nat, j < x.length → ((rd_T149 x (j : Int)).f1.length : Int) ≤ 1048576) :
    ∀ d i, x.length - i = d → i ≤ x.length → ∀ (xs : List S149) (m : Int), xs.length = x.length → (∀ j : Nat, i ≤ j → j < x.length → rd_T149 xs (j : Int) = rd_T149 x (j : Int)) → 0 ≤ m → m ≤ 4611686018427387904 - (d : Int) * 1048577 →
      ∃ (m' : Int) (x' : List S149), Ev (fun k => laws_markBitsS.l0 k xs m (i : Int)) (m', x') ∧ m ≤ m' ∧ m' ≤ m + (d : Int) * 1048577 ∧ x'.length = x.length ∧ (∀ j : Nat, j < i → rd_T149 x' (j : Int) = rd_T149 xs (j : Int)) ∧ Ev (fun k => laws_heldBitsS.l0 k x' m (i : Int)) m' := by
  intro d
  induction d with
  | zero =>
    intro i hd hi xs m hlen hrd h0 h1
    refine ⟨m, xs, Ev.step (f := fun _ => some (m, xs)) (fun k => ?_) (Ev.now _), by omega, by omega, hlen, fun _ _ => rfl, Ev.step (f := fun _ => some m) (fun k => ?_) (Ev.now _)⟩
    · simp (disch := omega) only [laws_markBitsS.l0, ↓if_neg]
    · simp (disch := omega) only [laws_heldBitsS.l0, ↓if_neg]
  | succ d ih =>
    intro i hd hi xs m hlen hrd h0 h1
    have hil : i < x.length := by omega
    have hr := hrd i (Nat.le_refl _) hil
    have hb := hx i hil
    rw [← hr] at hb
    obtain ⟨m1, z, g, o1, o2, ⟨K3, e3⟩⟩ := mark_Uint64S (rd_T149 xs (i : Int)).f1 hb (m + 1) (by omega) (by omega)
    obtain ⟨m2, x', ⟨K2, e2⟩, p1, p2, p3, p4, ⟨K4, e4⟩⟩ := ih (i + 1) (by omega) (by omega) (xs.set i ⟨m, z⟩) m1 (by rw [List.length_set]; exact hlen) (fun j hj hjl => by
      rw [← hrd j (by omega) hjl]
      unfold rd_T149
      rw [List.getD_eq_getElem?_getD, List.getD_eq_getElem?_getD, Int.toNat_natCast, List.getElem?_set_ne (by omega)]) (by omega) (by omega)
    obtain ⟨K1, e1⟩ := g
    have hri : rd_T149 x' (i : Int) = ⟨m, z⟩ := by
      rw [p4 i (by omega)]
      unfold rd_T149
      rw [List.getD_eq_getElem?_getD, Int.toNat_natCast, List.getElem?_set_self (by omega)]
      rfl
    refine ⟨m2, x', ⟨K1 + K2 + 1, fun k hk => ?_⟩, by omega, by omega, p3, fun j hj => ?_, ⟨K3 + K4 + 1, fun k hk => ?_⟩⟩
    · obtain ⟨mm, rfl⟩ : ∃ mm, k = mm + 1 := ⟨k - 1, by omega⟩
      have e1 := e1 mm (by omega)
      have e2 := e2 mm (by omega)
      dsimp only at e1 e2 ⊢
      simp (disch := omega) only [laws_markBitsS.l0, ↓if_pos, wrap64_id (x := m + 1), e1, Option.bind_some, Int.toNat_natCast, wrap_next]
      exact e2
    · rw [p4 j (by omega)]
      unfold rd_T149
      rw [List.getD_eq_getElem?_getD, List.getD_eq_getElem?_getD, Int.toNat_natCast, List.getElem?_set_ne (by omega)]
    · obtain ⟨mm, rfl⟩ : ∃ mm, k = mm + 1 := ⟨k - 1, by omega⟩
      have e3 := e3 mm (by omega)
      have e4 := e4 mm (by omega)
      dsimp only at e3 e4 ⊢
      simp (disch := omega) only [laws_heldBitsS.l0, hri, ↓if_pos, ↓reduceIte, wrap64_id (x := m + 1), e3, Option.bind_some, ↓if_neg, wrap_next]
      exact e4
theorem mark_BitsS (x : List S149) (h : ((x.length : Int) ≤ 1048576 ∧ ∀ y ∈ x, UpI_Bits 1048576 y)) (m : Int) (h0 : 0 ≤ m) (h1 : m ≤ 4611686018427387904 - 1099512676352) : ∃ (m' : Int) (x' : List S149), Ev (fun k => laws_markBitsS.f k x m) (m', x') ∧ m ≤ m' ∧ m' ≤ m + 1099512676352 ∧ Ev (fun k => laws_heldBitsS.f k x' m) m' := by
  obtain ⟨h2, h3⟩ := h
  obtain ⟨m', x', e, p1, p2, _, _, e2⟩ := mark_BitsS_loop2 x (by omega) (fun j hj => h3 _ (rdM_T149 x j hj)) x.length 0 (by omega) (by omega) x m rfl (fun _ _ _ => rfl) h0 (by omega)
  exact ⟨m', x', e, p1, by omega, e2⟩

/-! merge -/
theorem has_ev (l : List Int) (a : Int) (hl : l.length ≤ 1048576) : ∀ d i, l.length - i = d → i ≤ l.length → Ev (fun k => spec_l1Has.l0 k l a (i : Int)) (decide (a ∈ l.drop i)) := by
  intro d
  induction d with
  | zero =>
    intro i hd hi
    rw [List.drop_eq_nil_of_le (by omega)]
    refine Ev.step (f := fun _ => some false) (fun k => ?_) (Ev.now _)
    simp (disch := omega) only [spec_l1Has.l0, ↓if_neg]
  | succ d ih =>
    intro i hd hi
    have hil : i < l.length := by omega
    have hdrop : l.drop i = rd l (i : Int) :: l.drop (i + 1) := by
      rw [List.drop_eq_getElem_cons hil]
      congr 1
      unfold rd
      rw [List.getD_eq_getElem?_getD, Int.toNat_natCast, List.getElem?_eq_getElem hil]
      rfl
    rw [hdrop]
    by_cases c : rd l (i : Int) = a
    · have e : decide (a ∈ rd l (i : Int) :: l.drop (i + 1)) = true := decide_eq_true (by rw [c]; exact List.mem_cons_self ..)
      rw [e]
      refine Ev.step (f := fun _ => some true) (fun k => ?_) (Ev.now _)
      simp (disch := omega) only [spec_l1Has.l0, ↓if_pos, if_pos c]
    · have e : decide (a ∈ rd l (i : Int) :: l.drop (i + 1)) = decide (a ∈ l.drop (i + 1)) := by
        have : (a ∈ rd l (i : Int) :: l.drop (i + 1)) = (a ∈ l.drop (i + 1)) := by
          rw [List.mem_cons]
          exact propext ⟨fun h => h.elim (fun h => absurd h.symm c) id, .inr⟩
        simp only [this]
      rw [e]
      refine Ev.step (fun k => ?_) (ih (i + 1) (by omega) (by omega))
      simp (disch := omega) only [spec_l1Has.l0, ↓if_pos, if_neg c, wrap_next]
/-- What Merge tells at a place. -/
def selM (a b : List S149) (vars : List Int) (j : Nat) : S149 := if (j : Int) ∈ vars then rd_T149 b (j : Int) else rd_T149 a (j : Int)
theorem copy_eq (x : S149) (h : x.f1.length ≤ 1048576) : spec_l8CopyBits.f x.f0 x.f1 = some (x.f0, x.f1) := by
  simp (disch := first | omega | (simp; omega)) only [spec_l8CopyBits.f, Option.bind_some, List.length_nil, ↓if_pos, List.nil_append]
theorem clone_eq (x : S149) (h : x.f1.length ≤ 1048576) : impl_cloneBits.f x.f0 x.f1 = some (x.f0, x.f1) := by
  simp (disch := omega) only [impl_cloneBits.f, slices_Clone_uint64_uint64.f, ↓if_pos, Option.bind_some]
theorem merge_build (l : List S146) (a b : List S149) (vars : List Int) (hl : l.length ≤ 60) (ha : a.length = l.length) (hb : b.length = l.length) (hv : vars.length ≤ 1048576)
    (hx : ∀ j : Nat, j < l.length → (rd_T149 a (j : Int)).f1.length ≤ 1048576 ∧ (rd_T149 b (j : Int)).f1.length ≤ 1048576) :
    ∀ d v, l.length - v = d → v ≤ l.length → Ev (fun k => spec_Merge.l1 k l a b vars ((List.range v).map (selM a b vars)) (v : Int)) ((List.range l.length).map (selM a b vars), true) := by
  intro d
  induction d with
  | zero =>
    intro v hd hvl
    obtain rfl : v = l.length := by omega
    refine Ev.step (f := fun _ => some ((List.range l.length).map (selM a b vars), true)) (fun k => ?_) (Ev.now _)
    simp (disch := omega) only [spec_Merge.l1, ↓if_neg]
  | succ d ih =>
    intro v hd hvl
    have hvl2 : v < l.length := by omega
    obtain ⟨K1, h1⟩ := has_ev vars (v : Int) hv vars.length 0 (by omega) (by omega)
    obtain ⟨K2, h2⟩ := ih (v + 1) (by omega) (by omega)
    have hlen : ((List.range v).map (selM a b vars)).length = v := by simp
    refine ⟨K1 + K2 + 1, fun k hk => ?_⟩
    obtain ⟨m, rfl⟩ : ∃ m, k = m + 1 := ⟨k - 1, by omega⟩
    have h1 : spec_l1Has.f m vars (v : Int) = some (decide ((v : Int) ∈ vars)) := by have := h1 m (by omega); rwa [List.drop_zero] at this
    have h2 := h2 m (by omega)
    dsimp only at h2 ⊢
    have hr : (List.range (v + 1)).map (selM a b vars) = (List.range v).map (selM a b vars) ++ [selM a b vars v] := by rw [List.range_succ, List.map_append]; rfl
    rw [hr] at h2
    by_cases c : (v : Int) ∈ vars
    · have e := decide_eq_true c
      have hs : selM a b vars v = ⟨(rd_T149 b (v : Int)).f0, (rd_T149 b (v : Int)).f1⟩ := by unfold selM; rw [if_pos c]
      rw [hs] at h2
      simp (disch := omega) only [spec_Merge.l1, ↓if_pos, h1, e, Option.bind_some, ↓reduceIte, copy_eq _ (hx v hvl2).2, wrap_next]
      exact h2
    · have e := decide_eq_false c
      have hs : selM a b vars v = ⟨(rd_T149 a (v : Int)).f0, (rd_T149 a (v : Int)).f1⟩ := by unfold selM; rw [if_neg c]
      rw [hs] at h2
      simp (disch := omega) only [spec_Merge.l1, ↓if_pos, h1, e, Option.bind_some, ↓reduceIte, Bool.false_eq_true, copy_eq _ (hx v hvl2).1, wrap_next]
      exact h2
theorem rdset_ne (l : List S149) (i j : Nat) (v : S149) (h : i ≠ j) : rd_T149 (l.set i v) (j : Int) = rd_T149 l (j : Int) := by
  unfold rd_T149
  rw [List.getD_eq_getElem?_getD, List.getD_eq_getElem?_getD, Int.toNat_natCast, List.getElem?_set_ne h]
theorem rdset_eq (l : List S149) (i : Nat) (h : i < l.length) (v : S149) : rd_T149 (l.set i v) (i : Int) = v := by
  unfold rd_T149
  rw [List.getD_eq_getElem?_getD, Int.toNat_natCast, List.getElem?_set_self h]; rfl
theorem merge_copy (l : List S146) (a b : List S149) (vars : List Int) (ha : a.length ≤ 60) (hx : ∀ j : Nat, j < a.length → (rd_T149 a (j : Int)).f1.length ≤ 1048576)
    (y : List S149 × Bool) (xs0 : ∀ xs : List S149, xs.length = a.length → (∀ j : Nat, j < a.length → rd_T149 xs (j : Int) = rd_T149 a (j : Int)) → Ev (fun k => impl_Merge.l1 k l b xs (-1) vars (vars.length : Int) 0) y) :
    ∀ d i, a.length - i = d → i ≤ a.length → ∀ xs : List S149, xs.length = a.length → (∀ j : Nat, j < i → rd_T149 xs (j : Int) = rd_T149 a (j : Int)) → Ev (fun k => impl_Merge.l0 k l b vars xs a (a.length : Int) (i : Int)) y := by
  intro d
  induction d with
  | zero =>
    intro i hd hi xs hlen hj
    refine Ev.step (fun k => ?_) (xs0 xs hlen (fun j hj2 => hj j (by omega)))
    simp (disch := omega) only [impl_Merge.l0, ↓if_neg]
  | succ d ih =>
    intro i hd hi xs hlen hj
    have hil : i < a.length := by omega
    refine Ev.step (fun k => ?_) (ih (i + 1) (by omega) (by omega) (xs.set i ⟨(rd_T149 a (i : Int)).f0, (rd_T149 a (i : Int)).f1⟩) (by rw [List.length_set]; exact hlen) (fun j hj2 => ?_))
    · simp (disch := omega) only [impl_Merge.l0, ↓if_pos, clone_eq _ (hx i hil), Option.bind_some, Int.toNat_natCast, wrap_next]
    · by_cases e : i = j
      · subst e
        rw [rdset_eq _ _ (by omega)]
      · rw [rdset_ne _ _ _ _ e]
        exact hj j (by omega)
theorem merge_vars (l : List S146) (a b : List S149) (vars : List Int) (hl : l.length ≤ 60) (ha : a.length = l.length) (hb : b.length = l.length) (hv : vars.length ≤ 1048576)
    (hx : ∀ j : Nat, j < l.length → (rd_T149 b (j : Int)).f1.length ≤ 1048576) :
    ∀ d i, vars.length - i = d → i ≤ vars.length → ∀ (xs : List S149) (bf : Int), xs.length = l.length → (∀ j : Nat, j < l.length → rd_T149 xs (j : Int) = selM a b (vars.take i) j) → (i = 0 → bf = -1) → (∀ q : Nat, q + 1 = i → bf = rd vars (q : Int) ∧ 0 ≤ bf) →
      (Ev (fun k => impl_Merge.l1 k l b xs bf vars (vars.length : Int) (i : Int)) ((List.range l.length).map (selM a b vars), true) ∧ ∀ z, Ev (fun k => spec_Merge.l1 k l a b vars [] 0) z → Ev (fun k => spec_Merge.l0 k l a b vars [] (i : Int)) z) ∨
      (Ev (fun k => impl_Merge.l1 k l b xs bf vars (vars.length : Int) (i : Int)) ([], false) ∧ Ev (fun k => spec_Merge.l0 k l a b vars [] (i : Int)) ([], false)) := by
  have hw : wrap64 ((l.length : Int) - 1) = (l.length : Int) - 1 := wrap64_id (by omega) (by omega)
  intro d
  induction d with
  | zero =>
    intro i hd hi xs bf hlen hsel b0 b1
    left
    have hxs : xs = (List.range l.length).map (selM a b vars) := by
      apply List.ext_getElem?
      intro j
      by_cases hj : j < l.length
      · have := hsel j hj
        rw [List.take_of_length_le (by omega)] at this
        rw [List.getElem?_map, List.getElem?_range hj, List.getElem?_eq_getElem (by omega), ← rdE_T149 xs j (by omega), this]
        rfl
      · rw [List.getElem?_eq_none (by omega), List.getElem?_eq_none (by simp; omega)]
    refine ⟨Ev.step (f := fun _ => some ((List.range l.length).map (selM a b vars), true)) (fun k => ?_) (Ev.now _), fun z hz => Ev.step (fun k => ?_) hz⟩
    · simp (disch := omega) only [impl_Merge.l1, ↓if_neg]
      rw [hxs]
    · simp (disch := omega) only [spec_Merge.l0, ↓if_neg]
  | succ d ih =>
    intro i hd hi xs bf hlen hsel b0 b1
    have hil : i < vars.length := by omega
    obtain ⟨x, hxe⟩ : ∃ x, x = rd vars (i : Int) := ⟨_, rfl⟩
    have hbf : -1 ≤ bf := by
      by_cases i0 : i = 0
      · have := b0 i0; omega
      · obtain ⟨q, rfl⟩ : ∃ q, i = q + 1 := ⟨i - 1, by omega⟩
        have := (b1 q rfl).2; omega
    by_cases c1 : x ≤ bf
    · right
      refine ⟨Ev.step (f := fun _ => some ([], false)) (fun k => ?_) (Ev.now _), Ev.step (f := fun _ => some ([], false)) (fun k => ?_) (Ev.now _)⟩
      · simp (disch := omega) only [impl_Merge.l1, ← hxe, ↓if_pos, if_pos c1]
      · by_cases i0 : i = 0
        · have hb0 := b0 i0
          have dn : decide (0 ≤ x ∧ x ≤ (l.length : Int) - 1) = false := decide_eq_false (by omega)
          simp (disch := omega) only [spec_Merge.l0, ← hxe, ↓if_pos, l1In_eq, hw, dn, Option.bind_some, ↓reduceIte, Bool.false_eq_true]
        · obtain ⟨q, rfl⟩ : ∃ q, i = q + 1 := ⟨i - 1, by omega⟩
          obtain ⟨hq, hq0⟩ := b1 q rfl
          have e1 : wrap64 (((q + 1 : Nat) : Int) - 1) = (q : Int) := by rw [wrap64_id (by omega) (by omega)]; omega
          rw [hq] at c1
          by_cases ci : 0 ≤ x ∧ x ≤ (l.length : Int) - 1
          · have dn := decide_eq_true ci
            simp (disch := omega) only [spec_Merge.l0, ← hxe, ↓if_pos, l1In_eq, hw, dn, Option.bind_some, ↓reduceIte, e1, if_pos c1]
          · have dn := decide_eq_false ci
            simp (disch := omega) only [spec_Merge.l0, ← hxe, ↓if_pos, l1In_eq, hw, dn, Option.bind_some, ↓reduceIte, Bool.false_eq_true]
    · by_cases c2 : x ≥ (l.length : Int)
      · right
        have dn : decide (0 ≤ x ∧ x ≤ (l.length : Int) - 1) = false := decide_eq_false (by omega)
        refine ⟨Ev.step (f := fun _ => some ([], false)) (fun k => ?_) (Ev.now _), Ev.step (f := fun _ => some ([], false)) (fun k => ?_) (Ev.now _)⟩
        · simp (disch := omega) only [impl_Merge.l1, ← hxe, ↓if_pos, if_neg c1, if_pos c2]
        · simp (disch := omega) only [spec_Merge.l0, ← hxe, ↓if_pos, l1In_eq, hw, dn, Option.bind_some, ↓reduceIte, Bool.false_eq_true]
      · have x0 : 0 ≤ x := by omega
        obtain ⟨u, hu⟩ : ∃ u : Nat, x = (u : Int) := ⟨x.toNat, by omega⟩
        have hul : u < l.length := by omega
        have dn : decide (0 ≤ x ∧ x ≤ (l.length : Int) - 1) = true := decide_eq_true (by omega)
        have htake : vars.take (i + 1) = vars.take i ++ [x] := by
          rw [List.take_add_one, List.getElem?_eq_getElem hil]
          congr 1
          rw [hxe]
          unfold rd
          rw [List.getD_eq_getElem?_getD, Int.toNat_natCast, List.getElem?_eq_getElem hil]
          rfl
        have rest := ih (i + 1) (by omega) (by omega) (xs.set u ⟨(rd_T149 b x).f0, (rd_T149 b x).f1⟩) x (by rw [List.length_set]; exact hlen) (fun j hj => by
          by_cases e : u = j
          · subst e
            rw [rdset_eq _ _ (by omega)]
            unfold selM
            rw [if_pos (by rw [htake, hu]; exact List.mem_append_right _ (List.mem_singleton.2 rfl)), hu]
          · rw [rdset_ne _ _ _ _ e, hsel j hj]
            unfold selM
            have : ((j : Int) ∈ vars.take (i + 1)) = ((j : Int) ∈ vars.take i) := by
              rw [htake]
              exact propext ⟨fun h => (List.mem_append.1 h).elim id (fun h => absurd (List.mem_singleton.1 h) (by omega)), fun h => List.mem_append_left _ h⟩
            simp only [this]) (fun h => absurd h (by omega)) (fun q hq => by
          obtain rfl : q = i := by omega
          exact ⟨hxe, x0⟩)
        have s1 : ∀ z, Ev (fun k => impl_Merge.l1 k l b (xs.set u ⟨(rd_T149 b x).f0, (rd_T149 b x).f1⟩) x vars (vars.length : Int) ((i + 1 : Nat) : Int)) z → Ev (fun k => impl_Merge.l1 k l b xs bf vars (vars.length : Int) (i : Int)) z := fun z hz => Ev.step (fun k => by
          have hcl := clone_eq (rd_T149 b x) (by rw [hu]; exact hx u hul)
          have hun : x.toNat = u := by omega
          simp (disch := omega) only [impl_Merge.l1, ← hxe, ↓if_pos, if_neg c1, if_neg c2, hcl, Option.bind_some, hun, wrap_next]) hz
        have s2 : ∀ z, Ev (fun k => spec_Merge.l0 k l a b vars [] ((i + 1 : Nat) : Int)) z → Ev (fun k => spec_Merge.l0 k l a b vars [] (i : Int)) z := fun z hz => by
          by_cases i0 : i = 0
          · exact Ev.step (fun k => by
              simp (disch := omega) only [spec_Merge.l0, ← hxe, ↓if_pos, ↓if_neg, l1In_eq, hw, dn, Option.bind_some, ↓reduceIte, wrap_next]) hz
          · obtain ⟨q, rfl⟩ : ∃ q, i = q + 1 := ⟨i - 1, by omega⟩
            obtain ⟨hq, hq0⟩ := b1 q rfl
            have e1 : wrap64 (((q + 1 : Nat) : Int) - 1) = (q : Int) := by rw [wrap64_id (by omega) (by omega)]; omega
            rw [hq] at c1
            exact Ev.step (fun k => by
              simp (disch := omega) only [spec_Merge.l0, ← hxe, ↓if_pos, l1In_eq, hw, dn, Option.bind_some, ↓reduceIte, e1, if_neg c1, wrap_next]) hz
        rcases rest with ⟨a1, a2⟩ | ⟨a1, a2⟩
        · exact .inl ⟨s1 _ a1, fun z hz => s2 z (a2 z hz)⟩
        · exact .inr ⟨s1 _ a1, s2 _ a2⟩
theorem merge_agree (l : List S146) (a b : List S149) (vars : List Int) (U0 : (l.length : Int) ≤ 1048576 ∧ ∀ y ∈ l, UpI_Decl 1048576 y) (W0 : ∀ y ∈ l, WfI_Decl y) (U1 : (a.length : Int) ≤ 1048576 ∧ ∀ y ∈ a, UpI_Bits 1048576 y) (W1 : ∀ y ∈ a, WfI_Bits y) (U2 : (b.length : Int) ≤ 1048576 ∧ ∀ y ∈ b, UpI_Bits 1048576 y) (W2 : ∀ y ∈ b, WfI_Bits y) (U3 : (vars.length : Int) ≤ 1048576) (W3 : ∀ y ∈ vars, -9223372036854775808 ≤ y ∧ y ≤ 9223372036854775807) :
    ∃ (y0 : List S149) (y1 : Bool), Ev (fun k => spec_Merge.f k l a b vars) (y0, y1) ∧ Ev (fun k => impl_Merge.f k l a b vars) (y0, y1) ∧ ((y0.length : Int) ≤ 1048576 ∧ ∀ y ∈ y0, UpI_Bits 1048576 y) := by
  have nil_up : ((([] : List S149).length : Int) ≤ 1048576 ∧ ∀ y ∈ ([] : List S149), UpI_Bits 1048576 y) := ⟨by simp, fun y hy => by cases hy⟩
  obtain ⟨z1, ⟨K1, h1⟩, ⟨K2, h2⟩, h3⟩ := values_core l a (upDecl U0) U1.1 (upBits U1 W1)
  obtain ⟨z2, ⟨K3, g1⟩, ⟨K4, g2⟩, g3⟩ := values_core l b (upDecl U0) U2.1 (upBits U2 W2)
  cases z1 with
  | false =>
    refine ⟨[], false, ⟨K1 + 1, fun k hk => ?_⟩, ⟨K2 + 1, fun k hk => ?_⟩, nil_up⟩
    · have h1 := h1 k (by omega)
      obtain ⟨m, rfl⟩ : ∃ m, k = m + 1 := ⟨k - 1, by omega⟩
      dsimp only at h1 ⊢
      simp only [spec_Merge.f, Option.bind_some, h1, ↓reduceIte, Bool.false_eq_true, spec_Merge.j0]
    · have h2 := h2 k (by omega)
      obtain ⟨m, rfl⟩ : ∃ m, k = m + 1 := ⟨k - 1, by omega⟩
      dsimp only at h2 ⊢
      simp only [impl_Merge.f, Option.bind_some, h2, ↓reduceIte, Bool.false_eq_true, impl_Merge.j0]
  | true =>
    obtain ⟨hg, hva⟩ := h3 rfl
    have hl := hg.len
    have g2' : ∀ k, K2 + K4 ≤ k → impl_valuesOk.f k l b = some z2 := fun k hk => by
      have h2 := h2 k (by omega)
      have g2 := g2 k (by omega)
      dsimp only at h2 g2
      unfold impl_ValuesOk.f at h2 g2
      cases hd : impl_DeclsOk.f k l with
      | none => rw [hd] at h2; cases h2
      | some t =>
        rw [hd] at h2 g2
        cases t with
        | false => simp at h2
        | true =>
          cases hv : impl_valuesOk.f k l b with
          | none => rw [hv] at g2; simp at g2
          | some t => rw [hv] at g2; simpa using g2
    cases z2 with
    | false =>
      refine ⟨[], false, ⟨K1 + K3 + 1, fun k hk => ?_⟩, ⟨K2 + K4 + 1, fun k hk => ?_⟩, nil_up⟩
      · have h1 := h1 k (by omega)
        have g1 := g1 k (by omega)
        obtain ⟨m, rfl⟩ : ∃ m, k = m + 1 := ⟨k - 1, by omega⟩
        dsimp only at h1 g1 ⊢
        simp only [spec_Merge.f, Option.bind_some, h1, g1, ↓reduceIte, Bool.not_false, spec_Merge.j0]
      · have h2 := h2 k (by omega)
        have g2 := g2' k (by omega)
        obtain ⟨m, rfl⟩ : ∃ m, k = m + 1 := ⟨k - 1, by omega⟩
        dsimp only at h2 ⊢
        simp only [impl_Merge.f, Option.bind_some, h2, g2, ↓reduceIte, Bool.not_false, impl_Merge.j0]
    | true =>
      obtain ⟨_, hvb⟩ := g3 rfl
      have ha := hva.1
      have hb := hvb.1
      have hxa : ∀ j : Nat, j < l.length → (rd_T149 a (j : Int)).f1.length ≤ 1048576 := fun j hj => (upBits U1 W1 _ (rdM_T149 a j (by omega))).2.1
      have hxb : ∀ j : Nat, j < l.length → (rd_T149 b (j : Int)).f1.length ≤ 1048576 := fun j hj => (upBits U2 W2 _ (rdM_T149 b j (by omega))).2.1
      have hbuild := merge_build l a b vars hl ha hb (by omega) (fun j hj => ⟨hxa j hj, hxb j hj⟩) l.length 0 (by omega) (by omega)
      have sp : ∀ y, Ev (fun k => spec_Merge.l0 k l a b vars [] ((0 : Nat) : Int)) y → Ev (fun k => spec_Merge.f k l a b vars) y := fun y hy => by
        obtain ⟨K, h⟩ := hy
        refine ⟨K + K1 + K3 + 1, fun k hk => ?_⟩
        have h1 := h1 k (by omega)
        have g1 := g1 k (by omega)
        obtain ⟨m, rfl⟩ : ∃ m, k = m + 1 := ⟨k - 1, by omega⟩
        have h := h m (by omega)
        dsimp only at h1 g1 h ⊢
        simp only [spec_Merge.f, Option.bind_some, h1, g1, ↓reduceIte, Bool.not_true, Bool.false_eq_true, spec_Merge.j0]
        exact h
      have im : ∀ y, (∀ xs : List S149, xs.length = a.length → (∀ j : Nat, j < a.length → rd_T149 xs (j : Int) = rd_T149 a (j : Int)) → Ev (fun k => impl_Merge.l1 k l b xs (-1) vars (vars.length : Int) 0) y) → Ev (fun k => impl_Merge.f k l a b vars) y := fun y hy => by
        obtain ⟨K, h⟩ := merge_copy l a b vars (by omega) (fun j hj => hxa j (by omega)) y hy a.length 0 (by omega) (by omega) (List.replicate a.length z149) (by simp) (fun j hj => absurd hj (by omega))
        refine ⟨K + K2 + K4 + 1, fun k hk => ?_⟩
        have h2 := h2 k (by omega)
        have g2 := g2' k (by omega)
        obtain ⟨m, rfl⟩ : ∃ m, k = m + 1 := ⟨k - 1, by omega⟩
        have h := h m (by omega)
        dsimp only at h2 h ⊢
        simp (disch := omega) only [impl_Merge.f, Option.bind_some, h2, g2, ↓reduceIte, Bool.not_true, Bool.false_eq_true, impl_Merge.j0, ↓if_pos, Int.toNat_natCast]
        exact h
      have key := fun (xs : List S149) (h1 : xs.length = a.length) (h2 : ∀ j : Nat, j < a.length → rd_T149 xs (j : Int) = rd_T149 a (j : Int)) => merge_vars l a b vars hl ha hb (by omega) hxb vars.length 0 (by omega) (by omega) xs (-1) (by omega) (fun j hj => by rw [h2 j (by omega)]; unfold selM; rw [List.take_zero, if_neg (by intro h; cases h)]) (fun _ => rfl) (fun q hq => absurd hq (by omega))
      have k0 := key a rfl (fun _ _ => rfl)
      rcases k0 with ⟨a1, a2⟩ | ⟨a1, a2⟩
      · refine ⟨(List.range l.length).map (selM a b vars), true, sp _ (a2 _ hbuild), im _ (fun xs p1 p2 => ?_), ⟨by simp; omega, fun y hy => ?_⟩⟩
        · rcases key xs p1 p2 with ⟨b1, _⟩ | ⟨_, b2⟩
          · exact b1
          · obtain ⟨Ka, ka⟩ := a2 _ hbuild
            obtain ⟨Kb, kb⟩ := b2
            have e1 := ka (Ka + Kb) (by omega)
            have e2 := kb (Ka + Kb) (by omega)
            dsimp only at e1 e2
            rw [e1] at e2
            simp at e2
        · obtain ⟨j, hj, rfl⟩ := List.mem_map.1 hy
          have hj := List.mem_range.1 hj
          unfold selM
          split
          · exact U2.2 _ (rdM_T149 b j (by omega))
          · exact U1.2 _ (rdM_T149 a j (by omega))
      · refine ⟨[], false, sp _ a2, im _ (fun xs p1 p2 => ?_), nil_up⟩
        rcases key xs p1 p2 with ⟨b1, b3⟩ | ⟨b1, _⟩
        · obtain ⟨Ka, ka⟩ := b3 _ hbuild
          obtain ⟨Kb, kb⟩ := a2
          have e1 := ka (Ka + Kb) (by omega)
          have e2 := kb (Ka + Kb) (by omega)
          dsimp only at e1 e2
          rw [e1] at e2
          simp at e2
        · exact b1
-- SAYS: The program's Merge answers as the reference's Merge does, for all arguments.
theorem FnExactMerge (l0 : List S142) (l1 : List S160) (l2 : List S160) (l3 : List Int) (q0 : ∀ x ∈ l0, x.f0.size ≤ maxLen ∧ (Lit.int .i64 x.f1).wf = true) (hl0 : l0.length ≤ 9223372036854775807) (q1 : ∀ x ∈ l1, (Lit.int .i64 x.f0).wf = true ∧ (x.f1.length ≤ 9223372036854775807 ∧ ∀ y0 ∈ x.f1, (Lit.int .u64 y0).wf = true)) (hl1 : l1.length ≤ 9223372036854775807) (q2 : ∀ x ∈ l2, (Lit.int .i64 x.f0).wf = true ∧ (x.f1.length ≤ 9223372036854775807 ∧ ∀ y0 ∈ x.f1, (Lit.int .u64 y0).wf = true)) (hl2 : l2.length ≤ 9223372036854775807) (q3 : ∀ x ∈ l3, (Lit.int .i64 x).wf = true) (hl3 : l3.length ≤ 9223372036854775807) : ∃ k, laws_FnExactMerge.f k l0 l1 l2 l3 = some true := by
  by_cases b3 : (l3.length : Int) > 1048576
  · have c3 := eq_true b3
    exact ⟨1 + 1 + 1 + 1, by simp (disch := omega) only [laws_FnExactMerge.f, ↓reduceIte, c3]⟩
  have c3 := eq_false b3
  have u3 : (l3.length : Int) ≤ 1048576 := by omega
  obtain ⟨r0, g0, hb0⟩ := sz_DeclS l0 1048576 (⟨Int.ofNat_le.2 (And.intro hl0 q0).1, fun y hy => in_Decl y ((And.intro hl0 q0).2 y hy)⟩) (by omega) (by omega)
  obtain ⟨Ks0, s0⟩ := Ev.binds (g0)
  rcases hb0 with hneg | ⟨p0, z0, u0⟩
  · have c0 := eq_true hneg
    exact ⟨Ks0 + 1 + 1 + 1 + 1, by simp (disch := omega) only [laws_FnExactMerge.f, ↓s0, ↓reduceIte, c3, c0]⟩
  have c0 := eq_false (show ¬ r0 < 0 by omega)
  obtain ⟨r1, g1, hb1⟩ := sz_BitsS l1 r0 (⟨Int.ofNat_le.2 (And.intro hl1 q1).1, fun y hy => in_Bits y ((And.intro hl1 q1).2 y hy)⟩) (by omega) (by omega)
  obtain ⟨Ks1, s1⟩ := Ev.binds (g1)
  rcases hb1 with hneg | ⟨p1, z1, u1⟩
  · have c1 := eq_true hneg
    exact ⟨Ks0 + Ks1 + 1 + 1 + 1 + 1, by simp (disch := omega) only [laws_FnExactMerge.f, ↓s0, ↓s1, ↓reduceIte, c3, c0, c1]⟩
  have c1 := eq_false (show ¬ r1 < 0 by omega)
  obtain ⟨r2, g2, hb2⟩ := sz_BitsS l2 r1 (⟨Int.ofNat_le.2 (And.intro hl2 q2).1, fun y hy => in_Bits y ((And.intro hl2 q2).2 y hy)⟩) (by omega) (by omega)
  obtain ⟨Ks2, s2⟩ := Ev.binds (g2)
  rcases hb2 with hneg | ⟨p2, z2, u2⟩
  · have c2 := eq_true hneg
    exact ⟨Ks0 + Ks1 + Ks2 + 1 + 1 + 1 + 1, by simp (disch := omega) only [laws_FnExactMerge.f, ↓s0, ↓s1, ↓s2, ↓reduceIte, c3, c0, c1, c2]⟩
  have c2 := eq_false (show ¬ r2 < 0 by omega)
  have U0 : (((l0.map cv_Decl).length : Int) ≤ 1048576 ∧ ∀ y ∈ (l0.map cv_Decl), UpI_Decl 1048576 y) := ⟨by simpa using u0.1, fun y hy => by obtain ⟨z, hz, rfl⟩ := List.mem_map.1 hy; exact upcv_Decl _ z (u0.2 z hz)⟩
  have W0 : (∀ y ∈ (l0.map cv_Decl), WfI_Decl y) := (fun y hy => by obtain ⟨z, hz, rfl⟩ := List.mem_map.1 hy; exact wf_Decl z ((And.intro hl0 q0).2 z hz))
  have U1 : (((l1.map cv_Bits).length : Int) ≤ 1048576 ∧ ∀ y ∈ (l1.map cv_Bits), UpI_Bits 1048576 y) := ⟨by simpa using u1.1, fun y hy => by obtain ⟨z, hz, rfl⟩ := List.mem_map.1 hy; exact upcv_Bits _ z (u1.2 z hz)⟩
  have W1 : (∀ y ∈ (l1.map cv_Bits), WfI_Bits y) := (fun y hy => by obtain ⟨z, hz, rfl⟩ := List.mem_map.1 hy; exact wf_Bits z ((And.intro hl1 q1).2 z hz))
  have U2 : (((l2.map cv_Bits).length : Int) ≤ 1048576 ∧ ∀ y ∈ (l2.map cv_Bits), UpI_Bits 1048576 y) := ⟨by simpa using u2.1, fun y hy => by obtain ⟨z, hz, rfl⟩ := List.mem_map.1 hy; exact upcv_Bits _ z (u2.2 z hz)⟩
  have W2 : (∀ y ∈ (l2.map cv_Bits), WfI_Bits y) := (fun y hy => by obtain ⟨z, hz, rfl⟩ := List.mem_map.1 hy; exact wf_Bits z ((And.intro hl2 q2).2 z hz))
  have U3 : ((l3.length : Int) ≤ 1048576) := u3
  have W3 : (∀ y ∈ l3, (-9223372036854775808 ≤ y ∧ y ≤ 9223372036854775807)) := (fun a5_ ha5_ => (wf_i64 ((And.intro hl3 q3).2 a5_ ha5_)))
  obtain ⟨y0, y1, e1, e2, v0⟩ := merge_agree ((l0.map cv_Decl)) ((l1.map cv_Bits)) ((l2.map cv_Bits)) l3 U0 W0 U1 W1 U2 W2 U3 W3
  obtain ⟨Kt0, t0⟩ := Ev.binds (to_DeclS l0 u0)
  obtain ⟨Kt1, t1⟩ := Ev.binds (to_BitsS l1 u1)
  obtain ⟨Kt2, t2⟩ := Ev.binds (to_BitsS l2 u2)
  obtain ⟨Kt3, t3⟩ := Ev.binds (to_Int64S l3 u3)
  obtain ⟨Khs, hs⟩ := Ev.binds (e1)
  obtain ⟨Khi, hi⟩ := Ev.binds (e2)
  obtain ⟨Ke0_, e0_⟩ := Ev.binds (eq_DeclS ((l0.map cv_Decl)) U0)
  obtain ⟨Ke1_, e1_⟩ := Ev.binds (eq_BitsS ((l1.map cv_Bits)) U1)
  obtain ⟨Ke2_, e2_⟩ := Ev.binds (eq_BitsS ((l2.map cv_Bits)) U2)
  obtain ⟨Ke3_, e3_⟩ := Ev.binds (eq_Int64S l3 U3)
  obtain ⟨Kf0_, f0_⟩ := Ev.binds (eq_BitsS y0 v0)
  obtain ⟨m0, n0_0, g0_, o0, w0⟩ := mark_DeclS ((l0.map cv_Decl)) U0 1 (by omega) (by omega)
  obtain ⟨Kk0_, k0_⟩ := Ev.binds (g0_)
  obtain ⟨m1, n1_0, g1_, o1, w1, _⟩ := mark_BitsS ((l1.map cv_Bits)) U1 m0 (by omega) (by omega)
  obtain ⟨Kk1_, k1_⟩ := Ev.binds (g1_)
  obtain ⟨m2, n2_0, g2_, o2, w2, _⟩ := mark_BitsS ((l2.map cv_Bits)) U2 m1 (by omega) (by omega)
  obtain ⟨Kk2_, k2_⟩ := Ev.binds (g2_)
  obtain ⟨m3, n3_0, g3_, o3, w3⟩ := mark_Int64S l3 U3 m2 (by omega) (by omega)
  obtain ⟨Kk3_, k3_⟩ := Ev.binds (g3_)
  have cm := eq_false (show ¬ m3 < 0 by omega)
  obtain ⟨M0, N0_0, G0_, O0, A0, H0_⟩ := mark_BitsS y0 v0 1 (by omega) (by omega)
  obtain ⟨Kx0_, x0_⟩ := Ev.binds (G0_)
  obtain ⟨Kz0_, z0_⟩ := Ev.binds (H0_)
  have cn0 := eq_false (show ¬ M0 < 0 by omega)
  exact ⟨Ks0 + Ks1 + Ks2 + Kt0 + Kt1 + Kt2 + Kt3 + Khs + Khi + Ke0_ + Ke1_ + Ke2_ + Ke3_ + Kf0_ + Kk0_ + Kk1_ + Kk2_ + Kk3_ + Kx0_ + Kz0_ + 1 + 1 + 1 + 1, by simp (disch := omega) only [laws_FnExactMerge.f, ↓s0, ↓s1, ↓s2, ↓t0, ↓t1, ↓t2, ↓t3, ↓hs, ↓hi, ↓e0_, ↓e1_, ↓e2_, ↓e3_, ↓f0_, ↓k0_, ↓k1_, ↓k2_, ↓k3_, ↓x0_, ↓z0_, ↓reduceIte, c3, c0, c1, c2, cm, cn0, bne_self_eq_false, Bool.false_eq_true, Bool.not_true, Bool.not_false]⟩

end Go.Proofs.Ytjmnhcooimdioaa.Pure
