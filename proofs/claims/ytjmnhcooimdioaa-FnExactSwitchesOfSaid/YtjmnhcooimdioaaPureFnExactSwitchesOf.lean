/- The program's SwitchesOf answers as the reference's SwitchesOf does, for all arguments. -/
import Derived.Test.YtjmnhcooimdioaaPFnExactSwitchesOfx12
import Derived.Test.YtjmnhcooimdioaaBits
import Derived.Test.YtjmnhcooimdioaaLoops
namespace Go.Proofs.Ytjmnhcooimdioaa.Pure
open Go Go.RowKit Go.Proofs.Ytjmnhcooimdioaa.PFnExactSwitchesOf Go.Proofs.YtjmnhcooimdioaaW.PrintWords Go.Proofs.YtjmnhcooimdioaaW.PrintLast Go.Proofs.YtjmnhcooimdioaaW.PrintMore Go.Proofs.Ytjmnhcooimdioaa.BitsLib Go.Proofs.Ytjmnhcooimdioaa.Loops
set_option linter.unusedVariables false
set_option linter.unusedSimpArgs false
set_option maxRecDepth 4000

/-! wrap_next -/
theorem wrap_next (i : Nat) (h : i < 4611686018427387904) : wrap64 ((i : Int) + 1) = ((i + 1 : Nat) : Int) := by
  rw [wrap64_id (by omega) (by omega)]; rfl

/-! szn_out -/
theorem szn_out (n : Nat) (left : Int) (hn : (n : Int) ≤ 9223372036854775807) (h0 : 0 ≤ left) (h1 : left ≤ 1048576) :
    ∃ r, (True → wrap64 (left - (n : Int)) = r) ∧ (r < 0 ∨ (0 ≤ r ∧ r ≤ left ∧ (n : Int) ≤ 1048576)) := by
  refine ⟨left - (n : Int), fun _ => wrap64_id (by omega) (by omega), ?_⟩
  by_cases c : left - (n : Int) < 0
  · exact .inl c
  · exact .inr (by omega)

/-! UpL_Bits -/
def UpL_Bits (c : Int) (x : S160) : Prop := ((x.f1.length : Int) ≤ c)

/-! rdE_T160 -/
theorem rdE_T160 (l : List S160) (i : Nat) (h : i < l.length) : rd_T160 l (i : Int) = l[i] := by
  unfold rd_T160
  rw [List.getD_eq_getElem?_getD, Int.toNat_natCast, List.getElem?_eq_getElem h]; rfl
theorem rdM_T160 (l : List S160) (i : Nat) (h : i < l.length) : rd_T160 l (i : Int) ∈ l := by rw [rdE_T160 l i h]; exact List.getElem_mem h

/-! sz_Uint64S -/
theorem sz_Uint64S (x : List Int) (left : Int) (hin : ((x.length : Int) ≤ 9223372036854775807)) (h0 : 0 ≤ left) (h1 : left ≤ 1048576) :
    ∃ r, Ev (fun k => laws_szUint64S.f x left) r ∧ (r < 0 ∨ (0 ≤ r ∧ r ≤ left ∧ ((x.length : Int) ≤ 1048576))) := by
  obtain ⟨r, hr, hb⟩ := szn_out x.length left hin h0 h1
  rcases hb with c | ⟨p0, q0, u0⟩
  · exact ⟨-1, ⟨0, fun k _ => by dsimp only; unfold laws_szUint64S.f; rw [hr trivial, if_pos c]⟩, .inl (by omega)⟩
  · exact ⟨r, ⟨0, fun k _ => by dsimp only; unfold laws_szUint64S.f; rw [hr trivial, if_neg (by omega)]⟩, .inr ⟨p0, q0, u0⟩⟩

/-! sz_Bits -/
theorem sz_Bits (x : S160) (left : Int) (hin : UpL_Bits 9223372036854775807 x) (h0 : 0 ≤ left) (h1 : left ≤ 1048576) :
    ∃ r, Ev (fun k => laws_szBits.f x.f0 x.f1 left) r ∧ (r < 0 ∨ (0 ≤ r ∧ r ≤ left ∧ UpL_Bits 1048576 x)) := by
  unfold UpL_Bits at hin
  have i1 := hin
  obtain ⟨r1, ⟨K1, e1⟩, hb1⟩ := sz_Uint64S x.f1 left i1 (by omega) (by omega)
  rcases hb1 with c1 | ⟨p1, q1, u1⟩
  · exact ⟨-1, ⟨K1, fun k hk => by have e1 := e1 k (by omega); dsimp only at e1 ⊢; unfold laws_szBits.f; rw [e1]; simp only [Option.bind_some]; rw [if_pos c1]⟩, .inl (by omega)⟩
  exact ⟨r1, ⟨K1, fun k hk => by have e1 := e1 k (by omega); dsimp only at e1 ⊢; unfold laws_szBits.f; rw [e1]; simp only [Option.bind_some]; rw [if_neg (by omega)]⟩, .inr ⟨by omega, by omega, u1⟩⟩

/-! sz_BitsS -/
theorem sz_BitsS (x : List S160) (left : Int) (hin : ((x.length : Int) ≤ 9223372036854775807 ∧ ∀ y ∈ x, UpL_Bits 9223372036854775807 y)) (h0 : 0 ≤ left) (h1 : left ≤ 1048576) :
    ∃ r, Ev (fun k => laws_szBitsS.f k x left) r ∧ (r < 0 ∨ (0 ≤ r ∧ r ≤ left ∧ ((x.length : Int) ≤ 1048576 ∧ ∀ y ∈ x, UpL_Bits 1048576 y))) := by
  obtain ⟨hl, hx⟩ := hin
  obtain ⟨r0, hr0, hb0⟩ := szn_out x.length left hl h0 h1
  rcases hb0 with c | ⟨p0, q0, u0⟩
  · exact ⟨-1, ⟨0, fun k _ => by dsimp only; unfold laws_szBitsS.f; rw [hr0 trivial, if_pos c]⟩, .inl (by omega)⟩
  · have main : ∀ d i, x.length - i = d → i ≤ x.length → ∀ lf, 0 ≤ lf → lf ≤ left → ∃ r, Ev (fun k => laws_szBitsS.l0 k x lf (i : Int)) r ∧ (r < 0 ∨ (0 ≤ r ∧ r ≤ lf ∧ ∀ j : Nat, i ≤ j → j < x.length → UpL_Bits 1048576 ((rd_T160 x (j : Int))))) := by
      intro d
      induction d with
      | zero =>
        intro i hd hi lf g0 g1
        exact ⟨lf, Ev.step (f := fun _ => some lf) (fun k => by simp only [laws_szBitsS.l0]; rw [if_neg (by omega)]) (Ev.now _), .inr ⟨g0, Int.le_refl _, fun j g2 g3 => absurd g3 (by omega)⟩⟩
      | succ d ih =>
        intro i hd hi lf g0 g1
        have hil : i < x.length := by omega
        obtain ⟨r, ⟨K, hr⟩, hrb⟩ := sz_Bits (rd_T160 x (i : Int)) lf (hx _ (rdM_T160 x i hil)) g0 (by omega)
        rcases hrb with hneg | ⟨p1, p2, p3⟩
        · refine ⟨-1, ⟨K + 1, fun k hk => ?_⟩, .inl (by omega)⟩
          obtain ⟨m, rfl⟩ : ∃ m, k = m + 1 := ⟨k - 1, by omega⟩
          have hr := hr m (by omega)
          dsimp only at hr ⊢
          simp only [laws_szBitsS.l0]
          rw [if_pos (by omega), if_pos (by omega), hr]
          simp only [Option.bind_some]
          rw [if_pos hneg]
        · obtain ⟨r2, ⟨K2, h2⟩, hb2⟩ := ih (i + 1) (by omega) (by omega) r p1 (by omega)
          refine ⟨r2, ⟨K + K2 + 1, fun k hk => ?_⟩, ?_⟩
          · obtain ⟨m, rfl⟩ : ∃ m, k = m + 1 := ⟨k - 1, by omega⟩
            have hr := hr m (by omega)
            have h2 := h2 m (by omega)
            dsimp only at hr h2 ⊢
            simp only [laws_szBitsS.l0]
            rw [if_pos (by omega), if_pos (by omega), hr]
            simp only [Option.bind_some]
            rw [if_neg (by omega), wrap_next i (by omega)]
            exact h2
          · rcases hb2 with hb2 | ⟨s0, s1, s2⟩
            · exact .inl hb2
            · refine .inr ⟨s0, by omega, fun j g2 g3 => ?_⟩
              by_cases e : j = i
              · rw [e]; exact p3
              · exact s2 j (by omega) g3
    obtain ⟨r, ⟨K, hr⟩, hb⟩ := main x.length 0 (by omega) (by omega) r0 p0 q0
    refine ⟨r, ⟨K, fun k hk => ?_⟩, ?_⟩
    · have hr := hr k hk
      dsimp only at hr ⊢
      unfold laws_szBitsS.f
      rw [hr0 trivial, if_neg (by omega)]
      exact hr
    · rcases hb with hb | ⟨s0, s1, s2⟩
      · exact .inl hb
      · refine .inr ⟨s0, by omega, by omega, fun y hy => ?_⟩
        obtain ⟨j, hjl, rfl⟩ := List.getElem_of_mem hy
        have := s2 j (by omega) hjl
        rwa [rdE_T160 x j hjl] at this

/-! UpL_Decl -/
def UpL_Decl (c : Int) (x : S142) : Prop := ((x.f0.size : Int) ≤ c)

/-! rdE_T142 -/
theorem rdE_T142 (l : List S142) (i : Nat) (h : i < l.length) : rd_T142 l (i : Int) = l[i] := by
  unfold rd_T142
  rw [List.getD_eq_getElem?_getD, Int.toNat_natCast, List.getElem?_eq_getElem h]; rfl
theorem rdM_T142 (l : List S142) (i : Nat) (h : i < l.length) : rd_T142 l (i : Int) ∈ l := by rw [rdE_T142 l i h]; exact List.getElem_mem h

/-! sz_Decl -/
theorem sz_Decl (x : S142) (left : Int) (hin : UpL_Decl 9223372036854775807 x) (h0 : 0 ≤ left) (h1 : left ≤ 1048576) :
    ∃ r, Ev (fun k => laws_szDecl.f x.f0 x.f1 left) r ∧ (r < 0 ∨ (0 ≤ r ∧ r ≤ left ∧ UpL_Decl 1048576 x)) := by
  unfold UpL_Decl at hin
  have i0 := hin
  obtain ⟨r0, e0, hb0⟩ := szn_out x.f0.size left i0 (by omega) (by omega)
  rcases hb0 with c0 | ⟨p0, q0, u0⟩
  · exact ⟨-1, ⟨0, fun k hk => by dsimp only; unfold laws_szDecl.f; rw [e0 trivial]; rw [if_pos c0]⟩, .inl (by omega)⟩
  exact ⟨r0, ⟨0, fun k hk => by dsimp only; unfold laws_szDecl.f; rw [e0 trivial]; rw [if_neg (by omega)]⟩, .inr ⟨by omega, by omega, u0⟩⟩

/-! sz_DeclS -/
theorem sz_DeclS (x : List S142) (left : Int) (hin : ((x.length : Int) ≤ 9223372036854775807 ∧ ∀ y ∈ x, UpL_Decl 9223372036854775807 y)) (h0 : 0 ≤ left) (h1 : left ≤ 1048576) :
    ∃ r, Ev (fun k => laws_szDeclS.f k x left) r ∧ (r < 0 ∨ (0 ≤ r ∧ r ≤ left ∧ ((x.length : Int) ≤ 1048576 ∧ ∀ y ∈ x, UpL_Decl 1048576 y))) := by
  obtain ⟨hl, hx⟩ := hin
  obtain ⟨r0, hr0, hb0⟩ := szn_out x.length left hl h0 h1
  rcases hb0 with c | ⟨p0, q0, u0⟩
  · exact ⟨-1, ⟨0, fun k _ => by dsimp only; unfold laws_szDeclS.f; rw [hr0 trivial, if_pos c]⟩, .inl (by omega)⟩
  · have main : ∀ d i, x.length - i = d → i ≤ x.length → ∀ lf, 0 ≤ lf → lf ≤ left → ∃ r, Ev (fun k => laws_szDeclS.l0 k x lf (i : Int)) r ∧ (r < 0 ∨ (0 ≤ r ∧ r ≤ lf ∧ ∀ j : Nat, i ≤ j → j < x.length → UpL_Decl 1048576 ((rd_T142 x (j : Int))))) := by
      intro d
      induction d with
      | zero =>
        intro i hd hi lf g0 g1
        exact ⟨lf, Ev.step (f := fun _ => some lf) (fun k => by simp only [laws_szDeclS.l0]; rw [if_neg (by omega)]) (Ev.now _), .inr ⟨g0, Int.le_refl _, fun j g2 g3 => absurd g3 (by omega)⟩⟩
      | succ d ih =>
        intro i hd hi lf g0 g1
        have hil : i < x.length := by omega
        obtain ⟨r, ⟨K, hr⟩, hrb⟩ := sz_Decl (rd_T142 x (i : Int)) lf (hx _ (rdM_T142 x i hil)) g0 (by omega)
        rcases hrb with hneg | ⟨p1, p2, p3⟩
        · refine ⟨-1, ⟨K + 1, fun k hk => ?_⟩, .inl (by omega)⟩
          obtain ⟨m, rfl⟩ : ∃ m, k = m + 1 := ⟨k - 1, by omega⟩
          have hr := hr m (by omega)
          dsimp only at hr ⊢
          simp only [laws_szDeclS.l0]
          rw [if_pos (by omega), if_pos (by omega), hr]
          simp only [Option.bind_some]
          rw [if_pos hneg]
        · obtain ⟨r2, ⟨K2, h2⟩, hb2⟩ := ih (i + 1) (by omega) (by omega) r p1 (by omega)
          refine ⟨r2, ⟨K + K2 + 1, fun k hk => ?_⟩, ?_⟩
          · obtain ⟨m, rfl⟩ : ∃ m, k = m + 1 := ⟨k - 1, by omega⟩
            have hr := hr m (by omega)
            have h2 := h2 m (by omega)
            dsimp only at hr h2 ⊢
            simp only [laws_szDeclS.l0]
            rw [if_pos (by omega), if_pos (by omega), hr]
            simp only [Option.bind_some]
            rw [if_neg (by omega), wrap_next i (by omega)]
            exact h2
          · rcases hb2 with hb2 | ⟨s0, s1, s2⟩
            · exact .inl hb2
            · refine .inr ⟨s0, by omega, fun j g2 g3 => ?_⟩
              by_cases e : j = i
              · rw [e]; exact p3
              · exact s2 j (by omega) g3
    obtain ⟨r, ⟨K, hr⟩, hb⟩ := main x.length 0 (by omega) (by omega) r0 p0 q0
    refine ⟨r, ⟨K, fun k hk => ?_⟩, ?_⟩
    · have hr := hr k hk
      dsimp only at hr ⊢
      unfold laws_szDeclS.f
      rw [hr0 trivial, if_neg (by omega)]
      exact hr
    · rcases hb with hb | ⟨s0, s1, s2⟩
      · exact .inl hb
      · refine .inr ⟨s0, by omega, by omega, fun y hy => ?_⟩
        obtain ⟨j, hjl, rfl⟩ := List.getElem_of_mem hy
        have := s2 j (by omega) hjl
        rwa [rdE_T142 x j hjl] at this

/-! UpI_Bits -/
def UpI_Bits (c : Int) (x : S149) : Prop := ((x.f1.length : Int) ≤ c)

/-! rdE_T149 -/
theorem rdE_T149 (l : List S149) (i : Nat) (h : i < l.length) : rd_T149 l (i : Int) = l[i] := by
  unfold rd_T149
  rw [List.getD_eq_getElem?_getD, Int.toNat_natCast, List.getElem?_eq_getElem h]; rfl
theorem rdM_T149 (l : List S149) (i : Nat) (h : i < l.length) : rd_T149 l (i : Int) ∈ l := by rw [rdE_T149 l i h]; exact List.getElem_mem h

/-! cv_Bits -/
def cv_Bits (x : S160) : S149 := ⟨x.f0, x.f1⟩

/-! upcv_Bits -/
theorem upcv_Bits (c : Int) (x : S160) (h : UpL_Bits c x) : UpI_Bits c (cv_Bits x) := by
  unfold UpL_Bits at h
  unfold UpI_Bits
  have i1 := h
  exact i1

/-! in_Bits -/
theorem in_Bits (x : S160) (h : (Lit.int .i64 x.f0).wf = true ∧ (x.f1.length ≤ 9223372036854775807 ∧ ∀ y0 ∈ x.f1, (Lit.int .u64 y0).wf = true)) : UpL_Bits 9223372036854775807 x := by
  obtain ⟨j0, j1⟩ := h
  unfold UpL_Bits
  exact (Int.ofNat_le.2 j1.1)

/-! to_Uint64S -/
theorem to_Uint64S (x : List Int) (h : ((x.length : Int) ≤ 1048576)) : Ev (fun k => laws_toUint64S.f k x) x := by
  have hl := h
  have main := up_loop x.length (filled (fun i => (rd x i)) (List.replicate x.length 0)) (fun k xs i => laws_toUint64S.l0 k x xs i)
    (fun i hi r h2 => by
      obtain ⟨K2, h2⟩ := h2
      refine ⟨K2 + 1, fun k hk => ?_⟩
      obtain ⟨m, rfl⟩ : ∃ m, k = m + 1 := ⟨k - 1, by omega⟩
      have h2 := h2 m (by omega)
      dsimp only at h2 ⊢
      rw [← filled_set _ _ (by simpa using hi)] at h2
      simp only [laws_toUint64S.l0]
      rw [if_pos (by omega), if_pos (by omega)]
      rw [if_pos (by rw [filled_len _ _ (by simp; omega)]; simp; omega), Int.toNat_natCast, wrap64_id (by omega) (by omega)]
      exact h2)
    x (Ev.step (f := fun _ => some x) (fun k => by
      simp only [laws_toUint64S.l0]
      rw [if_neg (by omega), filled_all _ _ (by simp)]
      congr 1
      exact list_of_rd x) (Ev.now _))
  rw [filled_zero] at main
  refine Ev.congr (fun k => ?_) main
  unfold laws_toUint64S.f
  rw [if_pos (by omega), if_pos (by omega), Int.toNat_natCast]

/-! to_Bits -/
theorem to_Bits (x : S160) (h : UpL_Bits 1048576 x) : Ev (fun k => laws_toBits.f k x.f0 x.f1) ((cv_Bits x).f0, (cv_Bits x).f1) := by
  unfold UpL_Bits at h
  have i1 := h
  obtain ⟨K1, e1⟩ := to_Uint64S x.f1 i1
  refine ⟨K1, fun k hk => ?_⟩
  have e1 := e1 k (by omega)
  dsimp only at e1 ⊢
  simp only [laws_toBits.f, e1, Option.bind_some]
  all_goals rfl

/-! to_BitsS -/
theorem to_BitsS (x : List S160) (h : ((x.length : Int) ≤ 1048576 ∧ ∀ y ∈ x, UpL_Bits 1048576 y)) : Ev (fun k => laws_toBitsS.f k x) (x.map cv_Bits) := by
  have hl := h.1
  have main := up_loop x.length (filled (fun i => (cv_Bits (rd_T160 x i))) (List.replicate x.length z149)) (fun k xs i => laws_toBitsS.l0 k x xs i)
    (fun i hi r h2 => by
      obtain ⟨K, he⟩ := to_Bits (rd_T160 x (i : Int)) (h.2 _ (rdM_T160 x i hi))
      obtain ⟨K2, h2⟩ := h2
      refine ⟨K + K2 + 1, fun k hk => ?_⟩
      obtain ⟨m, rfl⟩ : ∃ m, k = m + 1 := ⟨k - 1, by omega⟩
      have h2 := h2 m (by omega)
      have he := he m (by omega)
      dsimp only at he h2 ⊢
      rw [← filled_set _ _ (by simpa using hi)] at h2
      simp only [laws_toBitsS.l0]
      rw [if_pos (by omega), if_pos (by omega), he]
      simp only [Option.bind_some]
      rw [if_pos (by rw [filled_len _ _ (by simp; omega)]; simp; omega), Int.toNat_natCast, wrap64_id (by omega) (by omega)]
      exact h2)
    (x.map cv_Bits) (Ev.step (f := fun _ => some (x.map cv_Bits)) (fun k => by
      simp only [laws_toBitsS.l0]
      rw [if_neg (by omega), filled_all _ _ (by simp)]
      congr 1
      apply List.ext_getElem?
      intro i
      by_cases hi : i < x.length
      · simp [hi, rdE_T160]
      · rw [List.getElem?_eq_none (by first | omega | (simp; omega)), List.getElem?_eq_none (by first | omega | (simp; omega))]) (Ev.now _))
  rw [filled_zero] at main
  refine Ev.congr (fun k => ?_) main
  unfold laws_toBitsS.f
  rw [if_pos (by omega), if_pos (by omega), Int.toNat_natCast]

/-! UpI_Decl -/
def UpI_Decl (c : Int) (x : S146) : Prop := ((x.f0.size : Int) ≤ c)

/-! rdE_T146 -/
theorem rdE_T146 (l : List S146) (i : Nat) (h : i < l.length) : rd_T146 l (i : Int) = l[i] := by
  unfold rd_T146
  rw [List.getD_eq_getElem?_getD, Int.toNat_natCast, List.getElem?_eq_getElem h]; rfl
theorem rdM_T146 (l : List S146) (i : Nat) (h : i < l.length) : rd_T146 l (i : Int) ∈ l := by rw [rdE_T146 l i h]; exact List.getElem_mem h

/-! cv_Decl -/
def cv_Decl (x : S142) : S146 := ⟨x.f0, x.f1⟩

/-! upcv_Decl -/
theorem upcv_Decl (c : Int) (x : S142) (h : UpL_Decl c x) : UpI_Decl c (cv_Decl x) := by
  unfold UpL_Decl at h
  unfold UpI_Decl
  have i0 := h
  exact i0

/-! in_Decl -/
theorem in_Decl (x : S142) (h : x.f0.size ≤ maxLen ∧ (Lit.int .i64 x.f1).wf = true) : UpL_Decl 9223372036854775807 x := by
  obtain ⟨j0, j1⟩ := h
  unfold UpL_Decl
  exact (by have := j0; unfold maxLen at this; omega)

/-! to_Decl -/
theorem to_Decl (x : S142) (h : UpL_Decl 1048576 x) : Ev (fun k => laws_toDecl.f x.f0 x.f1) ((cv_Decl x).f0, (cv_Decl x).f1) := by
  unfold UpL_Decl at h
  have i0 := h
  refine ⟨0, fun k hk => ?_⟩
  dsimp only
  simp only [laws_toDecl.f, Option.bind_some]
  all_goals rfl

/-! to_DeclS -/
theorem to_DeclS (x : List S142) (h : ((x.length : Int) ≤ 1048576 ∧ ∀ y ∈ x, UpL_Decl 1048576 y)) : Ev (fun k => laws_toDeclS.f k x) (x.map cv_Decl) := by
  have hl := h.1
  have main := up_loop x.length (filled (fun i => (cv_Decl (rd_T142 x i))) (List.replicate x.length z146)) (fun k xs i => laws_toDeclS.l0 k x xs i)
    (fun i hi r h2 => by
      obtain ⟨K, he⟩ := to_Decl (rd_T142 x (i : Int)) (h.2 _ (rdM_T142 x i hi))
      obtain ⟨K2, h2⟩ := h2
      refine ⟨K + K2 + 1, fun k hk => ?_⟩
      obtain ⟨m, rfl⟩ : ∃ m, k = m + 1 := ⟨k - 1, by omega⟩
      have h2 := h2 m (by omega)
      have he := he m (by omega)
      dsimp only at he h2 ⊢
      rw [← filled_set _ _ (by simpa using hi)] at h2
      simp only [laws_toDeclS.l0]
      rw [if_pos (by omega), if_pos (by omega), he]
      simp only [Option.bind_some]
      rw [if_pos (by rw [filled_len _ _ (by simp; omega)]; simp; omega), Int.toNat_natCast, wrap64_id (by omega) (by omega)]
      exact h2)
    (x.map cv_Decl) (Ev.step (f := fun _ => some (x.map cv_Decl)) (fun k => by
      simp only [laws_toDeclS.l0]
      rw [if_neg (by omega), filled_all _ _ (by simp)]
      congr 1
      apply List.ext_getElem?
      intro i
      by_cases hi : i < x.length
      · simp [hi, rdE_T142]
      · rw [List.getElem?_eq_none (by first | omega | (simp; omega)), List.getElem?_eq_none (by first | omega | (simp; omega))]) (Ev.now _))
  rw [filled_zero] at main
  refine Ev.congr (fun k => ?_) main
  unfold laws_toDeclS.f
  rw [if_pos (by omega), if_pos (by omega), Int.toNat_natCast]

/-! eq_Uint64S -/
theorem eq_Uint64S (x : List Int) (h : ((x.length : Int) ≤ 1048576)) : Ev (fun k => laws_eqUint64S.f k x x) true := by
  have hl := h
  have main := up_loop x.length (fun _ => ()) (fun k _ i => laws_eqUint64S.l0 k x x i)
    (fun i hi r h2 => by
      obtain ⟨K2, h2⟩ := h2
      refine ⟨K2 + 1, fun k hk => ?_⟩
      obtain ⟨m, rfl⟩ : ∃ m, k = m + 1 := ⟨k - 1, by omega⟩
      have h2 := h2 m (by omega)
      dsimp only at h2 ⊢
      simp only [laws_eqUint64S.l0]
      rw [if_pos (by omega), if_pos (by omega), if_pos (by omega)]
      simp only [if_true]
      rw [wrap64_id (by omega) (by omega)]
      exact h2)
    true (Ev.step (f := fun _ => some true) (fun k => by
      simp only [laws_eqUint64S.l0]
      rw [if_neg (by omega)]) (Ev.now _))
  obtain ⟨K, h⟩ := main
  refine ⟨K, fun k hk => ?_⟩
  have h := h k hk
  dsimp only at h ⊢
  unfold laws_eqUint64S.f
  rw [if_pos rfl]
  exact h

/-! eq_Bits -/
theorem eq_Bits (x : S149) (h : UpI_Bits 1048576 x) : Ev (fun k => laws_eqBits.f k x.f0 x.f1 x.f0 x.f1) true := by
  unfold UpI_Bits at h
  have i1 := h
  obtain ⟨K1, e1⟩ := eq_Uint64S x.f1 i1
  refine ⟨K1, fun k hk => ?_⟩
  have e1 := e1 k (by omega)
  dsimp only at e1 ⊢
  simp only [laws_eqBits.f, e1, Option.bind_some, if_true, ↓reduceIte, bne_self_eq_false, Bool.false_eq_true]

/-! eq_BitsS -/
theorem eq_BitsS (x : List S149) (h : ((x.length : Int) ≤ 1048576 ∧ ∀ y ∈ x, UpI_Bits 1048576 y)) : Ev (fun k => laws_eqBitsS.f k x x) true := by
  have hl := h.1
  have main := up_loop x.length (fun _ => ()) (fun k _ i => laws_eqBitsS.l0 k x x i)
    (fun i hi r h2 => by
      obtain ⟨K, he⟩ := eq_Bits (rd_T149 x (i : Int)) (h.2 _ (rdM_T149 x i hi))
      obtain ⟨K2, h2⟩ := h2
      refine ⟨K + K2 + 1, fun k hk => ?_⟩
      obtain ⟨m, rfl⟩ : ∃ m, k = m + 1 := ⟨k - 1, by omega⟩
      have h2 := h2 m (by omega)
      have he := he m (by omega)
      dsimp only at he h2 ⊢
      simp only [laws_eqBitsS.l0]
      rw [if_pos (by omega), if_pos (by omega), if_pos (by omega), he]
      simp only [Option.bind_some, if_true, ↓reduceIte]
      rw [wrap64_id (by omega) (by omega)]
      exact h2)
    true (Ev.step (f := fun _ => some true) (fun k => by
      simp only [laws_eqBitsS.l0]
      rw [if_neg (by omega)]) (Ev.now _))
  obtain ⟨K, h⟩ := main
  refine ⟨K, fun k hk => ?_⟩
  have h := h k hk
  dsimp only at h ⊢
  unfold laws_eqBitsS.f
  rw [if_pos rfl]
  exact h

/-! eq_BoolS -/
theorem eq_BoolS (x : List Bool) (h : ((x.length : Int) ≤ 1048576)) : Ev (fun k => laws_eqBoolS.f k x x) true := by
  have hl := h
  have main := up_loop x.length (fun _ => ()) (fun k _ i => laws_eqBoolS.l0 k x x i)
    (fun i hi r h2 => by
      obtain ⟨K2, h2⟩ := h2
      refine ⟨K2 + 1, fun k hk => ?_⟩
      obtain ⟨m, rfl⟩ : ∃ m, k = m + 1 := ⟨k - 1, by omega⟩
      have h2 := h2 m (by omega)
      dsimp only at h2 ⊢
      simp only [laws_eqBoolS.l0]
      rw [if_pos (by omega), if_pos (by omega), if_pos (by omega)]
      simp only [if_true, bne_self_eq_false, Bool.false_eq_true, ↓reduceIte]
      rw [wrap64_id (by omega) (by omega)]
      exact h2)
    true (Ev.step (f := fun _ => some true) (fun k => by
      simp only [laws_eqBoolS.l0]
      rw [if_neg (by omega)]) (Ev.now _))
  obtain ⟨K, h⟩ := main
  refine ⟨K, fun k hk => ?_⟩
  have h := h k hk
  dsimp only at h ⊢
  unfold laws_eqBoolS.f
  rw [if_pos rfl]
  exact h

/-! eq_Decl -/
theorem eq_Decl (x : S146) (h : UpI_Decl 1048576 x) : Ev (fun k => laws_eqDecl.f x.f0 x.f1 x.f0 x.f1) true := by
  unfold UpI_Decl at h
  have i0 := h
  refine ⟨0, fun k hk => ?_⟩
  dsimp only
  simp only [laws_eqDecl.f, Option.bind_some, if_true, ↓reduceIte, bne_self_eq_false, Bool.false_eq_true]

/-! eq_DeclS -/
theorem eq_DeclS (x : List S146) (h : ((x.length : Int) ≤ 1048576 ∧ ∀ y ∈ x, UpI_Decl 1048576 y)) : Ev (fun k => laws_eqDeclS.f k x x) true := by
  have hl := h.1
  have main := up_loop x.length (fun _ => ()) (fun k _ i => laws_eqDeclS.l0 k x x i)
    (fun i hi r h2 => by
      obtain ⟨K, he⟩ := eq_Decl (rd_T146 x (i : Int)) (h.2 _ (rdM_T146 x i hi))
      obtain ⟨K2, h2⟩ := h2
      refine ⟨K + K2 + 1, fun k hk => ?_⟩
      obtain ⟨m, rfl⟩ : ∃ m, k = m + 1 := ⟨k - 1, by omega⟩
      have h2 := h2 m (by omega)
      have he := he m (by omega)
      dsimp only at he h2 ⊢
      simp only [laws_eqDeclS.l0]
      rw [if_pos (by omega), if_pos (by omega), if_pos (by omega), he]
      simp only [Option.bind_some, if_true, ↓reduceIte]
      rw [wrap64_id (by omega) (by omega)]
      exact h2)
    true (Ev.step (f := fun _ => some true) (fun k => by
      simp only [laws_eqDeclS.l0]
      rw [if_neg (by omega)]) (Ev.now _))
  obtain ⟨K, h⟩ := main
  refine ⟨K, fun k hk => ?_⟩
  have h := h k hk
  dsimp only at h ⊢
  unfold laws_eqDeclS.f
  rw [if_pos rfl]
  exact h

/-! mark_BoolS -/
theorem mark_BoolS (x : List Bool) (h : ((x.length : Int) ≤ 1048576)) (m : Int) (h0 : 0 ≤ m) (h1 : m ≤ 4611686018426339328) : ∃ (m' : Int) (x' : List Bool), Ev (fun k => laws_markBoolS.f k x m) (m', x') ∧ m ≤ m' ∧ m' ≤ m + 1048576 ∧ Ev (fun k => laws_heldBoolS.f k x' m) m' := by
  have hl : (x.length : Int) ≤ 1048576 := h
  obtain ⟨conv, hconv⟩ : ∃ conv : Nat → Bool, ∀ i, conv i = (Int.tmod (m + 1 * (i : Int)) 3 == 0) := ⟨fun i => _, fun _ => rfl⟩
  have main := up_loop x.length (fun i => (m + 1 * (i : Int), filled conv x i)) (fun k s i => laws_markBoolS.l0 k s.2 s.1 i)
    (fun i hi r h2 => by
      obtain ⟨K2, h2⟩ := h2
      refine ⟨K2 + 1, fun k hk => ?_⟩
      obtain ⟨mm, rfl⟩ : ∃ mm, k = mm + 1 := ⟨k - 1, by omega⟩
      have h2 := h2 mm (by omega)
      dsimp only at h2 ⊢
      have hlen : i < (filled conv x i).length := by rw [filled_len _ _ (by omega)]; exact hi
      rw [← filled_set conv x hi, hconv] at h2
      simp (disch := first | omega | (simp only [List.length_set]; omega)) only [laws_markBoolS.l0, ↓if_pos, Option.bind_some, Int.toNat_natCast, wrap64_id]
      rw [show m + 1 * (i : Int) + 1 = m + 1 * ((i + 1 : Nat) : Int) by omega]
      exact h2)
    (m + 1 * (x.length : Int), (List.range x.length).map conv) (Ev.step (f := fun _ => some (m + 1 * (x.length : Int), (List.range x.length).map conv)) (fun k => by
      simp only [laws_markBoolS.l0]
      rw [if_neg (by rw [filled_len _ _ (Nat.le_refl _)]; omega), filled_all _ _ rfl]) (Ev.now _))
  simp only [filled_zero] at main
  refine ⟨m + 1 * (x.length : Int), (List.range x.length).map conv, Ev.congr (fun k => by unfold laws_markBoolS.f; simp) main, by omega, by omega, ?_⟩
  have hrd : ∀ i : Nat, i < x.length → rdOf false ((List.range x.length).map conv) (i : Int) = conv i := fun i hi => by
    unfold rdOf
    rw [List.getD_eq_getElem?_getD, Int.toNat_natCast, List.getElem?_map, List.getElem?_range hi]; rfl
  have main2 := up_loop x.length (fun i => m + 1 * (i : Int)) (fun k s i => laws_heldBoolS.l0 k ((List.range x.length).map conv) s i)
    (fun i hi r h2 => by
      obtain ⟨K2, h2⟩ := h2
      refine ⟨K2 + 1, fun k hk => ?_⟩
      obtain ⟨mm, rfl⟩ : ∃ mm, k = mm + 1 := ⟨k - 1, by omega⟩
      have h2 := h2 mm (by omega)
      dsimp only at h2 ⊢
      have hr := hrd i hi
      rw [hconv] at hr
      simp (disch := omega) only [laws_heldBoolS.l0, List.length_map, List.length_range, ↓if_pos, hr, wrap64_id, ↓reduceIte, bne_self_eq_false, Bool.false_eq_true]
      rw [show m + 1 * (i : Int) + 1 = m + 1 * ((i + 1 : Nat) : Int) by omega]
      exact h2)
    (m + 1 * (x.length : Int)) (Ev.step (f := fun _ => some (m + 1 * (x.length : Int))) (fun k => by
      simp only [laws_heldBoolS.l0]
      rw [if_neg (by simp)]) (Ev.now _))
  exact Ev.congr (fun k => by unfold laws_heldBoolS.f; simp) main2

/-! rdset_T146 -/
theorem rdset_T146 (l : List S146) (i : Nat) (h : i < l.length) (v : S146) : rd_T146 (l.set i v) (i : Int) = v := by
  unfold rd_T146
  rw [List.getD_eq_getElem?_getD, Int.toNat_natCast, List.getElem?_set_self h]; rfl

/-! mtext_ev -/
theorem mtext_loop : ∀ n : Nat, ∀ z : Int, 0 ≤ z → z < 10 ^ n → z ≤ 9223372036854775807 → ∀ s : ByteArray, s.size + n ≤ 1000000 → ∃ t, Ev (fun k => laws_markText.l0 k z s) t := by
  intro n
  induction n with
  | zero =>
    intro z h0 h1 big s hs
    have : z = 0 := by simp at h1; omega
    subst this
    exact ⟨_, Ev.step (f := fun _ => some ((⟨#[109]⟩ : ByteArray) ++ s)) (fun k => by simp (disch := omega) only [laws_markText.l0, ↓if_neg, ↓if_pos]) (Ev.now _)⟩
  | succ n ih =>
    intro z h0 h1 big s hs
    by_cases c : z > 0
    · have e1 : Int.tdiv z 10 = z / 10 := Int.tdiv_eq_ediv_of_nonneg (by omega)
      · have hsz : ∀ v : Int, (strOfNums [v]).size = 1 := fun v => rfl
        obtain ⟨t, h⟩ := ih (z / 10) (by omega) (by rw [Int.pow_succ] at h1; omega) (by omega) (strOfNums [(wrap64 (48 + (Int.tmod z 10))) % 256] ++ s) (by rw [ByteArray.size_append, hsz]; omega)
        refine ⟨t, Ev.step (fun k => ?_) h⟩
        have hle : (strOfNums [(wrap64 (48 + (Int.tmod z 10))) % 256]).size + s.size ≤ 9223372036854775807 := by rw [hsz]; omega
        simp only [laws_markText.l0]
        rw [if_pos c]
        simp only [Option.bind_some]
        rw [if_pos hle, e1, wrap64_id (by omega) (by omega)]
    · have : z = 0 := by omega
      subst this
      exact ⟨_, Ev.step (f := fun _ => some ((⟨#[109]⟩ : ByteArray) ++ s)) (fun k => by simp (disch := omega) only [laws_markText.l0, ↓if_neg, ↓if_pos]) (Ev.now _)⟩
theorem mtext_ev : ∀ z : Int, ∃ t : ByteArray, (0 ≤ z → z ≤ 4611686018427387904 → Ev (fun k => laws_markText.f k z) t) := by
  intro z
  by_cases c : 0 ≤ z ∧ z ≤ 4611686018427387904
  · by_cases c0 : z ≤ 0
    · exact ⟨_, fun _ _ => Ev.congr (fun k => by unfold laws_markText.f; rw [if_pos c0]) (Ev.now _)⟩
    · obtain ⟨t, h⟩ := mtext_loop 19 z c.1 (by rw [show (10 : Int) ^ 19 = 10000000000000000000 from by decide]; omega) (by omega) ⟨#[]⟩ (by decide)
      exact ⟨t, fun _ _ => Ev.congr (fun k => by unfold laws_markText.f; rw [if_neg c0]) h⟩
  · exact ⟨ByteArray.empty, fun h0 h1 => absurd ⟨h0, h1⟩ c⟩

/-! mark_DeclS -/
theorem mark_DeclS (x : List S146) (h : ((x.length : Int) ≤ 1048576 ∧ ∀ y ∈ x, UpI_Decl 1048576 y)) (m : Int) (h0 : 0 ≤ m) (h1 : m ≤ 4611686018425290752) : ∃ (m' : Int) (x' : List S146), Ev (fun k => laws_markDeclS.f k x m) (m', x') ∧ m ≤ m' ∧ m' ≤ m + 2097152 := by
  have hl : (x.length : Int) ≤ 1048576 := h.1
  obtain ⟨T, hT⟩ := Classical.axiomOfChoice mtext_ev
  obtain ⟨conv, hconv⟩ : ∃ conv : Nat → S146, ∀ i, conv i = (⟨T (m + 2 * (i : Int)), m + 2 * (i : Int) + 1⟩ : S146) := ⟨fun i => _, fun _ => rfl⟩
  have main := up_loop x.length (fun i => (m + 2 * (i : Int), filled conv x i)) (fun k s i => laws_markDeclS.l0 k s.2 s.1 i)
    (fun i hi r h2 => by
      obtain ⟨K2, h2⟩ := h2
      obtain ⟨K0_, T0_⟩ := Ev.binds (hT (m + 2 * (i : Int)) (by omega) (by omega))
      refine ⟨K0_ + K2 + 1, fun k hk => ?_⟩
      obtain ⟨mm, rfl⟩ : ∃ mm, k = mm + 1 := ⟨k - 1, by omega⟩
      have h2 := h2 mm (by omega)
      dsimp only at h2 ⊢
      have hlen : i < (filled conv x i).length := by rw [filled_len _ _ (by omega)]; exact hi
      rw [← filled_set conv x hi, hconv] at h2
      simp (disch := first | omega | (simp only [List.length_set]; omega)) only [laws_markDeclS.l0, ↓if_pos, Option.bind_some, Int.toNat_natCast, rdset_T146, List.set_set, ↓T0_, wrap64_id]
      rw [show m + 2 * (i : Int) + 1 + 1 = m + 2 * ((i + 1 : Nat) : Int) by omega]
      exact h2)
    (m + 2 * (x.length : Int), (List.range x.length).map conv) (Ev.step (f := fun _ => some (m + 2 * (x.length : Int), (List.range x.length).map conv)) (fun k => by
      simp only [laws_markDeclS.l0]
      rw [if_neg (by rw [filled_len _ _ (Nat.le_refl _)]; omega), filled_all _ _ rfl]) (Ev.now _))
  simp only [filled_zero] at main
  refine ⟨m + 2 * (x.length : Int), (List.range x.length).map conv, Ev.congr (fun k => by unfold laws_markDeclS.f; simp) main, by omega, by omega⟩

/-! mark_Uint64S -/
theorem mark_Uint64S (x : List Int) (h : ((x.length : Int) ≤ 1048576)) (m : Int) (h0 : 0 ≤ m) (h1 : m ≤ 4611686018426339328) : ∃ (m' : Int) (x' : List Int), Ev (fun k => laws_markUint64S.f k x m) (m', x') ∧ m ≤ m' ∧ m' ≤ m + 1048576 := by
  have hl : (x.length : Int) ≤ 1048576 := h
  obtain ⟨conv, hconv⟩ : ∃ conv : Nat → Int, ∀ i, conv i = IntKind.u64.wrap (m + 1 * (i : Int)) := ⟨fun i => _, fun _ => rfl⟩
  have main := up_loop x.length (fun i => (m + 1 * (i : Int), filled conv x i)) (fun k s i => laws_markUint64S.l0 k s.2 s.1 i)
    (fun i hi r h2 => by
      obtain ⟨K2, h2⟩ := h2
      refine ⟨K2 + 1, fun k hk => ?_⟩
      obtain ⟨mm, rfl⟩ : ∃ mm, k = mm + 1 := ⟨k - 1, by omega⟩
      have h2 := h2 mm (by omega)
      dsimp only at h2 ⊢
      have hlen : i < (filled conv x i).length := by rw [filled_len _ _ (by omega)]; exact hi
      rw [← filled_set conv x hi, hconv] at h2
      simp (disch := first | omega | (simp only [List.length_set]; omega)) only [laws_markUint64S.l0, ↓if_pos, Option.bind_some, Int.toNat_natCast, wrap64_id]
      rw [show m + 1 * (i : Int) + 1 = m + 1 * ((i + 1 : Nat) : Int) by omega]
      exact h2)
    (m + 1 * (x.length : Int), (List.range x.length).map conv) (Ev.step (f := fun _ => some (m + 1 * (x.length : Int), (List.range x.length).map conv)) (fun k => by
      simp only [laws_markUint64S.l0]
      rw [if_neg (by rw [filled_len _ _ (Nat.le_refl _)]; omega), filled_all _ _ rfl]) (Ev.now _))
  simp only [filled_zero] at main
  refine ⟨m + 1 * (x.length : Int), (List.range x.length).map conv, Ev.congr (fun k => by unfold laws_markUint64S.f; simp) main, by omega, by omega⟩

/-! WfI_Decl -/
def WfI_Decl (x : S146) : Prop := True ∧ (-9223372036854775808 ≤ x.f1 ∧ x.f1 ≤ 9223372036854775807)

/-! wf_Decl -/
theorem wf_Decl (x : S142) (h : x.f0.size ≤ maxLen ∧ (Lit.int .i64 x.f1).wf = true) : WfI_Decl (cv_Decl x) := by
  obtain ⟨j0, j1⟩ := h
  exact ⟨trivial, (wf_i64 j1)⟩

/-! WfI_Bits -/
def WfI_Bits (x : S149) : Prop := (-9223372036854775808 ≤ x.f0 ∧ x.f0 ≤ 9223372036854775807) ∧ (∀ y ∈ x.f1, W64 y)

/-! wf_Bits -/
theorem wf_Bits (x : S160) (h : (Lit.int .i64 x.f0).wf = true ∧ (x.f1.length ≤ 9223372036854775807 ∧ ∀ y0 ∈ x.f1, (Lit.int .u64 y0).wf = true)) : WfI_Bits (cv_Bits x) := by
  obtain ⟨j0, j1⟩ := h
  exact ⟨(wf_i64 j0), (fun a1_ ha1_ => (wf_u64 (j1.2 a1_ ha1_)))⟩

/-! okB -/
noncomputable def okB (w : Int) (l : List Int) : Bool := @decide (Right w l) (Classical.propDecidable _)
theorem okB_true {w : Int} {l : List Int} (h : Right w l) : okB w l = true := by unfold okB; exact @decide_eq_true _ (Classical.propDecidable _) h
theorem okB_false {w : Int} {l : List Int} (h : ¬ Right w l) : okB w l = false := by unfold okB; exact @decide_eq_false _ (Classical.propDecidable _) h
theorem okB_cases (w : Int) (l : List Int) : (okB w l = true ∧ Right w l) ∨ (okB w l = false ∧ ¬ Right w l) := by
  by_cases h : Right w l
  · exact .inl ⟨okB_true h, h⟩
  · exact .inr ⟨okB_false h, h⟩

/-! l1Bit -/
theorem l1Bit_eq (w : Int) (l : List Int) (h : U64s l) (i : Nat) (hi : i < 64 * l.length) (hl : l.length ≤ 1048576) : spec_l1Bit.f w l (i : Int) = some (bitI l i) := by
  unfold spec_l1Bit.f
  rw [tdiv64 i (by omega), utmod64, if_pos (by omega), if_pos (by omega), if_pos (by omega), bit_reads h]
  rcases bitI_01 l i with e | e <;> simp [e]

/-! specBitsOk -/
theorem specBitsOk_l0 (w : Int) (l : List Int) (h : U64s l) (hl : l.length ≤ 1048576) (h1 : 1 ≤ w) (hw : w ≤ 64 * l.length) :
    ∃ b, Ev (fun k => spec_BitsOk.l0 k w w l) b ∧ (b = true ↔ ∀ i : Nat, w ≤ i → bitN l i = false) := by
  rcases find_loop (64 * l.length - w.toNat) (fun i => bitN l (w.toNat + i)) (fun k i => spec_BitsOk.l0 k (w + i) w l) (fun _ => false) true
    (fun i hi hp => Ev.step (f := fun _ => some false) (fun k => by
      simp only [spec_BitsOk.l0]
      rw [wrap64_id (by omega) (by omega), if_pos (by omega), show w + (i : Int) = ((w.toNat + i : Nat) : Int) by omega, l1Bit_eq w l h _ (by omega) hl]
      simp only [Option.bind_some]
      rw [if_neg (by simp only [bitI, hp, if_true]; decide)]) (Ev.now _))
    (fun i hi hp r hr => Ev.step (fun k => by
      simp only [spec_BitsOk.l0]
      rw [wrap64_id (x := 64 * (l.length : Int)) (by omega) (by omega), if_pos (by omega)]
      have e := l1Bit_eq w l h (w.toNat + i) (by omega) hl
      rw [show w + (i : Int) = ((w.toNat + i : Nat) : Int) by omega, e]
      simp only [Option.bind_some]
      rw [if_pos (by simp only [bitI, hp]; rfl), wrap64_id (by omega) (by omega), show ((w.toNat + i : Nat) : Int) + 1 = w + ((i : Int) + 1) by omega]) hr)
    (Ev.step (f := fun _ => some true) (fun k => by
      simp only [spec_BitsOk.l0]
      rw [wrap64_id (by omega) (by omega), if_neg (by omega)]) (Ev.now _)) with ⟨i, hi, hp, _, hr⟩ | ⟨hp, hr⟩
  · refine ⟨false, by simpa using hr, (fun hb => by cases hb), fun hb => ?_⟩
    have := hb (w.toNat + i) (by omega)
    rw [this] at hp; cases hp
  · refine ⟨true, by simpa using hr, fun _ i hi => ?_, fun _ => rfl⟩
    by_cases ho : i < 64 * l.length
    · have := hp (i - w.toNat) (by omega)
      rwa [show w.toNat + (i - w.toNat) = i by omega] at this
    · exact bitN_out (by omega)
theorem specBitsOk_ev (w : Int) (l : List Int) (h : U64s l) (hl : l.length ≤ 1048576) (hw0 : -9223372036854775808 ≤ w) (hw1 : w ≤ 9223372036854775807) : Ev (fun k => spec_BitsOk.f k w l) (okB w l) := by
  by_cases hin : 1 ≤ w ∧ w ≤ 4096
  · have e1 : spec_l1In.f w 1 4096 = some true := by unfold spec_l1In.f; rw [if_pos (by omega), decide_eq_true (by omega)]
    have e2 := fun (_ : True) => words_of w (by omega) (by omega)
    by_cases hlen : (l.length : Int) = (w + 63) / 64
    · obtain ⟨b, hb, hbi⟩ := specBitsOk_l0 w l h hl hin.1 (by omega)
      have : okB w l = b := by
        cases b with
        | true => exact okB_true ⟨hin.1, hin.2, hlen, h, hbi.1 rfl⟩
        | false => exact okB_false fun hr => by have := hbi.2 hr.top; cases this
      rw [this]
      obtain ⟨K, hb⟩ := hb
      refine ⟨K + 1, fun k hk => ?_⟩
      obtain ⟨m, rfl⟩ : ∃ m, k = m + 1 := ⟨k - 1, by omega⟩
      dsimp only
      unfold spec_BitsOk.f
      rw [e1, e2 trivial]
      simp only [Option.bind_some, if_true, spec_BitsOk.j0]
      rw [if_neg (by simp [hlen])]
      exact hb m (by omega)
    · rw [okB_false fun hr => hlen hr.len]
      refine ⟨1, fun k hk => ?_⟩
      obtain ⟨m, rfl⟩ : ∃ m, k = m + 1 := ⟨k - 1, by omega⟩
      dsimp only
      unfold spec_BitsOk.f
      rw [e1, e2 trivial]
      simp only [Option.bind_some, if_true, spec_BitsOk.j0]
      rw [if_pos (by simpa using hlen)]
  · rw [okB_false fun hr => hin ⟨hr.low, hr.high⟩]
    have e1 : spec_l1In.f w 1 4096 = some false := by
      unfold spec_l1In.f
      by_cases h1 : w ≥ 1
      · rw [if_pos h1, decide_eq_false (by omega)]
      · rw [if_neg h1]
    refine ⟨1, fun k hk => ?_⟩
    obtain ⟨m, rfl⟩ : ∃ m, k = m + 1 := ⟨k - 1, by omega⟩
    dsimp only
    unfold spec_BitsOk.f
    rw [e1]
    simp [spec_BitsOk.j0]

/-! implInside -/
theorem inside_eq (a b c : Int) : impl_inside.f a b c = some (decide (b ≤ a ∧ a ≤ c)) := by
  unfold impl_inside.f
  by_cases h1 : b ≤ a
  · rw [if_pos h1]; simp [h1]
  · rw [if_neg h1]; simp [h1]

/-! specIn -/
theorem l1In_eq (a b c : Int) : spec_l1In.f a b c = some (decide (b ≤ a ∧ a ≤ c)) := by
  unfold spec_l1In.f
  by_cases h1 : b ≤ a
  · rw [if_pos h1]; simp [h1]
  · rw [if_neg h1]; simp [h1]

/-! wordsFor -/
theorem wordsFor_eq (w : Int) (h0 : 0 ≤ w) (h1 : w ≤ 1000000000) : impl_wordsFor.f w = some ((w + 63) / 64) := by
  unfold impl_wordsFor.f
  rw [wrap64_id (x := w + 63) (by omega) (by omega), Int.tdiv_eq_ediv_of_nonneg (by omega), wrap64_id (by omega) (by omega)]

/-! implBitsOk -/
theorem implBitsOk_eq (w : Int) (l : List Int) (h : U64s l) (hl : l.length ≤ 1048576) : impl_BitsOk.f w l = some (okB w l) := by
  unfold impl_BitsOk.f
  rw [inside_eq]
  simp only [Option.bind_some]
  by_cases hin : 1 ≤ w ∧ w ≤ 4096
  · rw [if_pos (decide_eq_true hin), wordsFor_eq w (by omega) (by omega)]
    simp only [Option.bind_some]
    by_cases hlen : (l.length : Int) = (w + 63) / 64
    · rw [if_pos hlen, Int.tmod_eq_emod_of_nonneg (by omega)]
      by_cases hm : w % 64 = 0
      · rw [if_pos hm, okB_true ⟨hin.1, hin.2, hlen, h, fun i hi => bitN_out (by omega)⟩]
      · rw [if_neg hm, wrap64_id (x := (l.length : Int) - 1) (by omega) (by omega), if_pos (by omega), if_pos (by omega), if_pos (by omega)]
        congr 1
        have hx := rd_w64 h ((l.length : Int) - 1)
        have hs := shr_w64 hx (n := w % 64) (by omega)
        by_cases hz : shr .u64 (rd l ((l.length : Int) - 1)) (w % 64) = 0
        · rw [hz]
          refine (okB_true ⟨hin.1, hin.2, hlen, h, fun i hi => ?_⟩).symm
          by_cases ho : i < 64 * l.length
          · have h2 := hs.2 (i % 64 - (w % 64).toNat)
            rw [hz] at h2
            have e : i / 64 = l.length - 1 := by omega
            unfold bitN
            rw [e, ← show (w % 64).toNat + (i % 64 - (w % 64).toNat) = i % 64 by omega]
            rw [rd_getD, show ((l.length : Int) - 1).toNat = l.length - 1 by omega] at h2
            rw [← h2]; simp
          · exact bitN_out (by omega)
        · have e : (shr .u64 (rd l ((l.length : Int) - 1)) (w % 64) == 0) = false := by simpa using hz
          rw [e]
          refine (okB_false fun hr => hz ?_).symm
          have h0 : (shr .u64 (rd l ((l.length : Int) - 1)) (w % 64)).toNat = 0 := by
            apply testBit_ext (by have := hs.1; unfold W64 at this; omega) (by decide)
            intro j hj
            rw [hs.2]
            by_cases hb : (w % 64).toNat + j < 64
            · have := hr.top (64 * (l.length - 1) + ((w % 64).toNat + j)) (by omega)
              unfold bitN at this
              rw [show (64 * (l.length - 1) + ((w % 64).toNat + j)) / 64 = l.length - 1 by omega, show (64 * (l.length - 1) + ((w % 64).toNat + j)) % 64 = (w % 64).toNat + j by omega] at this
              rw [rd_getD, show ((l.length : Int) - 1).toNat = l.length - 1 by omega, this]; simp
            · rw [testBit_w64 hx (by omega)]; simp
          have := hs.1.1
          omega
    · rw [if_neg hlen, okB_false fun hr => hlen hr.len]
  · rw [if_neg (by simpa using hin), okB_false fun hr => hin ⟨hr.low, hr.high⟩]

/-! implBit -/
theorem implBit_eq (w : Int) (l : List Int) (h : U64s l) (i : Nat) (hi : i < 64 * l.length) (hl : l.length ≤ 1048576) : impl_Bits_bit.f w l (i : Int) = some (bitI l i) := by
  unfold impl_Bits_bit.f
  rw [tdiv64 i (by omega), tmod64, if_pos (by omega), if_pos (by omega), if_pos (by omega), bit_reads h]

/-! memD -/
theorem rdD (l : List S146) (i : Nat) (h : i < l.length) : rd_T146 l (i : Int) = l[i] := by
  unfold rd_T146
  rw [List.getD_eq_getElem?_getD, Int.toNat_natCast, List.getElem?_eq_getElem h]; rfl
theorem rdD_mem (l : List S146) (i : Nat) (h : i < l.length) : rd_T146 l (i : Int) ∈ l := by rw [rdD l i h]; exact List.getElem_mem h

/-! names -/
theorem names_agree (s : ByteArray) (hs : s.size ≤ 1048576) : ∃ b, Ev (fun k => spec_l1Name.f k s) b ∧ Ev (fun k => impl_nameOk.f k s) b := by
  have digit : ∀ c, spec_l1Digit.f c = some (decide (48 ≤ c ∧ c ≤ 57)) := fun c => by
    unfold spec_l1Digit.f
    by_cases h : 48 ≤ c
    · rw [if_pos h]; simp [h]
    · rw [if_neg h]; simp [h]
  have main : ∀ d i, s.size - i = d → i ≤ s.size → ∃ b, Ev (fun k => spec_l1Name.l0 k s (i : Int)) b ∧ Ev (fun k => impl_nameOk.l0 k s (i : Int)) b := by
    intro d
    induction d with
    | zero =>
      intro i hd hi
      refine ⟨true, Ev.step (f := fun _ => some true) (fun k => ?_) (Ev.now _), Ev.step (f := fun _ => some true) (fun k => ?_) (Ev.now _)⟩
      · simp only [spec_l1Name.l0]; rw [if_neg (by omega)]
      · simp only [impl_nameOk.l0]; rw [if_neg (by omega)]
    | succ d ih =>
      intro i hd hi
      obtain ⟨b, h1, h2⟩ := ih (i + 1) (by omega) (by omega)
      have hw : True → wrap64 ((i : Int) + 1) = ((i + 1 : Nat) : Int) := fun _ => wrap_succ' i (by omega)
      have p1 : (i : Int) < (s.size : Int) := by omega
      have p2 : (0 : Int) ≤ (i : Int) := by omega
      by_cases cd : 48 ≤ bt s (i : Int) ∧ bt s (i : Int) ≤ 57
      · refine ⟨b, Ev.step (fun k => ?_) h1, Ev.step (fun k => ?_) h2⟩
        · simp only [spec_l1Name.l0]
          rw [hw trivial, if_pos p1, if_pos p2, digit, decide_eq_true cd]
          simp only [Option.bind_some, if_true]
        · simp only [impl_nameOk.l0]
          rw [hw trivial, if_pos p1, if_pos p2, if_pos (by omega), if_neg (by omega), if_neg (by omega)]
      · by_cases ca : bt s (i : Int) < 97
        · refine ⟨false, Ev.step (f := fun _ => some false) (fun k => ?_) (Ev.now _), Ev.step (f := fun _ => some false) (fun k => ?_) (Ev.now _)⟩
          · simp only [spec_l1Name.l0]
            rw [if_pos p1, if_pos p2, digit, decide_eq_false cd]
            simp only [Option.bind_some]
            rw [if_neg (by decide), if_pos ca]
          · simp only [impl_nameOk.l0]
            rw [if_pos p1, if_pos p2, if_pos ca]
            by_cases c48 : bt s (i : Int) < 48
            · rw [if_pos c48]
            · rw [if_neg c48, if_pos (by omega)]
        · by_cases cz : bt s (i : Int) > 122
          · refine ⟨false, Ev.step (f := fun _ => some false) (fun k => ?_) (Ev.now _), Ev.step (f := fun _ => some false) (fun k => ?_) (Ev.now _)⟩
            · simp only [spec_l1Name.l0]
              rw [if_pos p1, if_pos p2, digit, decide_eq_false cd]
              simp only [Option.bind_some]
              rw [if_neg (by decide), if_neg ca, if_pos cz]
            · simp only [impl_nameOk.l0]
              rw [if_pos p1, if_pos p2, if_neg ca, if_pos cz, if_neg (by omega), if_pos (by omega)]
          · refine ⟨b, Ev.step (fun k => ?_) h1, Ev.step (fun k => ?_) h2⟩
            · simp only [spec_l1Name.l0]
              rw [hw trivial, if_pos p1, if_pos p2, digit, decide_eq_false cd]
              simp only [Option.bind_some]
              rw [if_neg (by decide), if_neg ca, if_neg cz]
            · simp only [impl_nameOk.l0]
              rw [hw trivial, if_pos p1, if_pos p2, if_neg ca, if_neg cz]
  have yes1 : Ev (fun k => spec_l1Name.j0 k s true) false := Ev.step (f := fun _ => some false) (fun k => by simp only [spec_l1Name.j0, if_true]) (Ev.now _)
  have yes2 : Ev (fun k => impl_nameOk.j0 k s true) false := Ev.step (f := fun _ => some false) (fun k => by simp only [impl_nameOk.j0, if_true]) (Ev.now _)
  by_cases c1 : (s.size : Int) < 1
  · exact ⟨false, Ev.congr (fun k => by unfold spec_l1Name.f; rw [if_pos c1]) yes1, Ev.congr (fun k => by unfold impl_nameOk.f; rw [if_pos c1]) yes2⟩
  · by_cases c2 : (s.size : Int) > 12
    · exact ⟨false, Ev.congr (fun k => by unfold spec_l1Name.f; rw [if_neg c1, if_pos c2]) yes1, Ev.congr (fun k => by unfold impl_nameOk.f; rw [if_neg c1, if_pos c2]) yes2⟩
    · obtain ⟨b, h1, h2⟩ := main s.size 0 (by omega) (by omega)
      have p0 : (0 : Int) < (s.size : Int) := by omega
      have go1 : ∀ z, z = false → Ev (fun k => spec_l1Name.j0 k s z) b := fun z hz => Ev.step (fun k => by subst hz; simp only [spec_l1Name.j0]; rw [if_neg (by decide)]; rfl) h1
      have go2 : ∀ z, z = false → Ev (fun k => impl_nameOk.j0 k s z) b := fun z hz => Ev.step (fun k => by subst hz; simp only [impl_nameOk.j0]; rw [if_neg (by decide)]; rfl) h2
      by_cases cd : 48 ≤ bt s 0 ∧ bt s 0 ≤ 57
      · refine ⟨false, Ev.congr (fun k => ?_) yes1, Ev.congr (fun k => ?_) yes2⟩
        · unfold spec_l1Name.f; rw [if_neg c1, if_neg c2, if_pos p0, digit, decide_eq_true cd]; rfl
        · unfold impl_nameOk.f; rw [if_neg c1, if_neg c2, if_pos p0, if_pos (by omega)]
      · have e1 : ∀ k, spec_l1Name.f k s = spec_l1Name.j0 k s false := fun k => by unfold spec_l1Name.f; rw [if_neg c1, if_neg c2, if_pos p0, digit, decide_eq_false cd]; rfl
        by_cases ca : bt s 0 < 97
        · -- the loop's first round says no
          obtain ⟨d, hd⟩ : ∃ d, d = s.size := ⟨_, rfl⟩
          refine ⟨false, Ev.congr e1 (Ev.step (fun k => by simp only [spec_l1Name.j0]; rw [if_neg (by decide)]) (Ev.step (g := fun k => spec_l1Name.l0 k s 0) (f := fun _ => some false) (fun k => ?_) (Ev.now _))), Ev.congr (fun k => ?_) yes2⟩
          · simp only [spec_l1Name.l0]
            rw [if_pos p0, if_pos (by decide), digit, decide_eq_false cd]
            simp only [Option.bind_some]
            rw [if_neg (by decide), if_pos ca]
          · unfold impl_nameOk.f; rw [if_neg c1, if_neg c2, if_pos p0, if_pos ca]
        · by_cases cz : bt s 0 > 122
          · refine ⟨false, Ev.congr e1 (Ev.step (fun k => by simp only [spec_l1Name.j0]; rw [if_neg (by decide)]) (Ev.step (g := fun k => spec_l1Name.l0 k s 0) (f := fun _ => some false) (fun k => ?_) (Ev.now _))), Ev.congr (fun k => ?_) yes2⟩
            · simp only [spec_l1Name.l0]
              rw [if_pos p0, if_pos (by decide), digit, decide_eq_false cd]
              simp only [Option.bind_some]
              rw [if_neg (by decide), if_neg ca, if_pos cz]
            · unfold impl_nameOk.f; rw [if_neg c1, if_neg c2, if_pos p0, if_neg ca, decide_eq_true cz]
          · refine ⟨b, Ev.congr e1 (go1 _ rfl), Ev.congr (fun k => ?_) (go2 _ (decide_eq_false cz))⟩
            unfold impl_nameOk.f; rw [if_neg c1, if_neg c2, if_pos p0, if_neg ca]

/-! idxD -/
theorem idxD_none (nm : ByteArray) : ∀ (l : List S146) (i : Int), (∀ x ∈ l, x.f0.toList ≠ nm.toList) → idxD nm l i = -1
  | [], i, _ => rfl
  | x :: xs, i, h => by
    simp only [idxD]
    rw [if_neg (by have := h x (by simp); simpa using this)]
    exact idxD_none nm xs (i + 1) fun y hy => h y (by simp [hy])
theorem idxD_some (nm : ByteArray) : ∀ (l : List S146) (i : Int), 0 ≤ i → (∃ x ∈ l, x.f0.toList = nm.toList) → 0 ≤ idxD nm l i
  | [], i, _, h => by obtain ⟨x, hx, _⟩ := h; cases hx
  | x :: xs, i, hi, h => by
    simp only [idxD]
    by_cases c : (x.f0.toList == nm.toList) = true
    · rw [if_pos c]; exact hi
    · rw [if_neg c]
      obtain ⟨y, hy, he⟩ := h
      rcases List.mem_cons.1 hy with rfl | hy
      · exact absurd (by simpa using he) c
      · exact idxD_some nm xs (i + 1) (by omega) ⟨y, hy, he⟩

/-! declsOk -/
def sumD : List S146 → Int
  | [] => 0
  | x :: xs => x.f1 + sumD xs
/-- What right decls are good for. -/
structure GoodDecls (l : List S146) : Prop where
  len : l.length ≤ 60
  width : ∀ x ∈ l, 1 ≤ x.f1 ∧ x.f1 ≤ 4096
  total : sumD l ≤ 20000
theorem decls_loops (l : List S146) (hl : l.length ≤ 60) (hx : ∀ x ∈ l, x.f0.size ≤ 1048576) :
    ∀ d i, l.length - i = d → i ≤ l.length → ∀ s : Int, 0 ≤ s → s ≤ 4096 * i → ∃ b, Ev (fun k => spec_DeclsOk.l0 k l s (i : Int)) b ∧ Ev (fun k => impl_DeclsOk.l0 k l s l (l.length : Int) (i : Int)) b ∧
      (b = true → (∀ x ∈ l.drop i, 1 ≤ x.f1 ∧ x.f1 ≤ 4096) ∧ s + sumD (l.drop i) ≤ 20000) := by
  intro d
  induction d with
  | zero =>
    intro i hd hi s g0 g1
    refine ⟨decide (s ≤ 20000), Ev.step (f := fun _ => some (decide (s ≤ 20000))) (fun k => ?_) (Ev.now _), Ev.step (f := fun _ => some (decide (s ≤ 20000))) (fun k => ?_) (Ev.now _), fun hb => ?_⟩
    · simp only [spec_DeclsOk.l0]; rw [if_neg (by omega)]
    · simp only [impl_DeclsOk.l0]; rw [if_neg (by omega)]
    · have e : l.drop i = [] := List.drop_eq_nil_of_le (by omega)
      rw [e]
      refine ⟨(fun x hx => by cases hx), ?_⟩
      have := of_decide_eq_true hb
      show s + 0 ≤ 20000
      omega
  | succ d ih =>
    intro i hd hi s g0 g1
    have hil : i < l.length := by omega
    obtain ⟨x, hxx⟩ : ∃ x, x = rd_T146 l (i : Int) := ⟨_, rfl⟩
    have hxm : x ∈ l := by rw [hxx]; exact rdD_mem l i hil
    have hdrop : l.drop i = x :: l.drop (i + 1) := by rw [List.drop_eq_getElem_cons hil, hxx, rdD l i hil]
    obtain ⟨bn, ⟨K1, h1⟩, ⟨K2, h2⟩⟩ := names_agree x.f0 (hx x hxm)
    have q1 : (i : Int) < (l.length : Int) := by omega
    have q2 : (0 : Int) ≤ (i : Int) := by omega
    have q3 : (i : Int) ≤ (l.length : Int) := by omega
    have no : ∀ (P : Prop), ((false : Bool) = true → P) := fun P h => by cases h
    have specNo : ∀ m, spec_DeclsOk.j1 (m + 1) l s (i : Int) true = some false := fun m => by simp only [spec_DeclsOk.j1, if_true]
    cases bn with
    | false =>
      refine ⟨false, ⟨K1 + 2, fun k hk => ?_⟩, ⟨K2 + 1, fun k hk => ?_⟩, no _⟩
      · obtain ⟨m, rfl⟩ : ∃ m, k = m + 1 + 1 := ⟨k - 2, by omega⟩
        have h1 := h1 (m + 1) (by omega)
        dsimp only at h1 ⊢
        simp only [spec_DeclsOk.l0]
        rw [← hxx, if_pos q1, if_pos q2, h1]
        simp only [Option.bind_some]
        rw [if_neg (by decide)]
        exact specNo m
      · obtain ⟨m, rfl⟩ : ∃ m, k = m + 1 := ⟨k - 1, by omega⟩
        have h2 := h2 m (by omega)
        dsimp only at h2 ⊢
        simp only [impl_DeclsOk.l0]
        rw [← hxx, if_pos q1, if_pos q2, if_pos q1, h2]
        simp only [Option.bind_some]
        rw [if_neg (by decide)]
    | true =>
      by_cases cw : 1 ≤ x.f1 ∧ x.f1 ≤ 4096
      · by_cases cd : ∃ y ∈ l.take i, y.f0.toList = x.f0.toList
        · have hidx := idxD_some x.f0 (l.take i) 0 (by decide) cd
          -- the reference's inner loop finds it
          have inner : Ev (fun k => spec_DeclsOk.l1 k l s (i : Int) 0) false := by
            obtain ⟨y, hy, he⟩ := cd
            obtain ⟨j0, hj0, hyj⟩ := List.getElem_of_mem hy
            rw [List.length_take] at hj0
            rw [List.getElem_take] at hyj
            have heq : (rd_T146 l (j0 : Int)).f0.toList = x.f0.toList := by rw [rdD l j0 (by omega), hyj]; exact he
            have go : ∀ d j, j0 - j = d → j ≤ j0 → Ev (fun k => spec_DeclsOk.l1 k l s (i : Int) (j : Int)) false := by
              intro d
              induction d with
              | zero =>
                intro j hd hj
                have e : j = j0 := by omega
                subst e
                refine Ev.step (f := fun _ => some false) (fun k => ?_) (Ev.now _)
                simp only [spec_DeclsOk.l1]
                rw [← hxx, if_pos (by omega), if_pos (by omega), if_pos (by omega), if_pos q2, if_pos q1, if_pos heq]
              | succ d ih2 =>
                intro j hd hj
                by_cases e : (rd_T146 l (j : Int)).f0.toList = x.f0.toList
                · refine Ev.step (f := fun _ => some false) (fun k => ?_) (Ev.now _)
                  simp only [spec_DeclsOk.l1]
                  rw [← hxx, if_pos (by omega), if_pos (by omega), if_pos (by omega), if_pos q2, if_pos q1, if_pos e]
                · refine Ev.step (fun k => ?_) (ih2 (j + 1) (by omega) (by omega))
                  simp only [spec_DeclsOk.l1]
                  rw [← hxx, if_pos (by omega), if_pos (by omega), if_pos (by omega), if_pos q2, if_pos q1, if_neg e, wrap_succ' j (by omega)]
            exact go j0 0 (by omega) (by omega)
          obtain ⟨K3, h3⟩ := inner
          refine ⟨false, ⟨K1 + K3 + 2, fun k hk => ?_⟩, ⟨K2 + 1, fun k hk => ?_⟩, no _⟩
          · obtain ⟨m, rfl⟩ : ∃ m, k = m + 1 + 1 := ⟨k - 2, by omega⟩
            have h1 := h1 (m + 1) (by omega)
            have h3 := h3 m (by omega)
            dsimp only at h1 h3 ⊢
            simp only [spec_DeclsOk.l0]
            rw [← hxx, if_pos q1, if_pos q2, h1]
            simp only [Option.bind_some, if_true]
            rw [l1In_eq, decide_eq_true cw]
            simp only [Option.bind_some, Bool.not_true, spec_DeclsOk.j1]
            rw [if_neg (by decide)]
            exact h3
          · obtain ⟨m, rfl⟩ : ∃ m, k = m + 1 := ⟨k - 1, by omega⟩
            have h2 := h2 m (by omega)
            dsimp only at h2 ⊢
            simp only [impl_DeclsOk.l0, impl_declared.f]
            rw [← hxx, if_pos q1, if_pos q2, if_pos q1, h2]
            simp only [Option.bind_some, if_true]
            rw [inside_eq, decide_eq_true cw]
            simp only [Option.bind_some, if_true]
            rw [if_pos q3, Int.toNat_natCast, if_pos hidx]
        · have hidx := idxD_none x.f0 (l.take i) 0 (fun y hy he => cd ⟨y, hy, he⟩)
          obtain ⟨b, hs, hi2, hb⟩ := ih (i + 1) (by omega) (by omega) (s + x.f1) (by omega) (by omega)
          have hws : True → wrap64 (s + x.f1) = s + x.f1 := fun _ => wrap64_id (by omega) (by omega)
          have hwi : True → wrap64 ((i : Int) + 1) = ((i + 1 : Nat) : Int) := fun _ => wrap_succ' i (by omega)
          have inner : Ev (fun k => spec_DeclsOk.l1 k l s (i : Int) 0) b := by
            refine up_loop i (fun _ => ()) (fun k _ j => spec_DeclsOk.l1 k l s (i : Int) j) (fun j hj r h => Ev.step (fun k => ?_) h) b (Ev.step (fun k => ?_) hs)
            · have hne : ¬ (rd_T146 l (j : Int)).f0.toList = x.f0.toList := fun he => cd ⟨rd_T146 l (j : Int), by rw [rdD l j (by omega)]; exact List.mem_take_iff_getElem.2 ⟨j, by omega, rfl⟩, he⟩
              simp only [spec_DeclsOk.l1]
              rw [← hxx, if_pos (by omega), if_pos (by omega), if_pos (by omega), if_pos q2, if_pos q1, if_neg hne, wrap64_id (by omega) (by omega)]
            · simp only [spec_DeclsOk.l1]
              rw [← hxx, hws trivial, hwi trivial, if_neg (by omega), if_pos q2, if_pos q1]
          obtain ⟨K3, h3⟩ := inner
          obtain ⟨K4, h4⟩ := hi2
          refine ⟨b, ⟨K1 + K3 + 2, fun k hk => ?_⟩, ⟨K2 + K4 + 1, fun k hk => ?_⟩, fun hbt => ?_⟩
          · obtain ⟨m, rfl⟩ : ∃ m, k = m + 1 + 1 := ⟨k - 2, by omega⟩
            have h1 := h1 (m + 1) (by omega)
            have h3 := h3 m (by omega)
            dsimp only at h1 h3 ⊢
            simp only [spec_DeclsOk.l0]
            rw [← hxx, if_pos q1, if_pos q2, h1]
            simp only [Option.bind_some, if_true]
            rw [l1In_eq, decide_eq_true cw]
            simp only [Option.bind_some, Bool.not_true, spec_DeclsOk.j1]
            rw [if_neg (by decide)]
            exact h3
          · obtain ⟨m, rfl⟩ : ∃ m, k = m + 1 := ⟨k - 1, by omega⟩
            have h2 := h2 m (by omega)
            have h4 := h4 m (by omega)
            dsimp only at h2 h4 ⊢
            simp only [impl_DeclsOk.l0, impl_declared.f]
            rw [← hxx, if_pos q1, if_pos q2, if_pos q1, h2]
            simp only [Option.bind_some, if_true]
            rw [inside_eq, decide_eq_true cw]
            simp only [Option.bind_some, if_true]
            rw [if_pos q3, Int.toNat_natCast, hidx, if_neg (by decide), hws trivial, hwi trivial]
            exact h4
          · obtain ⟨t1, t2⟩ := hb hbt
            rw [hdrop]
            refine ⟨fun y hy => ?_, ?_⟩
            · rcases List.mem_cons.1 hy with rfl | hy
              · exact cw
              · exact t1 y hy
            · show s + (x.f1 + sumD (l.drop (i + 1))) ≤ 20000
              omega
      · refine ⟨false, ⟨K1 + 2, fun k hk => ?_⟩, ⟨K2 + 1, fun k hk => ?_⟩, no _⟩
        · obtain ⟨m, rfl⟩ : ∃ m, k = m + 1 + 1 := ⟨k - 2, by omega⟩
          have h1 := h1 (m + 1) (by omega)
          dsimp only at h1 ⊢
          simp only [spec_DeclsOk.l0]
          rw [← hxx, if_pos q1, if_pos q2, h1]
          simp only [Option.bind_some, if_true]
          rw [l1In_eq, decide_eq_false cw]
          simp only [Option.bind_some, Bool.not_false]
          exact specNo m
        · obtain ⟨m, rfl⟩ : ∃ m, k = m + 1 := ⟨k - 1, by omega⟩
          have h2 := h2 m (by omega)
          dsimp only at h2 ⊢
          simp only [impl_DeclsOk.l0]
          rw [← hxx, if_pos q1, if_pos q2, if_pos q1, h2]
          simp only [Option.bind_some, if_true]
          rw [inside_eq, decide_eq_false cw]
          rfl
theorem declsOk_agree (l : List S146) (hx : ∀ x ∈ l, x.f0.size ≤ 1048576) :
    ∃ b, Ev (fun k => spec_DeclsOk.f k l) b ∧ Ev (fun k => impl_DeclsOk.f k l) b ∧ (b = true → GoodDecls l) := by
  by_cases c : (l.length : Int) > 60
  · exact ⟨false, Ev.congr (fun k => by unfold spec_DeclsOk.f; rw [if_pos c]) (Ev.now _), Ev.congr (fun k => by unfold impl_DeclsOk.f; rw [if_pos c]) (Ev.now _), fun h => by cases h⟩
  · obtain ⟨b, h1, h2, h3⟩ := decls_loops l (by omega) hx l.length 0 (by omega) (by omega) 0 (by decide) (by decide)
    refine ⟨b, Ev.congr (fun k => by unfold spec_DeclsOk.f; rw [if_neg c]; rfl) h1, Ev.congr (fun k => by unfold impl_DeclsOk.f; rw [if_neg c]; rfl) h2, fun hb => ?_⟩
    obtain ⟨t1, t2⟩ := h3 hb
    rw [List.drop_zero] at t1 t2
    exact ⟨by omega, t1, by omega⟩

/-! upDecl -/
theorem upDecl {l : List S146} (U : (l.length : Int) ≤ 1048576 ∧ ∀ y ∈ l, UpI_Decl 1048576 y) : ∀ x ∈ l, x.f0.size ≤ 1048576 := fun x hx => by
  have := U.2 x hx
  unfold UpI_Decl at this
  omega

/-! valuesOk -/
/-- Right values for decls. -/
def GoodValues (l : List S146) (b : List S149) : Prop := b.length = l.length ∧ ∀ v : Nat, v < b.length → (rd_T149 b (v : Int)).f0 = (rd_T146 l (v : Int)).f1 ∧ Right (rd_T149 b (v : Int)).f0 (rd_T149 b (v : Int)).f1
theorem values_loops (l : List S146) (b : List S149) (hg : GoodDecls l) (hlen : b.length = l.length) (hb : ∀ y ∈ b, U64s y.f1 ∧ y.f1.length ≤ 1048576 ∧ -9223372036854775808 ≤ y.f0 ∧ y.f0 ≤ 9223372036854775807) :
    ∀ d v, b.length - v = d → v ≤ b.length → ∃ z, Ev (fun k => spec_ValuesOk.l0 k l b (v : Int)) z ∧ Ev (fun k => impl_valuesOk.l0 k l b (b.length : Int) (v : Int)) z ∧
      (z = true → ∀ u : Nat, v ≤ u → u < b.length → (rd_T149 b (u : Int)).f0 = (rd_T146 l (u : Int)).f1 ∧ Right (rd_T149 b (u : Int)).f0 (rd_T149 b (u : Int)).f1) := by
  have no : ∀ (P : Prop), ((false : Bool) = true → P) := fun P h => by cases h
  have hl := hg.len
  intro d
  induction d with
  | zero =>
    intro v hd hv
    refine ⟨true, Ev.step (f := fun _ => some true) (fun k => ?_) (Ev.now _), Ev.step (f := fun _ => some true) (fun k => ?_) (Ev.now _), fun _ u g1 g2 => absurd g1 (by omega)⟩
    · simp (disch := omega) only [spec_ValuesOk.l0, ↓if_neg]
    · simp (disch := omega) only [impl_valuesOk.l0, ↓if_neg]
  | succ d ih =>
    intro v hd hv
    have hvl : v < b.length := by omega
    obtain ⟨z, ⟨K1, h1⟩, ⟨K2, h2⟩, h3⟩ := ih (v + 1) (by omega) (by omega)
    obtain ⟨x, hx⟩ : ∃ x, x = rd_T149 b (v : Int) := ⟨_, rfl⟩
    obtain ⟨w, hwe⟩ : ∃ w, w = (rd_T146 l (v : Int)).f1 := ⟨_, rfl⟩
    obtain ⟨u1, u2, u3, u4⟩ := hb x (by rw [hx]; exact rdM_T149 b v hvl)
    have hi := implBitsOk_eq x.f0 x.f1 u1 u2
    obtain ⟨K3, hs⟩ := Ev.binds (specBitsOk_ev x.f0 x.f1 u1 u2 u3 u4)
    by_cases cw : x.f0 = w
    · rcases okB_cases x.f0 x.f1 with ⟨e, hr⟩ | ⟨e, hr⟩
      · refine ⟨z, ⟨K1 + K3 + 1, fun k hk => ?_⟩, ⟨K2 + 1, fun k hk => ?_⟩, fun hz u g1 g2 => ?_⟩
        · obtain ⟨m, rfl⟩ : ∃ m, k = m + 1 := ⟨k - 1, by omega⟩
          have h1 := h1 m (by omega)
          simp (disch := omega) only [spec_ValuesOk.l0, ← hx, ← hwe, ↓if_pos, ↓if_neg, cw, wrap_next]
          rw [cw] at hs e
          simp (disch := omega) only [↓hs, e, ↓reduceIte]
          exact h1
        · obtain ⟨m, rfl⟩ : ∃ m, k = m + 1 := ⟨k - 1, by omega⟩
          have h2 := h2 m (by omega)
          simp (disch := omega) only [impl_valuesOk.l0, ← hx, ← hwe, ↓if_pos, ↓if_neg, hi, e, Option.bind_some, ↓reduceIte, wrap_next]
          exact h2
        · by_cases eu : u = v
          · subst eu
            rw [← hx, ← hwe]
            exact ⟨cw, hr⟩
          · exact h3 hz u (by omega) g2
      · refine ⟨false, ⟨K3 + 1, fun k hk => ?_⟩, Ev.step (f := fun _ => some false) (fun k => ?_) (Ev.now _), no _⟩
        · obtain ⟨m, rfl⟩ : ∃ m, k = m + 1 := ⟨k - 1, by omega⟩
          simp (disch := omega) only [spec_ValuesOk.l0, ← hx, ← hwe, ↓if_pos, ↓if_neg, cw]
          rw [cw] at hs e
          simp (disch := omega) only [↓hs, e, ↓reduceIte, Bool.false_eq_true]
        · simp (disch := omega) only [impl_valuesOk.l0, ← hx, ← hwe, ↓if_pos, ↓if_neg, hi, e, Option.bind_some, ↓reduceIte, Bool.false_eq_true]
    · refine ⟨false, Ev.step (f := fun _ => some false) (fun k => ?_) (Ev.now _), Ev.step (f := fun _ => some false) (fun k => ?_) (Ev.now _), no _⟩
      · simp (disch := omega) only [spec_ValuesOk.l0, ← hx, ← hwe, ↓if_pos, ↓if_neg, cw, ↓reduceIte]
      · rcases okB_cases x.f0 x.f1 with ⟨e, hr⟩ | ⟨e, hr⟩
        · simp (disch := omega) only [impl_valuesOk.l0, ← hx, ← hwe, ↓if_pos, ↓if_neg, hi, e, Option.bind_some, ↓reduceIte, cw]
        · simp (disch := omega) only [impl_valuesOk.l0, ← hx, ← hwe, ↓if_pos, ↓if_neg, hi, e, Option.bind_some, ↓reduceIte, Bool.false_eq_true]
theorem values_core (l : List S146) (b : List S149) (hx : ∀ x ∈ l, x.f0.size ≤ 1048576) (hbl : (b.length : Int) ≤ 1048576) (hb : ∀ y ∈ b, U64s y.f1 ∧ y.f1.length ≤ 1048576 ∧ -9223372036854775808 ≤ y.f0 ∧ y.f0 ≤ 9223372036854775807) :
    ∃ z, Ev (fun k => spec_ValuesOk.f k l b) z ∧ Ev (fun k => impl_ValuesOk.f k l b) z ∧ (z = true → GoodDecls l ∧ GoodValues l b) := by
  have no : ∀ (P : Prop), ((false : Bool) = true → P) := fun P h => by cases h
  obtain ⟨bd, g1, g2, hg⟩ := declsOk_agree l hx
  obtain ⟨K1, h1⟩ := Ev.binds g1
  obtain ⟨K2, h2⟩ := Ev.binds g2
  cases bd with
  | false =>
    refine ⟨false, ⟨K1 + 2, fun k hk => ?_⟩, ⟨K2, fun k hk => ?_⟩, no _⟩
    · obtain ⟨m, rfl⟩ : ∃ m, k = m + 1 := ⟨k - 1, by omega⟩
      simp (disch := omega) only [spec_ValuesOk.f, ↓h1, ↓reduceIte, Bool.false_eq_true, spec_ValuesOk.j0]
    · simp (disch := omega) only [impl_ValuesOk.f, ↓h2, ↓reduceIte, Bool.false_eq_true]
  | true =>
    have hg := hg rfl
    by_cases c : b.length = l.length
    · obtain ⟨z, e1, e2, e3⟩ := values_loops l b hg c hb b.length 0 (by omega) (by omega)
      obtain ⟨K3, h3⟩ := e1
      obtain ⟨K4, h4⟩ := Ev.binds e2
      have cn : ((b.length : Int) != (l.length : Int)) = false := by rw [c]; exact bne_self_eq_false _
      refine ⟨z, ⟨K1 + K3 + 1, fun k hk => ?_⟩, ⟨K2 + K4, fun k hk => ?_⟩, fun hz => ⟨hg, c, fun v hv => e3 hz v (by omega) hv⟩⟩
      · obtain ⟨m, rfl⟩ : ∃ m, k = m + 1 := ⟨k - 1, by omega⟩
        have h3 := h3 m (by omega)
        simp (disch := omega) only [spec_ValuesOk.f, ↓h1, ↓reduceIte, cn, spec_ValuesOk.j0, Bool.false_eq_true]
        exact h3
      · have e : impl_valuesOk.f k l b = impl_valuesOk.l0 k l b (b.length : Int) ((0 : Nat) : Int) := by unfold impl_valuesOk.f; rw [if_pos (by omega)]; rfl
        simp (disch := omega) only [impl_ValuesOk.f, ↓h2, ↓reduceIte]
        rw [e]
        exact h4 k (by omega) _ _
    · have cn : ((b.length : Int) != (l.length : Int)) = true := bne_iff_ne.2 (by omega)
      refine ⟨false, ⟨K1 + 2, fun k hk => ?_⟩, ⟨K2, fun k hk => ?_⟩, no _⟩
      · obtain ⟨m, rfl⟩ : ∃ m, k = m + 1 := ⟨k - 1, by omega⟩
        simp (disch := omega) only [spec_ValuesOk.f, ↓h1, ↓reduceIte, cn, spec_ValuesOk.j0]
      · simp (disch := omega) only [impl_ValuesOk.f, ↓h2, ↓reduceIte, impl_valuesOk.f, ↓if_neg, Option.bind_some]
theorem upBits {b : List S149} (U : (b.length : Int) ≤ 1048576 ∧ ∀ y ∈ b, UpI_Bits 1048576 y) (W : ∀ y ∈ b, WfI_Bits y) : ∀ y ∈ b, U64s y.f1 ∧ y.f1.length ≤ 1048576 ∧ -9223372036854775808 ≤ y.f0 ∧ y.f0 ≤ 9223372036854775807 := fun y hy => by
  have u := U.2 y hy
  have w := W y hy
  unfold UpI_Bits at u
  exact ⟨w.2, by omega, w.1.1, w.1.2⟩
theorem valuesOk_agree (l : List S146) (b : List S149) (U0 : (l.length : Int) ≤ 1048576 ∧ ∀ y ∈ l, UpI_Decl 1048576 y) (W0 : ∀ y ∈ l, WfI_Decl y) (U1 : (b.length : Int) ≤ 1048576 ∧ ∀ y ∈ b, UpI_Bits 1048576 y) (W1 : ∀ y ∈ b, WfI_Bits y) :
    ∃ z, Ev (fun k => spec_ValuesOk.f k l b) z ∧ Ev (fun k => impl_ValuesOk.f k l b) z := by
  obtain ⟨z, h1, h2, _⟩ := values_core l b (upDecl U0) U1.1 (upBits U1 W1)
  exact ⟨z, h1, h2⟩

/-! markBitsS -/
theorem mark_BitsS_loop (x : List S149) (hl : x.length ≤ 1048576) (hx : ∀ j : Nat, j < x.length → ((rd_T149 x (j : Int)).f1.length : Int) ≤ 1048576) :
    ∀ d i, x.length - i = d → i ≤ x.length → ∀ (xs : List S149) (m : Int), xs.length = x.length → (∀ j : Nat, i ≤ j → j < x.length → rd_T149 xs (j : Int) = rd_T149 x (j : Int)) → 0 ≤ m → m ≤ 4611686018427387904 - (d : Int) * 1048577 →
      ∃ (m' : Int) (x' : List S149), Ev (fun k => laws_markBitsS.l0 k xs m (i : Int)) (m', x') ∧ m ≤ m' ∧ m' ≤ m + (d : Int) * 1048577 := by
  intro d
  induction d with
  | zero =>
    intro i hd hi xs m hlen hrd h0 h1
    refine ⟨m, xs, Ev.step (f := fun _ => some (m, xs)) (fun k => ?_) (Ev.now _), by omega, by omega⟩
    simp (disch := omega) only [laws_markBitsS.l0, ↓if_neg]
  | succ d ih =>
    intro i hd hi xs m hlen hrd h0 h1
    have hil : i < x.length := by omega
    have hr := hrd i (Nat.le_refl _) hil
    have hb := hx i hil
    rw [← hr] at hb
    obtain ⟨m1, z, g, o1, o2⟩ := mark_Uint64S (rd_T149 xs (i : Int)).f1 hb (m + 1) (by omega) (by omega)
    obtain ⟨m2, x', ⟨K2, e2⟩, p1, p2⟩ := ih (i + 1) (by omega) (by omega) (xs.set i ⟨m, z⟩) m1 (by rw [List.length_set]; exact hlen) (fun j hj hjl => by
      rw [← hrd j (by omega) hjl]
      unfold rd_T149
      rw [List.getD_eq_getElem?_getD, List.getD_eq_getElem?_getD, Int.toNat_natCast, List.getElem?_set_ne (by omega)]) (by omega) (by omega)
    obtain ⟨K1, e1⟩ := g
    refine ⟨m2, x', ⟨K1 + K2 + 1, fun k hk => ?_⟩, by omega, by omega⟩
    obtain ⟨mm, rfl⟩ : ∃ mm, k = mm + 1 := ⟨k - 1, by omega⟩
    have e1 := e1 mm (by omega)
    have e2 := e2 mm (by omega)
    dsimp only at e1 e2 ⊢
    simp (disch := omega) only [laws_markBitsS.l0, ↓if_pos, wrap64_id (x := m + 1), e1, Option.bind_some, Int.toNat_natCast, wrap_next]
    exact e2
theorem mark_BitsS (x : List S149) (h : ((x.length : Int) ≤ 1048576 ∧ ∀ y ∈ x, UpI_Bits 1048576 y)) (m : Int) (h0 : 0 ≤ m) (h1 : m ≤ 4611686018427387904 - 1099512676352) : ∃ (m' : Int) (x' : List S149), Ev (fun k => laws_markBitsS.f k x m) (m', x') ∧ m ≤ m' ∧ m' ≤ m + 1099512676352 := by
  obtain ⟨h2, h3⟩ := h
  obtain ⟨m', x', e, p1, p2⟩ := mark_BitsS_loop x (by omega) (fun j hj => h3 _ (rdM_T149 x j hj)) x.length 0 (by omega) (by omega) x m rfl (fun _ _ _ => rfl) h0 (by omega)
  exact ⟨m', x', e, p1, by omega⟩

/-! switchesOf -/
/-- How many bits there are from a value on. -/
def sumW : List S149 → Int
  | [] => 0
  | x :: xs => x.f0 + sumW xs
theorem switch_bits (b : List S149) (v : Nat) (hv : v < b.length) (hb : b.length ≤ 60) (hr : Right (rd_T149 b (v : Int)).f0 (rd_T149 b (v : Int)).f1) (w : Nat) (hw : (rd_T149 b (v : Int)).f0 = (w : Int)) (z : List Bool → List Bool × Bool) :
    ∀ d i, w - i = d → i ≤ w → ∀ xs : List Bool, xs.length + d ≤ 1048576 → ∃ ys : List Bool, ys.length = xs.length + d ∧
      (∀ y, Ev (fun k => spec_SwitchesOf.l0 k b ys ((v + 1 : Nat) : Int)) y → Ev (fun k => spec_SwitchesOf.l1 k b xs (v : Int) (i : Int)) y) ∧
      (∀ y, Ev (fun k => impl_SwitchesOf.l0 k ys b (b.length : Int) ((v + 1 : Nat) : Int)) y → Ev (fun k => impl_SwitchesOf.l1 k xs b (b.length : Int) (v : Int) (w : Int) (i : Int) (w : Int) (rd_T149 b (v : Int)).f1) y) := by
  obtain ⟨x, hx⟩ : ∃ x, x = rd_T149 b (v : Int) := ⟨_, rfl⟩
  rw [← hx] at hr hw ⊢
  have hlen := hr.len
  have hhi := hr.high
  have hlo := hr.low
  rw [hw] at hlen hhi hlo
  intro d
  induction d with
  | zero =>
    intro i hd hi xs hxs
    refine ⟨xs, rfl, fun y hy => Ev.step (fun k => ?_) hy, fun y hy => Ev.step (fun k => ?_) hy⟩
    · simp (disch := omega) only [spec_SwitchesOf.l1, ← hx, hw, ↓if_pos, ↓if_neg, wrap_next]
    · simp (disch := omega) only [impl_SwitchesOf.l1, ↓if_neg, wrap_next]
  | succ d ih =>
    intro i hd hi xs hxs
    have b1 := l1Bit_eq (w : Int) x.f1 hr.words i (by omega) (by omega)
    have b2 := implBit_eq (w : Int) x.f1 hr.words i (by omega) (by omega)
    obtain ⟨ys, e0, e1, e2⟩ := ih (i + 1) (by omega) (by omega) (xs ++ [(bitI x.f1 i == 1)]) (by simp only [List.length_append, List.length_singleton]; omega)
    refine ⟨ys, by rw [e0]; simp only [List.length_append, List.length_singleton]; omega, fun y hy => Ev.step (fun k => ?_) (e1 y hy), fun y hy => Ev.step (fun k => ?_) (e2 y hy)⟩
    · simp (disch := omega) only [spec_SwitchesOf.l1, ← hx, hw, ↓if_pos, b1, Option.bind_some, wrap_next]
    · simp (disch := omega) only [impl_SwitchesOf.l1, ↓if_pos, b2, Option.bind_some, wrap_next]
theorem switch_loops (b : List S149) (hb : b.length ≤ 60) (hr : ∀ v : Nat, v < b.length → Right (rd_T149 b (v : Int)).f0 (rd_T149 b (v : Int)).f1) :
    ∀ d v, b.length - v = d → v ≤ b.length → ∀ xs : List Bool, xs.length ≤ 4096 * v → ∃ ys : List Bool, ys.length ≤ 4096 * b.length ∧ Ev (fun k => spec_SwitchesOf.l0 k b xs (v : Int)) (ys, true) ∧ Ev (fun k => impl_SwitchesOf.l0 k xs b (b.length : Int) (v : Int)) (ys, true) := by
  intro d
  induction d with
  | zero =>
    intro v hd hv xs hxs
    refine ⟨xs, by omega, Ev.step (f := fun _ => some (xs, true)) (fun k => ?_) (Ev.now _), Ev.step (f := fun _ => some (xs, true)) (fun k => ?_) (Ev.now _)⟩
    · simp (disch := omega) only [spec_SwitchesOf.l0, ↓if_neg]
    · simp (disch := omega) only [impl_SwitchesOf.l0, ↓if_neg]
  | succ d ih =>
    intro v hd hv xs hxs
    have hvl : v < b.length := by omega
    have hrv := hr v hvl
    have hlo := hrv.low
    have hhi := hrv.high
    obtain ⟨w, hw⟩ : ∃ w : Nat, (rd_T149 b (v : Int)).f0 = (w : Int) := ⟨(rd_T149 b (v : Int)).f0.toNat, by omega⟩
    obtain ⟨ys, e0, e1, e2⟩ := switch_bits b v hvl hb hrv w hw (fun l => (l, true)) w 0 (by omega) (by omega) xs (by omega)
    obtain ⟨zs, f0, f1, f2⟩ := ih (v + 1) (by omega) (by omega) ys (by omega)
    refine ⟨zs, f0, Ev.step (fun k => ?_) (e1 _ f1), Ev.step (fun k => ?_) (e2 _ f2)⟩
    · simp (disch := omega) only [spec_SwitchesOf.l0, ↓if_pos]
      rfl
    · simp (disch := omega) only [impl_SwitchesOf.l0, ↓if_pos, hw]
      rfl
theorem switchesOf_agree (l : List S146) (b : List S149) (U0 : (l.length : Int) ≤ 1048576 ∧ ∀ y ∈ l, UpI_Decl 1048576 y) (W0 : ∀ y ∈ l, WfI_Decl y) (U1 : (b.length : Int) ≤ 1048576 ∧ ∀ y ∈ b, UpI_Bits 1048576 y) (W1 : ∀ y ∈ b, WfI_Bits y) :
    ∃ (y0 : List Bool) (y1 : Bool), Ev (fun k => spec_SwitchesOf.f k l b) (y0, y1) ∧ Ev (fun k => impl_SwitchesOf.f k l b) (y0, y1) ∧ ((y0.length : Int) ≤ 1048576) := by
  obtain ⟨z, ⟨K1, h1⟩, ⟨K2, h2⟩, h3⟩ := values_core l b (upDecl U0) U1.1 (upBits U1 W1)
  cases z with
  | false =>
    refine ⟨[], false, ⟨K1, fun k hk => ?_⟩, ⟨K2, fun k hk => ?_⟩, by simp⟩
    · have h1 := h1 k hk
      dsimp only at h1 ⊢
      simp only [spec_SwitchesOf.f, Option.bind_some, h1, ↓reduceIte, Bool.false_eq_true]
    · have h2 := h2 k hk
      dsimp only at h2 ⊢
      simp only [impl_SwitchesOf.f, Option.bind_some, h2, ↓reduceIte, Bool.false_eq_true]
  | true =>
    obtain ⟨hg, hv⟩ := h3 rfl
    have hl := hg.len
    have hb : b.length ≤ 60 := by have := hv.1; omega
    obtain ⟨ys, e0, ⟨K3, e1⟩, K4, e2⟩ := switch_loops b hb (fun v hvl => (hv.2 v hvl).2) b.length 0 (by omega) (by omega) [] (by simp)
    refine ⟨ys, true, ⟨K1 + K3, fun k hk => ?_⟩, ⟨K2 + K4, fun k hk => ?_⟩, by omega⟩
    · have h1 := h1 k (by omega)
      have e1 := e1 k (by omega)
      dsimp only at h1 e1 ⊢
      simp only [spec_SwitchesOf.f, Option.bind_some, h1, ↓reduceIte]
      exact e1
    · have h2 := h2 k (by omega)
      have e2 := e2 k (by omega)
      dsimp only at h2 e2 ⊢
      simp only [impl_SwitchesOf.f, h2, Option.bind_some, ↓reduceIte]
      exact e2
-- SAYS: The program's SwitchesOf answers as the reference's SwitchesOf does, for all arguments.
theorem FnExactSwitchesOf (l0 : List S142) (l1 : List S160) (q0 : ∀ x ∈ l0, x.f0.size ≤ maxLen ∧ (Lit.int .i64 x.f1).wf = true) (hl0 : l0.length ≤ 9223372036854775807) (q1 : ∀ x ∈ l1, (Lit.int .i64 x.f0).wf = true ∧ (x.f1.length ≤ 9223372036854775807 ∧ ∀ y0 ∈ x.f1, (Lit.int .u64 y0).wf = true)) (hl1 : l1.length ≤ 9223372036854775807) : ∃ k, laws_FnExactSwitchesOf.f k l0 l1 = some true := by
  obtain ⟨r0, g0, hb0⟩ := sz_DeclS l0 1048576 (⟨Int.ofNat_le.2 (And.intro hl0 q0).1, fun y hy => in_Decl y ((And.intro hl0 q0).2 y hy)⟩) (by omega) (by omega)
  obtain ⟨Ks0, s0⟩ := Ev.binds (g0)
  rcases hb0 with hneg | ⟨p0, z0, u0⟩
  · have c0 := eq_true hneg
    exact ⟨Ks0 + 1 + 1 + 1 + 1, by simp (disch := omega) only [laws_FnExactSwitchesOf.f, ↓s0, ↓reduceIte, c0]⟩
  have c0 := eq_false (show ¬ r0 < 0 by omega)
  obtain ⟨r1, g1, hb1⟩ := sz_BitsS l1 r0 (⟨Int.ofNat_le.2 (And.intro hl1 q1).1, fun y hy => in_Bits y ((And.intro hl1 q1).2 y hy)⟩) (by omega) (by omega)
  obtain ⟨Ks1, s1⟩ := Ev.binds (g1)
  rcases hb1 with hneg | ⟨p1, z1, u1⟩
  · have c1 := eq_true hneg
    exact ⟨Ks0 + Ks1 + 1 + 1 + 1 + 1, by simp (disch := omega) only [laws_FnExactSwitchesOf.f, ↓s0, ↓s1, ↓reduceIte, c0, c1]⟩
  have c1 := eq_false (show ¬ r1 < 0 by omega)
  have U0 : (((l0.map cv_Decl).length : Int) ≤ 1048576 ∧ ∀ y ∈ (l0.map cv_Decl), UpI_Decl 1048576 y) := ⟨by simpa using u0.1, fun y hy => by obtain ⟨z, hz, rfl⟩ := List.mem_map.1 hy; exact upcv_Decl _ z (u0.2 z hz)⟩
  have W0 : (∀ y ∈ (l0.map cv_Decl), WfI_Decl y) := (fun y hy => by obtain ⟨z, hz, rfl⟩ := List.mem_map.1 hy; exact wf_Decl z ((And.intro hl0 q0).2 z hz))
  have U1 : (((l1.map cv_Bits).length : Int) ≤ 1048576 ∧ ∀ y ∈ (l1.map cv_Bits), UpI_Bits 1048576 y) := ⟨by simpa using u1.1, fun y hy => by obtain ⟨z, hz, rfl⟩ := List.mem_map.1 hy; exact upcv_Bits _ z (u1.2 z hz)⟩
  have W1 : (∀ y ∈ (l1.map cv_Bits), WfI_Bits y) := (fun y hy => by obtain ⟨z, hz, rfl⟩ := List.mem_map.1 hy; exact wf_Bits z ((And.intro hl1 q1).2 z hz))
  obtain ⟨y0, y1, e1, e2, v0⟩ := switchesOf_agree ((l0.map cv_Decl)) ((l1.map cv_Bits)) U0 W0 U1 W1
  obtain ⟨Kt0, t0⟩ := Ev.binds (to_DeclS l0 u0)
  obtain ⟨Kt1, t1⟩ := Ev.binds (to_BitsS l1 u1)
  obtain ⟨Khs, hs⟩ := Ev.binds (e1)
  obtain ⟨Khi, hi⟩ := Ev.binds (e2)
  obtain ⟨Ke0_, e0_⟩ := Ev.binds (eq_DeclS ((l0.map cv_Decl)) U0)
  obtain ⟨Ke1_, e1_⟩ := Ev.binds (eq_BitsS ((l1.map cv_Bits)) U1)
  obtain ⟨Kf0_, f0_⟩ := Ev.binds (eq_BoolS y0 v0)
  obtain ⟨m0, n0_0, g0_, o0, w0⟩ := mark_DeclS ((l0.map cv_Decl)) U0 1 (by omega) (by omega)
  obtain ⟨Kk0_, k0_⟩ := Ev.binds (g0_)
  obtain ⟨m1, n1_0, g1_, o1, w1⟩ := mark_BitsS ((l1.map cv_Bits)) U1 m0 (by omega) (by omega)
  obtain ⟨Kk1_, k1_⟩ := Ev.binds (g1_)
  have cm := eq_false (show ¬ m1 < 0 by omega)
  obtain ⟨M0, N0_0, G0_, O0, A0, H0_⟩ := mark_BoolS y0 v0 1 (by omega) (by omega)
  obtain ⟨Kx0_, x0_⟩ := Ev.binds (G0_)
  obtain ⟨Kz0_, z0_⟩ := Ev.binds (H0_)
  have cn0 := eq_false (show ¬ M0 < 0 by omega)
  exact ⟨Ks0 + Ks1 + Kt0 + Kt1 + Khs + Khi + Ke0_ + Ke1_ + Kf0_ + Kk0_ + Kk1_ + Kx0_ + Kz0_ + 1 + 1 + 1 + 1, by simp (disch := omega) only [laws_FnExactSwitchesOf.f, ↓s0, ↓s1, ↓t0, ↓t1, ↓hs, ↓hi, ↓e0_, ↓e1_, ↓f0_, ↓k0_, ↓k1_, ↓x0_, ↓z0_, ↓reduceIte, c0, c1, cm, cn0, bne_self_eq_false, Bool.false_eq_true, Bool.not_true, Bool.not_false]⟩

end Go.Proofs.Ytjmnhcooimdioaa.Pure
