/- The program's Gauge answers as the reference's Gauge does, for all arguments. -/
import Derived.Test.YtkjlplcdjdenkaaPFnExactGaugex8
import Derived.Test.YtkjlplcdjdenkaaBits
import Derived.Test.YtkjlplcdjdenkaaLoops
namespace Go.Proofs.Ytkjlplcdjdenkaa.Pure
open Go Go.RowKit Go.Proofs.Ytkjlplcdjdenkaa.PFnExactGauge Go.Proofs.YtkjlplcdjdenkaaW.PrintWords Go.Proofs.YtkjlplcdjdenkaaW.PrintLast Go.Proofs.YtkjlplcdjdenkaaW.PrintMore Go.Proofs.Ytkjlplcdjdenkaa.BitsLib Go.Proofs.Ytkjlplcdjdenkaa.Loops
set_option linter.unusedVariables false
set_option linter.unusedSimpArgs false
set_option maxRecDepth 4000

/-! wrap_next -/
theorem wrap_next (i : Nat) (h : i < 4611686018427387904) : wrap64 ((i : Int) + 1) = ((i + 1 : Nat) : Int) := by
  rw [wrap64_id (by omega) (by omega)]; rfl

/-! szn_out -/
theorem szn_out (n : Nat) (left : Int) (hn : (n : Int) ≤ 9223372036854775807) (h0 : 0 ≤ left) (h1 : left ≤ 1048576) :
    ∃ r, (True → wrap64 (left - (n : Int)) = r) ∧ (r < 0 ∨ (0 ≤ r ∧ r ≤ left ∧ (n : Int) ≤ 1048576)) := by
  refine ⟨left - (n : Int), fun _ => wrap64_id (by omega) (by omega), ?_⟩
  by_cases c : left - (n : Int) < 0
  · exact .inl c
  · exact .inr (by omega)

/-! rdE_L3 -/
theorem rdE_L3 (l : List (List Int)) (i : Nat) (h : i < l.length) : rd_L3 l (i : Int) = l[i] := by
  unfold rd_L3
  rw [List.getD_eq_getElem?_getD, Int.toNat_natCast, List.getElem?_eq_getElem h]; rfl
theorem rdM_L3 (l : List (List Int)) (i : Nat) (h : i < l.length) : rd_L3 l (i : Int) ∈ l := by rw [rdE_L3 l i h]; exact List.getElem_mem h

/-! S61 -/
structure S61 where
  f0 : List (List Int)

/-! UpL_Cuts -/
def UpL_Cuts (c : Int) (x : S61) : Prop := ((x.f0.length : Int) ≤ c ∧ ∀ y ∈ x.f0, ((y.length : Int) ≤ c))

/-! sz_Int64S -/
theorem sz_Int64S (x : List Int) (left : Int) (hin : ((x.length : Int) ≤ 9223372036854775807)) (h0 : 0 ≤ left) (h1 : left ≤ 1048576) :
    ∃ r, Ev (fun k => laws_szInt64S.f x left) r ∧ (r < 0 ∨ (0 ≤ r ∧ r ≤ left ∧ ((x.length : Int) ≤ 1048576))) := by
  obtain ⟨r, hr, hb⟩ := szn_out x.length left hin h0 h1
  rcases hb with c | ⟨p0, q0, u0⟩
  · exact ⟨-1, ⟨0, fun k _ => by dsimp only; unfold laws_szInt64S.f; rw [hr trivial, if_pos c]⟩, .inl (by omega)⟩
  · exact ⟨r, ⟨0, fun k _ => by dsimp only; unfold laws_szInt64S.f; rw [hr trivial, if_neg (by omega)]⟩, .inr ⟨p0, q0, u0⟩⟩

/-! sz_Int64SS -/
theorem sz_Int64SS (x : List (List Int)) (left : Int) (hin : ((x.length : Int) ≤ 9223372036854775807 ∧ ∀ y ∈ x, ((y.length : Int) ≤ 9223372036854775807))) (h0 : 0 ≤ left) (h1 : left ≤ 1048576) :
    ∃ r, Ev (fun k => laws_szInt64SS.f k x left) r ∧ (r < 0 ∨ (0 ≤ r ∧ r ≤ left ∧ ((x.length : Int) ≤ 1048576 ∧ ∀ y ∈ x, ((y.length : Int) ≤ 1048576)))) := by
  obtain ⟨hl, hx⟩ := hin
  obtain ⟨r0, hr0, hb0⟩ := szn_out x.length left hl h0 h1
  rcases hb0 with c | ⟨p0, q0, u0⟩
  · exact ⟨-1, ⟨0, fun k _ => by dsimp only; unfold laws_szInt64SS.f; rw [hr0 trivial, if_pos c]⟩, .inl (by omega)⟩
  · have main : ∀ d i, x.length - i = d → i ≤ x.length → ∀ lf, 0 ≤ lf → lf ≤ left → ∃ r, Ev (fun k => laws_szInt64SS.l0 k x lf (i : Int)) r ∧ (r < 0 ∨ (0 ≤ r ∧ r ≤ lf ∧ ∀ j : Nat, i ≤ j → j < x.length → (((rd_L3 x (j : Int)).length : Int) ≤ 1048576))) := by
      intro d
      induction d with
      | zero =>
        intro i hd hi lf g0 g1
        exact ⟨lf, Ev.step (f := fun _ => some lf) (fun k => by simp only [laws_szInt64SS.l0]; rw [if_neg (by omega)]) (Ev.now _), .inr ⟨g0, Int.le_refl _, fun j g2 g3 => absurd g3 (by omega)⟩⟩
      | succ d ih =>
        intro i hd hi lf g0 g1
        have hil : i < x.length := by omega
        obtain ⟨r, ⟨K, hr⟩, hrb⟩ := sz_Int64S (rd_L3 x (i : Int)) lf (hx _ (rdM_L3 x i hil)) g0 (by omega)
        rcases hrb with hneg | ⟨p1, p2, p3⟩
        · refine ⟨-1, ⟨K + 1, fun k hk => ?_⟩, .inl (by omega)⟩
          obtain ⟨m, rfl⟩ : ∃ m, k = m + 1 := ⟨k - 1, by omega⟩
          have hr := hr m (by omega)
          dsimp only at hr ⊢
          simp only [laws_szInt64SS.l0]
          rw [if_pos (by omega), if_pos (by omega), hr]
          simp only [Option.bind_some]
          rw [if_pos hneg]
        · obtain ⟨r2, ⟨K2, h2⟩, hb2⟩ := ih (i + 1) (by omega) (by omega) r p1 (by omega)
          refine ⟨r2, ⟨K + K2 + 1, fun k hk => ?_⟩, ?_⟩
          · obtain ⟨m, rfl⟩ : ∃ m, k = m + 1 := ⟨k - 1, by omega⟩
            have hr := hr m (by omega)
            have h2 := h2 m (by omega)
            dsimp only at hr h2 ⊢
            simp only [laws_szInt64SS.l0]
            rw [if_pos (by omega), if_pos (by omega), hr]
            simp only [Option.bind_some]
            rw [if_neg (by omega), wrap_next i (by omega)]
            exact h2
          · rcases hb2 with hb2 | ⟨s0, s1, s2⟩
            · exact .inl hb2
            · refine .inr ⟨s0, by omega, fun j g2 g3 => ?_⟩
              by_cases e : j = i
              · rw [e]; exact p3
              · exact s2 j (by omega) g3
    obtain ⟨r, ⟨K, hr⟩, hb⟩ := main x.length 0 (by omega) (by omega) r0 p0 q0
    refine ⟨r, ⟨K, fun k hk => ?_⟩, ?_⟩
    · have hr := hr k hk
      dsimp only at hr ⊢
      unfold laws_szInt64SS.f
      rw [hr0 trivial, if_neg (by omega)]
      exact hr
    · rcases hb with hb | ⟨s0, s1, s2⟩
      · exact .inl hb
      · refine .inr ⟨s0, by omega, by omega, fun y hy => ?_⟩
        obtain ⟨j, hjl, rfl⟩ := List.getElem_of_mem hy
        have := s2 j (by omega) hjl
        rwa [rdE_L3 x j hjl] at this

/-! sz_Cuts -/
theorem sz_Cuts (x : S61) (left : Int) (hin : UpL_Cuts 9223372036854775807 x) (h0 : 0 ≤ left) (h1 : left ≤ 1048576) :
    ∃ r, Ev (fun k => laws_szCuts.f k x.f0 left) r ∧ (r < 0 ∨ (0 ≤ r ∧ r ≤ left ∧ UpL_Cuts 1048576 x)) := by
  unfold UpL_Cuts at hin
  have i0 := hin
  obtain ⟨r0, ⟨K0, e0⟩, hb0⟩ := sz_Int64SS x.f0 left i0 (by omega) (by omega)
  rcases hb0 with c0 | ⟨p0, q0, u0⟩
  · exact ⟨-1, ⟨K0, fun k hk => by have e0 := e0 k (by omega); dsimp only at e0 ⊢; unfold laws_szCuts.f; rw [e0]; simp only [Option.bind_some]; rw [if_pos c0]⟩, .inl (by omega)⟩
  exact ⟨r0, ⟨K0, fun k hk => by have e0 := e0 k (by omega); dsimp only at e0 ⊢; unfold laws_szCuts.f; rw [e0]; simp only [Option.bind_some]; rw [if_neg (by omega)]⟩, .inr ⟨by omega, by omega, u0⟩⟩

/-! UpL_Decl -/
def UpL_Decl (c : Int) (x : S142) : Prop := ((x.f0.size : Int) ≤ c)

/-! rdE_T142 -/
theorem rdE_T142 (l : List S142) (i : Nat) (h : i < l.length) : rd_T142 l (i : Int) = l[i] := by
  unfold rd_T142
  rw [List.getD_eq_getElem?_getD, Int.toNat_natCast, List.getElem?_eq_getElem h]; rfl
theorem rdM_T142 (l : List S142) (i : Nat) (h : i < l.length) : rd_T142 l (i : Int) ∈ l := by rw [rdE_T142 l i h]; exact List.getElem_mem h

/-! sz_Decl -/
theorem sz_Decl (x : S142) (left : Int) (hin : UpL_Decl 9223372036854775807 x) (h0 : 0 ≤ left) (h1 : left ≤ 1048576) :
    ∃ r, Ev (fun k => laws_szDecl.f x.f0 x.f1 left) r ∧ (r < 0 ∨ (0 ≤ r ∧ r ≤ left ∧ UpL_Decl 1048576 x)) := by
  unfold UpL_Decl at hin
  have i0 := hin
  obtain ⟨r0, e0, hb0⟩ := szn_out x.f0.size left i0 (by omega) (by omega)
  rcases hb0 with c0 | ⟨p0, q0, u0⟩
  · exact ⟨-1, ⟨0, fun k hk => by dsimp only; unfold laws_szDecl.f; rw [e0 trivial]; rw [if_pos c0]⟩, .inl (by omega)⟩
  exact ⟨r0, ⟨0, fun k hk => by dsimp only; unfold laws_szDecl.f; rw [e0 trivial]; rw [if_neg (by omega)]⟩, .inr ⟨by omega, by omega, u0⟩⟩

/-! sz_DeclS -/
theorem sz_DeclS (x : List S142) (left : Int) (hin : ((x.length : Int) ≤ 9223372036854775807 ∧ ∀ y ∈ x, UpL_Decl 9223372036854775807 y)) (h0 : 0 ≤ left) (h1 : left ≤ 1048576) :
    ∃ r, Ev (fun k => laws_szDeclS.f k x left) r ∧ (r < 0 ∨ (0 ≤ r ∧ r ≤ left ∧ ((x.length : Int) ≤ 1048576 ∧ ∀ y ∈ x, UpL_Decl 1048576 y))) := by
  obtain ⟨hl, hx⟩ := hin
  obtain ⟨r0, hr0, hb0⟩ := szn_out x.length left hl h0 h1
  rcases hb0 with c | ⟨p0, q0, u0⟩
  · exact ⟨-1, ⟨0, fun k _ => by dsimp only; unfold laws_szDeclS.f; rw [hr0 trivial, if_pos c]⟩, .inl (by omega)⟩
  · have main : ∀ d i, x.length - i = d → i ≤ x.length → ∀ lf, 0 ≤ lf → lf ≤ left → ∃ r, Ev (fun k => laws_szDeclS.l0 k x lf (i : Int)) r ∧ (r < 0 ∨ (0 ≤ r ∧ r ≤ lf ∧ ∀ j : Nat, i ≤ j → j < x.length → UpL_Decl 1048576 ((rd_T142 x (j : Int))))) := by
      intro d
      induction d with
      | zero =>
        intro i hd hi lf g0 g1
        exact ⟨lf, Ev.step (f := fun _ => some lf) (fun k => by simp only [laws_szDeclS.l0]; rw [if_neg (by omega)]) (Ev.now _), .inr ⟨g0, Int.le_refl _, fun j g2 g3 => absurd g3 (by omega)⟩⟩
      | succ d ih =>
        intro i hd hi lf g0 g1
        have hil : i < x.length := by omega
        obtain ⟨r, ⟨K, hr⟩, hrb⟩ := sz_Decl (rd_T142 x (i : Int)) lf (hx _ (rdM_T142 x i hil)) g0 (by omega)
        rcases hrb with hneg | ⟨p1, p2, p3⟩
        · refine ⟨-1, ⟨K + 1, fun k hk => ?_⟩, .inl (by omega)⟩
          obtain ⟨m, rfl⟩ : ∃ m, k = m + 1 := ⟨k - 1, by omega⟩
          have hr := hr m (by omega)
          dsimp only at hr ⊢
          simp only [laws_szDeclS.l0]
          rw [if_pos (by omega), if_pos (by omega), hr]
          simp only [Option.bind_some]
          rw [if_pos hneg]
        · obtain ⟨r2, ⟨K2, h2⟩, hb2⟩ := ih (i + 1) (by omega) (by omega) r p1 (by omega)
          refine ⟨r2, ⟨K + K2 + 1, fun k hk => ?_⟩, ?_⟩
          · obtain ⟨m, rfl⟩ : ∃ m, k = m + 1 := ⟨k - 1, by omega⟩
            have hr := hr m (by omega)
            have h2 := h2 m (by omega)
            dsimp only at hr h2 ⊢
            simp only [laws_szDeclS.l0]
            rw [if_pos (by omega), if_pos (by omega), hr]
            simp only [Option.bind_some]
            rw [if_neg (by omega), wrap_next i (by omega)]
            exact h2
          · rcases hb2 with hb2 | ⟨s0, s1, s2⟩
            · exact .inl hb2
            · refine .inr ⟨s0, by omega, fun j g2 g3 => ?_⟩
              by_cases e : j = i
              · rw [e]; exact p3
              · exact s2 j (by omega) g3
    obtain ⟨r, ⟨K, hr⟩, hb⟩ := main x.length 0 (by omega) (by omega) r0 p0 q0
    refine ⟨r, ⟨K, fun k hk => ?_⟩, ?_⟩
    · have hr := hr k hk
      dsimp only at hr ⊢
      unfold laws_szDeclS.f
      rw [hr0 trivial, if_neg (by omega)]
      exact hr
    · rcases hb with hb | ⟨s0, s1, s2⟩
      · exact .inl hb
      · refine .inr ⟨s0, by omega, by omega, fun y hy => ?_⟩
        obtain ⟨j, hjl, rfl⟩ := List.getElem_of_mem hy
        have := s2 j (by omega) hjl
        rwa [rdE_T142 x j hjl] at this

/-! S67 -/
structure S67 where
  f0 : List (List Int)

/-! UpI_Cuts -/
def UpI_Cuts (c : Int) (x : S67) : Prop := ((x.f0.length : Int) ≤ c ∧ ∀ y ∈ x.f0, ((y.length : Int) ≤ c))

/-! cv_Cuts -/
def cv_Cuts (x : S61) : S67 := ⟨x.f0⟩

/-! upcv_Cuts -/
theorem upcv_Cuts (c : Int) (x : S61) (h : UpL_Cuts c x) : UpI_Cuts c (cv_Cuts x) := by
  unfold UpL_Cuts at h
  unfold UpI_Cuts
  have i0 := h
  exact i0

/-! in_Cuts -/
theorem in_Cuts (x : S61) (h : (x.f0.length ≤ 9223372036854775807 ∧ ∀ y0 ∈ x.f0, (y0.length ≤ 9223372036854775807 ∧ ∀ y1 ∈ y0, (Lit.int .i64 y1).wf = true))) : UpL_Cuts 9223372036854775807 x := by
  have j0 := h
  unfold UpL_Cuts
  exact ⟨Int.ofNat_le.2 j0.1, fun y hy => (Int.ofNat_le.2 (j0.2 y hy).1)⟩

/-! to_Int64S -/
theorem to_Int64S (x : List Int) (h : ((x.length : Int) ≤ 1048576)) : Ev (fun k => laws_toInt64S.f k x) x := by
  have hl := h
  have main := up_loop x.length (filled (fun i => (rd x i)) (List.replicate x.length 0)) (fun k xs i => laws_toInt64S.l0 k x xs i)
    (fun i hi r h2 => by
      obtain ⟨K2, h2⟩ := h2
      refine ⟨K2 + 1, fun k hk => ?_⟩
      obtain ⟨m, rfl⟩ : ∃ m, k = m + 1 := ⟨k - 1, by omega⟩
      have h2 := h2 m (by omega)
      dsimp only at h2 ⊢
      rw [← filled_set _ _ (by simpa using hi)] at h2
      simp only [laws_toInt64S.l0]
      rw [if_pos (by omega), if_pos (by omega)]
      rw [if_pos (by rw [filled_len _ _ (by simp; omega)]; simp; omega), Int.toNat_natCast, wrap64_id (by omega) (by omega)]
      exact h2)
    x (Ev.step (f := fun _ => some x) (fun k => by
      simp only [laws_toInt64S.l0]
      rw [if_neg (by omega), filled_all _ _ (by simp)]
      congr 1
      exact list_of_rd x) (Ev.now _))
  rw [filled_zero] at main
  refine Ev.congr (fun k => ?_) main
  unfold laws_toInt64S.f
  rw [if_pos (by omega), if_pos (by omega), Int.toNat_natCast]

/-! to_Int64SS -/
theorem to_Int64SS (x : List (List Int)) (h : ((x.length : Int) ≤ 1048576 ∧ ∀ y ∈ x, ((y.length : Int) ≤ 1048576))) : Ev (fun k => laws_toInt64SS.f k x) x := by
  have hl := h.1
  have main := up_loop x.length (filled (fun i => (rd_L3 x i)) (List.replicate x.length [])) (fun k xs i => laws_toInt64SS.l0 k x xs i)
    (fun i hi r h2 => by
      obtain ⟨K, he⟩ := to_Int64S (rd_L3 x (i : Int)) (h.2 _ (rdM_L3 x i hi))
      obtain ⟨K2, h2⟩ := h2
      refine ⟨K + K2 + 1, fun k hk => ?_⟩
      obtain ⟨m, rfl⟩ : ∃ m, k = m + 1 := ⟨k - 1, by omega⟩
      have h2 := h2 m (by omega)
      have he := he m (by omega)
      dsimp only at he h2 ⊢
      rw [← filled_set _ _ (by simpa using hi)] at h2
      simp only [laws_toInt64SS.l0]
      rw [if_pos (by omega), if_pos (by omega), he]
      simp only [Option.bind_some]
      rw [if_pos (by rw [filled_len _ _ (by simp; omega)]; simp; omega), Int.toNat_natCast, wrap64_id (by omega) (by omega)]
      exact h2)
    x (Ev.step (f := fun _ => some x) (fun k => by
      simp only [laws_toInt64SS.l0]
      rw [if_neg (by omega), filled_all _ _ (by simp)]
      congr 1
      apply List.ext_getElem?
      intro i
      by_cases hi : i < x.length
      · simp [hi, rdE_L3]
      · rw [List.getElem?_eq_none (by first | omega | (simp; omega)), List.getElem?_eq_none (by first | omega | (simp; omega))]) (Ev.now _))
  rw [filled_zero] at main
  refine Ev.congr (fun k => ?_) main
  unfold laws_toInt64SS.f
  rw [if_pos (by omega), if_pos (by omega), Int.toNat_natCast]

/-! to_Cuts -/
theorem to_Cuts (x : S61) (h : UpL_Cuts 1048576 x) : Ev (fun k => laws_toCuts.f k x.f0) (cv_Cuts x).f0 := by
  unfold UpL_Cuts at h
  have i0 := h
  obtain ⟨K0, e0⟩ := to_Int64SS x.f0 i0
  refine ⟨K0, fun k hk => ?_⟩
  have e0 := e0 k (by omega)
  dsimp only at e0 ⊢
  simp only [laws_toCuts.f, e0, Option.bind_some]
  all_goals rfl

/-! UpI_Decl -/
def UpI_Decl (c : Int) (x : S89) : Prop := ((x.f0.size : Int) ≤ c)

/-! rdE_T89 -/
theorem rdE_T89 (l : List S89) (i : Nat) (h : i < l.length) : rd_T89 l (i : Int) = l[i] := by
  unfold rd_T89
  rw [List.getD_eq_getElem?_getD, Int.toNat_natCast, List.getElem?_eq_getElem h]; rfl
theorem rdM_T89 (l : List S89) (i : Nat) (h : i < l.length) : rd_T89 l (i : Int) ∈ l := by rw [rdE_T89 l i h]; exact List.getElem_mem h

/-! cv_Decl -/
def cv_Decl (x : S142) : S89 := ⟨x.f0, x.f1⟩

/-! upcv_Decl -/
theorem upcv_Decl (c : Int) (x : S142) (h : UpL_Decl c x) : UpI_Decl c (cv_Decl x) := by
  unfold UpL_Decl at h
  unfold UpI_Decl
  have i0 := h
  exact i0

/-! in_Decl -/
theorem in_Decl (x : S142) (h : x.f0.size ≤ maxLen ∧ (Lit.int .i64 x.f1).wf = true) : UpL_Decl 9223372036854775807 x := by
  obtain ⟨j0, j1⟩ := h
  unfold UpL_Decl
  exact (by have := j0; unfold maxLen at this; omega)

/-! to_Decl -/
theorem to_Decl (x : S142) (h : UpL_Decl 1048576 x) : Ev (fun k => laws_toDecl.f x.f0 x.f1) ((cv_Decl x).f0, (cv_Decl x).f1) := by
  unfold UpL_Decl at h
  have i0 := h
  refine ⟨0, fun k hk => ?_⟩
  dsimp only
  simp only [laws_toDecl.f, Option.bind_some]
  all_goals rfl

/-! to_DeclS -/
theorem to_DeclS (x : List S142) (h : ((x.length : Int) ≤ 1048576 ∧ ∀ y ∈ x, UpL_Decl 1048576 y)) : Ev (fun k => laws_toDeclS.f k x) (x.map cv_Decl) := by
  have hl := h.1
  have main := up_loop x.length (filled (fun i => (cv_Decl (rd_T142 x i))) (List.replicate x.length z89)) (fun k xs i => laws_toDeclS.l0 k x xs i)
    (fun i hi r h2 => by
      obtain ⟨K, he⟩ := to_Decl (rd_T142 x (i : Int)) (h.2 _ (rdM_T142 x i hi))
      obtain ⟨K2, h2⟩ := h2
      refine ⟨K + K2 + 1, fun k hk => ?_⟩
      obtain ⟨m, rfl⟩ : ∃ m, k = m + 1 := ⟨k - 1, by omega⟩
      have h2 := h2 m (by omega)
      have he := he m (by omega)
      dsimp only at he h2 ⊢
      rw [← filled_set _ _ (by simpa using hi)] at h2
      simp only [laws_toDeclS.l0]
      rw [if_pos (by omega), if_pos (by omega), he]
      simp only [Option.bind_some]
      rw [if_pos (by rw [filled_len _ _ (by simp; omega)]; simp; omega), Int.toNat_natCast, wrap64_id (by omega) (by omega)]
      exact h2)
    (x.map cv_Decl) (Ev.step (f := fun _ => some (x.map cv_Decl)) (fun k => by
      simp only [laws_toDeclS.l0]
      rw [if_neg (by omega), filled_all _ _ (by simp)]
      congr 1
      apply List.ext_getElem?
      intro i
      by_cases hi : i < x.length
      · simp [hi, rdE_T142]
      · rw [List.getElem?_eq_none (by first | omega | (simp; omega)), List.getElem?_eq_none (by first | omega | (simp; omega))]) (Ev.now _))
  rw [filled_zero] at main
  refine Ev.congr (fun k => ?_) main
  unfold laws_toDeclS.f
  rw [if_pos (by omega), if_pos (by omega), Int.toNat_natCast]

/-! eq_Int64S -/
theorem eq_Int64S (x : List Int) (h : ((x.length : Int) ≤ 1048576)) : Ev (fun k => laws_eqInt64S.f k x x) true := by
  have hl := h
  have main := up_loop x.length (fun _ => ()) (fun k _ i => laws_eqInt64S.l0 k x x i)
    (fun i hi r h2 => by
      obtain ⟨K2, h2⟩ := h2
      refine ⟨K2 + 1, fun k hk => ?_⟩
      obtain ⟨m, rfl⟩ : ∃ m, k = m + 1 := ⟨k - 1, by omega⟩
      have h2 := h2 m (by omega)
      dsimp only at h2 ⊢
      simp only [laws_eqInt64S.l0]
      rw [if_pos (by omega), if_pos (by omega), if_pos (by omega)]
      simp only [if_true]
      rw [wrap64_id (by omega) (by omega)]
      exact h2)
    true (Ev.step (f := fun _ => some true) (fun k => by
      simp only [laws_eqInt64S.l0]
      rw [if_neg (by omega)]) (Ev.now _))
  obtain ⟨K, h⟩ := main
  refine ⟨K, fun k hk => ?_⟩
  have h := h k hk
  dsimp only at h ⊢
  unfold laws_eqInt64S.f
  rw [if_pos rfl]
  exact h

/-! eq_Int64SS -/
theorem eq_Int64SS (x : List (List Int)) (h : ((x.length : Int) ≤ 1048576 ∧ ∀ y ∈ x, ((y.length : Int) ≤ 1048576))) : Ev (fun k => laws_eqInt64SS.f k x x) true := by
  have hl := h.1
  have main := up_loop x.length (fun _ => ()) (fun k _ i => laws_eqInt64SS.l0 k x x i)
    (fun i hi r h2 => by
      obtain ⟨K, he⟩ := eq_Int64S (rd_L3 x (i : Int)) (h.2 _ (rdM_L3 x i hi))
      obtain ⟨K2, h2⟩ := h2
      refine ⟨K + K2 + 1, fun k hk => ?_⟩
      obtain ⟨m, rfl⟩ : ∃ m, k = m + 1 := ⟨k - 1, by omega⟩
      have h2 := h2 m (by omega)
      have he := he m (by omega)
      dsimp only at he h2 ⊢
      simp only [laws_eqInt64SS.l0]
      rw [if_pos (by omega), if_pos (by omega), if_pos (by omega), he]
      simp only [Option.bind_some, if_true, ↓reduceIte]
      rw [wrap64_id (by omega) (by omega)]
      exact h2)
    true (Ev.step (f := fun _ => some true) (fun k => by
      simp only [laws_eqInt64SS.l0]
      rw [if_neg (by omega)]) (Ev.now _))
  obtain ⟨K, h⟩ := main
  refine ⟨K, fun k hk => ?_⟩
  have h := h k hk
  dsimp only at h ⊢
  unfold laws_eqInt64SS.f
  rw [if_pos rfl]
  exact h

/-! eq_Cuts -/
theorem eq_Cuts (x : S67) (h : UpI_Cuts 1048576 x) : Ev (fun k => laws_eqCuts.f k x.f0 x.f0) true := by
  unfold UpI_Cuts at h
  have i0 := h
  obtain ⟨K0, e0⟩ := eq_Int64SS x.f0 i0
  refine ⟨K0, fun k hk => ?_⟩
  have e0 := e0 k (by omega)
  dsimp only at e0 ⊢
  simp only [laws_eqCuts.f, e0, Option.bind_some, if_true, ↓reduceIte]

/-! eq_Decl -/
theorem eq_Decl (x : S89) (h : UpI_Decl 1048576 x) : Ev (fun k => laws_eqDecl.f x.f0 x.f1 x.f0 x.f1) true := by
  unfold UpI_Decl at h
  have i0 := h
  refine ⟨0, fun k hk => ?_⟩
  dsimp only
  simp only [laws_eqDecl.f, Option.bind_some, if_true, ↓reduceIte]

/-! eq_DeclS -/
theorem eq_DeclS (x : List S89) (h : ((x.length : Int) ≤ 1048576 ∧ ∀ y ∈ x, UpI_Decl 1048576 y)) : Ev (fun k => laws_eqDeclS.f k x x) true := by
  have hl := h.1
  have main := up_loop x.length (fun _ => ()) (fun k _ i => laws_eqDeclS.l0 k x x i)
    (fun i hi r h2 => by
      obtain ⟨K, he⟩ := eq_Decl (rd_T89 x (i : Int)) (h.2 _ (rdM_T89 x i hi))
      obtain ⟨K2, h2⟩ := h2
      refine ⟨K + K2 + 1, fun k hk => ?_⟩
      obtain ⟨m, rfl⟩ : ∃ m, k = m + 1 := ⟨k - 1, by omega⟩
      have h2 := h2 m (by omega)
      have he := he m (by omega)
      dsimp only at he h2 ⊢
      simp only [laws_eqDeclS.l0]
      rw [if_pos (by omega), if_pos (by omega), if_pos (by omega), he]
      simp only [Option.bind_some, if_true, ↓reduceIte]
      rw [wrap64_id (by omega) (by omega)]
      exact h2)
    true (Ev.step (f := fun _ => some true) (fun k => by
      simp only [laws_eqDeclS.l0]
      rw [if_neg (by omega)]) (Ev.now _))
  obtain ⟨K, h⟩ := main
  refine ⟨K, fun k hk => ?_⟩
  have h := h k hk
  dsimp only at h ⊢
  unfold laws_eqDeclS.f
  rw [if_pos rfl]
  exact h

/-! WfI_Decl -/
def WfI_Decl (x : S89) : Prop := True ∧ (-9223372036854775808 ≤ x.f1 ∧ x.f1 ≤ 9223372036854775807)

/-! wf_Decl -/
theorem wf_Decl (x : S142) (h : x.f0.size ≤ maxLen ∧ (Lit.int .i64 x.f1).wf = true) : WfI_Decl (cv_Decl x) := by
  obtain ⟨j0, j1⟩ := h
  exact ⟨trivial, (wf_i64 j1)⟩

/-! WfI_Cuts -/
def WfI_Cuts (x : S67) : Prop := (∀ y ∈ x.f0, (∀ z ∈ y, (-9223372036854775808 ≤ z ∧ z ≤ 9223372036854775807)))

/-! wf_Cuts -/
theorem wf_Cuts (x : S61) (h : (x.f0.length ≤ 9223372036854775807 ∧ ∀ y0 ∈ x.f0, (y0.length ≤ 9223372036854775807 ∧ ∀ y1 ∈ y0, (Lit.int .i64 y1).wf = true))) : WfI_Cuts (cv_Cuts x) := by
  have j0 := h
  exact (fun a1_ ha1_ => (fun a2_ ha2_ => (wf_i64 ((j0.2 a1_ ha1_).2 a2_ ha2_))))

/-! implInside -/
theorem inside_eq (a b c : Int) : impl_inside.f a b c = some (decide (b ≤ a ∧ a ≤ c)) := by
  unfold impl_inside.f
  by_cases h1 : b ≤ a
  · rw [if_pos h1]; simp [h1]
  · rw [if_neg h1]; simp [h1]

/-! specIn -/
theorem l1In_eq (a b c : Int) : spec_l1In.f a b c = some (decide (b ≤ a ∧ a ≤ c)) := by
  unfold spec_l1In.f
  by_cases h1 : b ≤ a
  · rw [if_pos h1]; simp [h1]
  · rw [if_neg h1]; simp [h1]

/-! memD -/
theorem rdD (l : List S89) (i : Nat) (h : i < l.length) : rd_T89 l (i : Int) = l[i] := by
  unfold rd_T89
  rw [List.getD_eq_getElem?_getD, Int.toNat_natCast, List.getElem?_eq_getElem h]; rfl
theorem rdD_mem (l : List S89) (i : Nat) (h : i < l.length) : rd_T89 l (i : Int) ∈ l := by rw [rdD l i h]; exact List.getElem_mem h

/-! names -/
theorem names_agree (s : ByteArray) (hs : s.size ≤ 1048576) : ∃ b, Ev (fun k => spec_l1Name.f k s) b ∧ Ev (fun k => impl_nameOk.f k s) b := by
  have digit : ∀ c, spec_l1Digit.f c = some (decide (48 ≤ c ∧ c ≤ 57)) := fun c => by
    unfold spec_l1Digit.f
    by_cases h : 48 ≤ c
    · rw [if_pos h]; simp [h]
    · rw [if_neg h]; simp [h]
  have main : ∀ d i, s.size - i = d → i ≤ s.size → ∃ b, Ev (fun k => spec_l1Name.l0 k s (i : Int)) b ∧ Ev (fun k => impl_nameOk.l0 k s (i : Int)) b := by
    intro d
    induction d with
    | zero =>
      intro i hd hi
      refine ⟨true, Ev.step (f := fun _ => some true) (fun k => ?_) (Ev.now _), Ev.step (f := fun _ => some true) (fun k => ?_) (Ev.now _)⟩
      · simp only [spec_l1Name.l0]; rw [if_neg (by omega)]
      · simp only [impl_nameOk.l0]; rw [if_neg (by omega)]
    | succ d ih =>
      intro i hd hi
      obtain ⟨b, h1, h2⟩ := ih (i + 1) (by omega) (by omega)
      have hw : True → wrap64 ((i : Int) + 1) = ((i + 1 : Nat) : Int) := fun _ => wrap_succ' i (by omega)
      have p1 : (i : Int) < (s.size : Int) := by omega
      have p2 : (0 : Int) ≤ (i : Int) := by omega
      by_cases cd : 48 ≤ bt s (i : Int) ∧ bt s (i : Int) ≤ 57
      · refine ⟨b, Ev.step (fun k => ?_) h1, Ev.step (fun k => ?_) h2⟩
        · simp only [spec_l1Name.l0]
          rw [hw trivial, if_pos p1, if_pos p2, digit, decide_eq_true cd]
          simp only [Option.bind_some, if_true]
        · simp only [impl_nameOk.l0]
          rw [hw trivial, if_pos p1, if_pos p2, if_pos (by omega), if_neg (by omega), if_neg (by omega)]
      · by_cases ca : bt s (i : Int) < 97
        · refine ⟨false, Ev.step (f := fun _ => some false) (fun k => ?_) (Ev.now _), Ev.step (f := fun _ => some false) (fun k => ?_) (Ev.now _)⟩
          · simp only [spec_l1Name.l0]
            rw [if_pos p1, if_pos p2, digit, decide_eq_false cd]
            simp only [Option.bind_some]
            rw [if_neg (by decide), if_pos ca]
          · simp only [impl_nameOk.l0]
            rw [if_pos p1, if_pos p2, if_pos ca]
            by_cases c48 : bt s (i : Int) < 48
            · rw [if_pos c48]
            · rw [if_neg c48, if_pos (by omega)]
        · by_cases cz : bt s (i : Int) > 122
          · refine ⟨false, Ev.step (f := fun _ => some false) (fun k => ?_) (Ev.now _), Ev.step (f := fun _ => some false) (fun k => ?_) (Ev.now _)⟩
            · simp only [spec_l1Name.l0]
              rw [if_pos p1, if_pos p2, digit, decide_eq_false cd]
              simp only [Option.bind_some]
              rw [if_neg (by decide), if_neg ca, if_pos cz]
            · simp only [impl_nameOk.l0]
              rw [if_pos p1, if_pos p2, if_neg ca, if_pos cz, if_neg (by omega), if_pos (by omega)]
          · refine ⟨b, Ev.step (fun k => ?_) h1, Ev.step (fun k => ?_) h2⟩
            · simp only [spec_l1Name.l0]
              rw [hw trivial, if_pos p1, if_pos p2, digit, decide_eq_false cd]
              simp only [Option.bind_some]
              rw [if_neg (by decide), if_neg ca, if_neg cz]
            · simp only [impl_nameOk.l0]
              rw [hw trivial, if_pos p1, if_pos p2, if_neg ca, if_neg cz]
  have yes1 : Ev (fun k => spec_l1Name.j0 k s true) false := Ev.step (f := fun _ => some false) (fun k => by simp only [spec_l1Name.j0, if_true]) (Ev.now _)
  have yes2 : Ev (fun k => impl_nameOk.j0 k s true) false := Ev.step (f := fun _ => some false) (fun k => by simp only [impl_nameOk.j0, if_true]) (Ev.now _)
  by_cases c1 : (s.size : Int) < 1
  · exact ⟨false, Ev.congr (fun k => by unfold spec_l1Name.f; rw [if_pos c1]) yes1, Ev.congr (fun k => by unfold impl_nameOk.f; rw [if_pos c1]) yes2⟩
  · by_cases c2 : (s.size : Int) > 12
    · exact ⟨false, Ev.congr (fun k => by unfold spec_l1Name.f; rw [if_neg c1, if_pos c2]) yes1, Ev.congr (fun k => by unfold impl_nameOk.f; rw [if_neg c1, if_pos c2]) yes2⟩
    · obtain ⟨b, h1, h2⟩ := main s.size 0 (by omega) (by omega)
      have p0 : (0 : Int) < (s.size : Int) := by omega
      have go1 : ∀ z, z = false → Ev (fun k => spec_l1Name.j0 k s z) b := fun z hz => Ev.step (fun k => by subst hz; simp only [spec_l1Name.j0]; rw [if_neg (by decide)]; rfl) h1
      have go2 : ∀ z, z = false → Ev (fun k => impl_nameOk.j0 k s z) b := fun z hz => Ev.step (fun k => by subst hz; simp only [impl_nameOk.j0]; rw [if_neg (by decide)]; rfl) h2
      by_cases cd : 48 ≤ bt s 0 ∧ bt s 0 ≤ 57
      · refine ⟨false, Ev.congr (fun k => ?_) yes1, Ev.congr (fun k => ?_) yes2⟩
        · unfold spec_l1Name.f; rw [if_neg c1, if_neg c2, if_pos p0, digit, decide_eq_true cd]; rfl
        · unfold impl_nameOk.f; rw [if_neg c1, if_neg c2, if_pos p0, if_pos (by omega)]
      · have e1 : ∀ k, spec_l1Name.f k s = spec_l1Name.j0 k s false := fun k => by unfold spec_l1Name.f; rw [if_neg c1, if_neg c2, if_pos p0, digit, decide_eq_false cd]; rfl
        by_cases ca : bt s 0 < 97
        · -- the loop's first round says no
          obtain ⟨d, hd⟩ : ∃ d, d = s.size := ⟨_, rfl⟩
          refine ⟨false, Ev.congr e1 (Ev.step (fun k => by simp only [spec_l1Name.j0]; rw [if_neg (by decide)]) (Ev.step (g := fun k => spec_l1Name.l0 k s 0) (f := fun _ => some false) (fun k => ?_) (Ev.now _))), Ev.congr (fun k => ?_) yes2⟩
          · simp only [spec_l1Name.l0]
            rw [if_pos p0, if_pos (by decide), digit, decide_eq_false cd]
            simp only [Option.bind_some]
            rw [if_neg (by decide), if_pos ca]
          · unfold impl_nameOk.f; rw [if_neg c1, if_neg c2, if_pos p0, if_pos ca]
        · by_cases cz : bt s 0 > 122
          · refine ⟨false, Ev.congr e1 (Ev.step (fun k => by simp only [spec_l1Name.j0]; rw [if_neg (by decide)]) (Ev.step (g := fun k => spec_l1Name.l0 k s 0) (f := fun _ => some false) (fun k => ?_) (Ev.now _))), Ev.congr (fun k => ?_) yes2⟩
            · simp only [spec_l1Name.l0]
              rw [if_pos p0, if_pos (by decide), digit, decide_eq_false cd]
              simp only [Option.bind_some]
              rw [if_neg (by decide), if_neg ca, if_pos cz]
            · unfold impl_nameOk.f; rw [if_neg c1, if_neg c2, if_pos p0, if_neg ca, decide_eq_true cz]
          · refine ⟨b, Ev.congr e1 (go1 _ rfl), Ev.congr (fun k => ?_) (go2 _ (decide_eq_false cz))⟩
            unfold impl_nameOk.f; rw [if_neg c1, if_neg c2, if_pos p0, if_neg ca]

/-! idxD -/
theorem idxD_none (nm : ByteArray) : ∀ (l : List S89) (i : Int), (∀ x ∈ l, x.f0.toList ≠ nm.toList) → idxD nm l i = -1
  | [], i, _ => rfl
  | x :: xs, i, h => by
    simp only [idxD]
    rw [if_neg (by have := h x (by simp); simpa using this)]
    exact idxD_none nm xs (i + 1) fun y hy => h y (by simp [hy])
theorem idxD_some (nm : ByteArray) : ∀ (l : List S89) (i : Int), 0 ≤ i → (∃ x ∈ l, x.f0.toList = nm.toList) → 0 ≤ idxD nm l i
  | [], i, _, h => by obtain ⟨x, hx, _⟩ := h; cases hx
  | x :: xs, i, hi, h => by
    simp only [idxD]
    by_cases c : (x.f0.toList == nm.toList) = true
    · rw [if_pos c]; exact hi
    · rw [if_neg c]
      obtain ⟨y, hy, he⟩ := h
      rcases List.mem_cons.1 hy with rfl | hy
      · exact absurd (by simpa using he) c
      · exact idxD_some nm xs (i + 1) (by omega) ⟨y, hy, he⟩

/-! declsOk -/
def sumD : List S89 → Int
  | [] => 0
  | x :: xs => x.f1 + sumD xs
/-- What right decls are good for. -/
structure GoodDecls (l : List S89) : Prop where
  len : l.length ≤ 60
  width : ∀ x ∈ l, 1 ≤ x.f1 ∧ x.f1 ≤ 4096
  total : sumD l ≤ 20000
theorem decls_loops (l : List S89) (hl : l.length ≤ 60) (hx : ∀ x ∈ l, x.f0.size ≤ 1048576) :
    ∀ d i, l.length - i = d → i ≤ l.length → ∀ s : Int, 0 ≤ s → s ≤ 4096 * i → ∃ b, Ev (fun k => spec_DeclsOk.l0 k l s (i : Int)) b ∧ Ev (fun k => impl_DeclsOk.l0 k l s l (l.length : Int) (i : Int)) b ∧
      (b = true → (∀ x ∈ l.drop i, 1 ≤ x.f1 ∧ x.f1 ≤ 4096) ∧ s + sumD (l.drop i) ≤ 20000) := by
  intro d
  induction d with
  | zero =>
    intro i hd hi s g0 g1
    refine ⟨decide (s ≤ 20000), Ev.step (f := fun _ => some (decide (s ≤ 20000))) (fun k => ?_) (Ev.now _), Ev.step (f := fun _ => some (decide (s ≤ 20000))) (fun k => ?_) (Ev.now _), fun hb => ?_⟩
    · simp only [spec_DeclsOk.l0]; rw [if_neg (by omega)]
    · simp only [impl_DeclsOk.l0]; rw [if_neg (by omega)]
    · have e : l.drop i = [] := List.drop_eq_nil_of_le (by omega)
      rw [e]
      refine ⟨(fun x hx => by cases hx), ?_⟩
      have := of_decide_eq_true hb
      show s + 0 ≤ 20000
      omega
  | succ d ih =>
    intro i hd hi s g0 g1
    have hil : i < l.length := by omega
    obtain ⟨x, hxx⟩ : ∃ x, x = rd_T89 l (i : Int) := ⟨_, rfl⟩
    have hxm : x ∈ l := by rw [hxx]; exact rdD_mem l i hil
    have hdrop : l.drop i = x :: l.drop (i + 1) := by rw [List.drop_eq_getElem_cons hil, hxx, rdD l i hil]
    obtain ⟨bn, ⟨K1, h1⟩, ⟨K2, h2⟩⟩ := names_agree x.f0 (hx x hxm)
    have q1 : (i : Int) < (l.length : Int) := by omega
    have q2 : (0 : Int) ≤ (i : Int) := by omega
    have q3 : (i : Int) ≤ (l.length : Int) := by omega
    have no : ∀ (P : Prop), ((false : Bool) = true → P) := fun P h => by cases h
    have specNo : ∀ m, spec_DeclsOk.j1 (m + 1) l s (i : Int) true = some false := fun m => by simp only [spec_DeclsOk.j1, if_true]
    cases bn with
    | false =>
      refine ⟨false, ⟨K1 + 2, fun k hk => ?_⟩, ⟨K2 + 1, fun k hk => ?_⟩, no _⟩
      · obtain ⟨m, rfl⟩ : ∃ m, k = m + 1 + 1 := ⟨k - 2, by omega⟩
        have h1 := h1 (m + 1) (by omega)
        dsimp only at h1 ⊢
        simp only [spec_DeclsOk.l0]
        rw [← hxx, if_pos q1, if_pos q2, h1]
        simp only [Option.bind_some]
        rw [if_neg (by decide)]
        exact specNo m
      · obtain ⟨m, rfl⟩ : ∃ m, k = m + 1 := ⟨k - 1, by omega⟩
        have h2 := h2 m (by omega)
        dsimp only at h2 ⊢
        simp only [impl_DeclsOk.l0]
        rw [← hxx, if_pos q1, if_pos q2, if_pos q1, h2]
        simp only [Option.bind_some]
        rw [if_neg (by decide)]
    | true =>
      by_cases cw : 1 ≤ x.f1 ∧ x.f1 ≤ 4096
      · by_cases cd : ∃ y ∈ l.take i, y.f0.toList = x.f0.toList
        · have hidx := idxD_some x.f0 (l.take i) 0 (by decide) cd
          -- the reference's inner loop finds it
          have inner : Ev (fun k => spec_DeclsOk.l1 k l s (i : Int) 0) false := by
            obtain ⟨y, hy, he⟩ := cd
            obtain ⟨j0, hj0, hyj⟩ := List.getElem_of_mem hy
            rw [List.length_take] at hj0
            rw [List.getElem_take] at hyj
            have heq : (rd_T89 l (j0 : Int)).f0.toList = x.f0.toList := by rw [rdD l j0 (by omega), hyj]; exact he
            have go : ∀ d j, j0 - j = d → j ≤ j0 → Ev (fun k => spec_DeclsOk.l1 k l s (i : Int) (j : Int)) false := by
              intro d
              induction d with
              | zero =>
                intro j hd hj
                have e : j = j0 := by omega
                subst e
                refine Ev.step (f := fun _ => some false) (fun k => ?_) (Ev.now _)
                simp only [spec_DeclsOk.l1]
                rw [← hxx, if_pos (by omega), if_pos (by omega), if_pos (by omega), if_pos q2, if_pos q1, if_pos heq]
              | succ d ih2 =>
                intro j hd hj
                by_cases e : (rd_T89 l (j : Int)).f0.toList = x.f0.toList
                · refine Ev.step (f := fun _ => some false) (fun k => ?_) (Ev.now _)
                  simp only [spec_DeclsOk.l1]
                  rw [← hxx, if_pos (by omega), if_pos (by omega), if_pos (by omega), if_pos q2, if_pos q1, if_pos e]
                · refine Ev.step (fun k => ?_) (ih2 (j + 1) (by omega) (by omega))
                  simp only [spec_DeclsOk.l1]
                  rw [← hxx, if_pos (by omega), if_pos (by omega), if_pos (by omega), if_pos q2, if_pos q1, if_neg e, wrap_succ' j (by omega)]
            exact go j0 0 (by omega) (by omega)
          obtain ⟨K3, h3⟩ := inner
          refine ⟨false, ⟨K1 + K3 + 2, fun k hk => ?_⟩, ⟨K2 + 1, fun k hk => ?_⟩, no _⟩
          · obtain ⟨m, rfl⟩ : ∃ m, k = m + 1 + 1 := ⟨k - 2, by omega⟩
            have h1 := h1 (m + 1) (by omega)
            have h3 := h3 m (by omega)
            dsimp only at h1 h3 ⊢
            simp only [spec_DeclsOk.l0]
            rw [← hxx, if_pos q1, if_pos q2, h1]
            simp only [Option.bind_some, if_true]
            rw [l1In_eq, decide_eq_true cw]
            simp only [Option.bind_some, Bool.not_true, spec_DeclsOk.j1]
            rw [if_neg (by decide)]
            exact h3
          · obtain ⟨m, rfl⟩ : ∃ m, k = m + 1 := ⟨k - 1, by omega⟩
            have h2 := h2 m (by omega)
            dsimp only at h2 ⊢
            simp only [impl_DeclsOk.l0, impl_declared.f]
            rw [← hxx, if_pos q1, if_pos q2, if_pos q1, h2]
            simp only [Option.bind_some, if_true]
            rw [inside_eq, decide_eq_true cw]
            simp only [Option.bind_some, if_true]
            rw [if_pos q3, Int.toNat_natCast, if_pos hidx]
        · have hidx := idxD_none x.f0 (l.take i) 0 (fun y hy he => cd ⟨y, hy, he⟩)
          obtain ⟨b, hs, hi2, hb⟩ := ih (i + 1) (by omega) (by omega) (s + x.f1) (by omega) (by omega)
          have hws : True → wrap64 (s + x.f1) = s + x.f1 := fun _ => wrap64_id (by omega) (by omega)
          have hwi : True → wrap64 ((i : Int) + 1) = ((i + 1 : Nat) : Int) := fun _ => wrap_succ' i (by omega)
          have inner : Ev (fun k => spec_DeclsOk.l1 k l s (i : Int) 0) b := by
            refine up_loop i (fun _ => ()) (fun k _ j => spec_DeclsOk.l1 k l s (i : Int) j) (fun j hj r h => Ev.step (fun k => ?_) h) b (Ev.step (fun k => ?_) hs)
            · have hne : ¬ (rd_T89 l (j : Int)).f0.toList = x.f0.toList := fun he => cd ⟨rd_T89 l (j : Int), by rw [rdD l j (by omega)]; exact List.mem_take_iff_getElem.2 ⟨j, by omega, rfl⟩, he⟩
              simp only [spec_DeclsOk.l1]
              rw [← hxx, if_pos (by omega), if_pos (by omega), if_pos (by omega), if_pos q2, if_pos q1, if_neg hne, wrap64_id (by omega) (by omega)]
            · simp only [spec_DeclsOk.l1]
              rw [← hxx, hws trivial, hwi trivial, if_neg (by omega), if_pos q2, if_pos q1]
          obtain ⟨K3, h3⟩ := inner
          obtain ⟨K4, h4⟩ := hi2
          refine ⟨b, ⟨K1 + K3 + 2, fun k hk => ?_⟩, ⟨K2 + K4 + 1, fun k hk => ?_⟩, fun hbt => ?_⟩
          · obtain ⟨m, rfl⟩ : ∃ m, k = m + 1 + 1 := ⟨k - 2, by omega⟩
            have h1 := h1 (m + 1) (by omega)
            have h3 := h3 m (by omega)
            dsimp only at h1 h3 ⊢
            simp only [spec_DeclsOk.l0]
            rw [← hxx, if_pos q1, if_pos q2, h1]
            simp only [Option.bind_some, if_true]
            rw [l1In_eq, decide_eq_true cw]
            simp only [Option.bind_some, Bool.not_true, spec_DeclsOk.j1]
            rw [if_neg (by decide)]
            exact h3
          · obtain ⟨m, rfl⟩ : ∃ m, k = m + 1 := ⟨k - 1, by omega⟩
            have h2 := h2 m (by omega)
            have h4 := h4 m (by omega)
            dsimp only at h2 h4 ⊢
            simp only [impl_DeclsOk.l0, impl_declared.f]
            rw [← hxx, if_pos q1, if_pos q2, if_pos q1, h2]
            simp only [Option.bind_some, if_true]
            rw [inside_eq, decide_eq_true cw]
            simp only [Option.bind_some, if_true]
            rw [if_pos q3, Int.toNat_natCast, hidx, if_neg (by decide), hws trivial, hwi trivial]
            exact h4
          · obtain ⟨t1, t2⟩ := hb hbt
            rw [hdrop]
            refine ⟨fun y hy => ?_, ?_⟩
            · rcases List.mem_cons.1 hy with rfl | hy
              · exact cw
              · exact t1 y hy
            · show s + (x.f1 + sumD (l.drop (i + 1))) ≤ 20000
              omega
      · refine ⟨false, ⟨K1 + 2, fun k hk => ?_⟩, ⟨K2 + 1, fun k hk => ?_⟩, no _⟩
        · obtain ⟨m, rfl⟩ : ∃ m, k = m + 1 + 1 := ⟨k - 2, by omega⟩
          have h1 := h1 (m + 1) (by omega)
          dsimp only at h1 ⊢
          simp only [spec_DeclsOk.l0]
          rw [← hxx, if_pos q1, if_pos q2, h1]
          simp only [Option.bind_some, if_true]
          rw [l1In_eq, decide_eq_false cw]
          simp only [Option.bind_some, Bool.not_false]
          exact specNo m
        · obtain ⟨m, rfl⟩ : ∃ m, k = m + 1 := ⟨k - 1, by omega⟩
          have h2 := h2 m (by omega)
          dsimp only at h2 ⊢
          simp only [impl_DeclsOk.l0]
          rw [← hxx, if_pos q1, if_pos q2, if_pos q1, h2]
          simp only [Option.bind_some, if_true]
          rw [inside_eq, decide_eq_false cw]
          rfl
theorem declsOk_agree (l : List S89) (hx : ∀ x ∈ l, x.f0.size ≤ 1048576) :
    ∃ b, Ev (fun k => spec_DeclsOk.f k l) b ∧ Ev (fun k => impl_DeclsOk.f k l) b ∧ (b = true → GoodDecls l) := by
  by_cases c : (l.length : Int) > 60
  · exact ⟨false, Ev.congr (fun k => by unfold spec_DeclsOk.f; rw [if_pos c]) (Ev.now _), Ev.congr (fun k => by unfold impl_DeclsOk.f; rw [if_pos c]) (Ev.now _), fun h => by cases h⟩
  · obtain ⟨b, h1, h2, h3⟩ := decls_loops l (by omega) hx l.length 0 (by omega) (by omega) 0 (by decide) (by decide)
    refine ⟨b, Ev.congr (fun k => by unfold spec_DeclsOk.f; rw [if_neg c]; rfl) h1, Ev.congr (fun k => by unfold impl_DeclsOk.f; rw [if_neg c]; rfl) h2, fun hb => ?_⟩
    obtain ⟨t1, t2⟩ := h3 hb
    rw [List.drop_zero] at t1 t2
    exact ⟨by omega, t1, by omega⟩

/-! upDecl -/
theorem upDecl {l : List S89} (U : (l.length : Int) ≤ 1048576 ∧ ∀ y ∈ l, UpI_Decl 1048576 y) : ∀ x ∈ l, x.f0.size ≤ 1048576 := fun x hx => by
  have := U.2 x hx
  unfold UpI_Decl at this
  omega

/-! cutsOk -/
/-- Right cuts of one variable of a width. -/
def GoodRow (p : List Int) (w : Int) : Prop := ∀ i : Nat, i < p.length → 1 ≤ rd p (i : Int) ∧ rd p (i : Int) ≤ w - 1 ∧ ∀ j : Nat, j + 1 = i → rd p (j : Int) < rd p (i : Int)
def GoodCuts (l : List S89) (at_ : List (List Int)) : Prop := at_.length = l.length ∧ ∀ v : Nat, v < at_.length → GoodRow (rd_L3 at_ (v : Int)) (rd_T89 l (v : Int)).f1
theorem cuts_row (l : List S89) (at_ : List (List Int)) (v : Nat) (hl : l.length ≤ 1048576) (hv : v < at_.length) (hvl : v < l.length) (hp : (rd_L3 at_ (v : Int)).length ≤ 1048576)
    (hw : 1 ≤ (rd_T89 l (v : Int)).f1 ∧ (rd_T89 l (v : Int)).f1 ≤ 4096) (z : Bool)
    (hs : Ev (fun k => spec_CutsOk.l0 k l ((v : Int) + 1) at_) z) (hi : Ev (fun k => impl_cutsOk.l0 k l at_ (at_.length : Int) ((v : Int) + 1)) z) :
    ∀ d i, (rd_L3 at_ (v : Int)).length - i = d → i ≤ (rd_L3 at_ (v : Int)).length → ∀ bf : Int, 0 ≤ bf → bf ≤ 4096 → (i = 0 → bf = 0) → (∀ j : Nat, j + 1 = i → bf = rd (rd_L3 at_ (v : Int)) (j : Int)) →
    ∃ b, Ev (fun k => spec_CutsOk.l1 k l (v : Int) (i : Int) at_) b ∧ Ev (fun k => impl_cutsOk.l1 k l (v : Int) bf at_ (at_.length : Int) (v : Int) (rd_L3 at_ (v : Int)) ((rd_L3 at_ (v : Int)).length : Int) (i : Int)) b ∧
      (b = true → z = true ∧ ∀ j : Nat, i ≤ j → j < (rd_L3 at_ (v : Int)).length → 1 ≤ rd (rd_L3 at_ (v : Int)) (j : Int) ∧ rd (rd_L3 at_ (v : Int)) (j : Int) ≤ (rd_T89 l (v : Int)).f1 - 1 ∧ ∀ m : Nat, m + 1 = j → rd (rd_L3 at_ (v : Int)) (m : Int) < rd (rd_L3 at_ (v : Int)) (j : Int)) := by
  obtain ⟨p, hpe⟩ : ∃ p, p = rd_L3 at_ (v : Int) := ⟨_, rfl⟩
  obtain ⟨w, hwe⟩ : ∃ w, w = (rd_T89 l (v : Int)).f1 := ⟨_, rfl⟩
  rw [← hwe] at hw ⊢
  rw [← hpe] at hp ⊢
  have no : ∀ (P : Prop), ((false : Bool) = true → P) := fun P h => by cases h
  intro d
  induction d with
  | zero =>
    intro i hd hile bf b0 b1 hb0 hb1
    refine ⟨z, Ev.step (fun k => ?_) hs, Ev.step (fun k => ?_) hi, fun hz => ⟨hz, fun j g1 g2 => absurd g1 (by omega)⟩⟩
    · simp (disch := omega) only [spec_CutsOk.l1, ← hpe, ↓if_pos, ↓if_neg, wrap64_id]
    · simp (disch := omega) only [impl_cutsOk.l1, ↓if_pos, ↓if_neg, wrap64_id]
  | succ d ih =>
    intro i hd hile bf b0 b1 hb0 hb1
    have hil : i < p.length := by omega
    obtain ⟨x, hx⟩ : ∃ x, x = rd p (i : Int) := ⟨_, rfl⟩
    by_cases c : bf + 1 ≤ x ∧ x ≤ w - 1
    · obtain ⟨b, h1, h2, h3⟩ := ih (i + 1) (by omega) (by omega) x (by omega) (by omega) (fun h => absurd h (by omega)) (fun j hj => by
        obtain rfl : j = i := by omega
        exact hx)
      have cs : decide (1 ≤ x ∧ x ≤ w - 1) = true := decide_eq_true (by omega)
      have ci : decide (bf + 1 ≤ x ∧ x ≤ w - 1) = true := decide_eq_true c
      refine ⟨b, ?_, Ev.step (fun k => ?_) h2, fun hb => ⟨(h3 hb).1, fun j g1 g2 => ?_⟩⟩
      · by_cases i0 : i = 0
        · refine Ev.step (fun k => ?_) h1
          simp (disch := omega) only [spec_CutsOk.l1, ← hpe, ← hwe, ← hx, ↓if_pos, ↓if_neg, l1In_eq, wrap_next, wrap64_id, Option.bind_some, cs, ↓reduceIte] <;> rfl
        · obtain ⟨j, rfl⟩ : ∃ j, i = j + 1 := ⟨i - 1, by omega⟩
          have hbj := hb1 j rfl
          refine Ev.step (fun k => ?_) h1
          have e1 : True → wrap64 (((j + 1 : Nat) : Int) - 1) = (j : Int) := fun _ => by rw [wrap64_id (by omega) (by omega)]; omega
          simp (disch := first | omega | trivial) only [spec_CutsOk.l1, ← hpe, ← hwe, ← hx, e1, ← hbj, ↓if_pos, ↓if_neg, l1In_eq, wrap_next, wrap64_id, Option.bind_some, cs, ↓reduceIte] <;> rfl
      · simp (disch := omega) only [impl_cutsOk.l1, ← hpe, ← hwe, ← hx, ↓if_pos, ↓if_neg, inside_eq, wrap_next, wrap64_id, Option.bind_some, ci, ↓reduceIte] <;> rfl
      · by_cases e : j = i
        · subst e
          rw [← hx]
          exact ⟨by omega, by omega, fun m hm => by rw [← hb1 m hm]; omega⟩
        · exact (h3 hb).2 j (by omega) g2
    · have ci : decide (bf + 1 ≤ x ∧ x ≤ w - 1) = false := decide_eq_false c
      refine ⟨false, ?_, Ev.step (f := fun _ => some false) (fun k => ?_) (Ev.now _), no _⟩
      · by_cases c2 : 1 ≤ x ∧ x ≤ w - 1
        · have cs : decide (1 ≤ x ∧ x ≤ w - 1) = true := decide_eq_true c2
          have i0 : i ≠ 0 := fun h => c (by have := hb0 h; omega)
          obtain ⟨j, rfl⟩ : ∃ j, i = j + 1 := ⟨i - 1, by omega⟩
          have hbj := hb1 j rfl
          refine Ev.step (f := fun _ => some false) (fun k => ?_) (Ev.now _)
          have e1 : True → wrap64 (((j + 1 : Nat) : Int) - 1) = (j : Int) := fun _ => by rw [wrap64_id (by omega) (by omega)]; omega
          simp (disch := first | omega | trivial) only [spec_CutsOk.l1, ← hpe, ← hwe, ← hx, e1, ← hbj, ↓if_pos, ↓if_neg, l1In_eq, wrap_next, wrap64_id, Option.bind_some, cs, ↓reduceIte] <;> rfl
        · have cs : decide (1 ≤ x ∧ x ≤ w - 1) = false := decide_eq_false c2
          refine Ev.step (f := fun _ => some false) (fun k => ?_) (Ev.now _)
          simp (disch := omega) only [spec_CutsOk.l1, ← hpe, ← hwe, ← hx, ↓if_pos, ↓if_neg, l1In_eq, wrap_next, wrap64_id, Option.bind_some, cs, ↓reduceIte, Bool.false_eq_true] <;> rfl
      · simp (disch := omega) only [impl_cutsOk.l1, ← hpe, ← hwe, ← hx, ↓if_pos, ↓if_neg, inside_eq, wrap_next, wrap64_id, Option.bind_some, ci, ↓reduceIte, Bool.false_eq_true] <;> rfl
theorem cuts_loops (l : List S89) (at_ : List (List Int)) (hg : GoodDecls l) (hlen : at_.length = l.length) (hp : ∀ y ∈ at_, (y.length : Int) ≤ 1048576) :
    ∀ d v, at_.length - v = d → v ≤ at_.length → ∃ b, Ev (fun k => spec_CutsOk.l0 k l (v : Int) at_) b ∧ Ev (fun k => impl_cutsOk.l0 k l at_ (at_.length : Int) (v : Int)) b ∧
      (b = true → ∀ u : Nat, v ≤ u → u < at_.length → GoodRow (rd_L3 at_ (u : Int)) (rd_T89 l (u : Int)).f1) := by
  have hl := hg.len
  intro d
  induction d with
  | zero =>
    intro v hd hv
    refine ⟨true, Ev.step (f := fun _ => some true) (fun k => ?_) (Ev.now _), Ev.step (f := fun _ => some true) (fun k => ?_) (Ev.now _), fun _ u g1 g2 => absurd g1 (by omega)⟩
    · simp (disch := omega) only [spec_CutsOk.l0, ↓if_neg]
    · simp (disch := omega) only [impl_cutsOk.l0, ↓if_neg]
  | succ d ih =>
    intro v hd hv
    have hvl : v < at_.length := by omega
    obtain ⟨z, h1, h2, h3⟩ := ih (v + 1) (by omega) (by omega)
    have hw := hg.width _ (rdD_mem l v (by omega))
    have hpl := hp _ (rdM_L3 at_ v hvl)
    obtain ⟨b, g1, g2, g3⟩ := cuts_row l at_ v (by omega) hvl (by omega) (by omega) hw z (by simpa using h1) (by simpa using h2) _ 0 rfl (by omega) 0 (by decide) (by decide) (fun _ => rfl) (fun j hj => absurd hj (by omega))
    refine ⟨b, Ev.step (fun k => ?_) g1, Ev.step (fun k => ?_) g2, fun hb u u1 u2 => ?_⟩
    · simp (disch := omega) only [spec_CutsOk.l0, ↓if_pos]; rfl
    · simp (disch := omega) only [impl_cutsOk.l0, ↓if_pos]; rfl
    · by_cases e : u = v
      · subst e
        intro i hi
        exact (g3 hb).2 i (by omega) hi
      · exact h3 (g3 hb).1 u (by omega) u2
theorem cuts_core (l : List S89) (at_ : List (List Int)) (hx : ∀ x ∈ l, x.f0.size ≤ 1048576) (hat : (at_.length : Int) ≤ 1048576) (hp : ∀ y ∈ at_, (y.length : Int) ≤ 1048576) :
    ∃ b, Ev (fun k => spec_CutsOk.f k l at_) b ∧ Ev (fun k => impl_CutsOk.f k l at_) b ∧ (b = true → GoodDecls l ∧ GoodCuts l at_) := by
  have no : ∀ (P : Prop), ((false : Bool) = true → P) := fun P h => by cases h
  obtain ⟨bd, g1, g2, hg⟩ := declsOk_agree l hx
  obtain ⟨K1, h1⟩ := Ev.binds g1
  obtain ⟨K2, h2⟩ := Ev.binds g2
  cases bd with
  | false =>
    refine ⟨false, ⟨K1 + 2, fun k hk => ?_⟩, ⟨K2, fun k hk => ?_⟩, no _⟩
    · obtain ⟨m, rfl⟩ : ∃ m, k = m + 1 := ⟨k - 1, by omega⟩
      simp (disch := omega) only [spec_CutsOk.f, ↓h1, ↓reduceIte, Bool.false_eq_true, spec_CutsOk.j0]
    · simp (disch := omega) only [impl_CutsOk.f, ↓h2, ↓reduceIte, Bool.false_eq_true]
  | true =>
    have hg := hg rfl
    by_cases c : at_.length = l.length
    · obtain ⟨b, e1, e2, e3⟩ := cuts_loops l at_ hg c hp at_.length 0 (by omega) (by omega)
      obtain ⟨K3, h3⟩ := e1
      obtain ⟨K4, h4⟩ := Ev.binds e2
      have cn : ((at_.length : Int) != (l.length : Int)) = false := by rw [c]; exact bne_self_eq_false _
      refine ⟨b, ⟨K1 + K3 + 1, fun k hk => ?_⟩, ⟨K2 + K4, fun k hk => ?_⟩, fun hb => ⟨hg, c, fun v hv => e3 hb v (by omega) hv⟩⟩
      · obtain ⟨m, rfl⟩ : ∃ m, k = m + 1 := ⟨k - 1, by omega⟩
        have h3 := h3 m (by omega)
        simp (disch := omega) only [spec_CutsOk.f, ↓h1, ↓reduceIte, cn, spec_CutsOk.j0, Bool.false_eq_true]
        exact h3
      · have e : impl_cutsOk.f k l at_ = impl_cutsOk.l0 k l at_ (at_.length : Int) ((0 : Nat) : Int) := by unfold impl_cutsOk.f; rw [if_pos (by omega)]; rfl
        simp (disch := omega) only [impl_CutsOk.f, ↓h2, ↓reduceIte]
        rw [e]
        exact h4 k (by omega) _ _
    · have cn : ((at_.length : Int) != (l.length : Int)) = true := bne_iff_ne.2 (by omega)
      refine ⟨false, ⟨K1 + 2, fun k hk => ?_⟩, ⟨K2, fun k hk => ?_⟩, no _⟩
      · obtain ⟨m, rfl⟩ : ∃ m, k = m + 1 := ⟨k - 1, by omega⟩
        simp (disch := omega) only [spec_CutsOk.f, ↓h1, ↓reduceIte, cn, spec_CutsOk.j0]
      · simp (disch := omega) only [impl_CutsOk.f, ↓h2, ↓reduceIte, impl_cutsOk.f, ↓if_neg, Option.bind_some]
theorem cutsOk_agree (l : List S89) (at_ : List (List Int)) (U0 : (l.length : Int) ≤ 1048576 ∧ ∀ y ∈ l, UpI_Decl 1048576 y) (W0 : ∀ y ∈ l, WfI_Decl y) (U1 : UpI_Cuts 1048576 ⟨at_⟩) (W1 : WfI_Cuts ⟨at_⟩) :
    ∃ b, Ev (fun k => spec_CutsOk.f k l at_) b ∧ Ev (fun k => impl_CutsOk.f k l at_) b := by
  obtain ⟨b, h1, h2, _⟩ := cuts_core l at_ (upDecl U0) U1.1 U1.2
  exact ⟨b, h1, h2⟩

/-! gauge -/
theorem gauge_loops (l : List S89) (at_ : List (List Int)) (hat : at_.length ≤ 1048576) (hp : ∀ y ∈ at_, (y.length : Int) ≤ 1048576) :
    ∀ d v, at_.length - v = d → v ≤ at_.length → ∀ n : Int, 0 ≤ n → n ≤ 1048576 + 1048576 * v → ∃ r, Ev (fun k => spec_Gauge.l0 k n (v : Int) at_) r ∧ Ev (fun k => impl_Gauge.l0 k n at_ (at_.length : Int) (v : Int)) r := by
  intro d
  induction d with
  | zero =>
    intro v hd hv n n0 n1
    exact ⟨n, Ev.step (f := fun _ => some n) (fun k => by simp (disch := omega) only [spec_Gauge.l0, ↓if_neg]) (Ev.now _), Ev.step (f := fun _ => some n) (fun k => by simp (disch := omega) only [impl_Gauge.l0, ↓if_neg]) (Ev.now _)⟩
  | succ d ih =>
    intro v hd hv n n0 n1
    have hvl : v < at_.length := by omega
    have hpl := hp _ (rdM_L3 at_ v hvl)
    obtain ⟨r, h1, h2⟩ := ih (v + 1) (by omega) (by omega) (n + ((rd_L3 at_ (v : Int)).length : Int)) (by omega) (by omega)
    exact ⟨r, Ev.step (fun k => by simp (disch := omega) only [spec_Gauge.l0, ↓if_pos, wrap_next, wrap64_id] <;> rfl) h1, Ev.step (fun k => by simp (disch := omega) only [impl_Gauge.l0, ↓if_pos, wrap_next, wrap64_id] <;> rfl) h2⟩
theorem gauge_agree (l : List S89) (at_ : List (List Int)) (U0 : (l.length : Int) ≤ 1048576 ∧ ∀ y ∈ l, UpI_Decl 1048576 y) (W0 : ∀ y ∈ l, WfI_Decl y) (U1 : UpI_Cuts 1048576 ⟨at_⟩) (W1 : WfI_Cuts ⟨at_⟩) :
    ∃ b, Ev (fun k => spec_Gauge.f k l at_) b ∧ Ev (fun k => impl_Gauge.f k l at_) b := by
  obtain ⟨b, g1, g2, hg⟩ := cuts_core l at_ (upDecl U0) U1.1 U1.2
  obtain ⟨K1, h1⟩ := Ev.binds g1
  obtain ⟨K2, h2⟩ := Ev.binds g2
  cases b with
  | false => exact ⟨-1, ⟨K1, fun k hk => by simp (disch := omega) only [spec_Gauge.f, ↓h1, ↓reduceIte, Bool.false_eq_true]⟩, ⟨K2, fun k hk => by simp (disch := omega) only [impl_Gauge.f, ↓h2, ↓reduceIte, Bool.false_eq_true]⟩⟩
  | true =>
    have hgd := (hg rfl).1.len
    obtain ⟨r, ⟨K3, e3⟩, ⟨K4, e4⟩⟩ := gauge_loops l at_ (by have := U1.1; simp only at this; omega) U1.2 at_.length 0 (by omega) (by omega) (l.length : Int) (by omega) (by omega)
    refine ⟨r, ⟨K1 + K3, fun k hk => ?_⟩, ⟨K2 + K4, fun k hk => ?_⟩⟩
    · have e3 := e3 k (by omega)
      simp (disch := omega) only [spec_Gauge.f, ↓h1, ↓reduceIte]
      exact e3
    · have e4 := e4 k (by omega)
      simp (disch := omega) only [impl_Gauge.f, ↓h2, ↓reduceIte]
      exact e4
-- SAYS: The program's Gauge answers as the reference's Gauge does, for all arguments.
theorem FnExactGauge (l0 : List S142) (l1_0 : List (List Int)) (q0 : ∀ x ∈ l0, x.f0.size ≤ maxLen ∧ (Lit.int .i64 x.f1).wf = true) (hl0 : l0.length ≤ 9223372036854775807) (q1_0 : ∀ x ∈ l1_0, (x.length ≤ 9223372036854775807 ∧ ∀ y0 ∈ x, (Lit.int .i64 y0).wf = true)) (hl1_0 : l1_0.length ≤ 9223372036854775807) : ∃ k, laws_FnExactGauge.f k l0 l1_0 = some true := by
  obtain ⟨r0, g0, hb0⟩ := sz_DeclS l0 1048576 (⟨Int.ofNat_le.2 (And.intro hl0 q0).1, fun y hy => in_Decl y ((And.intro hl0 q0).2 y hy)⟩) (by omega) (by omega)
  obtain ⟨Ks0, s0⟩ := Ev.binds (g0)
  try dsimp only [cv_Cuts] at s0
  rcases hb0 with hneg | ⟨p0, z0, u0⟩
  · have c0 := eq_true hneg
    exact ⟨Ks0 + 1 + 1 + 1 + 1, by simp (disch := omega) only [laws_FnExactGauge.f, ↓s0, ↓reduceIte, c0]⟩
  have c0 := eq_false (show ¬ r0 < 0 by omega)
  obtain ⟨r1, g1, hb1⟩ := sz_Cuts (⟨l1_0⟩ : S61) r0 (in_Cuts (⟨l1_0⟩ : S61) (And.intro hl1_0 q1_0)) (by omega) (by omega)
  obtain ⟨Ks1, s1⟩ := Ev.binds (g1)
  try dsimp only [cv_Cuts] at s1
  rcases hb1 with hneg | ⟨p1, z1, u1⟩
  · have c1 := eq_true hneg
    exact ⟨Ks0 + Ks1 + 1 + 1 + 1 + 1, by simp (disch := omega) only [laws_FnExactGauge.f, ↓s0, ↓s1, ↓reduceIte, c0, c1]⟩
  have c1 := eq_false (show ¬ r1 < 0 by omega)
  have U0 : (((l0.map cv_Decl).length : Int) ≤ 1048576 ∧ ∀ y ∈ (l0.map cv_Decl), UpI_Decl 1048576 y) := ⟨by simpa using u0.1, fun y hy => by obtain ⟨z, hz, rfl⟩ := List.mem_map.1 hy; exact upcv_Decl _ z (u0.2 z hz)⟩
  have W0 : (∀ y ∈ (l0.map cv_Decl), WfI_Decl y) := (fun y hy => by obtain ⟨z, hz, rfl⟩ := List.mem_map.1 hy; exact wf_Decl z ((And.intro hl0 q0).2 z hz))
  have U1 : UpI_Cuts 1048576 ((cv_Cuts (⟨l1_0⟩ : S61))) := (upcv_Cuts _ _ u1)
  have W1 : WfI_Cuts ((cv_Cuts (⟨l1_0⟩ : S61))) := wf_Cuts (⟨l1_0⟩ : S61) (And.intro hl1_0 q1_0)
  obtain ⟨y0, e1, e2⟩ := gauge_agree ((l0.map cv_Decl)) l1_0 U0 W0 U1 W1
  obtain ⟨Kt0, t0⟩ := Ev.binds (to_DeclS l0 u0)
  try dsimp only [cv_Cuts] at t0
  obtain ⟨Kt1, t1⟩ := Ev.binds (to_Cuts (⟨l1_0⟩ : S61) u1)
  try dsimp only [cv_Cuts] at t1
  obtain ⟨Khs, hs⟩ := Ev.binds (e1)
  obtain ⟨Khi, hi⟩ := Ev.binds (e2)
  obtain ⟨Ke0_, e0_⟩ := Ev.binds (eq_DeclS ((l0.map cv_Decl)) U0)
  try dsimp only [cv_Cuts] at e0_
  obtain ⟨Ke1_, e1_⟩ := Ev.binds (eq_Cuts ((cv_Cuts (⟨l1_0⟩ : S61))) U1)
  try dsimp only [cv_Cuts] at e1_
  exact ⟨Ks0 + Ks1 + Kt0 + Kt1 + Khs + Khi + Ke0_ + Ke1_ + 1 + 1 + 1 + 1, by simp (disch := omega) only [laws_FnExactGauge.f, ↓s0, ↓s1, ↓t0, ↓t1, ↓hs, ↓hi, ↓e0_, ↓e1_, ↓reduceIte, c0, c1, bne_self_eq_false, Bool.false_eq_true]⟩

end Go.Proofs.Ytkjlplcdjdenkaa.Pure
