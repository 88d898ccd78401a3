/- The program's AddCuts answers as the reference's AddCuts does, for all arguments. -/
import Derived.Test.YtonkicgdgpcneaaPFnExactAddCutsx12
import Derived.Test.YtonkicgdgpcneaaBits
import Derived.Test.YtonkicgdgpcneaaLoops
namespace Go.Proofs.Ytonkicgdgpcneaa.Pure
open Go Go.RowKit Go.Proofs.Ytonkicgdgpcneaa.PFnExactAddCuts Go.Proofs.YtonkicgdgpcneaaW.PrintWords Go.Proofs.YtonkicgdgpcneaaW.PrintLast Go.Proofs.YtonkicgdgpcneaaW.PrintMore Go.Proofs.Ytonkicgdgpcneaa.BitsLib Go.Proofs.Ytonkicgdgpcneaa.Loops
set_option linter.unusedVariables false
set_option linter.unusedSimpArgs false
set_option maxRecDepth 4000

/-! wrap_next -/
theorem wrap_next (i : Nat) (h : i < 4611686018427387904) : wrap64 ((i : Int) + 1) = ((i + 1 : Nat) : Int) := by
  rw [wrap64_id (by omega) (by omega)]; rfl

/-! szn_out -/
theorem szn_out (n : Nat) (left : Int) (hn : (n : Int) ≤ 9223372036854775807) (h0 : 0 ≤ left) (h1 : left ≤ 1048576) :
    ∃ r, (True → wrap64 (left - (n : Int)) = r) ∧ (r < 0 ∨ (0 ≤ r ∧ r ≤ left ∧ (n : Int) ≤ 1048576)) := by
  refine ⟨left - (n : Int), fun _ => wrap64_id (by omega) (by omega), ?_⟩
  by_cases c : left - (n : Int) < 0
  · exact .inl c
  · exact .inr (by omega)

/-! rdE_L3 -/
theorem rdE_L3 (l : List (List Int)) (i : Nat) (h : i < l.length) : rd_L3 l (i : Int) = l[i] := by
  unfold rd_L3
  rw [List.getD_eq_getElem?_getD, Int.toNat_natCast, List.getElem?_eq_getElem h]; rfl
theorem rdM_L3 (l : List (List Int)) (i : Nat) (h : i < l.length) : rd_L3 l (i : Int) ∈ l := by rw [rdE_L3 l i h]; exact List.getElem_mem h

/-! S41 -/
structure S41 where
  f0 : List (List Int)

/-! UpL_Cuts -/
def UpL_Cuts (c : Int) (x : S41) : Prop := ((x.f0.length : Int) ≤ c ∧ ∀ y ∈ x.f0, ((y.length : Int) ≤ c))

/-! sz_Int64S -/
theorem sz_Int64S (x : List Int) (left : Int) (hin : ((x.length : Int) ≤ 9223372036854775807)) (h0 : 0 ≤ left) (h1 : left ≤ 1048576) :
    ∃ r, Ev (fun k => laws_szInt64S.f x left) r ∧ (r < 0 ∨ (0 ≤ r ∧ r ≤ left ∧ ((x.length : Int) ≤ 1048576))) := by
  obtain ⟨r, hr, hb⟩ := szn_out x.length left hin h0 h1
  rcases hb with c | ⟨p0, q0, u0⟩
  · exact ⟨-1, ⟨0, fun k _ => by dsimp only; unfold laws_szInt64S.f; rw [hr trivial, if_pos c]⟩, .inl (by omega)⟩
  · exact ⟨r, ⟨0, fun k _ => by dsimp only; unfold laws_szInt64S.f; rw [hr trivial, if_neg (by omega)]⟩, .inr ⟨p0, q0, u0⟩⟩

/-! sz_Int64SS -/
theorem sz_Int64SS (x : List (List Int)) (left : Int) (hin : ((x.length : Int) ≤ 9223372036854775807 ∧ ∀ y ∈ x, ((y.length : Int) ≤ 9223372036854775807))) (h0 : 0 ≤ left) (h1 : left ≤ 1048576) :
    ∃ r, Ev (fun k => laws_szInt64SS.f k x left) r ∧ (r < 0 ∨ (0 ≤ r ∧ r ≤ left ∧ ((x.length : Int) ≤ 1048576 ∧ ∀ y ∈ x, ((y.length : Int) ≤ 1048576)))) := by
  obtain ⟨hl, hx⟩ := hin
  obtain ⟨r0, hr0, hb0⟩ := szn_out x.length left hl h0 h1
  rcases hb0 with c | ⟨p0, q0, u0⟩
  · exact ⟨-1, ⟨0, fun k _ => by dsimp only; unfold laws_szInt64SS.f; rw [hr0 trivial, if_pos c]⟩, .inl (by omega)⟩
  · have main : ∀ d i, x.length - i = d → i ≤ x.length → ∀ lf, 0 ≤ lf → lf ≤ left → ∃ r, Ev (fun k => laws_szInt64SS.l0 k x lf (i : Int)) r ∧ (r < 0 ∨ (0 ≤ r ∧ r ≤ lf ∧ ∀ j : Nat, i ≤ j → j < x.length → (((rd_L3 x (j : Int)).length : Int) ≤ 1048576))) := by
      intro d
      induction d with
      | zero =>
        intro i hd hi lf g0 g1
        exact ⟨lf, Ev.step (f := fun _ => some lf) (fun k => by simp only [laws_szInt64SS.l0]; rw [if_neg (by omega)]) (Ev.now _), .inr ⟨g0, Int.le_refl _, fun j g2 g3 => absurd g3 (by omega)⟩⟩
      | succ d ih =>
        intro i hd hi lf g0 g1
        have hil : i < x.length := by omega
        obtain ⟨r, ⟨K, hr⟩, hrb⟩ := sz_Int64S (rd_L3 x (i : Int)) lf (hx _ (rdM_L3 x i hil)) g0 (by omega)
        rcases hrb with hneg | ⟨p1, p2, p3⟩
        · refine ⟨-1, ⟨K + 1, fun k hk => ?_⟩, .inl (by omega)⟩
          obtain ⟨m, rfl⟩ : ∃ m, k = m + 1 := ⟨k - 1, by omega⟩
          have hr := hr m (by omega)
          dsimp only at hr ⊢
          simp only [laws_szInt64SS.l0]
          rw [if_pos (by omega), if_pos (by omega), hr]
          simp only [Option.bind_some]
          rw [if_pos hneg]
        · obtain ⟨r2, ⟨K2, h2⟩, hb2⟩ := ih (i + 1) (by omega) (by omega) r p1 (by omega)
          refine ⟨r2, ⟨K + K2 + 1, fun k hk => ?_⟩, ?_⟩
          · obtain ⟨m, rfl⟩ : ∃ m, k = m + 1 := ⟨k - 1, by omega⟩
            have hr := hr m (by omega)
            have h2 := h2 m (by omega)
            dsimp only at hr h2 ⊢
            simp only [laws_szInt64SS.l0]
            rw [if_pos (by omega), if_pos (by omega), hr]
            simp only [Option.bind_some]
            rw [if_neg (by omega), wrap_next i (by omega)]
            exact h2
          · rcases hb2 with hb2 | ⟨s0, s1, s2⟩
            · exact .inl hb2
            · refine .inr ⟨s0, by omega, fun j g2 g3 => ?_⟩
              by_cases e : j = i
              · rw [e]; exact p3
              · exact s2 j (by omega) g3
    obtain ⟨r, ⟨K, hr⟩, hb⟩ := main x.length 0 (by omega) (by omega) r0 p0 q0
    refine ⟨r, ⟨K, fun k hk => ?_⟩, ?_⟩
    · have hr := hr k hk
      dsimp only at hr ⊢
      unfold laws_szInt64SS.f
      rw [hr0 trivial, if_neg (by omega)]
      exact hr
    · rcases hb with hb | ⟨s0, s1, s2⟩
      · exact .inl hb
      · refine .inr ⟨s0, by omega, by omega, fun y hy => ?_⟩
        obtain ⟨j, hjl, rfl⟩ := List.getElem_of_mem hy
        have := s2 j (by omega) hjl
        rwa [rdE_L3 x j hjl] at this

/-! sz_Cuts -/
theorem sz_Cuts (x : S41) (left : Int) (hin : UpL_Cuts 9223372036854775807 x) (h0 : 0 ≤ left) (h1 : left ≤ 1048576) :
    ∃ r, Ev (fun k => laws_szCuts.f k x.f0 left) r ∧ (r < 0 ∨ (0 ≤ r ∧ r ≤ left ∧ UpL_Cuts 1048576 x)) := by
  unfold UpL_Cuts at hin
  have i0 := hin
  obtain ⟨r0, ⟨K0, e0⟩, hb0⟩ := sz_Int64SS x.f0 left i0 (by omega) (by omega)
  rcases hb0 with c0 | ⟨p0, q0, u0⟩
  · exact ⟨-1, ⟨K0, fun k hk => by have e0 := e0 k (by omega); dsimp only at e0 ⊢; unfold laws_szCuts.f; rw [e0]; simp only [Option.bind_some]; rw [if_pos c0]⟩, .inl (by omega)⟩
  exact ⟨r0, ⟨K0, fun k hk => by have e0 := e0 k (by omega); dsimp only at e0 ⊢; unfold laws_szCuts.f; rw [e0]; simp only [Option.bind_some]; rw [if_neg (by omega)]⟩, .inr ⟨by omega, by omega, u0⟩⟩

/-! UpL_Decl -/
def UpL_Decl (c : Int) (x : S85) : Prop := ((x.f0.size : Int) ≤ c)

/-! rdE_T85 -/
theorem rdE_T85 (l : List S85) (i : Nat) (h : i < l.length) : rd_T85 l (i : Int) = l[i] := by
  unfold rd_T85
  rw [List.getD_eq_getElem?_getD, Int.toNat_natCast, List.getElem?_eq_getElem h]; rfl
theorem rdM_T85 (l : List S85) (i : Nat) (h : i < l.length) : rd_T85 l (i : Int) ∈ l := by rw [rdE_T85 l i h]; exact List.getElem_mem h

/-! sz_Decl -/
theorem sz_Decl (x : S85) (left : Int) (hin : UpL_Decl 9223372036854775807 x) (h0 : 0 ≤ left) (h1 : left ≤ 1048576) :
    ∃ r, Ev (fun k => laws_szDecl.f x.f0 x.f1 left) r ∧ (r < 0 ∨ (0 ≤ r ∧ r ≤ left ∧ UpL_Decl 1048576 x)) := by
  unfold UpL_Decl at hin
  have i0 := hin
  obtain ⟨r0, e0, hb0⟩ := szn_out x.f0.size left i0 (by omega) (by omega)
  rcases hb0 with c0 | ⟨p0, q0, u0⟩
  · exact ⟨-1, ⟨0, fun k hk => by dsimp only; unfold laws_szDecl.f; rw [e0 trivial]; rw [if_pos c0]⟩, .inl (by omega)⟩
  exact ⟨r0, ⟨0, fun k hk => by dsimp only; unfold laws_szDecl.f; rw [e0 trivial]; rw [if_neg (by omega)]⟩, .inr ⟨by omega, by omega, u0⟩⟩

/-! sz_DeclS -/
theorem sz_DeclS (x : List S85) (left : Int) (hin : ((x.length : Int) ≤ 9223372036854775807 ∧ ∀ y ∈ x, UpL_Decl 9223372036854775807 y)) (h0 : 0 ≤ left) (h1 : left ≤ 1048576) :
    ∃ r, Ev (fun k => laws_szDeclS.f k x left) r ∧ (r < 0 ∨ (0 ≤ r ∧ r ≤ left ∧ ((x.length : Int) ≤ 1048576 ∧ ∀ y ∈ x, UpL_Decl 1048576 y))) := by
  obtain ⟨hl, hx⟩ := hin
  obtain ⟨r0, hr0, hb0⟩ := szn_out x.length left hl h0 h1
  rcases hb0 with c | ⟨p0, q0, u0⟩
  · exact ⟨-1, ⟨0, fun k _ => by dsimp only; unfold laws_szDeclS.f; rw [hr0 trivial, if_pos c]⟩, .inl (by omega)⟩
  · have main : ∀ d i, x.length - i = d → i ≤ x.length → ∀ lf, 0 ≤ lf → lf ≤ left → ∃ r, Ev (fun k => laws_szDeclS.l0 k x lf (i : Int)) r ∧ (r < 0 ∨ (0 ≤ r ∧ r ≤ lf ∧ ∀ j : Nat, i ≤ j → j < x.length → UpL_Decl 1048576 ((rd_T85 x (j : Int))))) := by
      intro d
      induction d with
      | zero =>
        intro i hd hi lf g0 g1
        exact ⟨lf, Ev.step (f := fun _ => some lf) (fun k => by simp only [laws_szDeclS.l0]; rw [if_neg (by omega)]) (Ev.now _), .inr ⟨g0, Int.le_refl _, fun j g2 g3 => absurd g3 (by omega)⟩⟩
      | succ d ih =>
        intro i hd hi lf g0 g1
        have hil : i < x.length := by omega
        obtain ⟨r, ⟨K, hr⟩, hrb⟩ := sz_Decl (rd_T85 x (i : Int)) lf (hx _ (rdM_T85 x i hil)) g0 (by omega)
        rcases hrb with hneg | ⟨p1, p2, p3⟩
        · refine ⟨-1, ⟨K + 1, fun k hk => ?_⟩, .inl (by omega)⟩
          obtain ⟨m, rfl⟩ : ∃ m, k = m + 1 := ⟨k - 1, by omega⟩
          have hr := hr m (by omega)
          dsimp only at hr ⊢
          simp only [laws_szDeclS.l0]
          rw [if_pos (by omega), if_pos (by omega), hr]
          simp only [Option.bind_some]
          rw [if_pos hneg]
        · obtain ⟨r2, ⟨K2, h2⟩, hb2⟩ := ih (i + 1) (by omega) (by omega) r p1 (by omega)
          refine ⟨r2, ⟨K + K2 + 1, fun k hk => ?_⟩, ?_⟩
          · obtain ⟨m, rfl⟩ : ∃ m, k = m + 1 := ⟨k - 1, by omega⟩
            have hr := hr m (by omega)
            have h2 := h2 m (by omega)
            dsimp only at hr h2 ⊢
            simp only [laws_szDeclS.l0]
            rw [if_pos (by omega), if_pos (by omega), hr]
            simp only [Option.bind_some]
            rw [if_neg (by omega), wrap_next i (by omega)]
            exact h2
          · rcases hb2 with hb2 | ⟨s0, s1, s2⟩
            · exact .inl hb2
            · refine .inr ⟨s0, by omega, fun j g2 g3 => ?_⟩
              by_cases e : j = i
              · rw [e]; exact p3
              · exact s2 j (by omega) g3
    obtain ⟨r, ⟨K, hr⟩, hb⟩ := main x.length 0 (by omega) (by omega) r0 p0 q0
    refine ⟨r, ⟨K, fun k hk => ?_⟩, ?_⟩
    · have hr := hr k hk
      dsimp only at hr ⊢
      unfold laws_szDeclS.f
      rw [hr0 trivial, if_neg (by omega)]
      exact hr
    · rcases hb with hb | ⟨s0, s1, s2⟩
      · exact .inl hb
      · refine .inr ⟨s0, by omega, by omega, fun y hy => ?_⟩
        obtain ⟨j, hjl, rfl⟩ := List.getElem_of_mem hy
        have := s2 j (by omega) hjl
        rwa [rdE_T85 x j hjl] at this

/-! S44 -/
structure S44 where
  f0 : List (List Int)

/-! UpI_Cuts -/
def UpI_Cuts (c : Int) (x : S44) : Prop := ((x.f0.length : Int) ≤ c ∧ ∀ y ∈ x.f0, ((y.length : Int) ≤ c))

/-! cv_Cuts -/
def cv_Cuts (x : S41) : S44 := ⟨x.f0⟩

/-! upcv_Cuts -/
theorem upcv_Cuts (c : Int) (x : S41) (h : UpL_Cuts c x) : UpI_Cuts c (cv_Cuts x) := by
  unfold UpL_Cuts at h
  unfold UpI_Cuts
  have i0 := h
  exact i0

/-! in_Cuts -/
theorem in_Cuts (x : S41) (h : (x.f0.length ≤ 9223372036854775807 ∧ ∀ y0 ∈ x.f0, (y0.length ≤ 9223372036854775807 ∧ ∀ y1 ∈ y0, (Lit.int .i64 y1).wf = true))) : UpL_Cuts 9223372036854775807 x := by
  have j0 := h
  unfold UpL_Cuts
  exact ⟨Int.ofNat_le.2 j0.1, fun y hy => (Int.ofNat_le.2 (j0.2 y hy).1)⟩

/-! to_Int64S -/
theorem to_Int64S (x : List Int) (h : ((x.length : Int) ≤ 1048576)) : Ev (fun k => laws_toInt64S.f k x) x := by
  have hl := h
  have main := up_loop x.length (filled (fun i => (rd x i)) (List.replicate x.length 0)) (fun k xs i => laws_toInt64S.l0 k x xs i)
    (fun i hi r h2 => by
      obtain ⟨K2, h2⟩ := h2
      refine ⟨K2 + 1, fun k hk => ?_⟩
      obtain ⟨m, rfl⟩ : ∃ m, k = m + 1 := ⟨k - 1, by omega⟩
      have h2 := h2 m (by omega)
      dsimp only at h2 ⊢
      rw [← filled_set _ _ (by simpa using hi)] at h2
      simp only [laws_toInt64S.l0]
      rw [if_pos (by omega), if_pos (by omega)]
      rw [if_pos (by rw [filled_len _ _ (by simp; omega)]; simp; omega), Int.toNat_natCast, wrap64_id (by omega) (by omega)]
      exact h2)
    x (Ev.step (f := fun _ => some x) (fun k => by
      simp only [laws_toInt64S.l0]
      rw [if_neg (by omega), filled_all _ _ (by simp)]
      congr 1
      exact list_of_rd x) (Ev.now _))
  rw [filled_zero] at main
  refine Ev.congr (fun k => ?_) main
  unfold laws_toInt64S.f
  rw [if_pos (by omega), if_pos (by omega), Int.toNat_natCast]

/-! to_Int64SS -/
theorem to_Int64SS (x : List (List Int)) (h : ((x.length : Int) ≤ 1048576 ∧ ∀ y ∈ x, ((y.length : Int) ≤ 1048576))) : Ev (fun k => laws_toInt64SS.f k x) x := by
  have hl := h.1
  have main := up_loop x.length (filled (fun i => (rd_L3 x i)) (List.replicate x.length [])) (fun k xs i => laws_toInt64SS.l0 k x xs i)
    (fun i hi r h2 => by
      obtain ⟨K, he⟩ := to_Int64S (rd_L3 x (i : Int)) (h.2 _ (rdM_L3 x i hi))
      obtain ⟨K2, h2⟩ := h2
      refine ⟨K + K2 + 1, fun k hk => ?_⟩
      obtain ⟨m, rfl⟩ : ∃ m, k = m + 1 := ⟨k - 1, by omega⟩
      have h2 := h2 m (by omega)
      have he := he m (by omega)
      dsimp only at he h2 ⊢
      rw [← filled_set _ _ (by simpa using hi)] at h2
      simp only [laws_toInt64SS.l0]
      rw [if_pos (by omega), if_pos (by omega), he]
      simp only [Option.bind_some]
      rw [if_pos (by rw [filled_len _ _ (by simp; omega)]; simp; omega), Int.toNat_natCast, wrap64_id (by omega) (by omega)]
      exact h2)
    x (Ev.step (f := fun _ => some x) (fun k => by
      simp only [laws_toInt64SS.l0]
      rw [if_neg (by omega), filled_all _ _ (by simp)]
      congr 1
      apply List.ext_getElem?
      intro i
      by_cases hi : i < x.length
      · simp [hi, rdE_L3]
      · rw [List.getElem?_eq_none (by first | omega | (simp; omega)), List.getElem?_eq_none (by first | omega | (simp; omega))]) (Ev.now _))
  rw [filled_zero] at main
  refine Ev.congr (fun k => ?_) main
  unfold laws_toInt64SS.f
  rw [if_pos (by omega), if_pos (by omega), Int.toNat_natCast]

/-! to_Cuts -/
theorem to_Cuts (x : S41) (h : UpL_Cuts 1048576 x) : Ev (fun k => laws_toCuts.f k x.f0) (cv_Cuts x).f0 := by
  unfold UpL_Cuts at h
  have i0 := h
  obtain ⟨K0, e0⟩ := to_Int64SS x.f0 i0
  refine ⟨K0, fun k hk => ?_⟩
  have e0 := e0 k (by omega)
  dsimp only at e0 ⊢
  simp only [laws_toCuts.f, e0, Option.bind_some]
  all_goals rfl

/-! UpI_Decl -/
def UpI_Decl (c : Int) (x : S63) : Prop := ((x.f0.size : Int) ≤ c)

/-! rdE_T63 -/
theorem rdE_T63 (l : List S63) (i : Nat) (h : i < l.length) : rd_T63 l (i : Int) = l[i] := by
  unfold rd_T63
  rw [List.getD_eq_getElem?_getD, Int.toNat_natCast, List.getElem?_eq_getElem h]; rfl
theorem rdM_T63 (l : List S63) (i : Nat) (h : i < l.length) : rd_T63 l (i : Int) ∈ l := by rw [rdE_T63 l i h]; exact List.getElem_mem h

/-! cv_Decl -/
def cv_Decl (x : S85) : S63 := ⟨x.f0, x.f1⟩

/-! upcv_Decl -/
theorem upcv_Decl (c : Int) (x : S85) (h : UpL_Decl c x) : UpI_Decl c (cv_Decl x) := by
  unfold UpL_Decl at h
  unfold UpI_Decl
  have i0 := h
  exact i0

/-! in_Decl -/
theorem in_Decl (x : S85) (h : x.f0.size ≤ maxLen ∧ (Lit.int .i64 x.f1).wf = true) : UpL_Decl 9223372036854775807 x := by
  obtain ⟨j0, j1⟩ := h
  unfold UpL_Decl
  exact (by have := j0; unfold maxLen at this; omega)

/-! to_Decl -/
theorem to_Decl (x : S85) (h : UpL_Decl 1048576 x) : Ev (fun k => laws_toDecl.f x.f0 x.f1) ((cv_Decl x).f0, (cv_Decl x).f1) := by
  unfold UpL_Decl at h
  have i0 := h
  refine ⟨0, fun k hk => ?_⟩
  dsimp only
  simp only [laws_toDecl.f, Option.bind_some]
  all_goals rfl

/-! to_DeclS -/
theorem to_DeclS (x : List S85) (h : ((x.length : Int) ≤ 1048576 ∧ ∀ y ∈ x, UpL_Decl 1048576 y)) : Ev (fun k => laws_toDeclS.f k x) (x.map cv_Decl) := by
  have hl := h.1
  have main := up_loop x.length (filled (fun i => (cv_Decl (rd_T85 x i))) (List.replicate x.length z63)) (fun k xs i => laws_toDeclS.l0 k x xs i)
    (fun i hi r h2 => by
      obtain ⟨K, he⟩ := to_Decl (rd_T85 x (i : Int)) (h.2 _ (rdM_T85 x i hi))
      obtain ⟨K2, h2⟩ := h2
      refine ⟨K + K2 + 1, fun k hk => ?_⟩
      obtain ⟨m, rfl⟩ : ∃ m, k = m + 1 := ⟨k - 1, by omega⟩
      have h2 := h2 m (by omega)
      have he := he m (by omega)
      dsimp only at he h2 ⊢
      rw [← filled_set _ _ (by simpa using hi)] at h2
      simp only [laws_toDeclS.l0]
      rw [if_pos (by omega), if_pos (by omega), he]
      simp only [Option.bind_some]
      rw [if_pos (by rw [filled_len _ _ (by simp; omega)]; simp; omega), Int.toNat_natCast, wrap64_id (by omega) (by omega)]
      exact h2)
    (x.map cv_Decl) (Ev.step (f := fun _ => some (x.map cv_Decl)) (fun k => by
      simp only [laws_toDeclS.l0]
      rw [if_neg (by omega), filled_all _ _ (by simp)]
      congr 1
      apply List.ext_getElem?
      intro i
      by_cases hi : i < x.length
      · simp [hi, rdE_T85]
      · rw [List.getElem?_eq_none (by first | omega | (simp; omega)), List.getElem?_eq_none (by first | omega | (simp; omega))]) (Ev.now _))
  rw [filled_zero] at main
  refine Ev.congr (fun k => ?_) main
  unfold laws_toDeclS.f
  rw [if_pos (by omega), if_pos (by omega), Int.toNat_natCast]

/-! eq_Int64S -/
theorem eq_Int64S (x : List Int) (h : ((x.length : Int) ≤ 1048576)) : Ev (fun k => laws_eqInt64S.f k x x) true := by
  have hl := h
  have main := up_loop x.length (fun _ => ()) (fun k _ i => laws_eqInt64S.l0 k x x i)
    (fun i hi r h2 => by
      obtain ⟨K2, h2⟩ := h2
      refine ⟨K2 + 1, fun k hk => ?_⟩
      obtain ⟨m, rfl⟩ : ∃ m, k = m + 1 := ⟨k - 1, by omega⟩
      have h2 := h2 m (by omega)
      dsimp only at h2 ⊢
      simp only [laws_eqInt64S.l0]
      rw [if_pos (by omega), if_pos (by omega), if_pos (by omega)]
      simp only [if_true]
      rw [wrap64_id (by omega) (by omega)]
      exact h2)
    true (Ev.step (f := fun _ => some true) (fun k => by
      simp only [laws_eqInt64S.l0]
      rw [if_neg (by omega)]) (Ev.now _))
  obtain ⟨K, h⟩ := main
  refine ⟨K, fun k hk => ?_⟩
  have h := h k hk
  dsimp only at h ⊢
  unfold laws_eqInt64S.f
  rw [if_pos rfl]
  exact h

/-! eq_Int64SS -/
theorem eq_Int64SS (x : List (List Int)) (h : ((x.length : Int) ≤ 1048576 ∧ ∀ y ∈ x, ((y.length : Int) ≤ 1048576))) : Ev (fun k => laws_eqInt64SS.f k x x) true := by
  have hl := h.1
  have main := up_loop x.length (fun _ => ()) (fun k _ i => laws_eqInt64SS.l0 k x x i)
    (fun i hi r h2 => by
      obtain ⟨K, he⟩ := eq_Int64S (rd_L3 x (i : Int)) (h.2 _ (rdM_L3 x i hi))
      obtain ⟨K2, h2⟩ := h2
      refine ⟨K + K2 + 1, fun k hk => ?_⟩
      obtain ⟨m, rfl⟩ : ∃ m, k = m + 1 := ⟨k - 1, by omega⟩
      have h2 := h2 m (by omega)
      have he := he m (by omega)
      dsimp only at he h2 ⊢
      simp only [laws_eqInt64SS.l0]
      rw [if_pos (by omega), if_pos (by omega), if_pos (by omega), he]
      simp only [Option.bind_some, if_true, ↓reduceIte]
      rw [wrap64_id (by omega) (by omega)]
      exact h2)
    true (Ev.step (f := fun _ => some true) (fun k => by
      simp only [laws_eqInt64SS.l0]
      rw [if_neg (by omega)]) (Ev.now _))
  obtain ⟨K, h⟩ := main
  refine ⟨K, fun k hk => ?_⟩
  have h := h k hk
  dsimp only at h ⊢
  unfold laws_eqInt64SS.f
  rw [if_pos rfl]
  exact h

/-! eq_Cuts -/
theorem eq_Cuts (x : S44) (h : UpI_Cuts 1048576 x) : Ev (fun k => laws_eqCuts.f k x.f0 x.f0) true := by
  unfold UpI_Cuts at h
  have i0 := h
  obtain ⟨K0, e0⟩ := eq_Int64SS x.f0 i0
  refine ⟨K0, fun k hk => ?_⟩
  have e0 := e0 k (by omega)
  dsimp only at e0 ⊢
  simp only [laws_eqCuts.f, e0, Option.bind_some, if_true, ↓reduceIte, bne_self_eq_false, Bool.false_eq_true]

/-! eq_Decl -/
theorem eq_Decl (x : S63) (h : UpI_Decl 1048576 x) : Ev (fun k => laws_eqDecl.f x.f0 x.f1 x.f0 x.f1) true := by
  unfold UpI_Decl at h
  have i0 := h
  refine ⟨0, fun k hk => ?_⟩
  dsimp only
  simp only [laws_eqDecl.f, Option.bind_some, if_true, ↓reduceIte, bne_self_eq_false, Bool.false_eq_true]

/-! eq_DeclS -/
theorem eq_DeclS (x : List S63) (h : ((x.length : Int) ≤ 1048576 ∧ ∀ y ∈ x, UpI_Decl 1048576 y)) : Ev (fun k => laws_eqDeclS.f k x x) true := by
  have hl := h.1
  have main := up_loop x.length (fun _ => ()) (fun k _ i => laws_eqDeclS.l0 k x x i)
    (fun i hi r h2 => by
      obtain ⟨K, he⟩ := eq_Decl (rd_T63 x (i : Int)) (h.2 _ (rdM_T63 x i hi))
      obtain ⟨K2, h2⟩ := h2
      refine ⟨K + K2 + 1, fun k hk => ?_⟩
      obtain ⟨m, rfl⟩ : ∃ m, k = m + 1 := ⟨k - 1, by omega⟩
      have h2 := h2 m (by omega)
      have he := he m (by omega)
      dsimp only at he h2 ⊢
      simp only [laws_eqDeclS.l0]
      rw [if_pos (by omega), if_pos (by omega), if_pos (by omega), he]
      simp only [Option.bind_some, if_true, ↓reduceIte]
      rw [wrap64_id (by omega) (by omega)]
      exact h2)
    true (Ev.step (f := fun _ => some true) (fun k => by
      simp only [laws_eqDeclS.l0]
      rw [if_neg (by omega)]) (Ev.now _))
  obtain ⟨K, h⟩ := main
  refine ⟨K, fun k hk => ?_⟩
  have h := h k hk
  dsimp only at h ⊢
  unfold laws_eqDeclS.f
  rw [if_pos rfl]
  exact h

/-! mark_Int64S -/
theorem mark_Int64S (x : List Int) (h : ((x.length : Int) ≤ 1048576)) (m : Int) (h0 : 0 ≤ m) (h1 : m ≤ 4611686018426339328) : ∃ (m' : Int) (x' : List Int), Ev (fun k => laws_markInt64S.f k x m) (m', x') ∧ m ≤ m' ∧ m' ≤ m + 1048576 ∧ Ev (fun k => laws_heldInt64S.f k x' m) m' := by
  have hl : (x.length : Int) ≤ 1048576 := h
  obtain ⟨conv, hconv⟩ : ∃ conv : Nat → Int, ∀ i, conv i = m + 1 * (i : Int) := ⟨fun i => _, fun _ => rfl⟩
  have main := up_loop x.length (fun i => (m + 1 * (i : Int), filled conv x i)) (fun k s i => laws_markInt64S.l0 k s.2 s.1 i)
    (fun i hi r h2 => by
      obtain ⟨K2, h2⟩ := h2
      refine ⟨K2 + 1, fun k hk => ?_⟩
      obtain ⟨mm, rfl⟩ : ∃ mm, k = mm + 1 := ⟨k - 1, by omega⟩
      have h2 := h2 mm (by omega)
      dsimp only at h2 ⊢
      have hlen : i < (filled conv x i).length := by rw [filled_len _ _ (by omega)]; exact hi
      rw [← filled_set conv x hi, hconv] at h2
      simp (disch := first | omega | (simp only [List.length_set]; omega)) only [laws_markInt64S.l0, ↓if_pos, Option.bind_some, Int.toNat_natCast, wrap64_id]
      rw [show m + 1 * (i : Int) + 1 = m + 1 * ((i + 1 : Nat) : Int) by omega]
      exact h2)
    (m + 1 * (x.length : Int), (List.range x.length).map conv) (Ev.step (f := fun _ => some (m + 1 * (x.length : Int), (List.range x.length).map conv)) (fun k => by
      simp only [laws_markInt64S.l0]
      rw [if_neg (by rw [filled_len _ _ (Nat.le_refl _)]; omega), filled_all _ _ rfl]) (Ev.now _))
  simp only [filled_zero] at main
  refine ⟨m + 1 * (x.length : Int), (List.range x.length).map conv, Ev.congr (fun k => by unfold laws_markInt64S.f; simp) main, by omega, by omega, ?_⟩
  have hrd : ∀ i : Nat, i < x.length → rd ((List.range x.length).map conv) (i : Int) = conv i := fun i hi => by
    rw [rd_getD]
    rw [List.getD_eq_getElem?_getD, Int.toNat_natCast, List.getElem?_map, List.getElem?_range hi]; rfl
  have main2 := up_loop x.length (fun i => m + 1 * (i : Int)) (fun k s i => laws_heldInt64S.l0 k ((List.range x.length).map conv) s i)
    (fun i hi r h2 => by
      obtain ⟨K2, h2⟩ := h2
      refine ⟨K2 + 1, fun k hk => ?_⟩
      obtain ⟨mm, rfl⟩ : ∃ mm, k = mm + 1 := ⟨k - 1, by omega⟩
      have h2 := h2 mm (by omega)
      dsimp only at h2 ⊢
      have hr := hrd i hi
      rw [hconv] at hr
      simp (disch := omega) only [laws_heldInt64S.l0, List.length_map, List.length_range, ↓if_pos, hr, wrap64_id, ↓reduceIte, bne_self_eq_false, Bool.false_eq_true]
      rw [show m + 1 * (i : Int) + 1 = m + 1 * ((i + 1 : Nat) : Int) by omega]
      exact h2)
    (m + 1 * (x.length : Int)) (Ev.step (f := fun _ => some (m + 1 * (x.length : Int))) (fun k => by
      simp only [laws_heldInt64S.l0]
      rw [if_neg (by simp)]) (Ev.now _))
  exact Ev.congr (fun k => by unfold laws_heldInt64S.f; simp) main2

/-! mark_Int64SS -/
theorem mark_Int64SS_loop (x : List (List Int)) (hl : x.length ≤ 1048576) (hx : ∀ j : Nat, j < x.length → (((rd_L3 x (j : Int)).length : Int) ≤ 1048576)) :
    ∀ d i, x.length - i = d → i ≤ x.length → ∀ (xs : List (List Int)) (m : Int), xs.length = x.length → (∀ j : Nat, i ≤ j → j < x.length → (rd_L3 xs (j : Int)) = (rd_L3 x (j : Int))) → 0 ≤ m → m ≤ 4611686018427387904 - (d : Int) * 1048576 →
      ∃ (m' : Int) (x' : List (List Int)), Ev (fun k => laws_markInt64SS.l0 k xs m (i : Int)) (m', x') ∧ m ≤ m' ∧ m' ≤ m + (d : Int) * 1048576 ∧ x'.length = x.length ∧ (∀ j : Nat, j < i → (rd_L3 x' (j : Int)) = (rd_L3 xs (j : Int))) ∧ Ev (fun k => laws_heldInt64SS.l0 k x' m (i : Int)) m' := by
  intro d
  induction d with
  | zero =>
    intro i hd hi xs m hlen hrd h0 h1
    refine ⟨m, xs, Ev.step (f := fun _ => some (m, xs)) (fun k => ?_) (Ev.now _), by omega, by omega, hlen, fun _ _ => rfl, Ev.step (f := fun _ => some m) (fun k => ?_) (Ev.now _)⟩
    · simp (disch := omega) only [laws_markInt64SS.l0, ↓if_neg]
    · simp (disch := omega) only [laws_heldInt64SS.l0, ↓if_neg]
  | succ d ih =>
    intro i hd hi xs m hlen hrd h0 h1
    have hil : i < x.length := by omega
    have hr := hrd i (Nat.le_refl _) hil
    have hb := hx i hil
    rw [← hr] at hb
    have hb0 := hb
    obtain ⟨m0_, z0, ⟨K0, e0⟩, o0, u0, ⟨L0, d0⟩⟩ := mark_Int64S (rd_L3 xs (i : Int)) hb0 (m) (by omega) (by omega)
    obtain ⟨m2, x', ⟨Kn, en⟩, p1, p2, p3, p4, ⟨Kh, eh⟩⟩ := ih (i + 1) (by omega) (by omega) (xs.set i (z0 : List Int)) (m0_) (by rw [List.length_set]; exact hlen) (fun j hj hjl => by
      rw [← hrd j (by omega) hjl]
      unfold rd_L3
      rw [List.getD_eq_getElem?_getD, List.getD_eq_getElem?_getD, Int.toNat_natCast, List.getElem?_set_ne (by omega)]) (by omega) (by omega)
    have hri : rd_L3 x' (i : Int) = (z0 : List Int) := by
      rw [p4 i (by omega)]
      unfold rd_L3
      rw [List.getD_eq_getElem?_getD, Int.toNat_natCast, List.getElem?_set_self (by omega)]
      rfl
    refine ⟨m2, x', ⟨K0 + Kn + 1, fun k hk => ?_⟩, by omega, by omega, p3, fun j hj => ?_, ⟨L0 + Kh + 1, fun k hk => ?_⟩⟩
    · obtain ⟨mm, rfl⟩ : ∃ mm, k = mm + 1 := ⟨k - 1, by omega⟩
      have e0 := e0 mm (by omega)
      have en := en mm (by omega)
      dsimp only at e0 en ⊢
      simp (disch := omega) only [laws_markInt64SS.l0, ↓if_pos, e0, Option.bind_some, Int.toNat_natCast, wrap_next]
      exact en
    · rw [p4 j (by omega)]
      unfold rd_L3
      rw [List.getD_eq_getElem?_getD, List.getD_eq_getElem?_getD, Int.toNat_natCast, List.getElem?_set_ne (by omega)]
    · obtain ⟨mm, rfl⟩ : ∃ mm, k = mm + 1 := ⟨k - 1, by omega⟩
      have d0 := d0 mm (by omega)
      have eh := eh mm (by omega)
      dsimp only at d0 eh ⊢
      simp (disch := omega) only [laws_heldInt64SS.l0, hri, ↓if_pos, ↓reduceIte, d0, Option.bind_some, ↓if_neg, wrap_next, bne_self_eq_false, Bool.false_eq_true, beq_self_eq_true]
      exact eh
theorem mark_Int64SS (x : List (List Int)) (h : ((x.length : Int) ≤ 1048576 ∧ ∀ y ∈ x, ((y.length : Int) ≤ 1048576))) (m : Int) (h0 : 0 ≤ m) (h1 : m ≤ 4611684918915760128) : ∃ (m' : Int) (x' : List (List Int)), Ev (fun k => laws_markInt64SS.f k x m) (m', x') ∧ m ≤ m' ∧ m' ≤ m + 1099511627776 ∧ Ev (fun k => laws_heldInt64SS.f k x' m) m' := by
  obtain ⟨m', x', ev, p1, p2, _, _, e2⟩ := mark_Int64SS_loop x (by omega) (fun j hj => h.2 _ (rdM_L3 x j hj)) x.length 0 (by omega) (by omega) x m rfl (fun _ _ _ => rfl) h0 (by omega)
  exact ⟨m', x', ev, p1, by omega, e2⟩

/-! mark_Cuts -/
theorem mark_Cuts (x : S44) (h : UpI_Cuts 1048576 x) (m : Int) (h0 : 0 ≤ m) (h1 : m ≤ 4611684918915760128) : ∃ (m' : Int) (z0 : List (List Int)), Ev (fun k => laws_markCuts.f k x.f0 m) (m', z0) ∧ m ≤ m' ∧ m' ≤ m + 1099511627776 ∧ Ev (fun k => laws_heldCuts.f k z0 m) m' := by
  unfold UpI_Cuts at h
  have i0 := h
  obtain ⟨m0, z0, ⟨K0, e0⟩, l0, u0, ⟨L0, d0⟩⟩ := mark_Int64SS x.f0 i0 m (by omega) (by omega)
  refine ⟨m0, z0, ⟨K0, fun k hk => ?_⟩, by omega, by omega, ⟨L0, fun k hk => ?_⟩⟩
  · have e0 := e0 k (by omega); dsimp only at e0 ⊢; unfold laws_markCuts.f; rw [e0]; simp only [Option.bind_some]
  · have d0 := d0 k (by omega); dsimp only at d0 ⊢; unfold laws_heldCuts.f; rw [d0]; simp only [Option.bind_some]; rw [if_neg (by omega)]

/-! rdset_T63 -/
theorem rdset_T63 (l : List S63) (i : Nat) (h : i < l.length) (v : S63) : rd_T63 (l.set i v) (i : Int) = v := by
  unfold rd_T63
  rw [List.getD_eq_getElem?_getD, Int.toNat_natCast, List.getElem?_set_self h]; rfl

/-! mtext_ev -/
theorem mtext_loop : ∀ n : Nat, ∀ z : Int, 0 ≤ z → z < 10 ^ n → z ≤ 9223372036854775807 → ∀ s : ByteArray, s.size + n ≤ 1000000 → ∃ t, Ev (fun k => laws_markText.l0 k z s) t := by
  intro n
  induction n with
  | zero =>
    intro z h0 h1 big s hs
    have : z = 0 := by simp at h1; omega
    subst this
    exact ⟨_, Ev.step (f := fun _ => some ((⟨#[109]⟩ : ByteArray) ++ s)) (fun k => by simp (disch := omega) only [laws_markText.l0, ↓if_neg, ↓if_pos]) (Ev.now _)⟩
  | succ n ih =>
    intro z h0 h1 big s hs
    by_cases c : z > 0
    · have e1 : Int.tdiv z 10 = z / 10 := Int.tdiv_eq_ediv_of_nonneg (by omega)
      · have hsz : ∀ v : Int, (strOfNums [v]).size = 1 := fun v => rfl
        obtain ⟨t, h⟩ := ih (z / 10) (by omega) (by rw [Int.pow_succ] at h1; omega) (by omega) (strOfNums [(wrap64 (48 + (Int.tmod z 10))) % 256] ++ s) (by rw [ByteArray.size_append, hsz]; omega)
        refine ⟨t, Ev.step (fun k => ?_) h⟩
        have hle : (strOfNums [(wrap64 (48 + (Int.tmod z 10))) % 256]).size + s.size ≤ 9223372036854775807 := by rw [hsz]; omega
        simp only [laws_markText.l0]
        rw [if_pos c]
        simp only [Option.bind_some]
        rw [if_pos hle, e1, wrap64_id (by omega) (by omega)]
    · have : z = 0 := by omega
      subst this
      exact ⟨_, Ev.step (f := fun _ => some ((⟨#[109]⟩ : ByteArray) ++ s)) (fun k => by simp (disch := omega) only [laws_markText.l0, ↓if_neg, ↓if_pos]) (Ev.now _)⟩
theorem mtext_ev : ∀ z : Int, ∃ t : ByteArray, (0 ≤ z → z ≤ 4611686018427387904 → Ev (fun k => laws_markText.f k z) t) := by
  intro z
  by_cases c : 0 ≤ z ∧ z ≤ 4611686018427387904
  · by_cases c0 : z ≤ 0
    · exact ⟨_, fun _ _ => Ev.congr (fun k => by unfold laws_markText.f; rw [if_pos c0]) (Ev.now _)⟩
    · obtain ⟨t, h⟩ := mtext_loop 19 z c.1 (by rw [show (10 : Int) ^ 19 = 10000000000000000000 from by decide]; omega) (by omega) ⟨#[]⟩ (by decide)
      exact ⟨t, fun _ _ => Ev.congr (fun k => by unfold laws_markText.f; rw [if_neg c0]) h⟩
  · exact ⟨ByteArray.empty, fun h0 h1 => absurd ⟨h0, h1⟩ c⟩

/-! mark_DeclS -/
theorem mark_DeclS (x : List S63) (h : ((x.length : Int) ≤ 1048576 ∧ ∀ y ∈ x, UpI_Decl 1048576 y)) (m : Int) (h0 : 0 ≤ m) (h1 : m ≤ 4611686018425290752) : ∃ (m' : Int) (x' : List S63), Ev (fun k => laws_markDeclS.f k x m) (m', x') ∧ m ≤ m' ∧ m' ≤ m + 2097152 := by
  have hl : (x.length : Int) ≤ 1048576 := h.1
  obtain ⟨T, hT⟩ := Classical.axiomOfChoice mtext_ev
  obtain ⟨conv, hconv⟩ : ∃ conv : Nat → S63, ∀ i, conv i = (⟨T (m + 2 * (i : Int)), m + 2 * (i : Int) + 1⟩ : S63) := ⟨fun i => _, fun _ => rfl⟩
  have main := up_loop x.length (fun i => (m + 2 * (i : Int), filled conv x i)) (fun k s i => laws_markDeclS.l0 k s.2 s.1 i)
    (fun i hi r h2 => by
      obtain ⟨K2, h2⟩ := h2
      obtain ⟨K0_, T0_⟩ := Ev.binds (hT (m + 2 * (i : Int)) (by omega) (by omega))
      refine ⟨K0_ + K2 + 1, fun k hk => ?_⟩
      obtain ⟨mm, rfl⟩ : ∃ mm, k = mm + 1 := ⟨k - 1, by omega⟩
      have h2 := h2 mm (by omega)
      dsimp only at h2 ⊢
      have hlen : i < (filled conv x i).length := by rw [filled_len _ _ (by omega)]; exact hi
      rw [← filled_set conv x hi, hconv] at h2
      simp (disch := first | omega | (simp only [List.length_set]; omega)) only [laws_markDeclS.l0, ↓if_pos, Option.bind_some, Int.toNat_natCast, rdset_T63, List.set_set, ↓T0_, wrap64_id]
      rw [show m + 2 * (i : Int) + 1 + 1 = m + 2 * ((i + 1 : Nat) : Int) by omega]
      exact h2)
    (m + 2 * (x.length : Int), (List.range x.length).map conv) (Ev.step (f := fun _ => some (m + 2 * (x.length : Int), (List.range x.length).map conv)) (fun k => by
      simp only [laws_markDeclS.l0]
      rw [if_neg (by rw [filled_len _ _ (Nat.le_refl _)]; omega), filled_all _ _ rfl]) (Ev.now _))
  simp only [filled_zero] at main
  refine ⟨m + 2 * (x.length : Int), (List.range x.length).map conv, Ev.congr (fun k => by unfold laws_markDeclS.f; simp) main, by omega, by omega⟩

/-! WfI_Decl -/
def WfI_Decl (x : S63) : Prop := True ∧ (-9223372036854775808 ≤ x.f1 ∧ x.f1 ≤ 9223372036854775807)

/-! wf_Decl -/
theorem wf_Decl (x : S85) (h : x.f0.size ≤ maxLen ∧ (Lit.int .i64 x.f1).wf = true) : WfI_Decl (cv_Decl x) := by
  obtain ⟨j0, j1⟩ := h
  exact ⟨trivial, (wf_i64 j1)⟩

/-! WfI_Cuts -/
def WfI_Cuts (x : S44) : Prop := (∀ y ∈ x.f0, (∀ z ∈ y, (-9223372036854775808 ≤ z ∧ z ≤ 9223372036854775807)))

/-! wf_Cuts -/
theorem wf_Cuts (x : S41) (h : (x.f0.length ≤ 9223372036854775807 ∧ ∀ y0 ∈ x.f0, (y0.length ≤ 9223372036854775807 ∧ ∀ y1 ∈ y0, (Lit.int .i64 y1).wf = true))) : WfI_Cuts (cv_Cuts x) := by
  have j0 := h
  exact (fun a1_ ha1_ => (fun a2_ ha2_ => (wf_i64 ((j0.2 a1_ ha1_).2 a2_ ha2_))))

/-! implInside -/
theorem inside_eq (a b c : Int) : impl_inside.f a b c = some (decide (b ≤ a ∧ a ≤ c)) := by
  unfold impl_inside.f
  by_cases h1 : b ≤ a
  · rw [if_pos h1]; simp [h1]
  · rw [if_neg h1]; simp [h1]

/-! specIn -/
theorem l1In_eq (a b c : Int) : spec_l1In.f a b c = some (decide (b ≤ a ∧ a ≤ c)) := by
  unfold spec_l1In.f
  by_cases h1 : b ≤ a
  · rw [if_pos h1]; simp [h1]
  · rw [if_neg h1]; simp [h1]

/-! memD -/
theorem rdD (l : List S63) (i : Nat) (h : i < l.length) : rd_T63 l (i : Int) = l[i] := by
  unfold rd_T63
  rw [List.getD_eq_getElem?_getD, Int.toNat_natCast, List.getElem?_eq_getElem h]; rfl
theorem rdD_mem (l : List S63) (i : Nat) (h : i < l.length) : rd_T63 l (i : Int) ∈ l := by rw [rdD l i h]; exact List.getElem_mem h

/-! names -/
theorem names_agree (s : ByteArray) (hs : s.size ≤ 1048576) : ∃ b, Ev (fun k => spec_l1Name.f k s) b ∧ Ev (fun k => impl_nameOk.f k s) b := by
  have digit : ∀ c, spec_l1Digit.f c = some (decide (48 ≤ c ∧ c ≤ 57)) := fun c => by
    unfold spec_l1Digit.f
    by_cases h : 48 ≤ c
    · rw [if_pos h]; simp [h]
    · rw [if_neg h]; simp [h]
  have main : ∀ d i, s.size - i = d → i ≤ s.size → ∃ b, Ev (fun k => spec_l1Name.l0 k s (i : Int)) b ∧ Ev (fun k => impl_nameOk.l0 k s (i : Int)) b := by
    intro d
    induction d with
    | zero =>
      intro i hd hi
      refine ⟨true, Ev.step (f := fun _ => some true) (fun k => ?_) (Ev.now _), Ev.step (f := fun _ => some true) (fun k => ?_) (Ev.now _)⟩
      · simp only [spec_l1Name.l0]; rw [if_neg (by omega)]
      · simp only [impl_nameOk.l0]; rw [if_neg (by omega)]
    | succ d ih =>
      intro i hd hi
      obtain ⟨b, h1, h2⟩ := ih (i + 1) (by omega) (by omega)
      have hw : True → wrap64 ((i : Int) + 1) = ((i + 1 : Nat) : Int) := fun _ => wrap_succ' i (by omega)
      have p1 : (i : Int) < (s.size : Int) := by omega
      have p2 : (0 : Int) ≤ (i : Int) := by omega
      by_cases cd : 48 ≤ bt s (i : Int) ∧ bt s (i : Int) ≤ 57
      · refine ⟨b, Ev.step (fun k => ?_) h1, Ev.step (fun k => ?_) h2⟩
        · simp only [spec_l1Name.l0]
          rw [hw trivial, if_pos p1, if_pos p2, digit, decide_eq_true cd]
          simp only [Option.bind_some, if_true]
        · simp only [impl_nameOk.l0]
          rw [hw trivial, if_pos p1, if_pos p2, if_pos (by omega), if_neg (by omega), if_neg (by omega)]
      · by_cases ca : bt s (i : Int) < 97
        · refine ⟨false, Ev.step (f := fun _ => some false) (fun k => ?_) (Ev.now _), Ev.step (f := fun _ => some false) (fun k => ?_) (Ev.now _)⟩
          · simp only [spec_l1Name.l0]
            rw [if_pos p1, if_pos p2, digit, decide_eq_false cd]
            simp only [Option.bind_some]
            rw [if_neg (by decide), if_pos ca]
          · simp only [impl_nameOk.l0]
            rw [if_pos p1, if_pos p2, if_pos ca]
            by_cases c48 : bt s (i : Int) < 48
            · rw [if_pos c48]
            · rw [if_neg c48, if_pos (by omega)]
        · by_cases cz : bt s (i : Int) > 122
          · refine ⟨false, Ev.step (f := fun _ => some false) (fun k => ?_) (Ev.now _), Ev.step (f := fun _ => some false) (fun k => ?_) (Ev.now _)⟩
            · simp only [spec_l1Name.l0]
              rw [if_pos p1, if_pos p2, digit, decide_eq_false cd]
              simp only [Option.bind_some]
              rw [if_neg (by decide), if_neg ca, if_pos cz]
            · simp only [impl_nameOk.l0]
              rw [if_pos p1, if_pos p2, if_neg ca, if_pos cz, if_neg (by omega), if_pos (by omega)]
          · refine ⟨b, Ev.step (fun k => ?_) h1, Ev.step (fun k => ?_) h2⟩
            · simp only [spec_l1Name.l0]
              rw [hw trivial, if_pos p1, if_pos p2, digit, decide_eq_false cd]
              simp only [Option.bind_some]
              rw [if_neg (by decide), if_neg ca, if_neg cz]
            · simp only [impl_nameOk.l0]
              rw [hw trivial, if_pos p1, if_pos p2, if_neg ca, if_neg cz]
  have yes1 : Ev (fun k => spec_l1Name.j0 k s true) false := Ev.step (f := fun _ => some false) (fun k => by simp only [spec_l1Name.j0, if_true]) (Ev.now _)
  have yes2 : Ev (fun k => impl_nameOk.j0 k s true) false := Ev.step (f := fun _ => some false) (fun k => by simp only [impl_nameOk.j0, if_true]) (Ev.now _)
  by_cases c1 : (s.size : Int) < 1
  · exact ⟨false, Ev.congr (fun k => by unfold spec_l1Name.f; rw [if_pos c1]) yes1, Ev.congr (fun k => by unfold impl_nameOk.f; rw [if_pos c1]) yes2⟩
  · by_cases c2 : (s.size : Int) > 12
    · exact ⟨false, Ev.congr (fun k => by unfold spec_l1Name.f; rw [if_neg c1, if_pos c2]) yes1, Ev.congr (fun k => by unfold impl_nameOk.f; rw [if_neg c1, if_pos c2]) yes2⟩
    · obtain ⟨b, h1, h2⟩ := main s.size 0 (by omega) (by omega)
      have p0 : (0 : Int) < (s.size : Int) := by omega
      have go1 : ∀ z, z = false → Ev (fun k => spec_l1Name.j0 k s z) b := fun z hz => Ev.step (fun k => by subst hz; simp only [spec_l1Name.j0]; rw [if_neg (by decide)]; rfl) h1
      have go2 : ∀ z, z = false → Ev (fun k => impl_nameOk.j0 k s z) b := fun z hz => Ev.step (fun k => by subst hz; simp only [impl_nameOk.j0]; rw [if_neg (by decide)]; rfl) h2
      by_cases cd : 48 ≤ bt s 0 ∧ bt s 0 ≤ 57
      · refine ⟨false, Ev.congr (fun k => ?_) yes1, Ev.congr (fun k => ?_) yes2⟩
        · unfold spec_l1Name.f; rw [if_neg c1, if_neg c2, if_pos p0, digit, decide_eq_true cd]; rfl
        · unfold impl_nameOk.f; rw [if_neg c1, if_neg c2, if_pos p0, if_pos (by omega)]
      · have e1 : ∀ k, spec_l1Name.f k s = spec_l1Name.j0 k s false := fun k => by unfold spec_l1Name.f; rw [if_neg c1, if_neg c2, if_pos p0, digit, decide_eq_false cd]; rfl
        by_cases ca : bt s 0 < 97
        · -- the loop's first round says no
          obtain ⟨d, hd⟩ : ∃ d, d = s.size := ⟨_, rfl⟩
          refine ⟨false, Ev.congr e1 (Ev.step (fun k => by simp only [spec_l1Name.j0]; rw [if_neg (by decide)]) (Ev.step (g := fun k => spec_l1Name.l0 k s 0) (f := fun _ => some false) (fun k => ?_) (Ev.now _))), Ev.congr (fun k => ?_) yes2⟩
          · simp only [spec_l1Name.l0]
            rw [if_pos p0, if_pos (by decide), digit, decide_eq_false cd]
            simp only [Option.bind_some]
            rw [if_neg (by decide), if_pos ca]
          · unfold impl_nameOk.f; rw [if_neg c1, if_neg c2, if_pos p0, if_pos ca]
        · by_cases cz : bt s 0 > 122
          · refine ⟨false, Ev.congr e1 (Ev.step (fun k => by simp only [spec_l1Name.j0]; rw [if_neg (by decide)]) (Ev.step (g := fun k => spec_l1Name.l0 k s 0) (f := fun _ => some false) (fun k => ?_) (Ev.now _))), Ev.congr (fun k => ?_) yes2⟩
            · simp only [spec_l1Name.l0]
              rw [if_pos p0, if_pos (by decide), digit, decide_eq_false cd]
              simp only [Option.bind_some]
              rw [if_neg (by decide), if_neg ca, if_pos cz]
            · unfold impl_nameOk.f; rw [if_neg c1, if_neg c2, if_pos p0, if_neg ca, decide_eq_true cz]
          · refine ⟨b, Ev.congr e1 (go1 _ rfl), Ev.congr (fun k => ?_) (go2 _ (decide_eq_false cz))⟩
            unfold impl_nameOk.f; rw [if_neg c1, if_neg c2, if_pos p0, if_neg ca]

/-! idxD -/
theorem idxD_none (nm : ByteArray) : ∀ (l : List S63) (i : Int), (∀ x ∈ l, x.f0.toList ≠ nm.toList) → idxD nm l i = -1
  | [], i, _ => rfl
  | x :: xs, i, h => by
    simp only [idxD]
    rw [if_neg (by have := h x (by simp); simpa using this)]
    exact idxD_none nm xs (i + 1) fun y hy => h y (by simp [hy])
theorem idxD_some (nm : ByteArray) : ∀ (l : List S63) (i : Int), 0 ≤ i → (∃ x ∈ l, x.f0.toList = nm.toList) → 0 ≤ idxD nm l i
  | [], i, _, h => by obtain ⟨x, hx, _⟩ := h; cases hx
  | x :: xs, i, hi, h => by
    simp only [idxD]
    by_cases c : (x.f0.toList == nm.toList) = true
    · rw [if_pos c]; exact hi
    · rw [if_neg c]
      obtain ⟨y, hy, he⟩ := h
      rcases List.mem_cons.1 hy with rfl | hy
      · exact absurd (by simpa using he) c
      · exact idxD_some nm xs (i + 1) (by omega) ⟨y, hy, he⟩

/-! declsOk -/
def sumD : List S63 → Int
  | [] => 0
  | x :: xs => x.f1 + sumD xs
/-- What right decls are good for. -/
structure GoodDecls (l : List S63) : Prop where
  len : l.length ≤ 60
  width : ∀ x ∈ l, 1 ≤ x.f1 ∧ x.f1 ≤ 4096
  total : sumD l ≤ 20000
theorem decls_loops (l : List S63) (hl : l.length ≤ 60) (hx : ∀ x ∈ l, x.f0.size ≤ 1048576) :
    ∀ d i, l.length - i = d → i ≤ l.length → ∀ s : Int, 0 ≤ s → s ≤ 4096 * i → ∃ b, Ev (fun k => spec_DeclsOk.l0 k l s (i : Int)) b ∧ Ev (fun k => impl_DeclsOk.l0 k l s l (l.length : Int) (i : Int)) b ∧
      (b = true → (∀ x ∈ l.drop i, 1 ≤ x.f1 ∧ x.f1 ≤ 4096) ∧ s + sumD (l.drop i) ≤ 20000) := by
  intro d
  induction d with
  | zero =>
    intro i hd hi s g0 g1
    refine ⟨decide (s ≤ 20000), Ev.step (f := fun _ => some (decide (s ≤ 20000))) (fun k => ?_) (Ev.now _), Ev.step (f := fun _ => some (decide (s ≤ 20000))) (fun k => ?_) (Ev.now _), fun hb => ?_⟩
    · simp only [spec_DeclsOk.l0]; rw [if_neg (by omega)]
    · simp only [impl_DeclsOk.l0]; rw [if_neg (by omega)]
    · have e : l.drop i = [] := List.drop_eq_nil_of_le (by omega)
      rw [e]
      refine ⟨(fun x hx => by cases hx), ?_⟩
      have := of_decide_eq_true hb
      show s + 0 ≤ 20000
      omega
  | succ d ih =>
    intro i hd hi s g0 g1
    have hil : i < l.length := by omega
    obtain ⟨x, hxx⟩ : ∃ x, x = rd_T63 l (i : Int) := ⟨_, rfl⟩
    have hxm : x ∈ l := by rw [hxx]; exact rdD_mem l i hil
    have hdrop : l.drop i = x :: l.drop (i + 1) := by rw [List.drop_eq_getElem_cons hil, hxx, rdD l i hil]
    obtain ⟨bn, ⟨K1, h1⟩, ⟨K2, h2⟩⟩ := names_agree x.f0 (hx x hxm)
    have q1 : (i : Int) < (l.length : Int) := by omega
    have q2 : (0 : Int) ≤ (i : Int) := by omega
    have q3 : (i : Int) ≤ (l.length : Int) := by omega
    have no : ∀ (P : Prop), ((false : Bool) = true → P) := fun P h => by cases h
    have specNo : ∀ m, spec_DeclsOk.j1 (m + 1) l s (i : Int) true = some false := fun m => by simp only [spec_DeclsOk.j1, if_true]
    cases bn with
    | false =>
      refine ⟨false, ⟨K1 + 2, fun k hk => ?_⟩, ⟨K2 + 1, fun k hk => ?_⟩, no _⟩
      · obtain ⟨m, rfl⟩ : ∃ m, k = m + 1 + 1 := ⟨k - 2, by omega⟩
        have h1 := h1 (m + 1) (by omega)
        dsimp only at h1 ⊢
        simp only [spec_DeclsOk.l0]
        rw [← hxx, if_pos q1, if_pos q2, h1]
        simp only [Option.bind_some]
        rw [if_neg (by decide)]
        exact specNo m
      · obtain ⟨m, rfl⟩ : ∃ m, k = m + 1 := ⟨k - 1, by omega⟩
        have h2 := h2 m (by omega)
        dsimp only at h2 ⊢
        simp only [impl_DeclsOk.l0]
        rw [← hxx, if_pos q1, if_pos q2, if_pos q1, h2]
        simp only [Option.bind_some]
        rw [if_neg (by decide)]
    | true =>
      by_cases cw : 1 ≤ x.f1 ∧ x.f1 ≤ 4096
      · by_cases cd : ∃ y ∈ l.take i, y.f0.toList = x.f0.toList
        · have hidx := idxD_some x.f0 (l.take i) 0 (by decide) cd
          -- the reference's inner loop finds it
          have inner : Ev (fun k => spec_DeclsOk.l1 k l s (i : Int) 0) false := by
            obtain ⟨y, hy, he⟩ := cd
            obtain ⟨j0, hj0, hyj⟩ := List.getElem_of_mem hy
            rw [List.length_take] at hj0
            rw [List.getElem_take] at hyj
            have heq : (rd_T63 l (j0 : Int)).f0.toList = x.f0.toList := by rw [rdD l j0 (by omega), hyj]; exact he
            have go : ∀ d j, j0 - j = d → j ≤ j0 → Ev (fun k => spec_DeclsOk.l1 k l s (i : Int) (j : Int)) false := by
              intro d
              induction d with
              | zero =>
                intro j hd hj
                have e : j = j0 := by omega
                subst e
                refine Ev.step (f := fun _ => some false) (fun k => ?_) (Ev.now _)
                simp only [spec_DeclsOk.l1]
                rw [← hxx, if_pos (by omega), if_pos (by omega), if_pos (by omega), if_pos q2, if_pos q1, if_pos heq]
              | succ d ih2 =>
                intro j hd hj
                by_cases e : (rd_T63 l (j : Int)).f0.toList = x.f0.toList
                · refine Ev.step (f := fun _ => some false) (fun k => ?_) (Ev.now _)
                  simp only [spec_DeclsOk.l1]
                  rw [← hxx, if_pos (by omega), if_pos (by omega), if_pos (by omega), if_pos q2, if_pos q1, if_pos e]
                · refine Ev.step (fun k => ?_) (ih2 (j + 1) (by omega) (by omega))
                  simp only [spec_DeclsOk.l1]
                  rw [← hxx, if_pos (by omega), if_pos (by omega), if_pos (by omega), if_pos q2, if_pos q1, if_neg e, wrap_succ' j (by omega)]
            exact go j0 0 (by omega) (by omega)
          obtain ⟨K3, h3⟩ := inner
          refine ⟨false, ⟨K1 + K3 + 2, fun k hk => ?_⟩, ⟨K2 + 1, fun k hk => ?_⟩, no _⟩
          · obtain ⟨m, rfl⟩ : ∃ m, k = m + 1 + 1 := ⟨k - 2, by omega⟩
            have h1 := h1 (m + 1) (by omega)
            have h3 := h3 m (by omega)
            dsimp only at h1 h3 ⊢
            simp only [spec_DeclsOk.l0]
            rw [← hxx, if_pos q1, if_pos q2, h1]
            simp only [Option.bind_some, if_true]
            rw [l1In_eq, decide_eq_true cw]
            simp only [Option.bind_some, Bool.not_true, spec_DeclsOk.j1]
            rw [if_neg (by decide)]
            exact h3
          · obtain ⟨m, rfl⟩ : ∃ m, k = m + 1 := ⟨k - 1, by omega⟩
            have h2 := h2 m (by omega)
            dsimp only at h2 ⊢
            simp only [impl_DeclsOk.l0, impl_declared.f]
            rw [← hxx, if_pos q1, if_pos q2, if_pos q1, h2]
            simp only [Option.bind_some, if_true]
            rw [inside_eq, decide_eq_true cw]
            simp only [Option.bind_some, if_true]
            rw [if_pos q3, Int.toNat_natCast, if_pos hidx]
        · have hidx := idxD_none x.f0 (l.take i) 0 (fun y hy he => cd ⟨y, hy, he⟩)
          obtain ⟨b, hs, hi2, hb⟩ := ih (i + 1) (by omega) (by omega) (s + x.f1) (by omega) (by omega)
          have hws : True → wrap64 (s + x.f1) = s + x.f1 := fun _ => wrap64_id (by omega) (by omega)
          have hwi : True → wrap64 ((i : Int) + 1) = ((i + 1 : Nat) : Int) := fun _ => wrap_succ' i (by omega)
          have inner : Ev (fun k => spec_DeclsOk.l1 k l s (i : Int) 0) b := by
            refine up_loop i (fun _ => ()) (fun k _ j => spec_DeclsOk.l1 k l s (i : Int) j) (fun j hj r h => Ev.step (fun k => ?_) h) b (Ev.step (fun k => ?_) hs)
            · have hne : ¬ (rd_T63 l (j : Int)).f0.toList = x.f0.toList := fun he => cd ⟨rd_T63 l (j : Int), by rw [rdD l j (by omega)]; exact List.mem_take_iff_getElem.2 ⟨j, by omega, rfl⟩, he⟩
              simp only [spec_DeclsOk.l1]
              rw [← hxx, if_pos (by omega), if_pos (by omega), if_pos (by omega), if_pos q2, if_pos q1, if_neg hne, wrap64_id (by omega) (by omega)]
            · simp only [spec_DeclsOk.l1]
              rw [← hxx, hws trivial, hwi trivial, if_neg (by omega), if_pos q2, if_pos q1]
          obtain ⟨K3, h3⟩ := inner
          obtain ⟨K4, h4⟩ := hi2
          refine ⟨b, ⟨K1 + K3 + 2, fun k hk => ?_⟩, ⟨K2 + K4 + 1, fun k hk => ?_⟩, fun hbt => ?_⟩
          · obtain ⟨m, rfl⟩ : ∃ m, k = m + 1 + 1 := ⟨k - 2, by omega⟩
            have h1 := h1 (m + 1) (by omega)
            have h3 := h3 m (by omega)
            dsimp only at h1 h3 ⊢
            simp only [spec_DeclsOk.l0]
            rw [← hxx, if_pos q1, if_pos q2, h1]
            simp only [Option.bind_some, if_true]
            rw [l1In_eq, decide_eq_true cw]
            simp only [Option.bind_some, Bool.not_true, spec_DeclsOk.j1]
            rw [if_neg (by decide)]
            exact h3
          · obtain ⟨m, rfl⟩ : ∃ m, k = m + 1 := ⟨k - 1, by omega⟩
            have h2 := h2 m (by omega)
            have h4 := h4 m (by omega)
            dsimp only at h2 h4 ⊢
            simp only [impl_DeclsOk.l0, impl_declared.f]
            rw [← hxx, if_pos q1, if_pos q2, if_pos q1, h2]
            simp only [Option.bind_some, if_true]
            rw [inside_eq, decide_eq_true cw]
            simp only [Option.bind_some, if_true]
            rw [if_pos q3, Int.toNat_natCast, hidx, if_neg (by decide), hws trivial, hwi trivial]
            exact h4
          · obtain ⟨t1, t2⟩ := hb hbt
            rw [hdrop]
            refine ⟨fun y hy => ?_, ?_⟩
            · rcases List.mem_cons.1 hy with rfl | hy
              · exact cw
              · exact t1 y hy
            · show s + (x.f1 + sumD (l.drop (i + 1))) ≤ 20000
              omega
      · refine ⟨false, ⟨K1 + 2, fun k hk => ?_⟩, ⟨K2 + 1, fun k hk => ?_⟩, no _⟩
        · obtain ⟨m, rfl⟩ : ∃ m, k = m + 1 + 1 := ⟨k - 2, by omega⟩
          have h1 := h1 (m + 1) (by omega)
          dsimp only at h1 ⊢
          simp only [spec_DeclsOk.l0]
          rw [← hxx, if_pos q1, if_pos q2, h1]
          simp only [Option.bind_some, if_true]
          rw [l1In_eq, decide_eq_false cw]
          simp only [Option.bind_some, Bool.not_false]
          exact specNo m
        · obtain ⟨m, rfl⟩ : ∃ m, k = m + 1 := ⟨k - 1, by omega⟩
          have h2 := h2 m (by omega)
          dsimp only at h2 ⊢
          simp only [impl_DeclsOk.l0]
          rw [← hxx, if_pos q1, if_pos q2, if_pos q1, h2]
          simp only [Option.bind_some, if_true]
          rw [inside_eq, decide_eq_false cw]
          rfl
theorem declsOk_agree (l : List S63) (hx : ∀ x ∈ l, x.f0.size ≤ 1048576) :
    ∃ b, Ev (fun k => spec_DeclsOk.f k l) b ∧ Ev (fun k => impl_DeclsOk.f k l) b ∧ (b = true → GoodDecls l) := by
  by_cases c : (l.length : Int) > 60
  · exact ⟨false, Ev.congr (fun k => by unfold spec_DeclsOk.f; rw [if_pos c]) (Ev.now _), Ev.congr (fun k => by unfold impl_DeclsOk.f; rw [if_pos c]) (Ev.now _), fun h => by cases h⟩
  · obtain ⟨b, h1, h2, h3⟩ := decls_loops l (by omega) hx l.length 0 (by omega) (by omega) 0 (by decide) (by decide)
    refine ⟨b, Ev.congr (fun k => by unfold spec_DeclsOk.f; rw [if_neg c]; rfl) h1, Ev.congr (fun k => by unfold impl_DeclsOk.f; rw [if_neg c]; rfl) h2, fun hb => ?_⟩
    obtain ⟨t1, t2⟩ := h3 hb
    rw [List.drop_zero] at t1 t2
    exact ⟨by omega, t1, by omega⟩

/-! upDecl -/
theorem upDecl {l : List S63} (U : (l.length : Int) ≤ 1048576 ∧ ∀ y ∈ l, UpI_Decl 1048576 y) : ∀ x ∈ l, x.f0.size ≤ 1048576 := fun x hx => by
  have := U.2 x hx
  unfold UpI_Decl at this
  omega

/-! cutsOk -/
/-- Right cuts of one variable of a width. -/
def GoodRow (p : List Int) (w : Int) : Prop := ∀ i : Nat, i < p.length → 1 ≤ rd p (i : Int) ∧ rd p (i : Int) ≤ w - 1 ∧ ∀ j : Nat, j + 1 = i → rd p (j : Int) < rd p (i : Int)
def GoodCuts (l : List S63) (at_ : List (List Int)) : Prop := at_.length = l.length ∧ ∀ v : Nat, v < at_.length → GoodRow (rd_L3 at_ (v : Int)) (rd_T63 l (v : Int)).f1
theorem cuts_row (l : List S63) (at_ : List (List Int)) (v : Nat) (hl : l.length ≤ 1048576) (hv : v < at_.length) (hvl : v < l.length) (hp : (rd_L3 at_ (v : Int)).length ≤ 1048576)
    (hw : 1 ≤ (rd_T63 l (v : Int)).f1 ∧ (rd_T63 l (v : Int)).f1 ≤ 4096) (z : Bool)
    (hs : Ev (fun k => spec_CutsOk.l0 k l ((v : Int) + 1) at_) z) (hi : Ev (fun k => impl_cutsOk.l0 k l at_ (at_.length : Int) ((v : Int) + 1)) z) :
    ∀ d i, (rd_L3 at_ (v : Int)).length - i = d → i ≤ (rd_L3 at_ (v : Int)).length → ∀ bf : Int, 0 ≤ bf → bf ≤ 4096 → (i = 0 → bf = 0) → (∀ j : Nat, j + 1 = i → bf = rd (rd_L3 at_ (v : Int)) (j : Int)) →
    ∃ b, Ev (fun k => spec_CutsOk.l1 k l (v : Int) (i : Int) at_) b ∧ Ev (fun k => impl_cutsOk.l1 k l (v : Int) bf at_ (at_.length : Int) (v : Int) (rd_L3 at_ (v : Int)) ((rd_L3 at_ (v : Int)).length : Int) (i : Int)) b ∧
      (b = true → z = true ∧ ∀ j : Nat, i ≤ j → j < (rd_L3 at_ (v : Int)).length → 1 ≤ rd (rd_L3 at_ (v : Int)) (j : Int) ∧ rd (rd_L3 at_ (v : Int)) (j : Int) ≤ (rd_T63 l (v : Int)).f1 - 1 ∧ ∀ m : Nat, m + 1 = j → rd (rd_L3 at_ (v : Int)) (m : Int) < rd (rd_L3 at_ (v : Int)) (j : Int)) := by
  obtain ⟨p, hpe⟩ : ∃ p, p = rd_L3 at_ (v : Int) := ⟨_, rfl⟩
  obtain ⟨w, hwe⟩ : ∃ w, w = (rd_T63 l (v : Int)).f1 := ⟨_, rfl⟩
  rw [← hwe] at hw ⊢
  rw [← hpe] at hp ⊢
  have no : ∀ (P : Prop), ((false : Bool) = true → P) := fun P h => by cases h
  intro d
  induction d with
  | zero =>
    intro i hd hile bf b0 b1 hb0 hb1
    refine ⟨z, Ev.step (fun k => ?_) hs, Ev.step (fun k => ?_) hi, fun hz => ⟨hz, fun j g1 g2 => absurd g1 (by omega)⟩⟩
    · simp (disch := omega) only [spec_CutsOk.l1, ← hpe, ↓if_pos, ↓if_neg, wrap64_id]
    · simp (disch := omega) only [impl_cutsOk.l1, ↓if_pos, ↓if_neg, wrap64_id]
  | succ d ih =>
    intro i hd hile bf b0 b1 hb0 hb1
    have hil : i < p.length := by omega
    obtain ⟨x, hx⟩ : ∃ x, x = rd p (i : Int) := ⟨_, rfl⟩
    by_cases c : bf + 1 ≤ x ∧ x ≤ w - 1
    · obtain ⟨b, h1, h2, h3⟩ := ih (i + 1) (by omega) (by omega) x (by omega) (by omega) (fun h => absurd h (by omega)) (fun j hj => by
        obtain rfl : j = i := by omega
        exact hx)
      have cs : decide (1 ≤ x ∧ x ≤ w - 1) = true := decide_eq_true (by omega)
      have ci : decide (bf + 1 ≤ x ∧ x ≤ w - 1) = true := decide_eq_true c
      refine ⟨b, ?_, Ev.step (fun k => ?_) h2, fun hb => ⟨(h3 hb).1, fun j g1 g2 => ?_⟩⟩
      · by_cases i0 : i = 0
        · refine Ev.step (fun k => ?_) h1
          simp (disch := omega) only [spec_CutsOk.l1, ← hpe, ← hwe, ← hx, ↓if_pos, ↓if_neg, l1In_eq, wrap_next, wrap64_id, Option.bind_some, cs, ↓reduceIte] <;> rfl
        · obtain ⟨j, rfl⟩ : ∃ j, i = j + 1 := ⟨i - 1, by omega⟩
          have hbj := hb1 j rfl
          refine Ev.step (fun k => ?_) h1
          have e1 : True → wrap64 (((j + 1 : Nat) : Int) - 1) = (j : Int) := fun _ => by rw [wrap64_id (by omega) (by omega)]; omega
          simp (disch := first | omega | trivial) only [spec_CutsOk.l1, ← hpe, ← hwe, ← hx, e1, ← hbj, ↓if_pos, ↓if_neg, l1In_eq, wrap_next, wrap64_id, Option.bind_some, cs, ↓reduceIte] <;> rfl
      · simp (disch := omega) only [impl_cutsOk.l1, ← hpe, ← hwe, ← hx, ↓if_pos, ↓if_neg, inside_eq, wrap_next, wrap64_id, Option.bind_some, ci, ↓reduceIte] <;> rfl
      · by_cases e : j = i
        · subst e
          rw [← hx]
          exact ⟨by omega, by omega, fun m hm => by rw [← hb1 m hm]; omega⟩
        · exact (h3 hb).2 j (by omega) g2
    · have ci : decide (bf + 1 ≤ x ∧ x ≤ w - 1) = false := decide_eq_false c
      refine ⟨false, ?_, Ev.step (f := fun _ => some false) (fun k => ?_) (Ev.now _), no _⟩
      · by_cases c2 : 1 ≤ x ∧ x ≤ w - 1
        · have cs : decide (1 ≤ x ∧ x ≤ w - 1) = true := decide_eq_true c2
          have i0 : i ≠ 0 := fun h => c (by have := hb0 h; omega)
          obtain ⟨j, rfl⟩ : ∃ j, i = j + 1 := ⟨i - 1, by omega⟩
          have hbj := hb1 j rfl
          refine Ev.step (f := fun _ => some false) (fun k => ?_) (Ev.now _)
          have e1 : True → wrap64 (((j + 1 : Nat) : Int) - 1) = (j : Int) := fun _ => by rw [wrap64_id (by omega) (by omega)]; omega
          simp (disch := first | omega | trivial) only [spec_CutsOk.l1, ← hpe, ← hwe, ← hx, e1, ← hbj, ↓if_pos, ↓if_neg, l1In_eq, wrap_next, wrap64_id, Option.bind_some, cs, ↓reduceIte] <;> rfl
        · have cs : decide (1 ≤ x ∧ x ≤ w - 1) = false := decide_eq_false c2
          refine Ev.step (f := fun _ => some false) (fun k => ?_) (Ev.now _)
          simp (disch := omega) only [spec_CutsOk.l1, ← hpe, ← hwe, ← hx, ↓if_pos, ↓if_neg, l1In_eq, wrap_next, wrap64_id, Option.bind_some, cs, ↓reduceIte, Bool.false_eq_true] <;> rfl
      · simp (disch := omega) only [impl_cutsOk.l1, ← hpe, ← hwe, ← hx, ↓if_pos, ↓if_neg, inside_eq, wrap_next, wrap64_id, Option.bind_some, ci, ↓reduceIte, Bool.false_eq_true] <;> rfl
theorem cuts_loops (l : List S63) (at_ : List (List Int)) (hg : GoodDecls l) (hlen : at_.length = l.length) (hp : ∀ y ∈ at_, (y.length : Int) ≤ 1048576) :
    ∀ d v, at_.length - v = d → v ≤ at_.length → ∃ b, Ev (fun k => spec_CutsOk.l0 k l (v : Int) at_) b ∧ Ev (fun k => impl_cutsOk.l0 k l at_ (at_.length : Int) (v : Int)) b ∧
      (b = true → ∀ u : Nat, v ≤ u → u < at_.length → GoodRow (rd_L3 at_ (u : Int)) (rd_T63 l (u : Int)).f1) := by
  have hl := hg.len
  intro d
  induction d with
  | zero =>
    intro v hd hv
    refine ⟨true, Ev.step (f := fun _ => some true) (fun k => ?_) (Ev.now _), Ev.step (f := fun _ => some true) (fun k => ?_) (Ev.now _), fun _ u g1 g2 => absurd g1 (by omega)⟩
    · simp (disch := omega) only [spec_CutsOk.l0, ↓if_neg]
    · simp (disch := omega) only [impl_cutsOk.l0, ↓if_neg]
  | succ d ih =>
    intro v hd hv
    have hvl : v < at_.length := by omega
    obtain ⟨z, h1, h2, h3⟩ := ih (v + 1) (by omega) (by omega)
    have hw := hg.width _ (rdD_mem l v (by omega))
    have hpl := hp _ (rdM_L3 at_ v hvl)
    obtain ⟨b, g1, g2, g3⟩ := cuts_row l at_ v (by omega) hvl (by omega) (by omega) hw z (by simpa using h1) (by simpa using h2) _ 0 rfl (by omega) 0 (by decide) (by decide) (fun _ => rfl) (fun j hj => absurd hj (by omega))
    refine ⟨b, Ev.step (fun k => ?_) g1, Ev.step (fun k => ?_) g2, fun hb u u1 u2 => ?_⟩
    · simp (disch := omega) only [spec_CutsOk.l0, ↓if_pos]; rfl
    · simp (disch := omega) only [impl_cutsOk.l0, ↓if_pos]; rfl
    · by_cases e : u = v
      · subst e
        intro i hi
        exact (g3 hb).2 i (by omega) hi
      · exact h3 (g3 hb).1 u (by omega) u2
theorem cuts_core (l : List S63) (at_ : List (List Int)) (hx : ∀ x ∈ l, x.f0.size ≤ 1048576) (hat : (at_.length : Int) ≤ 1048576) (hp : ∀ y ∈ at_, (y.length : Int) ≤ 1048576) :
    ∃ b, Ev (fun k => spec_CutsOk.f k l at_) b ∧ Ev (fun k => impl_CutsOk.f k l at_) b ∧ (b = true → GoodDecls l ∧ GoodCuts l at_) := by
  have no : ∀ (P : Prop), ((false : Bool) = true → P) := fun P h => by cases h
  obtain ⟨bd, g1, g2, hg⟩ := declsOk_agree l hx
  obtain ⟨K1, h1⟩ := Ev.binds g1
  obtain ⟨K2, h2⟩ := Ev.binds g2
  cases bd with
  | false =>
    refine ⟨false, ⟨K1 + 2, fun k hk => ?_⟩, ⟨K2, fun k hk => ?_⟩, no _⟩
    · obtain ⟨m, rfl⟩ : ∃ m, k = m + 1 := ⟨k - 1, by omega⟩
      simp (disch := omega) only [spec_CutsOk.f, ↓h1, ↓reduceIte, Bool.false_eq_true, spec_CutsOk.j0]
    · simp (disch := omega) only [impl_CutsOk.f, ↓h2, ↓reduceIte, Bool.false_eq_true]
  | true =>
    have hg := hg rfl
    by_cases c : at_.length = l.length
    · obtain ⟨b, e1, e2, e3⟩ := cuts_loops l at_ hg c hp at_.length 0 (by omega) (by omega)
      obtain ⟨K3, h3⟩ := e1
      obtain ⟨K4, h4⟩ := Ev.binds e2
      have cn : ((at_.length : Int) != (l.length : Int)) = false := by rw [c]; exact bne_self_eq_false _
      refine ⟨b, ⟨K1 + K3 + 1, fun k hk => ?_⟩, ⟨K2 + K4, fun k hk => ?_⟩, fun hb => ⟨hg, c, fun v hv => e3 hb v (by omega) hv⟩⟩
      · obtain ⟨m, rfl⟩ : ∃ m, k = m + 1 := ⟨k - 1, by omega⟩
        have h3 := h3 m (by omega)
        simp (disch := omega) only [spec_CutsOk.f, ↓h1, ↓reduceIte, cn, spec_CutsOk.j0, Bool.false_eq_true]
        exact h3
      · have e : impl_cutsOk.f k l at_ = impl_cutsOk.l0 k l at_ (at_.length : Int) ((0 : Nat) : Int) := by unfold impl_cutsOk.f; rw [if_pos (by omega)]; rfl
        simp (disch := omega) only [impl_CutsOk.f, ↓h2, ↓reduceIte]
        rw [e]
        exact h4 k (by omega) _ _
    · have cn : ((at_.length : Int) != (l.length : Int)) = true := bne_iff_ne.2 (by omega)
      refine ⟨false, ⟨K1 + 2, fun k hk => ?_⟩, ⟨K2, fun k hk => ?_⟩, no _⟩
      · obtain ⟨m, rfl⟩ : ∃ m, k = m + 1 := ⟨k - 1, by omega⟩
        simp (disch := omega) only [spec_CutsOk.f, ↓h1, ↓reduceIte, cn, spec_CutsOk.j0]
      · simp (disch := omega) only [impl_CutsOk.f, ↓h2, ↓reduceIte, impl_cutsOk.f, ↓if_neg, Option.bind_some]
theorem cutsOk_agree (l : List S63) (at_ : List (List Int)) (U0 : (l.length : Int) ≤ 1048576 ∧ ∀ y ∈ l, UpI_Decl 1048576 y) (W0 : ∀ y ∈ l, WfI_Decl y) (U1 : UpI_Cuts 1048576 ⟨at_⟩) (W1 : WfI_Cuts ⟨at_⟩) :
    ∃ b, Ev (fun k => spec_CutsOk.f k l at_) b ∧ Ev (fun k => impl_CutsOk.f k l at_) b := by
  obtain ⟨b, h1, h2, _⟩ := cuts_core l at_ (upDecl U0) U1.1 U1.2
  exact ⟨b, h1, h2⟩

/-! goodRow -/
theorem GoodRow.low {p : List Int} {w : Int} (h : GoodRow p w) : ∀ i : Nat, i < p.length → (i : Int) + 1 ≤ rd p (i : Int)
  | 0, hi => by have := (h 0 hi).1; omega
  | i + 1, hi => by
    have h1 := GoodRow.low h i (by omega)
    have h2 := (h (i + 1) hi).2.2 i rfl
    omega
theorem GoodRow.len {p : List Int} {w : Int} (h : GoodRow p w) (hw : 1 ≤ w) : (p.length : Int) ≤ w - 1 := by
  rcases Nat.eq_zero_or_pos p.length with h0 | h0
  · omega
  · have h1 := GoodRow.low h (p.length - 1) (by omega)
    have h2 := (h (p.length - 1) (by omega)).2.1
    omega

/-! compacts -/
theorem lt_ext : ∀ (a b : List Int), a.Pairwise (· < ·) → b.Pairwise (· < ·) → (∀ x, x ∈ a ↔ x ∈ b) → a = b
  | [], [], _, _, _ => rfl
  | [], y :: b, _, _, h => absurd ((h y).2 List.mem_cons_self) List.not_mem_nil
  | x :: a, [], _, _, h => absurd ((h x).1 List.mem_cons_self) List.not_mem_nil
  | x :: a, y :: b, ha, hb, h => by
    obtain ⟨ha1, ha2⟩ := List.pairwise_cons.1 ha
    obtain ⟨hb1, hb2⟩ := List.pairwise_cons.1 hb
    have hxy : x = y := by
      rcases List.mem_cons.1 ((h x).1 List.mem_cons_self) with e | e
      · exact e
      · rcases List.mem_cons.1 ((h y).2 List.mem_cons_self) with e2 | e2
        · exact e2.symm
        · have h1 := hb1 x e
          have h2 := ha1 y e2
          omega
    subst hxy
    rw [lt_ext a b ha2 hb2 fun z => ⟨fun hz => ?_, fun hz => ?_⟩]
    · rcases List.mem_cons.1 ((h z).1 (List.mem_cons_of_mem _ hz)) with e | e
      · have := ha1 z hz; omega
      · exact e
    · rcases List.mem_cons.1 ((h z).2 (List.mem_cons_of_mem _ hz)) with e | e
      · have := hb1 z hz; omega
      · exact e
theorem compact_inc (zs : List Int) (hs : zs.Pairwise (· ≤ ·)) : ∀ m, m ≤ zs.length → (Go.Lib.compactUpTo zs.toArray m).Pairwise (· < ·) ∧ ∀ x, x ∈ Go.Lib.compactUpTo zs.toArray m ↔ x ∈ zs.take m
  | 0, _ => ⟨by simp [Go.Lib.compactUpTo], fun x => by simp [Go.Lib.compactUpTo]⟩
  | m + 1, hm => by
    obtain ⟨h1, h2⟩ := compact_inc zs hs m (by omega)
    have hm2 : m < zs.length := hm
    have hgm : zs.toArray[m]! = zs[m] := by simp [hm2]
    rw [Go.Lib.compactUpTo_succ, hgm]
    have htk : ∀ x, x ∈ zs.take (m + 1) ↔ x ∈ zs.take m ∨ x = zs[m] := fun x => by rw [← List.take_append_getElem hm2, List.mem_append, List.mem_singleton]
    by_cases hk : Go.Lib.keeps zs.toArray m = true
    · rw [if_pos hk]
      refine ⟨List.pairwise_append.2 ⟨h1, by simp, fun x hx y hy => ?_⟩, fun x => by rw [htk, List.mem_append, h2]; simp⟩
      rw [List.mem_singleton.1 hy]
      have hx2 := (h2 x).1 hx
      obtain ⟨i, hi, hxe⟩ := List.mem_iff_getElem.1 hx2
      rw [List.length_take] at hi
      rw [List.getElem_take] at hxe
      have hi2 : i < m := by omega
      have hm0 : 0 < m := by omega
      have hp := List.pairwise_iff_getElem.1 hs
      unfold Go.Lib.keeps at hk
      have hk2 := of_decide_eq_true hk
      have hne : zs[m] ≠ zs[m - 1] := by
        rcases hk2 with h | h
        · omega
        · rw [hgm, show zs.toArray[m - 1]! = zs[m - 1] from by simp [show m - 1 < zs.length from by omega]] at h
          exact h
      have h3 : zs[m - 1] ≤ zs[m] := hp (m - 1) m (by omega) hm2 (by omega)
      have h4 : x ≤ zs[m - 1] := by
        rw [← hxe]
        by_cases e : i = m - 1
        · subst e; exact Int.le_refl _
        · exact hp i (m - 1) (by omega) (by omega) (by omega)
      omega
    · rw [if_neg hk, List.append_nil]
      refine ⟨h1, fun x => by
        rw [htk, h2]
        refine ⟨.inl, fun h => h.elim id fun e => ?_⟩
        unfold Go.Lib.keeps at hk
        have hk2 : ¬ (m = 0 ∨ zs.toArray[m]! ≠ zs.toArray[m - 1]!) := fun h => hk (decide_eq_true h)
        have hm0 : m ≠ 0 := fun h => hk2 (.inl h)
        have he : zs.toArray[m]! = zs.toArray[m - 1]! := Classical.byContradiction fun h => hk2 (.inr h)
        rw [hgm, show zs.toArray[m - 1]! = zs[m - 1] from by simp [show m - 1 < zs.length from by omega]] at he
        rw [e, he]
        exact List.mem_iff_getElem.2 ⟨m - 1, by rw [List.length_take]; omega, by rw [List.getElem_take]⟩⟩
theorem compact_sort (zs : List Int) : (Go.Lib.compact (zs.mergeSort fun x y => decide (x ≤ y))).Pairwise (· < ·) ∧ ∀ x, x ∈ Go.Lib.compact (zs.mergeSort fun x y => decide (x ≤ y)) ↔ x ∈ zs := by
  have hs : (zs.mergeSort fun x y => decide (x ≤ y)).Pairwise (fun a b => a ≤ b) := by
    have := List.pairwise_mergeSort (le := fun x y : Int => decide (x ≤ y)) (fun a b c h1 h2 => by simp at h1 h2 ⊢; omega) (fun a b => by simp; omega) zs
    exact this.imp (fun h => of_decide_eq_true h)
  obtain ⟨h1, h2⟩ := compact_inc _ hs _ (Nat.le_refl _)
  refine ⟨h1, fun x => ?_⟩
  have := h2 x
  rw [List.take_length] at this
  exact this.trans List.mem_mergeSort
/-- The places from 1 to i that are in a list. -/
def placesTo (i : Nat) (ps : List Int) : List Int := ((List.range i).map fun q : Nat => (q : Int) + 1).filter fun p => decide (p ∈ ps)
/-- The places from 1 to w - 1 that are in a list. -/
def places (w : Nat) (ps : List Int) : List Int := placesTo (w - 1) ps
theorem placesTo_succ (i : Nat) (ps : List Int) : placesTo (i + 1) ps = placesTo i ps ++ (if ((i : Int) + 1) ∈ ps then [(i : Int) + 1] else []) := by
  unfold placesTo
  rw [List.range_succ, List.map_append, List.filter_append]
  congr 1
  by_cases h : ((i : Int) + 1) ∈ ps <;> simp [h]
theorem placesTo_len (i : Nat) (ps : List Int) : (placesTo i ps).length ≤ i := by
  unfold placesTo
  refine Nat.le_trans (List.length_filter_le _ _) ?_
  simp
theorem places_eq (w : Nat) (zs : List Int) (h : ∀ x ∈ zs, 1 ≤ x ∧ x ≤ (w : Int) - 1) : Go.Lib.compact (zs.mergeSort fun x y => decide (x ≤ y)) = places w zs := by
  obtain ⟨h1, h2⟩ := compact_sort zs
  refine lt_ext _ _ h1 ?_ fun x => ?_
  · unfold places placesTo
    refine List.Pairwise.filter _ (List.pairwise_map.2 (List.pairwise_lt_range.imp fun h => by omega))
  · rw [h2]
    unfold places placesTo
    rw [List.mem_filter, List.mem_map]
    refine ⟨fun hx => ⟨⟨(x - 1).toNat, List.mem_range.2 (by have := h x hx; omega), by have := h x hx; omega⟩, decide_eq_true hx⟩, fun hx => of_decide_eq_true hx.2⟩

/-! addCuts -/
/-- A row of marks from 0 to w: set at the places of a list. -/
def mk (w : Nat) (ps : List Int) : List Bool := (List.range (w + 1)).map fun q : Nat => decide ((q : Int) ∈ ps)
theorem mk_len (w : Nat) (ps : List Int) : (mk w ps).length = w + 1 := by simp [mk]
theorem mk_nil (w : Nat) : List.replicate (w + 1) false = mk w [] := List.ext_getElem (by simp [mk]) fun j h1 h2 => by simp [mk]
theorem mk_set (w : Nat) (ps : List Int) (x : Int) (h0 : 0 ≤ x) : (mk w ps).set x.toNat true = mk w (ps ++ [x]) := by
  refine List.ext_getElem (by simp [mk]) fun j h1 h2 => ?_
  rw [List.getElem_set]
  simp only [mk, List.getElem_map, List.getElem_range]
  by_cases e : x.toNat = j
  · rw [if_pos e]
    exact (decide_eq_true (List.mem_append_right _ (List.mem_singleton.2 (by omega)))).symm
  · rw [if_neg e]
    exact decide_eq_decide.2 ⟨List.mem_append_left _, fun h => (List.mem_append.1 h).elim id fun h => absurd (List.mem_singleton.1 h) (by omega)⟩
theorem mk_get (w : Nat) (ps : List Int) (q : Nat) (h : q ≤ w) : rdOf false (mk w ps) (q : Int) = decide ((q : Int) ∈ ps) := by
  unfold rdOf mk
  rw [Int.toNat_natCast, List.getD_eq_getElem?_getD, List.getElem?_map, List.getElem?_range (by omega)]
  rfl
theorem takes (p : List Int) (i : Nat) (hi : i < p.length) : p.take i ++ [rd p (i : Int)] = p.take (i + 1) := by
  rw [← List.take_append_getElem hi]
  unfold rd
  simp [hi]
theorem marks_row (l : List S63) (at_ : List (List Int)) (v : Nat) (hv : v < at_.length) (hl : at_.length ≤ 60) (p : List Int) (hp : rd_L3 at_ (v : Int) = p) (w : Nat) (hpl : p.length ≤ 1048576) (hb : ∀ i : Nat, i < p.length → 0 ≤ rd p (i : Int) ∧ rd p (i : Int) < (w : Int) + 1)
    (xs : List (List Bool)) (hx : xs.length ≤ 60) (r : List (List Bool)) (hr : Ev (fun k => spec_l6Marks.l0 k l (xs ++ [mk w p]) ((v + 1 : Nat) : Int) at_) r) : Ev (fun k => spec_l6Marks.l1 k l xs (v : Int) (mk w []) 0 at_) r := by
  refine up_loop p.length (fun i => mk w (p.take i)) (fun k s i => spec_l6Marks.l1 k l xs (v : Int) s i at_) (fun i hi r hr => Ev.step (fun k => ?_) hr) r (Ev.step (fun k => ?_) hr)
  · have hbi := hb i hi
    have e := mk_set w (p.take i) (rd p (i : Int)) hbi.1
    rw [takes p i hi] at e
    have hm := mk_len w (p.take i)
    have hn : (rd p (i : Int)) < (((mk w (p.take i)).length : Nat) : Int) := by omega
    simp (disch := omega) only [spec_l6Marks.l1, hp, ↓if_pos, e, wrap_next]
    rfl
  · simp (disch := omega) only [spec_l6Marks.l1, hp, List.take_length, ↓if_pos, ↓if_neg, wrap_next]
/-- A declaration's width as a natural number. -/
def wd (l : List S63) (u : Nat) : Nat := ((rd_T63 l (u : Int)).f1).toNat
theorem wd_in (l : List S63) (hg : GoodDecls l) (u : Nat) (hu : u < l.length) : (rd_T63 l (u : Int)).f1 = (wd l u : Int) ∧ 1 ≤ wd l u ∧ wd l u ≤ 4096 := by
  have h := hg.width _ (rdD_mem l u hu)
  unfold wd
  omega
theorem good_row (l : List S63) (at_ : List (List Int)) (hg : GoodDecls l) (hc : GoodCuts l at_) (v : Nat) (hv : v < l.length) : (rd_L3 at_ (v : Int)).length ≤ 4096 ∧ ∀ i : Nat, i < (rd_L3 at_ (v : Int)).length → 1 ≤ rd (rd_L3 at_ (v : Int)) (i : Int) ∧ rd (rd_L3 at_ (v : Int)) (i : Int) ≤ (wd l v : Int) - 1 := by
  obtain ⟨h1, h2, h3⟩ := wd_in l hg v hv
  have hr := hc.2 v (by have := hc.1; omega)
  rw [h1] at hr
  have hl := GoodRow.len hr (by omega)
  exact ⟨by omega, fun i hi => ⟨(hr i hi).1, (hr i hi).2.1⟩⟩
theorem marks_ev (l : List S63) (at_ : List (List Int)) (hg : GoodDecls l) (hc : GoodCuts l at_) : Ev (fun k => spec_l6Marks.f k l at_) ((List.range l.length).map fun u => mk (wd l u) (rd_L3 at_ (u : Int))) := by
  have hl := hg.len
  have hlen := hc.1
  refine up_loop l.length (fun v => (List.range v).map fun u => mk (wd l u) (rd_L3 at_ (u : Int))) (fun k s i => spec_l6Marks.l0 k l s i at_) (fun v hv r hr => ?_) _ (Ev.step (f := fun _ => some _) (fun k => ?_) (Ev.now _))
  · obtain ⟨h1, h2, h3⟩ := wd_in l hg v hv
    obtain ⟨g1, g2⟩ := good_row l at_ hg hc v hv
    obtain ⟨xs, hxs⟩ : ∃ xs, xs = (List.range v).map fun u => mk (wd l u) (rd_L3 at_ (u : Int)) := ⟨_, rfl⟩
    have hxl : xs.length = v := by rw [hxs]; simp
    have hr2 := marks_row l at_ v (by omega) (by omega) _ rfl (wd l v) (by omega) (fun i hi => by have := g2 i hi; omega) xs (by omega) r (by
      try dsimp only at hr
      rw [List.range_succ, List.map_append, ← hxs] at hr
      exact hr)
    try dsimp only
    rw [← hxs]
    refine Ev.step (fun k => ?_) hr2
    simp (disch := omega) only [spec_l6Marks.l0, h1, wrap_next, Int.toNat_natCast, mk_nil, ↓if_pos]
  · simp (disch := omega) only [spec_l6Marks.l0, ↓if_neg]
theorem rdset_row (x : List (List Bool)) (v : Nat) (hv : v < x.length) (y : List Bool) : rd_L6 (x.set v y) (v : Int) = y := by
  unfold rd_L6
  simp [hv]
theorem add_row (x : List (List Bool)) (b : List (List Int)) (v : Nat) (hv : v < b.length) (hl : b.length ≤ 60) (hvx : v < x.length) (hxl : x.length ≤ 60) (p : List Int) (hp : rd_L3 b (v : Int) = p) (hpl : p.length ≤ 1048576) (w : Nat) (ps : List Int) (hx : rd_L6 x (v : Int) = mk w ps) (hb : ∀ i : Nat, i < p.length → 0 ≤ rd p (i : Int) ∧ rd p (i : Int) < (w : Int) + 1)
    (r : List (List Int) × Bool) (hr : Ev (fun k => spec_AddCuts.l0 k (x.set v (mk w (ps ++ p))) ((v + 1 : Nat) : Int) b) r) : Ev (fun k => spec_AddCuts.l1 k x (v : Int) 0 b) r := by
  have main := up_loop p.length (fun i => x.set v (mk w (ps ++ p.take i))) (fun k s i => spec_AddCuts.l1 k s (v : Int) i b) (fun i hi r hr => Ev.step (fun k => ?_) hr) r (Ev.step (fun k => ?_) hr)
  · have e : x.set v (mk w (ps ++ p.take 0)) = x := by
      rw [List.take_zero, List.append_nil, ← hx]
      unfold rd_L6
      simp [hvx]
    try dsimp only at main
    rw [e] at main
    exact main
  · have hbi := hb i hi
    have e := mk_set w (ps ++ p.take i) (rd p (i : Int)) hbi.1
    rw [List.append_assoc, takes p i hi] at e
    have hm := mk_len w (ps ++ p.take i)
    have hn : (rd p (i : Int)) < (((mk w (ps ++ p.take i)).length : Nat) : Int) := by omega
    have hs : (x.set v (mk w (ps ++ p.take i))).length = x.length := List.length_set
    simp (disch := omega) only [spec_AddCuts.l1, hp, rdset_row, ↓if_pos, e, wrap_next, Int.toNat_natCast, List.set_set]
    rfl
  · simp (disch := omega) only [spec_AddCuts.l1, hp, List.take_length, ↓if_pos, ↓if_neg, wrap_next]
theorem cutsOf_row (x : List (List Bool)) (v : Nat) (hv : v < x.length) (hxl : x.length ≤ 60) (w : Nat) (ps : List Int) (hx : rd_L6 x (v : Int) = mk w ps) (hw : 1 ≤ w) (hw2 : w ≤ 4096) (o : List (List Int)) (ho : o.length ≤ 60) (r : List (List Int))
    (hr : Ev (fun k => spec_l6Cuts.l0 k x ((v + 1 : Nat) : Int) (o ++ [places w ps])) r) : Ev (fun k => spec_l6Cuts.l1 k x (v : Int) [] 1 o) r := by
  have hm := mk_len w ps
  refine up_loop (w - 1) (fun i => placesTo i ps) (fun k s i => spec_l6Cuts.l1 k x (v : Int) s (i + 1) o) (fun i hi r hr => ?_) r (Ev.step (fun k => ?_) hr)
  · have hgt : rdOf false (mk w ps) ((i : Int) + 1) = decide (((i : Int) + 1) ∈ ps) := mk_get w ps (i + 1) (by omega)
    have hpl := placesTo_len i ps
    have e := placesTo_succ i ps
    try dsimp only at hr ⊢
    by_cases c : ((i : Int) + 1) ∈ ps
    · rw [if_pos c] at e
      rw [decide_eq_true c] at hgt
      rw [e] at hr
      refine Ev.step (fun k => ?_) hr
      simp (disch := omega) only [spec_l6Cuts.l1, hx, hgt, ↓if_pos, ↓reduceIte, wrap64_id]
    · rw [if_neg c, List.append_nil] at e
      rw [decide_eq_false c] at hgt
      rw [e] at hr
      refine Ev.step (fun k => ?_) hr
      simp (disch := omega) only [spec_l6Cuts.l1, hx, hgt, ↓if_pos, ↓reduceIte, wrap64_id, Bool.false_eq_true]
  · simp (disch := omega) only [spec_l6Cuts.l1, hx, ↓if_pos, ↓if_neg, wrap64_id, wrap_next, places]
    rfl
theorem rdmap_row (n : Nat) (F : Nat → List Bool) (v : Nat) (hv : v < n) : rd_L6 ((List.range n).map F) (v : Int) = F v := by
  unfold rd_L6
  rw [Int.toNat_natCast, List.getD_eq_getElem?_getD, List.getElem?_map, List.getElem?_range hv]
  rfl
theorem cutsOf_ev (n : Nat) (hn : n ≤ 60) (W : Nat → Nat) (P : Nat → List Int) (hW : ∀ u, u < n → 1 ≤ W u ∧ W u ≤ 4096) : Ev (fun k => spec_l6Cuts.f k ((List.range n).map fun u => mk (W u) (P u))) ((List.range n).map fun u => places (W u) (P u)) := by
  obtain ⟨x, hx⟩ : ∃ x, x = (List.range n).map fun u => mk (W u) (P u) := ⟨_, rfl⟩
  have hxl : x.length = n := by rw [hx]; simp
  have hxr : ∀ v : Nat, v < n → rd_L6 x (v : Int) = mk (W v) (P v) := fun v hv => by rw [hx, rdmap_row n _ v hv]
  rw [← hx]
  refine up_loop n (fun v => (List.range v).map fun u => places (W u) (P u)) (fun k s i => spec_l6Cuts.l0 k x i s) (fun v hv r hr => ?_) _ (Ev.step (f := fun _ => some _) (fun k => ?_) (Ev.now _))
  · have hw := hW v hv
    obtain ⟨o, ho⟩ : ∃ o, o = (List.range v).map fun u => places (W u) (P u) := ⟨_, rfl⟩
    have hol : o.length = v := by rw [ho]; simp
    have h2 := cutsOf_row x v (by omega) (by omega) (W v) (P v) (hxr v hv) hw.1 hw.2 o (by omega) r (by
      try dsimp only at hr
      rw [List.range_succ, List.map_append, ← ho] at hr
      exact hr)
    try dsimp only
    rw [← ho]
    refine Ev.step (fun k => ?_) h2
    simp (disch := omega) only [spec_l6Cuts.l0, ↓if_pos]
  · simp (disch := omega) only [spec_l6Cuts.l0, ↓if_neg]
theorem add_loops (l : List S63) (a b : List (List Int)) (hg : GoodDecls l) (ha : GoodCuts l a) (hb : GoodCuts l b) (r : List (List Int) × Bool)
    (hr : ∀ x, x = ((List.range l.length).map fun u => mk (wd l u) (rd_L3 a (u : Int) ++ rd_L3 b (u : Int))) → Ev (fun k => spec_AddCuts.l0 k x (l.length : Int) b) r) :
    Ev (fun k => spec_AddCuts.l0 k ((List.range l.length).map fun u => mk (wd l u) (rd_L3 a (u : Int))) 0 b) r := by
  have hl := hg.len
  have hlen := hb.1
  obtain ⟨F, hF⟩ : ∃ F : Nat → Nat → List Bool, F = fun v u => mk (wd l u) (rd_L3 a (u : Int) ++ (if u < v then rd_L3 b (u : Int) else [])) := ⟨_, rfl⟩
  have main := up_loop l.length (fun v => (List.range l.length).map (F v)) (fun k s i => spec_AddCuts.l0 k s i b) (fun v hv r hr => ?_) r (hr _ (by
    rw [hF]
    refine List.map_congr_left fun u hu => ?_
    simp only [if_pos (List.mem_range.1 hu)]))
  · have e : (List.range l.length).map (F 0) = (List.range l.length).map fun u => mk (wd l u) (rd_L3 a (u : Int)) := by
      rw [hF]
      refine List.map_congr_left fun u hu => ?_
      simp only [if_neg (Nat.not_lt_zero u), List.append_nil]
    try dsimp only at main
    rw [e] at main
    exact main
  · obtain ⟨h1, h2, h3⟩ := wd_in l hg v hv
    obtain ⟨g1, g2⟩ := good_row l b hg hb v hv
    obtain ⟨x, hx⟩ : ∃ x, x = (List.range l.length).map (F v) := ⟨_, rfl⟩
    have hxl : x.length = l.length := by rw [hx]; simp
    have hxv : rd_L6 x (v : Int) = mk (wd l v) (rd_L3 a (v : Int)) := by
      rw [hx, rdmap_row _ _ v hv, hF]
      dsimp only
      rw [if_neg (Nat.lt_irrefl v), List.append_nil]
    have e : x.set v (mk (wd l v) (rd_L3 a (v : Int) ++ rd_L3 b (v : Int))) = (List.range l.length).map (F (v + 1)) := by
      refine List.ext_getElem (by simp [hxl]) fun j j1 j2 => ?_
      rw [List.getElem_set]
      simp only [hx, List.getElem_map, List.getElem_range, hF]
      by_cases c : v = j
      · subst c
        rw [if_pos rfl, if_pos (Nat.lt_succ_self v)]
      · rw [if_neg c]
        by_cases c2 : j < v
        · rw [if_pos c2, if_pos (by omega)]
        · rw [if_neg c2, if_neg (by omega)]
    have hr2 := add_row x b v (by omega) (by omega) (by omega) (by omega) _ rfl (by omega) (wd l v) _ hxv (fun i hi => by have := g2 i hi; omega) r (by rw [e]; exact hr)
    try dsimp only
    rw [← hx]
    refine Ev.step (fun k => ?_) hr2
    simp (disch := omega) only [spec_AddCuts.l0, ↓if_pos]
theorem implAdd_ev (a b : List (List Int)) (n : Nat) (hn : n ≤ 60) (ha : a.length = n) (hb : b.length = n) (hpa : ∀ v : Nat, v < n → (rd_L3 a (v : Int)).length ≤ 4096) (hpb : ∀ v : Nat, v < n → (rd_L3 b (v : Int)).length ≤ 4096) :
    Ev (fun k => impl_AddCuts.l0 k a b (List.replicate n []) 0 (n : Int)) ((List.range n).map fun u : Nat => Go.Lib.compact ((rd_L3 a (u : Int) ++ rd_L3 b (u : Int)).mergeSort fun x y => decide (x ≤ y))) := by
  obtain ⟨C, hC⟩ : ∃ C : Nat → List Int, C = fun u : Nat => Go.Lib.compact ((rd_L3 a (u : Int) ++ rd_L3 b (u : Int)).mergeSort fun x y => decide (x ≤ y)) := ⟨_, rfl⟩
  rw [← hC, ← filled_all C (List.replicate n []) (by simp), show List.replicate n ([] : List Int) = filled C (List.replicate n []) 0 from (filled_zero _ _).symm]
  have hf : ∀ i, i ≤ n → (filled C (List.replicate n []) i).length = n := fun i hi => by rw [filled_len _ _ (by simpa using hi)]; simp
  rw [filled_zero]
  refine up_loop n (fun i => filled C (List.replicate n []) i) (fun k s i => impl_AddCuts.l0 k a b s i (n : Int)) (fun v hv r hr => Ev.step (fun k => ?_) hr) _ (Ev.step (f := fun _ => some _) (fun k => ?_) (Ev.now _))
  · have h1 := hpa v hv
    have h2 := hpb v hv
    have hfl := hf v (by omega)
    have hs := filled_set C (List.replicate n []) (i := v) (by simpa using hv)
    have eC : C v = Go.Lib.compact ((impl_AddCuts.g a (v : Int) ++ impl_AddCuts.g b (v : Int)).mergeSort fun x y => decide (x ≤ y)) := by rw [hC]; rfl
    have hgl : (impl_AddCuts.g a (v : Int) ++ impl_AddCuts.g b (v : Int)).length ≤ 10000000 := by
      have e1 : impl_AddCuts.g a (v : Int) = rd_L3 a (v : Int) := rfl
      have e2 : impl_AddCuts.g b (v : Int) = rd_L3 b (v : Int) := rfl
      rw [List.length_append, e1, e2]
      omega
    simp (disch := omega) only [impl_AddCuts.l0, ↓if_pos, wrap_next, Int.toNat_natCast, ← eC, hs]
    rfl
  · simp (disch := omega) only [impl_AddCuts.l0, ↓if_neg]
theorem addCuts_agree (l : List S63) (a b : List (List Int)) (U0 : (l.length : Int) ≤ 1048576 ∧ ∀ y ∈ l, UpI_Decl 1048576 y) (W0 : ∀ y ∈ l, WfI_Decl y) (U1 : UpI_Cuts 1048576 ⟨a⟩) (W1 : WfI_Cuts ⟨a⟩) (U2 : UpI_Cuts 1048576 ⟨b⟩) (W2 : WfI_Cuts ⟨b⟩) :
    ∃ (y0 : List (List Int)) (y1 : Bool), Ev (fun k => spec_AddCuts.f k l a b) (y0, y1) ∧ Ev (fun k => impl_AddCuts.f k l a b) (y0, y1) ∧ UpI_Cuts 1048576 ⟨y0⟩ := by
  have nil : UpI_Cuts 1048576 ⟨[]⟩ := ⟨by simp, fun y hy => absurd hy List.not_mem_nil⟩
  obtain ⟨ba, g1, g2, hga⟩ := cuts_core l a (upDecl U0) U1.1 U1.2
  obtain ⟨K1, h1⟩ := Ev.binds g1
  obtain ⟨K2, h2⟩ := Ev.binds g2
  cases ba with
  | false => exact ⟨[], false, ⟨K1 + 1, fun k hk => by
      obtain ⟨m, rfl⟩ : ∃ m, k = m + 1 := ⟨k - 1, by omega⟩
      simp (disch := omega) only [spec_AddCuts.f, ↓h1, ↓reduceIte, Bool.false_eq_true, spec_AddCuts.j0]⟩, ⟨K2, fun k hk => by simp (disch := omega) only [impl_AddCuts.f, ↓h2, ↓reduceIte, Bool.false_eq_true]⟩, nil⟩
  | true =>
    obtain ⟨hgd, hgc⟩ := hga rfl
    obtain ⟨bb, g3, g4, hgb⟩ := cuts_core l b (upDecl U0) U2.1 U2.2
    obtain ⟨K3, h3⟩ := Ev.binds g3
    have g5 : Ev (fun k => impl_cutsOk.f k l b) bb := by
      obtain ⟨bd, d1, d2, hd⟩ := declsOk_agree l (upDecl U0)
      obtain ⟨K5, h5⟩ := Ev.binds d2
      obtain ⟨K4, h4⟩ := g4
      cases bd with
      | true => exact ⟨K4 + K5, fun k hk => by
          have h4 := h4 k (by omega)
          simp (disch := omega) only [impl_CutsOk.f, ↓h5, ↓reduceIte] at h4
          cases hq : impl_cutsOk.f k l b with
          | none => rw [hq] at h4; cases h4
          | some z => rw [hq] at h4; exact hq.trans h4⟩
      | false =>
        obtain ⟨K6, h6⟩ := g2
        have h6 := h6 (K5 + K6) (by omega)
        simp (disch := omega) only [impl_CutsOk.f, ↓h5, ↓reduceIte, Bool.false_eq_true] at h6
        exact absurd (Option.some.inj h6) (by decide)
    obtain ⟨K4, h4⟩ := Ev.binds g5
    cases bb with
    | false => exact ⟨[], false, ⟨K1 + K3 + 1, fun k hk => by
        obtain ⟨m, rfl⟩ : ∃ m, k = m + 1 := ⟨k - 1, by omega⟩
        simp (disch := omega) only [spec_AddCuts.f, ↓h1, ↓h3, ↓reduceIte, Bool.false_eq_true, Bool.not_false, spec_AddCuts.j0]⟩, ⟨K2 + K4, fun k hk => by simp (disch := omega) only [impl_AddCuts.f, ↓h2, ↓h4, ↓reduceIte, Bool.false_eq_true]⟩, nil⟩
    | true =>
      obtain ⟨_, hgc2⟩ := hgb rfl
      have hl := hgd.len
      obtain ⟨R, hR⟩ : ∃ R : List (List Int), R = (List.range l.length).map fun u => places (wd l u) (rd_L3 a (u : Int) ++ rd_L3 b (u : Int)) := ⟨_, rfl⟩
      have im := implAdd_ev a b l.length hl hgc.1 hgc2.1 (fun v hv => (good_row l a hgd hgc v hv).1) (fun v hv => (good_row l b hgd hgc2 v hv).1)
      have eR : ((List.range l.length).map fun u : Nat => Go.Lib.compact ((rd_L3 a (u : Int) ++ rd_L3 b (u : Int)).mergeSort fun x y => decide (x ≤ y))) = R := by
        rw [hR]
        refine List.map_congr_left fun u hu => ?_
        have hu := List.mem_range.1 hu
        obtain ⟨a1, a2⟩ := good_row l a hgd hgc u hu
        obtain ⟨b1, b2⟩ := good_row l b hgd hgc2 u hu
        refine places_eq _ _ fun x hx => ?_
        rcases List.mem_append.1 hx with h | h
        · obtain ⟨i, hi, rfl⟩ := List.mem_iff_getElem.1 h
          have := a2 i hi
          rwa [show rd (rd_L3 a (u : Int)) (i : Int) = (rd_L3 a (u : Int))[i] from by unfold rd; simp [hi]] at this
        · obtain ⟨i, hi, rfl⟩ := List.mem_iff_getElem.1 h
          have := b2 i hi
          rwa [show rd (rd_L3 b (u : Int)) (i : Int) = (rd_L3 b (u : Int))[i] from by unfold rd; simp [hi]] at this
      rw [eR] at im
      obtain ⟨K5, h5⟩ := Ev.binds im
      obtain ⟨K6, h6⟩ := Ev.binds (marks_ev l a hgd hgc)
      have sp := add_loops l a b hgd hgc hgc2 (R, true) (fun x hx => by
        obtain ⟨K8, h8⟩ := Ev.binds (cutsOf_ev l.length hl (wd l) (fun u => rd_L3 a (u : Int) ++ rd_L3 b (u : Int)) (fun u hu => (wd_in l hgd u hu).2))
        have hlb := hgc2.1
        refine ⟨K8 + 1, fun k hk => ?_⟩
        obtain ⟨m, rfl⟩ : ∃ m, k = m + 1 := ⟨k - 1, by omega⟩
        have h8 := h8 m (by omega)
        rw [← hx, ← hR] at h8
        simp (disch := omega) only [spec_AddCuts.l0, ↓if_neg]
        exact h8 _ _)
      obtain ⟨K7, h7⟩ := sp
      refine ⟨R, true, ⟨K1 + K3 + K6 + K7 + 1, fun k hk => ?_⟩, ⟨K2 + K4 + K5, fun k hk => ?_⟩, ?_⟩
      · obtain ⟨m, rfl⟩ : ∃ m, k = m + 1 := ⟨k - 1, by omega⟩
        have h6 := h6 m (by omega)
        have h7 := h7 m (by omega)
        simp (disch := omega) only [spec_AddCuts.f, ↓h1, ↓h3, ↓reduceIte, Bool.not_true, Bool.false_eq_true, spec_AddCuts.j0]
        rw [h6]
        exact h7
      · simp (disch := omega) only [impl_AddCuts.f, ↓h2, ↓h4, ↓reduceIte, ↓if_pos]
        rw [h5 k (by omega)]
      · refine ⟨by rw [hR]; simp only [List.length_map, List.length_range]; omega, fun y hy => ?_⟩
        rw [hR] at hy
        obtain ⟨u, hu, rfl⟩ := List.mem_map.1 hy
        have h9 := wd_in l hgd u (List.mem_range.1 hu)
        have h10 := placesTo_len (wd l u - 1) (rd_L3 a (u : Int) ++ rd_L3 b (u : Int))
        show ((placesTo (wd l u - 1) (rd_L3 a (u : Int) ++ rd_L3 b (u : Int))).length : Int) ≤ 1048576
        omega
-- SAYS: The program's AddCuts answers as the reference's AddCuts does, for all arguments.
theorem FnExactAddCuts (l0 : List S85) (l1_0 : List (List Int)) (l2_0 : List (List Int)) (q0 : ∀ x ∈ l0, x.f0.size ≤ maxLen ∧ (Lit.int .i64 x.f1).wf = true) (hl0 : l0.length ≤ 9223372036854775807) (q1_0 : ∀ x ∈ l1_0, (x.length ≤ 9223372036854775807 ∧ ∀ y0 ∈ x, (Lit.int .i64 y0).wf = true)) (hl1_0 : l1_0.length ≤ 9223372036854775807) (q2_0 : ∀ x ∈ l2_0, (x.length ≤ 9223372036854775807 ∧ ∀ y0 ∈ x, (Lit.int .i64 y0).wf = true)) (hl2_0 : l2_0.length ≤ 9223372036854775807) : ∃ k, laws_FnExactAddCuts.f k l0 l1_0 l2_0 = some true := by
  obtain ⟨r0, g0, hb0⟩ := sz_DeclS l0 1048576 (⟨Int.ofNat_le.2 (And.intro hl0 q0).1, fun y hy => in_Decl y ((And.intro hl0 q0).2 y hy)⟩) (by omega) (by omega)
  obtain ⟨Ks0, s0⟩ := Ev.binds (g0)
  try dsimp only [cv_Cuts, cv_Cuts] at s0
  rcases hb0 with hneg | ⟨p0, z0, u0⟩
  · have c0 := eq_true hneg
    exact ⟨Ks0 + 1 + 1 + 1 + 1, by simp (disch := omega) only [laws_FnExactAddCuts.f, ↓s0, ↓reduceIte, c0]⟩
  have c0 := eq_false (show ¬ r0 < 0 by omega)
  obtain ⟨r1, g1, hb1⟩ := sz_Cuts (⟨l1_0⟩ : S41) r0 (in_Cuts (⟨l1_0⟩ : S41) (And.intro hl1_0 q1_0)) (by omega) (by omega)
  obtain ⟨Ks1, s1⟩ := Ev.binds (g1)
  try dsimp only [cv_Cuts, cv_Cuts] at s1
  rcases hb1 with hneg | ⟨p1, z1, u1⟩
  · have c1 := eq_true hneg
    exact ⟨Ks0 + Ks1 + 1 + 1 + 1 + 1, by simp (disch := omega) only [laws_FnExactAddCuts.f, ↓s0, ↓s1, ↓reduceIte, c0, c1]⟩
  have c1 := eq_false (show ¬ r1 < 0 by omega)
  obtain ⟨r2, g2, hb2⟩ := sz_Cuts (⟨l2_0⟩ : S41) r1 (in_Cuts (⟨l2_0⟩ : S41) (And.intro hl2_0 q2_0)) (by omega) (by omega)
  obtain ⟨Ks2, s2⟩ := Ev.binds (g2)
  try dsimp only [cv_Cuts, cv_Cuts] at s2
  rcases hb2 with hneg | ⟨p2, z2, u2⟩
  · have c2 := eq_true hneg
    exact ⟨Ks0 + Ks1 + Ks2 + 1 + 1 + 1 + 1, by simp (disch := omega) only [laws_FnExactAddCuts.f, ↓s0, ↓s1, ↓s2, ↓reduceIte, c0, c1, c2]⟩
  have c2 := eq_false (show ¬ r2 < 0 by omega)
  have U0 : (((l0.map cv_Decl).length : Int) ≤ 1048576 ∧ ∀ y ∈ (l0.map cv_Decl), UpI_Decl 1048576 y) := ⟨by simpa using u0.1, fun y hy => by obtain ⟨z, hz, rfl⟩ := List.mem_map.1 hy; exact upcv_Decl _ z (u0.2 z hz)⟩
  have W0 : (∀ y ∈ (l0.map cv_Decl), WfI_Decl y) := (fun y hy => by obtain ⟨z, hz, rfl⟩ := List.mem_map.1 hy; exact wf_Decl z ((And.intro hl0 q0).2 z hz))
  have U1 : UpI_Cuts 1048576 ((cv_Cuts (⟨l1_0⟩ : S41))) := (upcv_Cuts _ _ u1)
  have W1 : WfI_Cuts ((cv_Cuts (⟨l1_0⟩ : S41))) := wf_Cuts (⟨l1_0⟩ : S41) (And.intro hl1_0 q1_0)
  have U2 : UpI_Cuts 1048576 ((cv_Cuts (⟨l2_0⟩ : S41))) := (upcv_Cuts _ _ u2)
  have W2 : WfI_Cuts ((cv_Cuts (⟨l2_0⟩ : S41))) := wf_Cuts (⟨l2_0⟩ : S41) (And.intro hl2_0 q2_0)
  obtain ⟨y0_0, y1, e1, e2, v0⟩ := addCuts_agree ((l0.map cv_Decl)) l1_0 l2_0 U0 W0 U1 W1 U2 W2
  obtain ⟨Kt0, t0⟩ := Ev.binds (to_DeclS l0 u0)
  try dsimp only [cv_Cuts, cv_Cuts] at t0
  obtain ⟨Kt1, t1⟩ := Ev.binds (to_Cuts (⟨l1_0⟩ : S41) u1)
  try dsimp only [cv_Cuts, cv_Cuts] at t1
  obtain ⟨Kt2, t2⟩ := Ev.binds (to_Cuts (⟨l2_0⟩ : S41) u2)
  try dsimp only [cv_Cuts, cv_Cuts] at t2
  obtain ⟨Khs, hs⟩ := Ev.binds (e1)
  obtain ⟨Khi, hi⟩ := Ev.binds (e2)
  obtain ⟨Ke0_, e0_⟩ := Ev.binds (eq_DeclS ((l0.map cv_Decl)) U0)
  try dsimp only [cv_Cuts, cv_Cuts] at e0_
  obtain ⟨Ke1_, e1_⟩ := Ev.binds (eq_Cuts ((cv_Cuts (⟨l1_0⟩ : S41))) U1)
  try dsimp only [cv_Cuts, cv_Cuts] at e1_
  obtain ⟨Ke2_, e2_⟩ := Ev.binds (eq_Cuts ((cv_Cuts (⟨l2_0⟩ : S41))) U2)
  try dsimp only [cv_Cuts, cv_Cuts] at e2_
  obtain ⟨Kf0_, f0_⟩ := Ev.binds (eq_Cuts (⟨y0_0⟩ : S44) v0)
  try dsimp only [cv_Cuts, cv_Cuts] at f0_
  obtain ⟨m0, n0_0, g0_, o0, w0⟩ := mark_DeclS ((l0.map cv_Decl)) U0 1 (by omega) (by omega)
  obtain ⟨Kk0_, k0_⟩ := Ev.binds (g0_)
  try dsimp only [cv_Cuts, cv_Cuts] at k0_
  obtain ⟨m1, n1_0, g1_, o1, w1, _⟩ := mark_Cuts ((cv_Cuts (⟨l1_0⟩ : S41))) U1 m0 (by omega) (by omega)
  obtain ⟨Kk1_, k1_⟩ := Ev.binds (g1_)
  try dsimp only [cv_Cuts, cv_Cuts] at k1_
  obtain ⟨m2, n2_0, g2_, o2, w2, _⟩ := mark_Cuts ((cv_Cuts (⟨l2_0⟩ : S41))) U2 m1 (by omega) (by omega)
  obtain ⟨Kk2_, k2_⟩ := Ev.binds (g2_)
  try dsimp only [cv_Cuts, cv_Cuts] at k2_
  have cm := eq_false (show ¬ m2 < 0 by omega)
  obtain ⟨M0, N0_0, G0_, O0, A0, H0_⟩ := mark_Cuts (⟨y0_0⟩ : S44) v0 1 (by omega) (by omega)
  obtain ⟨Kx0_, x0_⟩ := Ev.binds (G0_)
  try dsimp only [cv_Cuts, cv_Cuts] at x0_
  obtain ⟨Kz0_, z0_⟩ := Ev.binds (H0_)
  try dsimp only [cv_Cuts, cv_Cuts] at z0_
  have cn0 := eq_false (show ¬ M0 < 0 by omega)
  exact ⟨Ks0 + Ks1 + Ks2 + Kt0 + Kt1 + Kt2 + Khs + Khi + Ke0_ + Ke1_ + Ke2_ + Kf0_ + Kk0_ + Kk1_ + Kk2_ + Kx0_ + Kz0_ + 1 + 1 + 1 + 1, by simp (disch := omega) only [laws_FnExactAddCuts.f, ↓s0, ↓s1, ↓s2, ↓t0, ↓t1, ↓t2, ↓hs, ↓hi, ↓e0_, ↓e1_, ↓e2_, ↓f0_, ↓k0_, ↓k1_, ↓k2_, ↓x0_, ↓z0_, ↓reduceIte, c0, c1, c2, cm, cn0, bne_self_eq_false, Bool.false_eq_true, Bool.not_true, Bool.not_false]⟩

end Go.Proofs.Ytonkicgdgpcneaa.Pure
