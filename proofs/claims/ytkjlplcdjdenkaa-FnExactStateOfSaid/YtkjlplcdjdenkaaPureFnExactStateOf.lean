/- The program's StateOf answers as the reference's StateOf does, for all splits. -/
import Derived.Test.YtkjlplcdjdenkaaPFnExactStateOfx4
import Derived.Test.YtkjlplcdjdenkaaBits
import Derived.Test.YtkjlplcdjdenkaaLoops
namespace Go.Proofs.Ytkjlplcdjdenkaa.Pure
open Go Go.RowKit Go.Proofs.Ytkjlplcdjdenkaa.PFnExactStateOf Go.Proofs.YtkjlplcdjdenkaaW.PrintWords Go.Proofs.YtkjlplcdjdenkaaW.PrintLast Go.Proofs.YtkjlplcdjdenkaaW.PrintMore Go.Proofs.Ytkjlplcdjdenkaa.BitsLib Go.Proofs.Ytkjlplcdjdenkaa.Loops
set_option linter.unusedVariables false
set_option linter.unusedSimpArgs false
set_option maxRecDepth 4000

/-! wrap_next -/
theorem wrap_next (i : Nat) (h : i < 4611686018427387904) : wrap64 ((i : Int) + 1) = ((i + 1 : Nat) : Int) := by
  rw [wrap64_id (by omega) (by omega)]; rfl

/-! szn_out -/
theorem szn_out (n : Nat) (left : Int) (hn : (n : Int) ≤ 9223372036854775807) (h0 : 0 ≤ left) (h1 : left ≤ 1048576) :
    ∃ r, (True → wrap64 (left - (n : Int)) = r) ∧ (r < 0 ∨ (0 ≤ r ∧ r ≤ left ∧ (n : Int) ≤ 1048576)) := by
  refine ⟨left - (n : Int), fun _ => wrap64_id (by omega) (by omega), ?_⟩
  by_cases c : left - (n : Int) < 0
  · exact .inl c
  · exact .inr (by omega)

/-! UpL_Bits -/
def UpL_Bits (c : Int) (x : S161) : Prop := ((x.f1.length : Int) ≤ c)

/-! UpL_Bar -/
def UpL_Bar (c : Int) (x : S191) : Prop := UpL_Bits c x.f2

/-! rdE_T191 -/
theorem rdE_T191 (l : List S191) (i : Nat) (h : i < l.length) : rd_T191 l (i : Int) = l[i] := by
  unfold rd_T191
  rw [List.getD_eq_getElem?_getD, Int.toNat_natCast, List.getElem?_eq_getElem h]; rfl
theorem rdM_T191 (l : List S191) (i : Nat) (h : i < l.length) : rd_T191 l (i : Int) ∈ l := by rw [rdE_T191 l i h]; exact List.getElem_mem h

/-! sz_Uint64S -/
theorem sz_Uint64S (x : List Int) (left : Int) (hin : ((x.length : Int) ≤ 9223372036854775807)) (h0 : 0 ≤ left) (h1 : left ≤ 1048576) :
    ∃ r, Ev (fun k => laws_szUint64S.f x left) r ∧ (r < 0 ∨ (0 ≤ r ∧ r ≤ left ∧ ((x.length : Int) ≤ 1048576))) := by
  obtain ⟨r, hr, hb⟩ := szn_out x.length left hin h0 h1
  rcases hb with c | ⟨p0, q0, u0⟩
  · exact ⟨-1, ⟨0, fun k _ => by dsimp only; unfold laws_szUint64S.f; rw [hr trivial, if_pos c]⟩, .inl (by omega)⟩
  · exact ⟨r, ⟨0, fun k _ => by dsimp only; unfold laws_szUint64S.f; rw [hr trivial, if_neg (by omega)]⟩, .inr ⟨p0, q0, u0⟩⟩

/-! sz_Bits -/
theorem sz_Bits (x : S161) (left : Int) (hin : UpL_Bits 9223372036854775807 x) (h0 : 0 ≤ left) (h1 : left ≤ 1048576) :
    ∃ r, Ev (fun k => laws_szBits.f x.f0 x.f1 left) r ∧ (r < 0 ∨ (0 ≤ r ∧ r ≤ left ∧ UpL_Bits 1048576 x)) := by
  unfold UpL_Bits at hin
  have i1 := hin
  obtain ⟨r1, ⟨K1, e1⟩, hb1⟩ := sz_Uint64S x.f1 left i1 (by omega) (by omega)
  rcases hb1 with c1 | ⟨p1, q1, u1⟩
  · exact ⟨-1, ⟨K1, fun k hk => by have e1 := e1 k (by omega); dsimp only at e1 ⊢; unfold laws_szBits.f; rw [e1]; simp only [Option.bind_some]; rw [if_pos c1]⟩, .inl (by omega)⟩
  exact ⟨r1, ⟨K1, fun k hk => by have e1 := e1 k (by omega); dsimp only at e1 ⊢; unfold laws_szBits.f; rw [e1]; simp only [Option.bind_some]; rw [if_neg (by omega)]⟩, .inr ⟨by omega, by omega, u1⟩⟩

/-! sz_Bar -/
theorem sz_Bar (x : S191) (left : Int) (hin : UpL_Bar 9223372036854775807 x) (h0 : 0 ≤ left) (h1 : left ≤ 1048576) :
    ∃ r, Ev (fun k => laws_szBar.f x.f0 x.f1 x.f2.f0 x.f2.f1 left) r ∧ (r < 0 ∨ (0 ≤ r ∧ r ≤ left ∧ UpL_Bar 1048576 x)) := by
  unfold UpL_Bar at hin
  have i2 := hin
  obtain ⟨r2, ⟨K2, e2⟩, hb2⟩ := sz_Bits x.f2 left i2 (by omega) (by omega)
  rcases hb2 with c2 | ⟨p2, q2, u2⟩
  · exact ⟨-1, ⟨K2, fun k hk => by have e2 := e2 k (by omega); dsimp only at e2 ⊢; unfold laws_szBar.f; rw [e2]; simp only [Option.bind_some]; rw [if_pos c2]⟩, .inl (by omega)⟩
  exact ⟨r2, ⟨K2, fun k hk => by have e2 := e2 k (by omega); dsimp only at e2 ⊢; unfold laws_szBar.f; rw [e2]; simp only [Option.bind_some]; rw [if_neg (by omega)]⟩, .inr ⟨by omega, by omega, u2⟩⟩

/-! sz_BarS -/
theorem sz_BarS (x : List S191) (left : Int) (hin : ((x.length : Int) ≤ 9223372036854775807 ∧ ∀ y ∈ x, UpL_Bar 9223372036854775807 y)) (h0 : 0 ≤ left) (h1 : left ≤ 1048576) :
    ∃ r, Ev (fun k => laws_szBarS.f k x left) r ∧ (r < 0 ∨ (0 ≤ r ∧ r ≤ left ∧ ((x.length : Int) ≤ 1048576 ∧ ∀ y ∈ x, UpL_Bar 1048576 y))) := by
  obtain ⟨hl, hx⟩ := hin
  obtain ⟨r0, hr0, hb0⟩ := szn_out x.length left hl h0 h1
  rcases hb0 with c | ⟨p0, q0, u0⟩
  · exact ⟨-1, ⟨0, fun k _ => by dsimp only; unfold laws_szBarS.f; rw [hr0 trivial, if_pos c]⟩, .inl (by omega)⟩
  · have main : ∀ d i, x.length - i = d → i ≤ x.length → ∀ lf, 0 ≤ lf → lf ≤ left → ∃ r, Ev (fun k => laws_szBarS.l0 k x lf (i : Int)) r ∧ (r < 0 ∨ (0 ≤ r ∧ r ≤ lf ∧ ∀ j : Nat, i ≤ j → j < x.length → UpL_Bar 1048576 ((rd_T191 x (j : Int))))) := by
      intro d
      induction d with
      | zero =>
        intro i hd hi lf g0 g1
        exact ⟨lf, Ev.step (f := fun _ => some lf) (fun k => by simp only [laws_szBarS.l0]; rw [if_neg (by omega)]) (Ev.now _), .inr ⟨g0, Int.le_refl _, fun j g2 g3 => absurd g3 (by omega)⟩⟩
      | succ d ih =>
        intro i hd hi lf g0 g1
        have hil : i < x.length := by omega
        obtain ⟨r, ⟨K, hr⟩, hrb⟩ := sz_Bar (rd_T191 x (i : Int)) lf (hx _ (rdM_T191 x i hil)) g0 (by omega)
        rcases hrb with hneg | ⟨p1, p2, p3⟩
        · refine ⟨-1, ⟨K + 1, fun k hk => ?_⟩, .inl (by omega)⟩
          obtain ⟨m, rfl⟩ : ∃ m, k = m + 1 := ⟨k - 1, by omega⟩
          have hr := hr m (by omega)
          dsimp only at hr ⊢
          simp only [laws_szBarS.l0]
          rw [if_pos (by omega), if_pos (by omega), hr]
          simp only [Option.bind_some]
          rw [if_pos hneg]
        · obtain ⟨r2, ⟨K2, h2⟩, hb2⟩ := ih (i + 1) (by omega) (by omega) r p1 (by omega)
          refine ⟨r2, ⟨K + K2 + 1, fun k hk => ?_⟩, ?_⟩
          · obtain ⟨m, rfl⟩ : ∃ m, k = m + 1 := ⟨k - 1, by omega⟩
            have hr := hr m (by omega)
            have h2 := h2 m (by omega)
            dsimp only at hr h2 ⊢
            simp only [laws_szBarS.l0]
            rw [if_pos (by omega), if_pos (by omega), hr]
            simp only [Option.bind_some]
            rw [if_neg (by omega), wrap_next i (by omega)]
            exact h2
          · rcases hb2 with hb2 | ⟨s0, s1, s2⟩
            · exact .inl hb2
            · refine .inr ⟨s0, by omega, fun j g2 g3 => ?_⟩
              by_cases e : j = i
              · rw [e]; exact p3
              · exact s2 j (by omega) g3
    obtain ⟨r, ⟨K, hr⟩, hb⟩ := main x.length 0 (by omega) (by omega) r0 p0 q0
    refine ⟨r, ⟨K, fun k hk => ?_⟩, ?_⟩
    · have hr := hr k hk
      dsimp only at hr ⊢
      unfold laws_szBarS.f
      rw [hr0 trivial, if_neg (by omega)]
      exact hr
    · rcases hb with hb | ⟨s0, s1, s2⟩
      · exact .inl hb
      · refine .inr ⟨s0, by omega, by omega, fun y hy => ?_⟩
        obtain ⟨j, hjl, rfl⟩ := List.getElem_of_mem hy
        have := s2 j (by omega) hjl
        rwa [rdE_T191 x j hjl] at this

/-! UpL_Split -/
def UpL_Split (c : Int) (x : S117) : Prop := ((x.f2.length : Int) ≤ c ∧ ∀ y ∈ x.f2, UpL_Bar c y)

/-! rdE_T117 -/
theorem rdE_T117 (l : List S117) (i : Nat) (h : i < l.length) : rd_T117 l (i : Int) = l[i] := by
  unfold rd_T117
  rw [List.getD_eq_getElem?_getD, Int.toNat_natCast, List.getElem?_eq_getElem h]; rfl
theorem rdM_T117 (l : List S117) (i : Nat) (h : i < l.length) : rd_T117 l (i : Int) ∈ l := by rw [rdE_T117 l i h]; exact List.getElem_mem h

/-! sz_Split -/
theorem sz_Split (x : S117) (left : Int) (hin : UpL_Split 9223372036854775807 x) (h0 : 0 ≤ left) (h1 : left ≤ 1048576) :
    ∃ r, Ev (fun k => laws_szSplit.f k x.f0 x.f1 x.f2 left) r ∧ (r < 0 ∨ (0 ≤ r ∧ r ≤ left ∧ UpL_Split 1048576 x)) := by
  unfold UpL_Split at hin
  have i2 := hin
  obtain ⟨r2, ⟨K2, e2⟩, hb2⟩ := sz_BarS x.f2 left i2 (by omega) (by omega)
  rcases hb2 with c2 | ⟨p2, q2, u2⟩
  · exact ⟨-1, ⟨K2, fun k hk => by have e2 := e2 k (by omega); dsimp only at e2 ⊢; unfold laws_szSplit.f; rw [e2]; simp only [Option.bind_some]; rw [if_pos c2]⟩, .inl (by omega)⟩
  exact ⟨r2, ⟨K2, fun k hk => by have e2 := e2 k (by omega); dsimp only at e2 ⊢; unfold laws_szSplit.f; rw [e2]; simp only [Option.bind_some]; rw [if_neg (by omega)]⟩, .inr ⟨by omega, by omega, u2⟩⟩

/-! sz_SplitS -/
theorem sz_SplitS (x : List S117) (left : Int) (hin : ((x.length : Int) ≤ 9223372036854775807 ∧ ∀ y ∈ x, UpL_Split 9223372036854775807 y)) (h0 : 0 ≤ left) (h1 : left ≤ 1048576) :
    ∃ r, Ev (fun k => laws_szSplitS.f k x left) r ∧ (r < 0 ∨ (0 ≤ r ∧ r ≤ left ∧ ((x.length : Int) ≤ 1048576 ∧ ∀ y ∈ x, UpL_Split 1048576 y))) := by
  obtain ⟨hl, hx⟩ := hin
  obtain ⟨r0, hr0, hb0⟩ := szn_out x.length left hl h0 h1
  rcases hb0 with c | ⟨p0, q0, u0⟩
  · exact ⟨-1, ⟨0, fun k _ => by dsimp only; unfold laws_szSplitS.f; rw [hr0 trivial, if_pos c]⟩, .inl (by omega)⟩
  · have main : ∀ d i, x.length - i = d → i ≤ x.length → ∀ lf, 0 ≤ lf → lf ≤ left → ∃ r, Ev (fun k => laws_szSplitS.l0 k x lf (i : Int)) r ∧ (r < 0 ∨ (0 ≤ r ∧ r ≤ lf ∧ ∀ j : Nat, i ≤ j → j < x.length → UpL_Split 1048576 ((rd_T117 x (j : Int))))) := by
      intro d
      induction d with
      | zero =>
        intro i hd hi lf g0 g1
        exact ⟨lf, Ev.step (f := fun _ => some lf) (fun k => by simp only [laws_szSplitS.l0]; rw [if_neg (by omega)]) (Ev.now _), .inr ⟨g0, Int.le_refl _, fun j g2 g3 => absurd g3 (by omega)⟩⟩
      | succ d ih =>
        intro i hd hi lf g0 g1
        have hil : i < x.length := by omega
        obtain ⟨r, ⟨K, hr⟩, hrb⟩ := sz_Split (rd_T117 x (i : Int)) lf (hx _ (rdM_T117 x i hil)) g0 (by omega)
        rcases hrb with hneg | ⟨p1, p2, p3⟩
        · refine ⟨-1, ⟨K + 1, fun k hk => ?_⟩, .inl (by omega)⟩
          obtain ⟨m, rfl⟩ : ∃ m, k = m + 1 := ⟨k - 1, by omega⟩
          have hr := hr m (by omega)
          dsimp only at hr ⊢
          simp only [laws_szSplitS.l0]
          rw [if_pos (by omega), if_pos (by omega), hr]
          simp only [Option.bind_some]
          rw [if_pos hneg]
        · obtain ⟨r2, ⟨K2, h2⟩, hb2⟩ := ih (i + 1) (by omega) (by omega) r p1 (by omega)
          refine ⟨r2, ⟨K + K2 + 1, fun k hk => ?_⟩, ?_⟩
          · obtain ⟨m, rfl⟩ : ∃ m, k = m + 1 := ⟨k - 1, by omega⟩
            have hr := hr m (by omega)
            have h2 := h2 m (by omega)
            dsimp only at hr h2 ⊢
            simp only [laws_szSplitS.l0]
            rw [if_pos (by omega), if_pos (by omega), hr]
            simp only [Option.bind_some]
            rw [if_neg (by omega), wrap_next i (by omega)]
            exact h2
          · rcases hb2 with hb2 | ⟨s0, s1, s2⟩
            · exact .inl hb2
            · refine .inr ⟨s0, by omega, fun j g2 g3 => ?_⟩
              by_cases e : j = i
              · rw [e]; exact p3
              · exact s2 j (by omega) g3
    obtain ⟨r, ⟨K, hr⟩, hb⟩ := main x.length 0 (by omega) (by omega) r0 p0 q0
    refine ⟨r, ⟨K, fun k hk => ?_⟩, ?_⟩
    · have hr := hr k hk
      dsimp only at hr ⊢
      unfold laws_szSplitS.f
      rw [hr0 trivial, if_neg (by omega)]
      exact hr
    · rcases hb with hb | ⟨s0, s1, s2⟩
      · exact .inl hb
      · refine .inr ⟨s0, by omega, by omega, fun y hy => ?_⟩
        obtain ⟨j, hjl, rfl⟩ := List.getElem_of_mem hy
        have := s2 j (by omega) hjl
        rwa [rdE_T117 x j hjl] at this

/-! UpI_Bits -/
def UpI_Bits (c : Int) (x : S150) : Prop := ((x.f1.length : Int) ≤ c)

/-! cv_Bits -/
def cv_Bits (x : S161) : S150 := ⟨x.f0, x.f1⟩

/-! upcv_Bits -/
theorem upcv_Bits (c : Int) (x : S161) (h : UpL_Bits c x) : UpI_Bits c (cv_Bits x) := by
  unfold UpL_Bits at h
  unfold UpI_Bits
  have i1 := h
  exact i1

/-! in_Bits -/
theorem in_Bits (x : S161) (h : (Lit.int .i64 x.f0).wf = true ∧ (x.f1.length ≤ 9223372036854775807 ∧ ∀ y0 ∈ x.f1, (Lit.int .u64 y0).wf = true)) : UpL_Bits 9223372036854775807 x := by
  obtain ⟨j0, j1⟩ := h
  exact (Int.ofNat_le.2 j1.1)

/-! UpI_Bar -/
def UpI_Bar (c : Int) (x : S152) : Prop := UpI_Bits c x.f2

/-! rdE_T152 -/
theorem rdE_T152 (l : List S152) (i : Nat) (h : i < l.length) : rd_T152 l (i : Int) = l[i] := by
  unfold rd_T152
  rw [List.getD_eq_getElem?_getD, Int.toNat_natCast, List.getElem?_eq_getElem h]; rfl
theorem rdM_T152 (l : List S152) (i : Nat) (h : i < l.length) : rd_T152 l (i : Int) ∈ l := by rw [rdE_T152 l i h]; exact List.getElem_mem h

/-! cv_Bar -/
def cv_Bar (x : S191) : S152 := ⟨x.f0, x.f1, (cv_Bits x.f2)⟩

/-! upcv_Bar -/
theorem upcv_Bar (c : Int) (x : S191) (h : UpL_Bar c x) : UpI_Bar c (cv_Bar x) := by
  unfold UpL_Bar at h
  unfold UpI_Bar
  have i2 := h
  exact (upcv_Bits c _ i2)

/-! in_Bar -/
theorem in_Bar (x : S191) (h : (Lit.int .i64 x.f0).wf = true ∧ (Lit.int .i64 x.f1).wf = true ∧ (Lit.int .i64 x.f2.f0).wf = true ∧ (x.f2.f1.length ≤ 9223372036854775807 ∧ ∀ y0 ∈ x.f2.f1, (Lit.int .u64 y0).wf = true)) : UpL_Bar 9223372036854775807 x := by
  obtain ⟨j0, j1, j2⟩ := h
  exact (in_Bits _ j2)

/-! to_Uint64S -/
theorem to_Uint64S (x : List Int) (h : ((x.length : Int) ≤ 1048576)) : Ev (fun k => laws_toUint64S.f k x) x := by
  have hl := h
  have main := up_loop x.length (filled (fun i => (rd x i)) (List.replicate x.length 0)) (fun k xs i => laws_toUint64S.l0 k x xs i)
    (fun i hi r h2 => by
      obtain ⟨K2, h2⟩ := h2
      refine ⟨K2 + 1, fun k hk => ?_⟩
      obtain ⟨m, rfl⟩ : ∃ m, k = m + 1 := ⟨k - 1, by omega⟩
      have h2 := h2 m (by omega)
      dsimp only at h2 ⊢
      rw [← filled_set _ _ (by simpa using hi)] at h2
      simp only [laws_toUint64S.l0]
      rw [if_pos (by omega), if_pos (by omega)]
      rw [if_pos (by rw [filled_len _ _ (by simp; omega)]; simp; omega), Int.toNat_natCast, wrap64_id (by omega) (by omega)]
      exact h2)
    x (Ev.step (f := fun _ => some x) (fun k => by
      simp only [laws_toUint64S.l0]
      rw [if_neg (by omega), filled_all _ _ (by simp)]
      congr 1
      exact list_of_rd x) (Ev.now _))
  rw [filled_zero] at main
  refine Ev.congr (fun k => ?_) main
  unfold laws_toUint64S.f
  rw [if_pos (by omega), if_pos (by omega), Int.toNat_natCast]

/-! to_Bits -/
theorem to_Bits (x : S161) (h : UpL_Bits 1048576 x) : Ev (fun k => laws_toBits.f k x.f0 x.f1) ((cv_Bits x).f0, (cv_Bits x).f1) := by
  unfold UpL_Bits at h
  have i1 := h
  obtain ⟨K1, e1⟩ := to_Uint64S x.f1 i1
  refine ⟨K1, fun k hk => ?_⟩
  have e1 := e1 k (by omega)
  dsimp only at e1 ⊢
  simp only [laws_toBits.f, e1, Option.bind_some]
  all_goals rfl

/-! to_Bar -/
theorem to_Bar (x : S191) (h : UpL_Bar 1048576 x) : Ev (fun k => laws_toBar.f k x.f0 x.f1 x.f2.f0 x.f2.f1) ((cv_Bar x).f0, (cv_Bar x).f1, (cv_Bar x).f2.f0, (cv_Bar x).f2.f1) := by
  unfold UpL_Bar at h
  have i2 := h
  obtain ⟨K2, e2⟩ := to_Bits x.f2 i2
  refine ⟨K2, fun k hk => ?_⟩
  have e2 := e2 k (by omega)
  dsimp only at e2 ⊢
  simp only [laws_toBar.f, e2, Option.bind_some]
  all_goals rfl

/-! to_BarS -/
theorem to_BarS (x : List S191) (h : ((x.length : Int) ≤ 1048576 ∧ ∀ y ∈ x, UpL_Bar 1048576 y)) : Ev (fun k => laws_toBarS.f k x) (x.map cv_Bar) := by
  have hl := h.1
  have main := up_loop x.length (filled (fun i => (cv_Bar (rd_T191 x i))) (List.replicate x.length z152)) (fun k xs i => laws_toBarS.l0 k x xs i)
    (fun i hi r h2 => by
      obtain ⟨K, he⟩ := to_Bar (rd_T191 x (i : Int)) (h.2 _ (rdM_T191 x i hi))
      obtain ⟨K2, h2⟩ := h2
      refine ⟨K + K2 + 1, fun k hk => ?_⟩
      obtain ⟨m, rfl⟩ : ∃ m, k = m + 1 := ⟨k - 1, by omega⟩
      have h2 := h2 m (by omega)
      have he := he m (by omega)
      dsimp only at he h2 ⊢
      rw [← filled_set _ _ (by simpa using hi)] at h2
      simp only [laws_toBarS.l0]
      rw [if_pos (by omega), if_pos (by omega), he]
      simp only [Option.bind_some]
      rw [if_pos (by rw [filled_len _ _ (by simp; omega)]; simp; omega), Int.toNat_natCast, wrap64_id (by omega) (by omega)]
      exact h2)
    (x.map cv_Bar) (Ev.step (f := fun _ => some (x.map cv_Bar)) (fun k => by
      simp only [laws_toBarS.l0]
      rw [if_neg (by omega), filled_all _ _ (by simp)]
      congr 1
      apply List.ext_getElem?
      intro i
      by_cases hi : i < x.length
      · simp [hi, rdE_T191]
      · rw [List.getElem?_eq_none (by simp; omega), List.getElem?_eq_none (by simp; omega)]) (Ev.now _))
  rw [filled_zero] at main
  refine Ev.congr (fun k => ?_) main
  unfold laws_toBarS.f
  rw [if_pos (by omega), if_pos (by omega), Int.toNat_natCast]

/-! UpI_Split -/
def UpI_Split (c : Int) (x : S119) : Prop := ((x.f2.length : Int) ≤ c ∧ ∀ y ∈ x.f2, UpI_Bar c y)

/-! rdE_T119 -/
theorem rdE_T119 (l : List S119) (i : Nat) (h : i < l.length) : rd_T119 l (i : Int) = l[i] := by
  unfold rd_T119
  rw [List.getD_eq_getElem?_getD, Int.toNat_natCast, List.getElem?_eq_getElem h]; rfl
theorem rdM_T119 (l : List S119) (i : Nat) (h : i < l.length) : rd_T119 l (i : Int) ∈ l := by rw [rdE_T119 l i h]; exact List.getElem_mem h

/-! cv_Split -/
def cv_Split (x : S117) : S119 := ⟨x.f0, x.f1, (x.f2.map cv_Bar)⟩

/-! upcv_Split -/
theorem upcv_Split (c : Int) (x : S117) (h : UpL_Split c x) : UpI_Split c (cv_Split x) := by
  unfold UpL_Split at h
  unfold UpI_Split
  have i2 := h
  exact ⟨by simpa [cv_Split] using i2.1, fun y hy => by obtain ⟨z, hz, rfl⟩ := List.mem_map.1 hy; exact upcv_Bar c z (i2.2 z hz)⟩

/-! in_Split -/
theorem in_Split (x : S117) (h : (Lit.int .i64 x.f0).wf = true ∧ (Lit.int .i64 x.f1).wf = true ∧ (x.f2.length ≤ 9223372036854775807 ∧ ∀ y0 ∈ x.f2, (Lit.int .i64 y0.f0).wf = true ∧ (Lit.int .i64 y0.f1).wf = true ∧ (Lit.int .i64 y0.f2.f0).wf = true ∧ (y0.f2.f1.length ≤ 9223372036854775807 ∧ ∀ y1 ∈ y0.f2.f1, (Lit.int .u64 y1).wf = true))) : UpL_Split 9223372036854775807 x := by
  obtain ⟨j0, j1, j2⟩ := h
  exact ⟨Int.ofNat_le.2 j2.1, fun y hy => in_Bar y (j2.2 y hy)⟩

/-! to_Split -/
theorem to_Split (x : S117) (h : UpL_Split 1048576 x) : Ev (fun k => laws_toSplit.f k x.f0 x.f1 x.f2) ((cv_Split x).f0, (cv_Split x).f1, (cv_Split x).f2) := by
  unfold UpL_Split at h
  have i2 := h
  obtain ⟨K2, e2⟩ := to_BarS x.f2 i2
  refine ⟨K2, fun k hk => ?_⟩
  have e2 := e2 k (by omega)
  dsimp only at e2 ⊢
  simp only [laws_toSplit.f, e2, Option.bind_some]
  all_goals rfl

/-! to_SplitS -/
theorem to_SplitS (x : List S117) (h : ((x.length : Int) ≤ 1048576 ∧ ∀ y ∈ x, UpL_Split 1048576 y)) : Ev (fun k => laws_toSplitS.f k x) (x.map cv_Split) := by
  have hl := h.1
  have main := up_loop x.length (filled (fun i => (cv_Split (rd_T117 x i))) (List.replicate x.length z119)) (fun k xs i => laws_toSplitS.l0 k x xs i)
    (fun i hi r h2 => by
      obtain ⟨K, he⟩ := to_Split (rd_T117 x (i : Int)) (h.2 _ (rdM_T117 x i hi))
      obtain ⟨K2, h2⟩ := h2
      refine ⟨K + K2 + 1, fun k hk => ?_⟩
      obtain ⟨m, rfl⟩ : ∃ m, k = m + 1 := ⟨k - 1, by omega⟩
      have h2 := h2 m (by omega)
      have he := he m (by omega)
      dsimp only at he h2 ⊢
      rw [← filled_set _ _ (by simpa using hi)] at h2
      simp only [laws_toSplitS.l0]
      rw [if_pos (by omega), if_pos (by omega), he]
      simp only [Option.bind_some]
      rw [if_pos (by rw [filled_len _ _ (by simp; omega)]; simp; omega), Int.toNat_natCast, wrap64_id (by omega) (by omega)]
      exact h2)
    (x.map cv_Split) (Ev.step (f := fun _ => some (x.map cv_Split)) (fun k => by
      simp only [laws_toSplitS.l0]
      rw [if_neg (by omega), filled_all _ _ (by simp)]
      congr 1
      apply List.ext_getElem?
      intro i
      by_cases hi : i < x.length
      · simp [hi, rdE_T117]
      · rw [List.getElem?_eq_none (by simp; omega), List.getElem?_eq_none (by simp; omega)]) (Ev.now _))
  rw [filled_zero] at main
  refine Ev.congr (fun k => ?_) main
  unfold laws_toSplitS.f
  rw [if_pos (by omega), if_pos (by omega), Int.toNat_natCast]

/-! eq_Uint64S -/
theorem eq_Uint64S (x : List Int) (h : ((x.length : Int) ≤ 1048576)) : Ev (fun k => laws_eqUint64S.f k x x) true := by
  have hl := h
  have main := up_loop x.length (fun _ => ()) (fun k _ i => laws_eqUint64S.l0 k x x i)
    (fun i hi r h2 => by
      obtain ⟨K2, h2⟩ := h2
      refine ⟨K2 + 1, fun k hk => ?_⟩
      obtain ⟨m, rfl⟩ : ∃ m, k = m + 1 := ⟨k - 1, by omega⟩
      have h2 := h2 m (by omega)
      dsimp only at h2 ⊢
      simp only [laws_eqUint64S.l0]
      rw [if_pos (by omega), if_pos (by omega), if_pos (by omega)]
      simp only [if_true]
      rw [wrap64_id (by omega) (by omega)]
      exact h2)
    true (Ev.step (f := fun _ => some true) (fun k => by
      simp only [laws_eqUint64S.l0]
      rw [if_neg (by omega)]) (Ev.now _))
  obtain ⟨K, h⟩ := main
  refine ⟨K, fun k hk => ?_⟩
  have h := h k hk
  dsimp only at h ⊢
  unfold laws_eqUint64S.f
  rw [if_pos rfl]
  exact h

/-! eq_Bits -/
theorem eq_Bits (x : S150) (h : UpI_Bits 1048576 x) : Ev (fun k => laws_eqBits.f k x.f0 x.f1 x.f0 x.f1) true := by
  unfold UpI_Bits at h
  have i1 := h
  obtain ⟨K1, e1⟩ := eq_Uint64S x.f1 i1
  refine ⟨K1, fun k hk => ?_⟩
  have e1 := e1 k (by omega)
  dsimp only at e1 ⊢
  simp only [laws_eqBits.f, e1, Option.bind_some, if_true, ↓reduceIte]

/-! eq_Bar -/
theorem eq_Bar (x : S152) (h : UpI_Bar 1048576 x) : Ev (fun k => laws_eqBar.f k x.f0 x.f1 x.f2.f0 x.f2.f1 x.f0 x.f1 x.f2.f0 x.f2.f1) true := by
  unfold UpI_Bar at h
  have i2 := h
  obtain ⟨K2, e2⟩ := eq_Bits x.f2 i2
  refine ⟨K2, fun k hk => ?_⟩
  have e2 := e2 k (by omega)
  dsimp only at e2 ⊢
  simp only [laws_eqBar.f, e2, Option.bind_some, if_true, ↓reduceIte]

/-! eq_BarS -/
theorem eq_BarS (x : List S152) (h : ((x.length : Int) ≤ 1048576 ∧ ∀ y ∈ x, UpI_Bar 1048576 y)) : Ev (fun k => laws_eqBarS.f k x x) true := by
  have hl := h.1
  have main := up_loop x.length (fun _ => ()) (fun k _ i => laws_eqBarS.l0 k x x i)
    (fun i hi r h2 => by
      obtain ⟨K, he⟩ := eq_Bar (rd_T152 x (i : Int)) (h.2 _ (rdM_T152 x i hi))
      obtain ⟨K2, h2⟩ := h2
      refine ⟨K + K2 + 1, fun k hk => ?_⟩
      obtain ⟨m, rfl⟩ : ∃ m, k = m + 1 := ⟨k - 1, by omega⟩
      have h2 := h2 m (by omega)
      have he := he m (by omega)
      dsimp only at he h2 ⊢
      simp only [laws_eqBarS.l0]
      rw [if_pos (by omega), if_pos (by omega), if_pos (by omega), he]
      simp only [Option.bind_some, if_true, ↓reduceIte]
      rw [wrap64_id (by omega) (by omega)]
      exact h2)
    true (Ev.step (f := fun _ => some true) (fun k => by
      simp only [laws_eqBarS.l0]
      rw [if_neg (by omega)]) (Ev.now _))
  obtain ⟨K, h⟩ := main
  refine ⟨K, fun k hk => ?_⟩
  have h := h k hk
  dsimp only at h ⊢
  unfold laws_eqBarS.f
  rw [if_pos rfl]
  exact h

/-! eq_Split -/
theorem eq_Split (x : S119) (h : UpI_Split 1048576 x) : Ev (fun k => laws_eqSplit.f k x.f0 x.f1 x.f2 x.f0 x.f1 x.f2) true := by
  unfold UpI_Split at h
  have i2 := h
  obtain ⟨K2, e2⟩ := eq_BarS x.f2 i2
  refine ⟨K2, fun k hk => ?_⟩
  have e2 := e2 k (by omega)
  dsimp only at e2 ⊢
  simp only [laws_eqSplit.f, e2, Option.bind_some, if_true, ↓reduceIte]

/-! eq_SplitS -/
theorem eq_SplitS (x : List S119) (h : ((x.length : Int) ≤ 1048576 ∧ ∀ y ∈ x, UpI_Split 1048576 y)) : Ev (fun k => laws_eqSplitS.f k x x) true := by
  have hl := h.1
  have main := up_loop x.length (fun _ => ()) (fun k _ i => laws_eqSplitS.l0 k x x i)
    (fun i hi r h2 => by
      obtain ⟨K, he⟩ := eq_Split (rd_T119 x (i : Int)) (h.2 _ (rdM_T119 x i hi))
      obtain ⟨K2, h2⟩ := h2
      refine ⟨K + K2 + 1, fun k hk => ?_⟩
      obtain ⟨m, rfl⟩ : ∃ m, k = m + 1 := ⟨k - 1, by omega⟩
      have h2 := h2 m (by omega)
      have he := he m (by omega)
      dsimp only at he h2 ⊢
      simp only [laws_eqSplitS.l0]
      rw [if_pos (by omega), if_pos (by omega), if_pos (by omega), he]
      simp only [Option.bind_some, if_true, ↓reduceIte]
      rw [wrap64_id (by omega) (by omega)]
      exact h2)
    true (Ev.step (f := fun _ => some true) (fun k => by
      simp only [laws_eqSplitS.l0]
      rw [if_neg (by omega)]) (Ev.now _))
  obtain ⟨K, h⟩ := main
  refine ⟨K, fun k hk => ?_⟩
  have h := h k hk
  dsimp only at h ⊢
  unfold laws_eqSplitS.f
  rw [if_pos rfl]
  exact h
-- SAYS: The program's StateOf answers as the reference's StateOf does, for all splits.
theorem stateOf_agree (l : List S119) (id : Int) (hl : (l.length : Int) ≤ 1048576) : ∃ r, Ev (fun k => spec_StateOf.f k l id) r ∧ Ev (fun k => impl_StateOf.f k l id) r := by
  have main : ∀ d i, l.length - i = d → i ≤ l.length → ∃ r, Ev (fun k => spec_StateOf.l0 k l id (i : Int)) r ∧ Ev (fun k => impl_StateOf.l0 k id l (l.length : Int) (i : Int)) r := by
    intro d
    induction d with
    | zero =>
      intro i hd hi
      exact ⟨0, Ev.step (f := fun _ => some 0) (fun k => by simp only [spec_StateOf.l0]; rw [if_neg (by omega)]) (Ev.now _), Ev.step (f := fun _ => some 0) (fun k => by simp only [impl_StateOf.l0]; rw [if_neg (by omega)]) (Ev.now _)⟩
    | succ d ih =>
      intro i hd hi
      by_cases c : (rd_T119 l (i : Int)).f0 = id
      · exact ⟨_, Ev.step (f := fun _ => some (rd_T119 l (i : Int)).f1) (fun k => by simp only [spec_StateOf.l0]; rw [if_pos (by omega), if_pos (by omega), if_pos c]) (Ev.now _), Ev.step (f := fun _ => some (rd_T119 l (i : Int)).f1) (fun k => by simp only [impl_StateOf.l0]; rw [if_pos (by omega), if_pos (by omega), if_pos (by omega), if_pos c]) (Ev.now _)⟩
      · obtain ⟨r, h1, h2⟩ := ih (i + 1) (by omega) (by omega)
        exact ⟨r, Ev.step (fun k => by simp only [spec_StateOf.l0]; rw [if_pos (by omega), if_pos (by omega), if_neg c, wrap_next i (by omega)]) h1, Ev.step (fun k => by simp only [impl_StateOf.l0]; rw [if_pos (by omega), if_pos (by omega), if_pos (by omega), if_neg c, wrap_next i (by omega)]) h2⟩
  exact main l.length 0 (by omega) (by omega)
theorem FnExactStateOf (l0 : List S117) (a1 : Int) (q0 : ∀ x ∈ l0, (Lit.int .i64 x.f0).wf = true ∧ (Lit.int .i64 x.f1).wf = true ∧ (x.f2.length ≤ 9223372036854775807 ∧ ∀ y ∈ x.f2, (Lit.int .i64 y.f0).wf = true ∧ (Lit.int .i64 y.f1).wf = true ∧ (Lit.int .i64 y.f2.f0).wf = true ∧ (y.f2.f1.length ≤ 9223372036854775807 ∧ ∀ z ∈ y.f2.f1, (Lit.int .u64 z).wf = true))) (hl : l0.length ≤ 9223372036854775807) (q1 : (Lit.int .i64 a1).wf = true) : ∃ k, laws_FnExactStateOf.f k l0 a1 = some true := by
  obtain ⟨r, g0, hb⟩ := sz_SplitS l0 1048576 ⟨Int.ofNat_le.2 hl, fun x hx => in_Split x (q0 x hx)⟩ (by decide) (by decide)
  obtain ⟨K0, h0⟩ := Ev.binds g0
  rcases hb with hneg | ⟨b0, b1, b2⟩
  · have hb := eq_true hneg
    exact ⟨K0, by simp (disch := omega) only [laws_FnExactStateOf.f, ↓h0, ↓reduceIte, hb]⟩
  · have hu : ((l0.map cv_Split).length : Int) ≤ 1048576 ∧ ∀ y ∈ l0.map cv_Split, UpI_Split 1048576 y := ⟨by simpa using b2.1, fun y hy => by obtain ⟨z, hz, rfl⟩ := List.mem_map.1 hy; exact upcv_Split _ z (b2.2 z hz)⟩
    obtain ⟨s, g2, g3⟩ := stateOf_agree (l0.map cv_Split) a1 hu.1
    obtain ⟨K1, h1⟩ := Ev.binds (to_SplitS l0 b2)
    obtain ⟨K2, h2⟩ := Ev.binds g2
    obtain ⟨K3, h3⟩ := Ev.binds g3
    obtain ⟨K4, h4⟩ := Ev.binds (eq_SplitS (l0.map cv_Split) hu)
    have hb := eq_false (show ¬ r < 0 by omega)
    refine ⟨K0 + K1 + K2 + K3 + K4, ?_⟩
    simp (disch := omega) only [laws_FnExactStateOf.f, ↓h0, ↓h1, ↓h2, ↓h3, ↓h4, ↓reduceIte, hb, bne_self_eq_false, Bool.false_eq_true]

end Go.Proofs.Ytkjlplcdjdenkaa.Pure
