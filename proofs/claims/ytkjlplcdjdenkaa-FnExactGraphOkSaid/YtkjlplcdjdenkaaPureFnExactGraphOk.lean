/- The program's GraphOk answers as the reference's GraphOk does, for all arguments. -/
import Derived.Test.YtkjlplcdjdenkaaPFnExactGraphOkx6
import Derived.Test.YtkjlplcdjdenkaaBits
import Derived.Test.YtkjlplcdjdenkaaLoops
namespace Go.Proofs.Ytkjlplcdjdenkaa.Pure
open Go Go.RowKit Go.Proofs.Ytkjlplcdjdenkaa.PFnExactGraphOk Go.Proofs.YtkjlplcdjdenkaaW.PrintWords Go.Proofs.YtkjlplcdjdenkaaW.PrintLast Go.Proofs.YtkjlplcdjdenkaaW.PrintMore Go.Proofs.Ytkjlplcdjdenkaa.BitsLib Go.Proofs.Ytkjlplcdjdenkaa.Loops
set_option linter.unusedVariables false
set_option linter.unusedSimpArgs false
set_option maxRecDepth 4000

/-! wrap_next -/
theorem wrap_next (i : Nat) (h : i < 4611686018427387904) : wrap64 ((i : Int) + 1) = ((i + 1 : Nat) : Int) := by
  rw [wrap64_id (by omega) (by omega)]; rfl

/-! szn_out -/
theorem szn_out (n : Nat) (left : Int) (hn : (n : Int) ≤ 9223372036854775807) (h0 : 0 ≤ left) (h1 : left ≤ 1048576) :
    ∃ r, (True → wrap64 (left - (n : Int)) = r) ∧ (r < 0 ∨ (0 ≤ r ∧ r ≤ left ∧ (n : Int) ≤ 1048576)) := by
  refine ⟨left - (n : Int), fun _ => wrap64_id (by omega) (by omega), ?_⟩
  by_cases c : left - (n : Int) < 0
  · exact .inl c
  · exact .inr (by omega)

/-! UpL_Bits -/
def UpL_Bits (c : Int) (x : S161) : Prop := ((x.f1.length : Int) ≤ c)

/-! UpL_Bar -/
def UpL_Bar (c : Int) (x : S191) : Prop := UpL_Bits c x.f2

/-! rdE_T191 -/
theorem rdE_T191 (l : List S191) (i : Nat) (h : i < l.length) : rd_T191 l (i : Int) = l[i] := by
  unfold rd_T191
  rw [List.getD_eq_getElem?_getD, Int.toNat_natCast, List.getElem?_eq_getElem h]; rfl
theorem rdM_T191 (l : List S191) (i : Nat) (h : i < l.length) : rd_T191 l (i : Int) ∈ l := by rw [rdE_T191 l i h]; exact List.getElem_mem h

/-! sz_Uint64S -/
theorem sz_Uint64S (x : List Int) (left : Int) (hin : ((x.length : Int) ≤ 9223372036854775807)) (h0 : 0 ≤ left) (h1 : left ≤ 1048576) :
    ∃ r, Ev (fun k => laws_szUint64S.f x left) r ∧ (r < 0 ∨ (0 ≤ r ∧ r ≤ left ∧ ((x.length : Int) ≤ 1048576))) := by
  obtain ⟨r, hr, hb⟩ := szn_out x.length left hin h0 h1
  rcases hb with c | ⟨p0, q0, u0⟩
  · exact ⟨-1, ⟨0, fun k _ => by dsimp only; unfold laws_szUint64S.f; rw [hr trivial, if_pos c]⟩, .inl (by omega)⟩
  · exact ⟨r, ⟨0, fun k _ => by dsimp only; unfold laws_szUint64S.f; rw [hr trivial, if_neg (by omega)]⟩, .inr ⟨p0, q0, u0⟩⟩

/-! sz_Bits -/
theorem sz_Bits (x : S161) (left : Int) (hin : UpL_Bits 9223372036854775807 x) (h0 : 0 ≤ left) (h1 : left ≤ 1048576) :
    ∃ r, Ev (fun k => laws_szBits.f x.f0 x.f1 left) r ∧ (r < 0 ∨ (0 ≤ r ∧ r ≤ left ∧ UpL_Bits 1048576 x)) := by
  unfold UpL_Bits at hin
  have i1 := hin
  obtain ⟨r1, ⟨K1, e1⟩, hb1⟩ := sz_Uint64S x.f1 left i1 (by omega) (by omega)
  rcases hb1 with c1 | ⟨p1, q1, u1⟩
  · exact ⟨-1, ⟨K1, fun k hk => by have e1 := e1 k (by omega); dsimp only at e1 ⊢; unfold laws_szBits.f; rw [e1]; simp only [Option.bind_some]; rw [if_pos c1]⟩, .inl (by omega)⟩
  exact ⟨r1, ⟨K1, fun k hk => by have e1 := e1 k (by omega); dsimp only at e1 ⊢; unfold laws_szBits.f; rw [e1]; simp only [Option.bind_some]; rw [if_neg (by omega)]⟩, .inr ⟨by omega, by omega, u1⟩⟩

/-! sz_Bar -/
theorem sz_Bar (x : S191) (left : Int) (hin : UpL_Bar 9223372036854775807 x) (h0 : 0 ≤ left) (h1 : left ≤ 1048576) :
    ∃ r, Ev (fun k => laws_szBar.f x.f0 x.f1 x.f2.f0 x.f2.f1 left) r ∧ (r < 0 ∨ (0 ≤ r ∧ r ≤ left ∧ UpL_Bar 1048576 x)) := by
  unfold UpL_Bar at hin
  have i2 := hin
  obtain ⟨r2, ⟨K2, e2⟩, hb2⟩ := sz_Bits x.f2 left i2 (by omega) (by omega)
  rcases hb2 with c2 | ⟨p2, q2, u2⟩
  · exact ⟨-1, ⟨K2, fun k hk => by have e2 := e2 k (by omega); dsimp only at e2 ⊢; unfold laws_szBar.f; rw [e2]; simp only [Option.bind_some]; rw [if_pos c2]⟩, .inl (by omega)⟩
  exact ⟨r2, ⟨K2, fun k hk => by have e2 := e2 k (by omega); dsimp only at e2 ⊢; unfold laws_szBar.f; rw [e2]; simp only [Option.bind_some]; rw [if_neg (by omega)]⟩, .inr ⟨by omega, by omega, u2⟩⟩

/-! sz_BarS -/
theorem sz_BarS (x : List S191) (left : Int) (hin : ((x.length : Int) ≤ 9223372036854775807 ∧ ∀ y ∈ x, UpL_Bar 9223372036854775807 y)) (h0 : 0 ≤ left) (h1 : left ≤ 1048576) :
    ∃ r, Ev (fun k => laws_szBarS.f k x left) r ∧ (r < 0 ∨ (0 ≤ r ∧ r ≤ left ∧ ((x.length : Int) ≤ 1048576 ∧ ∀ y ∈ x, UpL_Bar 1048576 y))) := by
  obtain ⟨hl, hx⟩ := hin
  obtain ⟨r0, hr0, hb0⟩ := szn_out x.length left hl h0 h1
  rcases hb0 with c | ⟨p0, q0, u0⟩
  · exact ⟨-1, ⟨0, fun k _ => by dsimp only; unfold laws_szBarS.f; rw [hr0 trivial, if_pos c]⟩, .inl (by omega)⟩
  · have main : ∀ d i, x.length - i = d → i ≤ x.length → ∀ lf, 0 ≤ lf → lf ≤ left → ∃ r, Ev (fun k => laws_szBarS.l0 k x lf (i : Int)) r ∧ (r < 0 ∨ (0 ≤ r ∧ r ≤ lf ∧ ∀ j : Nat, i ≤ j → j < x.length → UpL_Bar 1048576 ((rd_T191 x (j : Int))))) := by
      intro d
      induction d with
      | zero =>
        intro i hd hi lf g0 g1
        exact ⟨lf, Ev.step (f := fun _ => some lf) (fun k => by simp only [laws_szBarS.l0]; rw [if_neg (by omega)]) (Ev.now _), .inr ⟨g0, Int.le_refl _, fun j g2 g3 => absurd g3 (by omega)⟩⟩
      | succ d ih =>
        intro i hd hi lf g0 g1
        have hil : i < x.length := by omega
        obtain ⟨r, ⟨K, hr⟩, hrb⟩ := sz_Bar (rd_T191 x (i : Int)) lf (hx _ (rdM_T191 x i hil)) g0 (by omega)
        rcases hrb with hneg | ⟨p1, p2, p3⟩
        · refine ⟨-1, ⟨K + 1, fun k hk => ?_⟩, .inl (by omega)⟩
          obtain ⟨m, rfl⟩ : ∃ m, k = m + 1 := ⟨k - 1, by omega⟩
          have hr := hr m (by omega)
          dsimp only at hr ⊢
          simp only [laws_szBarS.l0]
          rw [if_pos (by omega), if_pos (by omega), hr]
          simp only [Option.bind_some]
          rw [if_pos hneg]
        · obtain ⟨r2, ⟨K2, h2⟩, hb2⟩ := ih (i + 1) (by omega) (by omega) r p1 (by omega)
          refine ⟨r2, ⟨K + K2 + 1, fun k hk => ?_⟩, ?_⟩
          · obtain ⟨m, rfl⟩ : ∃ m, k = m + 1 := ⟨k - 1, by omega⟩
            have hr := hr m (by omega)
            have h2 := h2 m (by omega)
            dsimp only at hr h2 ⊢
            simp only [laws_szBarS.l0]
            rw [if_pos (by omega), if_pos (by omega), hr]
            simp only [Option.bind_some]
            rw [if_neg (by omega), wrap_next i (by omega)]
            exact h2
          · rcases hb2 with hb2 | ⟨s0, s1, s2⟩
            · exact .inl hb2
            · refine .inr ⟨s0, by omega, fun j g2 g3 => ?_⟩
              by_cases e : j = i
              · rw [e]; exact p3
              · exact s2 j (by omega) g3
    obtain ⟨r, ⟨K, hr⟩, hb⟩ := main x.length 0 (by omega) (by omega) r0 p0 q0
    refine ⟨r, ⟨K, fun k hk => ?_⟩, ?_⟩
    · have hr := hr k hk
      dsimp only at hr ⊢
      unfold laws_szBarS.f
      rw [hr0 trivial, if_neg (by omega)]
      exact hr
    · rcases hb with hb | ⟨s0, s1, s2⟩
      · exact .inl hb
      · refine .inr ⟨s0, by omega, by omega, fun y hy => ?_⟩
        obtain ⟨j, hjl, rfl⟩ := List.getElem_of_mem hy
        have := s2 j (by omega) hjl
        rwa [rdE_T191 x j hjl] at this

/-! S74 -/
structure S74 where
  f0 : List Int
  f1 : List S191

/-! UpL_Graph -/
def UpL_Graph (c : Int) (x : S74) : Prop := ((x.f0.length : Int) ≤ c) ∧ ((x.f1.length : Int) ≤ c ∧ ∀ y ∈ x.f1, UpL_Bar c y)

/-! sz_Int64S -/
theorem sz_Int64S (x : List Int) (left : Int) (hin : ((x.length : Int) ≤ 9223372036854775807)) (h0 : 0 ≤ left) (h1 : left ≤ 1048576) :
    ∃ r, Ev (fun k => laws_szInt64S.f x left) r ∧ (r < 0 ∨ (0 ≤ r ∧ r ≤ left ∧ ((x.length : Int) ≤ 1048576))) := by
  obtain ⟨r, hr, hb⟩ := szn_out x.length left hin h0 h1
  rcases hb with c | ⟨p0, q0, u0⟩
  · exact ⟨-1, ⟨0, fun k _ => by dsimp only; unfold laws_szInt64S.f; rw [hr trivial, if_pos c]⟩, .inl (by omega)⟩
  · exact ⟨r, ⟨0, fun k _ => by dsimp only; unfold laws_szInt64S.f; rw [hr trivial, if_neg (by omega)]⟩, .inr ⟨p0, q0, u0⟩⟩

/-! sz_Graph -/
theorem sz_Graph (x : S74) (left : Int) (hin : UpL_Graph 9223372036854775807 x) (h0 : 0 ≤ left) (h1 : left ≤ 1048576) :
    ∃ r, Ev (fun k => laws_szGraph.f k x.f0 x.f1 left) r ∧ (r < 0 ∨ (0 ≤ r ∧ r ≤ left ∧ UpL_Graph 1048576 x)) := by
  unfold UpL_Graph at hin
  obtain ⟨i0, i1⟩ := hin
  obtain ⟨r0, ⟨K0, e0⟩, hb0⟩ := sz_Int64S x.f0 left i0 (by omega) (by omega)
  rcases hb0 with c0 | ⟨p0, q0, u0⟩
  · exact ⟨-1, ⟨K0, fun k hk => by have e0 := e0 k (by omega); dsimp only at e0 ⊢; unfold laws_szGraph.f; rw [e0]; simp only [Option.bind_some]; rw [if_pos c0]⟩, .inl (by omega)⟩
  obtain ⟨r1, ⟨K1, e1⟩, hb1⟩ := sz_BarS x.f1 r0 i1 (by omega) (by omega)
  rcases hb1 with c1 | ⟨p1, q1, u1⟩
  · exact ⟨-1, ⟨K0 + K1, fun k hk => by have e0 := e0 k (by omega); have e1 := e1 k (by omega); dsimp only at e0 e1 ⊢; unfold laws_szGraph.f; rw [e0]; simp only [Option.bind_some]; rw [if_neg (by omega)]; rw [e1]; simp only [Option.bind_some]; rw [if_pos c1]⟩, .inl (by omega)⟩
  exact ⟨r1, ⟨K0 + K1, fun k hk => by have e0 := e0 k (by omega); have e1 := e1 k (by omega); dsimp only at e0 e1 ⊢; unfold laws_szGraph.f; rw [e0]; simp only [Option.bind_some]; rw [if_neg (by omega)]; rw [e1]; simp only [Option.bind_some]; rw [if_neg (by omega)]⟩, .inr ⟨by omega, by omega, ⟨u0, u1⟩⟩⟩

/-! UpI_Bits -/
def UpI_Bits (c : Int) (x : S150) : Prop := ((x.f1.length : Int) ≤ c)

/-! cv_Bits -/
def cv_Bits (x : S161) : S150 := ⟨x.f0, x.f1⟩

/-! upcv_Bits -/
theorem upcv_Bits (c : Int) (x : S161) (h : UpL_Bits c x) : UpI_Bits c (cv_Bits x) := by
  unfold UpL_Bits at h
  unfold UpI_Bits
  have i1 := h
  exact i1

/-! in_Bits -/
theorem in_Bits (x : S161) (h : (Lit.int .i64 x.f0).wf = true ∧ (x.f1.length ≤ 9223372036854775807 ∧ ∀ y0 ∈ x.f1, (Lit.int .u64 y0).wf = true)) : UpL_Bits 9223372036854775807 x := by
  obtain ⟨j0, j1⟩ := h
  unfold UpL_Bits
  exact (Int.ofNat_le.2 j1.1)

/-! UpI_Bar -/
def UpI_Bar (c : Int) (x : S152) : Prop := UpI_Bits c x.f2

/-! rdE_T152 -/
theorem rdE_T152 (l : List S152) (i : Nat) (h : i < l.length) : rd_T152 l (i : Int) = l[i] := by
  unfold rd_T152
  rw [List.getD_eq_getElem?_getD, Int.toNat_natCast, List.getElem?_eq_getElem h]; rfl
theorem rdM_T152 (l : List S152) (i : Nat) (h : i < l.length) : rd_T152 l (i : Int) ∈ l := by rw [rdE_T152 l i h]; exact List.getElem_mem h

/-! cv_Bar -/
def cv_Bar (x : S191) : S152 := ⟨x.f0, x.f1, (cv_Bits x.f2)⟩

/-! upcv_Bar -/
theorem upcv_Bar (c : Int) (x : S191) (h : UpL_Bar c x) : UpI_Bar c (cv_Bar x) := by
  unfold UpL_Bar at h
  unfold UpI_Bar
  have i2 := h
  exact (upcv_Bits c _ i2)

/-! in_Bar -/
theorem in_Bar (x : S191) (h : (Lit.int .i64 x.f0).wf = true ∧ (Lit.int .i64 x.f1).wf = true ∧ (Lit.int .i64 x.f2.f0).wf = true ∧ (x.f2.f1.length ≤ 9223372036854775807 ∧ ∀ y0 ∈ x.f2.f1, (Lit.int .u64 y0).wf = true)) : UpL_Bar 9223372036854775807 x := by
  obtain ⟨j0, j1, j2⟩ := h
  unfold UpL_Bar
  exact (in_Bits _ j2)

/-! to_Uint64S -/
theorem to_Uint64S (x : List Int) (h : ((x.length : Int) ≤ 1048576)) : Ev (fun k => laws_toUint64S.f k x) x := by
  have hl := h
  have main := up_loop x.length (filled (fun i => (rd x i)) (List.replicate x.length 0)) (fun k xs i => laws_toUint64S.l0 k x xs i)
    (fun i hi r h2 => by
      obtain ⟨K2, h2⟩ := h2
      refine ⟨K2 + 1, fun k hk => ?_⟩
      obtain ⟨m, rfl⟩ : ∃ m, k = m + 1 := ⟨k - 1, by omega⟩
      have h2 := h2 m (by omega)
      dsimp only at h2 ⊢
      rw [← filled_set _ _ (by simpa using hi)] at h2
      simp only [laws_toUint64S.l0]
      rw [if_pos (by omega), if_pos (by omega)]
      rw [if_pos (by rw [filled_len _ _ (by simp; omega)]; simp; omega), Int.toNat_natCast, wrap64_id (by omega) (by omega)]
      exact h2)
    x (Ev.step (f := fun _ => some x) (fun k => by
      simp only [laws_toUint64S.l0]
      rw [if_neg (by omega), filled_all _ _ (by simp)]
      congr 1
      exact list_of_rd x) (Ev.now _))
  rw [filled_zero] at main
  refine Ev.congr (fun k => ?_) main
  unfold laws_toUint64S.f
  rw [if_pos (by omega), if_pos (by omega), Int.toNat_natCast]

/-! to_Bits -/
theorem to_Bits (x : S161) (h : UpL_Bits 1048576 x) : Ev (fun k => laws_toBits.f k x.f0 x.f1) ((cv_Bits x).f0, (cv_Bits x).f1) := by
  unfold UpL_Bits at h
  have i1 := h
  obtain ⟨K1, e1⟩ := to_Uint64S x.f1 i1
  refine ⟨K1, fun k hk => ?_⟩
  have e1 := e1 k (by omega)
  dsimp only at e1 ⊢
  simp only [laws_toBits.f, e1, Option.bind_some]
  all_goals rfl

/-! to_Bar -/
theorem to_Bar (x : S191) (h : UpL_Bar 1048576 x) : Ev (fun k => laws_toBar.f k x.f0 x.f1 x.f2.f0 x.f2.f1) ((cv_Bar x).f0, (cv_Bar x).f1, (cv_Bar x).f2.f0, (cv_Bar x).f2.f1) := by
  unfold UpL_Bar at h
  have i2 := h
  obtain ⟨K2, e2⟩ := to_Bits x.f2 i2
  refine ⟨K2, fun k hk => ?_⟩
  have e2 := e2 k (by omega)
  dsimp only at e2 ⊢
  simp only [laws_toBar.f, e2, Option.bind_some]
  all_goals rfl

/-! to_BarS -/
theorem to_BarS (x : List S191) (h : ((x.length : Int) ≤ 1048576 ∧ ∀ y ∈ x, UpL_Bar 1048576 y)) : Ev (fun k => laws_toBarS.f k x) (x.map cv_Bar) := by
  have hl := h.1
  have main := up_loop x.length (filled (fun i => (cv_Bar (rd_T191 x i))) (List.replicate x.length z152)) (fun k xs i => laws_toBarS.l0 k x xs i)
    (fun i hi r h2 => by
      obtain ⟨K, he⟩ := to_Bar (rd_T191 x (i : Int)) (h.2 _ (rdM_T191 x i hi))
      obtain ⟨K2, h2⟩ := h2
      refine ⟨K + K2 + 1, fun k hk => ?_⟩
      obtain ⟨m, rfl⟩ : ∃ m, k = m + 1 := ⟨k - 1, by omega⟩
      have h2 := h2 m (by omega)
      have he := he m (by omega)
      dsimp only at he h2 ⊢
      rw [← filled_set _ _ (by simpa using hi)] at h2
      simp only [laws_toBarS.l0]
      rw [if_pos (by omega), if_pos (by omega), he]
      simp only [Option.bind_some]
      rw [if_pos (by rw [filled_len _ _ (by simp; omega)]; simp; omega), Int.toNat_natCast, wrap64_id (by omega) (by omega)]
      exact h2)
    (x.map cv_Bar) (Ev.step (f := fun _ => some (x.map cv_Bar)) (fun k => by
      simp only [laws_toBarS.l0]
      rw [if_neg (by omega), filled_all _ _ (by simp)]
      congr 1
      apply List.ext_getElem?
      intro i
      by_cases hi : i < x.length
      · simp [hi, rdE_T191]
      · rw [List.getElem?_eq_none (by first | omega | (simp; omega)), List.getElem?_eq_none (by first | omega | (simp; omega))]) (Ev.now _))
  rw [filled_zero] at main
  refine Ev.congr (fun k => ?_) main
  unfold laws_toBarS.f
  rw [if_pos (by omega), if_pos (by omega), Int.toNat_natCast]

/-! S79 -/
structure S79 where
  f0 : List Int
  f1 : List S152

/-! UpI_Graph -/
def UpI_Graph (c : Int) (x : S79) : Prop := ((x.f0.length : Int) ≤ c) ∧ ((x.f1.length : Int) ≤ c ∧ ∀ y ∈ x.f1, UpI_Bar c y)

/-! cv_Graph -/
def cv_Graph (x : S74) : S79 := ⟨x.f0, (x.f1.map cv_Bar)⟩

/-! upcv_Graph -/
theorem upcv_Graph (c : Int) (x : S74) (h : UpL_Graph c x) : UpI_Graph c (cv_Graph x) := by
  unfold UpL_Graph at h
  unfold UpI_Graph
  obtain ⟨i0, i1⟩ := h
  exact ⟨i0, ⟨by simpa [cv_Graph] using i1.1, fun y hy => by obtain ⟨z, hz, rfl⟩ := List.mem_map.1 hy; exact upcv_Bar c z (i1.2 z hz)⟩⟩

/-! in_Graph -/
theorem in_Graph (x : S74) (h : (x.f0.length ≤ 9223372036854775807 ∧ ∀ y0 ∈ x.f0, (Lit.int .i64 y0).wf = true) ∧ (x.f1.length ≤ 9223372036854775807 ∧ ∀ y0 ∈ x.f1, (Lit.int .i64 y0.f0).wf = true ∧ (Lit.int .i64 y0.f1).wf = true ∧ (Lit.int .i64 y0.f2.f0).wf = true ∧ (y0.f2.f1.length ≤ 9223372036854775807 ∧ ∀ y1 ∈ y0.f2.f1, (Lit.int .u64 y1).wf = true))) : UpL_Graph 9223372036854775807 x := by
  obtain ⟨j0, j1⟩ := h
  unfold UpL_Graph
  exact ⟨(Int.ofNat_le.2 j0.1), ⟨Int.ofNat_le.2 j1.1, fun y hy => in_Bar y (j1.2 y hy)⟩⟩

/-! to_Int64S -/
theorem to_Int64S (x : List Int) (h : ((x.length : Int) ≤ 1048576)) : Ev (fun k => laws_toInt64S.f k x) x := by
  have hl := h
  have main := up_loop x.length (filled (fun i => (rd x i)) (List.replicate x.length 0)) (fun k xs i => laws_toInt64S.l0 k x xs i)
    (fun i hi r h2 => by
      obtain ⟨K2, h2⟩ := h2
      refine ⟨K2 + 1, fun k hk => ?_⟩
      obtain ⟨m, rfl⟩ : ∃ m, k = m + 1 := ⟨k - 1, by omega⟩
      have h2 := h2 m (by omega)
      dsimp only at h2 ⊢
      rw [← filled_set _ _ (by simpa using hi)] at h2
      simp only [laws_toInt64S.l0]
      rw [if_pos (by omega), if_pos (by omega)]
      rw [if_pos (by rw [filled_len _ _ (by simp; omega)]; simp; omega), Int.toNat_natCast, wrap64_id (by omega) (by omega)]
      exact h2)
    x (Ev.step (f := fun _ => some x) (fun k => by
      simp only [laws_toInt64S.l0]
      rw [if_neg (by omega), filled_all _ _ (by simp)]
      congr 1
      exact list_of_rd x) (Ev.now _))
  rw [filled_zero] at main
  refine Ev.congr (fun k => ?_) main
  unfold laws_toInt64S.f
  rw [if_pos (by omega), if_pos (by omega), Int.toNat_natCast]

/-! to_Graph -/
theorem to_Graph (x : S74) (h : UpL_Graph 1048576 x) : Ev (fun k => laws_toGraph.f k x.f0 x.f1) ((cv_Graph x).f0, (cv_Graph x).f1) := by
  unfold UpL_Graph at h
  obtain ⟨i0, i1⟩ := h
  obtain ⟨K0, e0⟩ := to_Int64S x.f0 i0
  obtain ⟨K1, e1⟩ := to_BarS x.f1 i1
  refine ⟨K0 + K1, fun k hk => ?_⟩
  have e0 := e0 k (by omega)
  have e1 := e1 k (by omega)
  dsimp only at e0 e1 ⊢
  simp only [laws_toGraph.f, e0, e1, Option.bind_some]
  all_goals rfl

/-! eq_Uint64S -/
theorem eq_Uint64S (x : List Int) (h : ((x.length : Int) ≤ 1048576)) : Ev (fun k => laws_eqUint64S.f k x x) true := by
  have hl := h
  have main := up_loop x.length (fun _ => ()) (fun k _ i => laws_eqUint64S.l0 k x x i)
    (fun i hi r h2 => by
      obtain ⟨K2, h2⟩ := h2
      refine ⟨K2 + 1, fun k hk => ?_⟩
      obtain ⟨m, rfl⟩ : ∃ m, k = m + 1 := ⟨k - 1, by omega⟩
      have h2 := h2 m (by omega)
      dsimp only at h2 ⊢
      simp only [laws_eqUint64S.l0]
      rw [if_pos (by omega), if_pos (by omega), if_pos (by omega)]
      simp only [if_true]
      rw [wrap64_id (by omega) (by omega)]
      exact h2)
    true (Ev.step (f := fun _ => some true) (fun k => by
      simp only [laws_eqUint64S.l0]
      rw [if_neg (by omega)]) (Ev.now _))
  obtain ⟨K, h⟩ := main
  refine ⟨K, fun k hk => ?_⟩
  have h := h k hk
  dsimp only at h ⊢
  unfold laws_eqUint64S.f
  rw [if_pos rfl]
  exact h

/-! eq_Bits -/
theorem eq_Bits (x : S150) (h : UpI_Bits 1048576 x) : Ev (fun k => laws_eqBits.f k x.f0 x.f1 x.f0 x.f1) true := by
  unfold UpI_Bits at h
  have i1 := h
  obtain ⟨K1, e1⟩ := eq_Uint64S x.f1 i1
  refine ⟨K1, fun k hk => ?_⟩
  have e1 := e1 k (by omega)
  dsimp only at e1 ⊢
  simp only [laws_eqBits.f, e1, Option.bind_some, if_true, ↓reduceIte, bne_self_eq_false, Bool.false_eq_true]

/-! eq_Bar -/
theorem eq_Bar (x : S152) (h : UpI_Bar 1048576 x) : Ev (fun k => laws_eqBar.f k x.f0 x.f1 x.f2.f0 x.f2.f1 x.f0 x.f1 x.f2.f0 x.f2.f1) true := by
  unfold UpI_Bar at h
  have i2 := h
  obtain ⟨K2, e2⟩ := eq_Bits x.f2 i2
  refine ⟨K2, fun k hk => ?_⟩
  have e2 := e2 k (by omega)
  dsimp only at e2 ⊢
  simp only [laws_eqBar.f, e2, Option.bind_some, if_true, ↓reduceIte, bne_self_eq_false, Bool.false_eq_true]

/-! eq_BarS -/
theorem eq_BarS (x : List S152) (h : ((x.length : Int) ≤ 1048576 ∧ ∀ y ∈ x, UpI_Bar 1048576 y)) : Ev (fun k => laws_eqBarS.f k x x) true := by
  have hl := h.1
  have main := up_loop x.length (fun _ => ()) (fun k _ i => laws_eqBarS.l0 k x x i)
    (fun i hi r h2 => by
      obtain ⟨K, he⟩ := eq_Bar (rd_T152 x (i : Int)) (h.2 _ (rdM_T152 x i hi))
      obtain ⟨K2, h2⟩ := h2
      refine ⟨K + K2 + 1, fun k hk => ?_⟩
      obtain ⟨m, rfl⟩ : ∃ m, k = m + 1 := ⟨k - 1, by omega⟩
      have h2 := h2 m (by omega)
      have he := he m (by omega)
      dsimp only at he h2 ⊢
      simp only [laws_eqBarS.l0]
      rw [if_pos (by omega), if_pos (by omega), if_pos (by omega), he]
      simp only [Option.bind_some, if_true, ↓reduceIte]
      rw [wrap64_id (by omega) (by omega)]
      exact h2)
    true (Ev.step (f := fun _ => some true) (fun k => by
      simp only [laws_eqBarS.l0]
      rw [if_neg (by omega)]) (Ev.now _))
  obtain ⟨K, h⟩ := main
  refine ⟨K, fun k hk => ?_⟩
  have h := h k hk
  dsimp only at h ⊢
  unfold laws_eqBarS.f
  rw [if_pos rfl]
  exact h

/-! eq_Int64S -/
theorem eq_Int64S (x : List Int) (h : ((x.length : Int) ≤ 1048576)) : Ev (fun k => laws_eqInt64S.f k x x) true := by
  have hl := h
  have main := up_loop x.length (fun _ => ()) (fun k _ i => laws_eqInt64S.l0 k x x i)
    (fun i hi r h2 => by
      obtain ⟨K2, h2⟩ := h2
      refine ⟨K2 + 1, fun k hk => ?_⟩
      obtain ⟨m, rfl⟩ : ∃ m, k = m + 1 := ⟨k - 1, by omega⟩
      have h2 := h2 m (by omega)
      dsimp only at h2 ⊢
      simp only [laws_eqInt64S.l0]
      rw [if_pos (by omega), if_pos (by omega), if_pos (by omega)]
      simp only [if_true]
      rw [wrap64_id (by omega) (by omega)]
      exact h2)
    true (Ev.step (f := fun _ => some true) (fun k => by
      simp only [laws_eqInt64S.l0]
      rw [if_neg (by omega)]) (Ev.now _))
  obtain ⟨K, h⟩ := main
  refine ⟨K, fun k hk => ?_⟩
  have h := h k hk
  dsimp only at h ⊢
  unfold laws_eqInt64S.f
  rw [if_pos rfl]
  exact h

/-! eq_Graph -/
theorem eq_Graph (x : S79) (h : UpI_Graph 1048576 x) : Ev (fun k => laws_eqGraph.f k x.f0 x.f1 x.f0 x.f1) true := by
  unfold UpI_Graph at h
  obtain ⟨i0, i1⟩ := h
  obtain ⟨K0, e0⟩ := eq_Int64S x.f0 i0
  obtain ⟨K1, e1⟩ := eq_BarS x.f1 i1
  refine ⟨K0 + K1, fun k hk => ?_⟩
  have e0 := e0 k (by omega)
  have e1 := e1 k (by omega)
  dsimp only at e0 e1 ⊢
  simp only [laws_eqGraph.f, e0, e1, Option.bind_some, if_true, ↓reduceIte, bne_self_eq_false, Bool.false_eq_true]

/-! WfI_Bits -/
def WfI_Bits (x : S150) : Prop := (-9223372036854775808 ≤ x.f0 ∧ x.f0 ≤ 9223372036854775807) ∧ (∀ y ∈ x.f1, W64 y)

/-! wf_Bits -/
theorem wf_Bits (x : S161) (h : (Lit.int .i64 x.f0).wf = true ∧ (x.f1.length ≤ 9223372036854775807 ∧ ∀ y0 ∈ x.f1, (Lit.int .u64 y0).wf = true)) : WfI_Bits (cv_Bits x) := by
  obtain ⟨j0, j1⟩ := h
  exact ⟨(wf_i64 j0), (fun a1_ ha1_ => (wf_u64 (j1.2 a1_ ha1_)))⟩

/-! WfI_Bar -/
def WfI_Bar (x : S152) : Prop := (-9223372036854775808 ≤ x.f0 ∧ x.f0 ≤ 9223372036854775807) ∧ (-9223372036854775808 ≤ x.f1 ∧ x.f1 ≤ 9223372036854775807) ∧ WfI_Bits x.f2

/-! wf_Bar -/
theorem wf_Bar (x : S191) (h : (Lit.int .i64 x.f0).wf = true ∧ (Lit.int .i64 x.f1).wf = true ∧ (Lit.int .i64 x.f2.f0).wf = true ∧ (x.f2.f1.length ≤ 9223372036854775807 ∧ ∀ y0 ∈ x.f2.f1, (Lit.int .u64 y0).wf = true)) : WfI_Bar (cv_Bar x) := by
  obtain ⟨j0, j1, j2⟩ := h
  exact ⟨(wf_i64 j0), (wf_i64 j1), (wf_Bits _ j2)⟩

/-! WfI_Graph -/
def WfI_Graph (x : S79) : Prop := (∀ y ∈ x.f0, (-9223372036854775808 ≤ y ∧ y ≤ 9223372036854775807)) ∧ (∀ y ∈ x.f1, WfI_Bar y)

/-! wf_Graph -/
theorem wf_Graph (x : S74) (h : (x.f0.length ≤ 9223372036854775807 ∧ ∀ y0 ∈ x.f0, (Lit.int .i64 y0).wf = true) ∧ (x.f1.length ≤ 9223372036854775807 ∧ ∀ y0 ∈ x.f1, (Lit.int .i64 y0.f0).wf = true ∧ (Lit.int .i64 y0.f1).wf = true ∧ (Lit.int .i64 y0.f2.f0).wf = true ∧ (y0.f2.f1.length ≤ 9223372036854775807 ∧ ∀ y1 ∈ y0.f2.f1, (Lit.int .u64 y1).wf = true))) : WfI_Graph (cv_Graph x) := by
  obtain ⟨j0, j1⟩ := h
  exact ⟨(fun a2_ ha2_ => (wf_i64 (j0.2 a2_ ha2_))), (fun y hy => by obtain ⟨z, hz, rfl⟩ := List.mem_map.1 hy; exact wf_Bar z (j1.2 z hz))⟩

/-! okB -/
noncomputable def okB (w : Int) (l : List Int) : Bool := @decide (Right w l) (Classical.propDecidable _)
theorem okB_true {w : Int} {l : List Int} (h : Right w l) : okB w l = true := by unfold okB; exact @decide_eq_true _ (Classical.propDecidable _) h
theorem okB_false {w : Int} {l : List Int} (h : ¬ Right w l) : okB w l = false := by unfold okB; exact @decide_eq_false _ (Classical.propDecidable _) h
theorem okB_cases (w : Int) (l : List Int) : (okB w l = true ∧ Right w l) ∨ (okB w l = false ∧ ¬ Right w l) := by
  by_cases h : Right w l
  · exact .inl ⟨okB_true h, h⟩
  · exact .inr ⟨okB_false h, h⟩

/-! l1Bit -/
theorem l1Bit_eq (w : Int) (l : List Int) (h : U64s l) (i : Nat) (hi : i < 64 * l.length) (hl : l.length ≤ 1048576) : spec_l1Bit.f w l (i : Int) = some (bitI l i) := by
  unfold spec_l1Bit.f
  rw [tdiv64 i (by omega), utmod64, if_pos (by omega), if_pos (by omega), if_pos (by omega), bit_reads h]
  rcases bitI_01 l i with e | e <;> simp [e]

/-! specBitsOk -/
theorem specBitsOk_l0 (w : Int) (l : List Int) (h : U64s l) (hl : l.length ≤ 1048576) (h1 : 1 ≤ w) (hw : w ≤ 64 * l.length) :
    ∃ b, Ev (fun k => spec_BitsOk.l0 k w w l) b ∧ (b = true ↔ ∀ i : Nat, w ≤ i → bitN l i = false) := by
  rcases find_loop (64 * l.length - w.toNat) (fun i => bitN l (w.toNat + i)) (fun k i => spec_BitsOk.l0 k (w + i) w l) (fun _ => false) true
    (fun i hi hp => Ev.step (f := fun _ => some false) (fun k => by
      simp only [spec_BitsOk.l0]
      rw [wrap64_id (by omega) (by omega), if_pos (by omega), show w + (i : Int) = ((w.toNat + i : Nat) : Int) by omega, l1Bit_eq w l h _ (by omega) hl]
      simp only [Option.bind_some]
      rw [if_neg (by simp only [bitI, hp, if_true]; decide)]) (Ev.now _))
    (fun i hi hp r hr => Ev.step (fun k => by
      simp only [spec_BitsOk.l0]
      rw [wrap64_id (x := 64 * (l.length : Int)) (by omega) (by omega), if_pos (by omega)]
      have e := l1Bit_eq w l h (w.toNat + i) (by omega) hl
      rw [show w + (i : Int) = ((w.toNat + i : Nat) : Int) by omega, e]
      simp only [Option.bind_some]
      rw [if_pos (by simp only [bitI, hp]; rfl), wrap64_id (by omega) (by omega), show ((w.toNat + i : Nat) : Int) + 1 = w + ((i : Int) + 1) by omega]) hr)
    (Ev.step (f := fun _ => some true) (fun k => by
      simp only [spec_BitsOk.l0]
      rw [wrap64_id (by omega) (by omega), if_neg (by omega)]) (Ev.now _)) with ⟨i, hi, hp, _, hr⟩ | ⟨hp, hr⟩
  · refine ⟨false, by simpa using hr, (fun hb => by cases hb), fun hb => ?_⟩
    have := hb (w.toNat + i) (by omega)
    rw [this] at hp; cases hp
  · refine ⟨true, by simpa using hr, fun _ i hi => ?_, fun _ => rfl⟩
    by_cases ho : i < 64 * l.length
    · have := hp (i - w.toNat) (by omega)
      rwa [show w.toNat + (i - w.toNat) = i by omega] at this
    · exact bitN_out (by omega)
theorem specBitsOk_ev (w : Int) (l : List Int) (h : U64s l) (hl : l.length ≤ 1048576) (hw0 : -9223372036854775808 ≤ w) (hw1 : w ≤ 9223372036854775807) : Ev (fun k => spec_BitsOk.f k w l) (okB w l) := by
  by_cases hin : 1 ≤ w ∧ w ≤ 4096
  · have e1 : spec_l1In.f w 1 4096 = some true := by unfold spec_l1In.f; rw [if_pos (by omega), decide_eq_true (by omega)]
    have e2 := fun (_ : True) => words_of w (by omega) (by omega)
    by_cases hlen : (l.length : Int) = (w + 63) / 64
    · obtain ⟨b, hb, hbi⟩ := specBitsOk_l0 w l h hl hin.1 (by omega)
      have : okB w l = b := by
        cases b with
        | true => exact okB_true ⟨hin.1, hin.2, hlen, h, hbi.1 rfl⟩
        | false => exact okB_false fun hr => by have := hbi.2 hr.top; cases this
      rw [this]
      obtain ⟨K, hb⟩ := hb
      refine ⟨K + 1, fun k hk => ?_⟩
      obtain ⟨m, rfl⟩ : ∃ m, k = m + 1 := ⟨k - 1, by omega⟩
      dsimp only
      unfold spec_BitsOk.f
      rw [e1, e2 trivial]
      simp only [Option.bind_some, if_true, spec_BitsOk.j0]
      rw [if_neg (by simp [hlen])]
      exact hb m (by omega)
    · rw [okB_false fun hr => hlen hr.len]
      refine ⟨1, fun k hk => ?_⟩
      obtain ⟨m, rfl⟩ : ∃ m, k = m + 1 := ⟨k - 1, by omega⟩
      dsimp only
      unfold spec_BitsOk.f
      rw [e1, e2 trivial]
      simp only [Option.bind_some, if_true, spec_BitsOk.j0]
      rw [if_pos (by simpa using hlen)]
  · rw [okB_false fun hr => hin ⟨hr.low, hr.high⟩]
    have e1 : spec_l1In.f w 1 4096 = some false := by
      unfold spec_l1In.f
      by_cases h1 : w ≥ 1
      · rw [if_pos h1, decide_eq_false (by omega)]
      · rw [if_neg h1]
    refine ⟨1, fun k hk => ?_⟩
    obtain ⟨m, rfl⟩ : ∃ m, k = m + 1 := ⟨k - 1, by omega⟩
    dsimp only
    unfold spec_BitsOk.f
    rw [e1]
    simp [spec_BitsOk.j0]

/-! implInside -/
theorem inside_eq (a b c : Int) : impl_inside.f a b c = some (decide (b ≤ a ∧ a ≤ c)) := by
  unfold impl_inside.f
  by_cases h1 : b ≤ a
  · rw [if_pos h1]; simp [h1]
  · rw [if_neg h1]; simp [h1]

/-! specIn -/
theorem l1In_eq (a b c : Int) : spec_l1In.f a b c = some (decide (b ≤ a ∧ a ≤ c)) := by
  unfold spec_l1In.f
  by_cases h1 : b ≤ a
  · rw [if_pos h1]; simp [h1]
  · rw [if_neg h1]; simp [h1]

/-! wordsFor -/
theorem wordsFor_eq (w : Int) (h0 : 0 ≤ w) (h1 : w ≤ 1000000000) : impl_wordsFor.f w = some ((w + 63) / 64) := by
  unfold impl_wordsFor.f
  rw [wrap64_id (x := w + 63) (by omega) (by omega), Int.tdiv_eq_ediv_of_nonneg (by omega), wrap64_id (by omega) (by omega)]

/-! implBitsOk -/
theorem implBitsOk_eq (w : Int) (l : List Int) (h : U64s l) (hl : l.length ≤ 1048576) : impl_BitsOk.f w l = some (okB w l) := by
  unfold impl_BitsOk.f
  rw [inside_eq]
  simp only [Option.bind_some]
  by_cases hin : 1 ≤ w ∧ w ≤ 4096
  · rw [if_pos (decide_eq_true hin), wordsFor_eq w (by omega) (by omega)]
    simp only [Option.bind_some]
    by_cases hlen : (l.length : Int) = (w + 63) / 64
    · rw [if_pos hlen, Int.tmod_eq_emod_of_nonneg (by omega)]
      by_cases hm : w % 64 = 0
      · rw [if_pos hm, okB_true ⟨hin.1, hin.2, hlen, h, fun i hi => bitN_out (by omega)⟩]
      · rw [if_neg hm, wrap64_id (x := (l.length : Int) - 1) (by omega) (by omega), if_pos (by omega), if_pos (by omega), if_pos (by omega)]
        congr 1
        have hx := rd_w64 h ((l.length : Int) - 1)
        have hs := shr_w64 hx (n := w % 64) (by omega)
        by_cases hz : shr .u64 (rd l ((l.length : Int) - 1)) (w % 64) = 0
        · rw [hz]
          refine (okB_true ⟨hin.1, hin.2, hlen, h, fun i hi => ?_⟩).symm
          by_cases ho : i < 64 * l.length
          · have h2 := hs.2 (i % 64 - (w % 64).toNat)
            rw [hz] at h2
            have e : i / 64 = l.length - 1 := by omega
            unfold bitN
            rw [e, ← show (w % 64).toNat + (i % 64 - (w % 64).toNat) = i % 64 by omega]
            rw [rd_getD, show ((l.length : Int) - 1).toNat = l.length - 1 by omega] at h2
            rw [← h2]; simp
          · exact bitN_out (by omega)
        · have e : (shr .u64 (rd l ((l.length : Int) - 1)) (w % 64) == 0) = false := by simpa using hz
          rw [e]
          refine (okB_false fun hr => hz ?_).symm
          have h0 : (shr .u64 (rd l ((l.length : Int) - 1)) (w % 64)).toNat = 0 := by
            apply testBit_ext (by have := hs.1; unfold W64 at this; omega) (by decide)
            intro j hj
            rw [hs.2]
            by_cases hb : (w % 64).toNat + j < 64
            · have := hr.top (64 * (l.length - 1) + ((w % 64).toNat + j)) (by omega)
              unfold bitN at this
              rw [show (64 * (l.length - 1) + ((w % 64).toNat + j)) / 64 = l.length - 1 by omega, show (64 * (l.length - 1) + ((w % 64).toNat + j)) % 64 = (w % 64).toNat + j by omega] at this
              rw [rd_getD, show ((l.length : Int) - 1).toNat = l.length - 1 by omega, this]; simp
            · rw [testBit_w64 hx (by omega)]; simp
          have := hs.1.1
          omega
    · rw [if_neg hlen, okB_false fun hr => hlen hr.len]
  · rw [if_neg (by simpa using hin), okB_false fun hr => hin ⟨hr.low, hr.high⟩]

/-! graphOk -/
theorem graph_bar (ws : List Int) (bars : List S152) (v : Nat) (hv : v < bars.length) (hbl : bars.length ≤ 1000) (hws : ws.length ≤ 200) (hu : U64s (rd_T152 bars (v : Int)).f2.f1 ∧ (rd_T152 bars (v : Int)).f2.f1.length ≤ 1048576 ∧ -9223372036854775808 ≤ (rd_T152 bars (v : Int)).f2.f0 ∧ (rd_T152 bars (v : Int)).f2.f0 ≤ 9223372036854775807) :
    ∃ b, impl_barOk.f ws (rd_T152 bars (v : Int)).f0 (rd_T152 bars (v : Int)).f1 (rd_T152 bars (v : Int)).f2.f0 (rd_T152 bars (v : Int)).f2.f1 = some b ∧
      (b = true → ∀ z, Ev (fun k => spec_GraphOk.l1 k (ws.length : Int) ((v + 1 : Nat) : Int) ws bars) z → Ev (fun k => spec_GraphOk.l1 k (ws.length : Int) (v : Int) ws bars) z) ∧
      (b = false → Ev (fun k => spec_GraphOk.l1 k (ws.length : Int) (v : Int) ws bars) false) := by
  obtain ⟨x, hx⟩ : ∃ x, x = rd_T152 bars (v : Int) := ⟨_, rfl⟩
  rw [← hx] at hu ⊢
  obtain ⟨u1, u2, u3, u4⟩ := hu
  obtain ⟨A, hA⟩ : ∃ A, A = x.f0 := ⟨_, rfl⟩
  obtain ⟨B, hB⟩ : ∃ B, B = x.f1 := ⟨_, rfl⟩
  obtain ⟨W, hW⟩ : ∃ W, W = x.f2.f0 := ⟨_, rfl⟩
  obtain ⟨D, hD⟩ : ∃ D, D = x.f2.f1 := ⟨_, rfl⟩
  rw [← hD] at u1 u2
  rw [← hW] at u3 u4
  rw [← hA, ← hB, ← hW, ← hD]
  have hi := implBitsOk_eq W D u1 u2
  obtain ⟨K3, hs⟩ := Ev.binds (specBitsOk_ev W D u1 u2 u3 u4)
  have hw : wrap64 ((ws.length : Int) - 1) = (ws.length : Int) - 1 := wrap64_id (by omega) (by omega)
  have noT : ∀ (P : Prop), ((false : Bool) = true → P) := fun P h => by cases h
  have noF : ∀ (P : Prop), ((true : Bool) = false → P) := fun P h => by cases h
  by_cases cA : 0 ≤ A ∧ A ≤ (ws.length : Int) - 1
  · have dA := decide_eq_true cA
    have p0 : 0 ≤ A := cA.1
    have p1 : A < (ws.length : Int) := by omega
    by_cases cB : B = -1
    · have dB : decide (-1 ≤ B ∧ B ≤ (ws.length : Int) - 1) = true := decide_eq_true (by omega)
      have eAB : (A == B) = false := beq_eq_false_iff_ne.mpr (by omega)
      have nB : ¬ B ≥ 0 := by omega
      have lB : B < 0 := by omega
      rcases okB_cases W D with ⟨e, hr⟩ | ⟨e, hr⟩
      · by_cases cW : W = rd ws A
        · refine ⟨true, ?_, fun _ z hz => ?_, noF _⟩
          · simp only [impl_barOk.f, inside_eq, hw, dA, Option.bind_some, ↓reduceIte, if_pos cB, hi, e, if_pos p0, if_pos p1]
            rw [beq_iff_eq.mpr cW]
          · obtain ⟨K, h⟩ := hz
            refine ⟨K + K3 + 1 + 1 + 1, fun k hk => ?_⟩
            obtain ⟨m, rfl⟩ : ∃ m, k = m + 1 + 1 + 1 := ⟨k - 3, by omega⟩
            have h := h m (by omega)
            simp (disch := omega) only [spec_GraphOk.l1, ← hx, ← hA, ← hB, ← hW, ← hD, ↓if_pos, l1In_eq, hw, dA, dB, Option.bind_some, ↓reduceIte, spec_GraphOk.j3, eAB, Bool.false_eq_true, if_neg nB, spec_GraphOk.j4, if_pos lB, ↓hs, e, if_pos p0, if_pos p1, if_pos cW, wrap_next]
            exact h
        · refine ⟨false, ?_, noT _, fun _ => ⟨K3 + 1 + 1 + 1, fun k hk => ?_⟩⟩
          · simp only [impl_barOk.f, inside_eq, hw, dA, Option.bind_some, ↓reduceIte, if_pos cB, hi, e, if_pos p0, if_pos p1]
            rw [beq_eq_false_iff_ne.mpr cW]
          · obtain ⟨m, rfl⟩ : ∃ m, k = m + 1 + 1 + 1 := ⟨k - 3, by omega⟩
            simp (disch := omega) only [spec_GraphOk.l1, ← hx, ← hA, ← hB, ← hW, ← hD, ↓if_pos, l1In_eq, hw, dA, dB, Option.bind_some, ↓reduceIte, spec_GraphOk.j3, eAB, Bool.false_eq_true, if_neg nB, spec_GraphOk.j4, if_pos lB, ↓hs, e, if_pos p0, if_pos p1, if_neg cW]
      · refine ⟨false, ?_, noT _, fun _ => ⟨K3 + 1 + 1 + 1, fun k hk => ?_⟩⟩
        · simp only [impl_barOk.f, inside_eq, hw, dA, Option.bind_some, ↓reduceIte, if_pos cB, hi, e, Bool.false_eq_true]
        · obtain ⟨m, rfl⟩ : ∃ m, k = m + 1 + 1 + 1 := ⟨k - 3, by omega⟩
          simp (disch := omega) only [spec_GraphOk.l1, ← hx, ← hA, ← hB, ← hW, ← hD, ↓if_pos, l1In_eq, hw, dA, dB, Option.bind_some, ↓reduceIte, spec_GraphOk.j3, eAB, Bool.false_eq_true, if_neg nB, spec_GraphOk.j4, if_pos lB, ↓hs, e]
    · by_cases cI : 0 ≤ B ∧ B ≤ (ws.length : Int) - 1
      · have dI := decide_eq_true cI
        have dB : decide (-1 ≤ B ∧ B ≤ (ws.length : Int) - 1) = true := decide_eq_true (by omega)
        have b0 : 0 ≤ B := cI.1
        have b0' : B ≥ 0 := cI.1
        have b1 : B < (ws.length : Int) := by omega
        have nB : ¬ B < 0 := by omega
        by_cases cE : B = A
        · have eAB : (A == B) = true := beq_iff_eq.mpr cE.symm
          refine ⟨false, ?_, noT _, fun _ => ⟨1 + 1, fun k hk => ?_⟩⟩
          · simp only [impl_barOk.f, inside_eq, hw, dA, dI, Option.bind_some, ↓reduceIte, if_neg cB, if_pos cE]
          · obtain ⟨m, rfl⟩ : ∃ m, k = m + 1 + 1 := ⟨k - 2, by omega⟩
            simp (disch := omega) only [spec_GraphOk.l1, ← hx, ← hA, ← hB, ← hW, ← hD, ↓if_pos, l1In_eq, hw, dA, dB, Option.bind_some, ↓reduceIte, spec_GraphOk.j3, eAB]
        · have eAB : (A == B) = false := beq_eq_false_iff_ne.mpr (fun h => cE h.symm)
          by_cases cW : rd ws B = rd ws A
          · by_cases c0 : W = 0
            · cases hl : ((D.length : Int) == 0) with
              | true =>
                refine ⟨true, ?_, fun _ z hz => ?_, noF _⟩
                · simp only [impl_barOk.f, inside_eq, hw, dA, dI, Option.bind_some, ↓reduceIte, if_neg cB, if_neg cE, if_pos b0, if_pos b1, if_pos p0, if_pos p1, if_pos cW, if_pos c0, hl]
                · obtain ⟨K, h⟩ := hz
                  refine ⟨K + 1 + 1 + 1, fun k hk => ?_⟩
                  obtain ⟨m, rfl⟩ : ∃ m, k = m + 1 + 1 + 1 := ⟨k - 3, by omega⟩
                  have h := h m (by omega)
                  simp (disch := omega) only [spec_GraphOk.l1, ← hx, ← hA, ← hB, ← hW, ← hD, ↓if_pos, l1In_eq, hw, dA, dB, Option.bind_some, ↓reduceIte, spec_GraphOk.j3, eAB, Bool.false_eq_true, if_pos b0', if_pos b0, if_pos b1, if_pos p0, if_pos p1, if_pos cW, spec_l3NoBits.f, if_pos c0, hl, Bool.not_true, spec_GraphOk.j4, if_neg nB, wrap_next]
                  exact h
              | false =>
                refine ⟨false, ?_, noT _, fun _ => ⟨1 + 1 + 1, fun k hk => ?_⟩⟩
                · simp only [impl_barOk.f, inside_eq, hw, dA, dI, Option.bind_some, ↓reduceIte, if_neg cB, if_neg cE, if_pos b0, if_pos b1, if_pos p0, if_pos p1, if_pos cW, if_pos c0, hl]
                · obtain ⟨m, rfl⟩ : ∃ m, k = m + 1 + 1 + 1 := ⟨k - 3, by omega⟩
                  simp (disch := omega) only [spec_GraphOk.l1, ← hx, ← hA, ← hB, ← hW, ← hD, ↓if_pos, l1In_eq, hw, dA, dB, Option.bind_some, ↓reduceIte, spec_GraphOk.j3, eAB, Bool.false_eq_true, if_pos b0', if_pos b0, if_pos b1, if_pos p0, if_pos p1, if_pos cW, spec_l3NoBits.f, if_pos c0, hl, Bool.not_false, spec_GraphOk.j4]
            · refine ⟨false, ?_, noT _, fun _ => ⟨1 + 1 + 1, fun k hk => ?_⟩⟩
              · simp only [impl_barOk.f, inside_eq, hw, dA, dI, Option.bind_some, ↓reduceIte, if_neg cB, if_neg cE, if_pos b0, if_pos b1, if_pos p0, if_pos p1, if_pos cW, if_neg c0]
              · obtain ⟨m, rfl⟩ : ∃ m, k = m + 1 + 1 + 1 := ⟨k - 3, by omega⟩
                simp (disch := omega) only [spec_GraphOk.l1, ← hx, ← hA, ← hB, ← hW, ← hD, ↓if_pos, l1In_eq, hw, dA, dB, Option.bind_some, ↓reduceIte, spec_GraphOk.j3, eAB, Bool.false_eq_true, if_pos b0', if_pos b0, if_pos b1, if_pos p0, if_pos p1, if_pos cW, spec_l3NoBits.f, if_neg c0, Bool.not_false, spec_GraphOk.j4]
          · refine ⟨false, ?_, noT _, fun _ => ⟨1 + 1 + 1, fun k hk => ?_⟩⟩
            · simp only [impl_barOk.f, inside_eq, hw, dA, dI, Option.bind_some, ↓reduceIte, if_neg cB, if_neg cE, if_pos b0, if_pos b1, if_pos p0, if_pos p1, if_neg cW]
            · obtain ⟨m, rfl⟩ : ∃ m, k = m + 1 + 1 + 1 := ⟨k - 3, by omega⟩
              simp (disch := omega) only [spec_GraphOk.l1, ← hx, ← hA, ← hB, ← hW, ← hD, ↓if_pos, l1In_eq, hw, dA, dB, Option.bind_some, ↓reduceIte, spec_GraphOk.j3, eAB, Bool.false_eq_true, if_pos b0', if_pos b0, if_pos b1, if_pos p0, if_pos p1, if_neg cW, spec_GraphOk.j4]
      · have dI := decide_eq_false cI
        have dB : decide (-1 ≤ B ∧ B ≤ (ws.length : Int) - 1) = false := decide_eq_false (by omega)
        refine ⟨false, ?_, noT _, fun _ => ⟨1 + 1, fun k hk => ?_⟩⟩
        · simp only [impl_barOk.f, inside_eq, hw, dA, dI, Option.bind_some, ↓reduceIte, if_neg cB, Bool.false_eq_true]
        · obtain ⟨m, rfl⟩ : ∃ m, k = m + 1 + 1 := ⟨k - 2, by omega⟩
          simp (disch := omega) only [spec_GraphOk.l1, ← hx, ← hA, ← hB, ← hW, ← hD, ↓if_pos, l1In_eq, hw, dA, dB, Option.bind_some, ↓reduceIte, spec_GraphOk.j3, Bool.false_eq_true]
  · have dA := decide_eq_false cA
    refine ⟨false, ?_, noT _, fun _ => ⟨1 + 1, fun k hk => ?_⟩⟩
    · simp only [impl_barOk.f, inside_eq, hw, dA, Option.bind_some, ↓reduceIte, Bool.false_eq_true]
    · obtain ⟨m, rfl⟩ : ∃ m, k = m + 1 + 1 := ⟨k - 2, by omega⟩
      simp (disch := omega) only [spec_GraphOk.l1, ← hx, ← hA, ← hB, ← hW, ← hD, ↓if_pos, l1In_eq, hw, dA, Option.bind_some, ↓reduceIte, spec_GraphOk.j3, Bool.false_eq_true]
theorem graph_bars (ws : List Int) (bars : List S152) (hbl : bars.length ≤ 1000) (hws : ws.length ≤ 200) (hu : ∀ v : Nat, v < bars.length → U64s (rd_T152 bars (v : Int)).f2.f1 ∧ (rd_T152 bars (v : Int)).f2.f1.length ≤ 1048576 ∧ -9223372036854775808 ≤ (rd_T152 bars (v : Int)).f2.f0 ∧ (rd_T152 bars (v : Int)).f2.f0 ≤ 9223372036854775807) :
    ∀ d v, bars.length - v = d → v ≤ bars.length → ∃ r : Int, idxG (impl_GraphOk.p 0 ws) (bars.drop v) (v : Int) = some r ∧ Ev (fun k => spec_GraphOk.l1 k (ws.length : Int) (v : Int) ws bars) (!decide (0 ≤ r)) := by
  intro d
  induction d with
  | zero =>
    intro v hd hv
    refine ⟨-1, by rw [List.drop_eq_nil_of_le (by omega)]; rfl, Ev.step (f := fun _ => some true) (fun k => ?_) (Ev.now _)⟩
    simp (disch := omega) only [spec_GraphOk.l1, ↓if_neg]
  | succ d ih =>
    intro v hd hv
    have hvl : v < bars.length := by omega
    have hdrop : bars.drop v = rd_T152 bars (v : Int) :: bars.drop (v + 1) := by
      rw [List.drop_eq_getElem_cons hvl]
      congr 1
      have := rdG_T152 bars v bars[v] hvl
      rw [← this, List.getD_eq_getElem?_getD, List.getElem?_eq_getElem hvl]
      rfl
    obtain ⟨b, h1, h2, h3⟩ := graph_bar ws bars v hvl hbl hws (hu v hvl)
    rw [hdrop]
    cases b with
    | true =>
      obtain ⟨r, a1, a2⟩ := ih (v + 1) (by omega) (by omega)
      refine ⟨r, ?_, h2 rfl _ a2⟩
      simp only [idxG, impl_GraphOk.p, h1, Option.bind_some, Bool.not_true, Bool.false_eq_true, ↓reduceIte]
      exact a1
    | false =>
      refine ⟨(v : Int), ?_, ?_⟩
      · simp only [idxG, impl_GraphOk.p, h1, Option.bind_some, Bool.not_false, ↓reduceIte]
      · rw [decide_eq_true (show (0 : Int) ≤ (v : Int) by omega)]
        exact h3 rfl
theorem graph_widths (ws : List Int) (bars : List S152) (hws : ws.length ≤ 200) (z : Bool) (hz : Ev (fun k => spec_GraphOk.l1 k (ws.length : Int) 0 ws bars) z) :
    ∀ d i, ws.length - i = d → i ≤ ws.length → (impl_GraphOk.al (ws.drop i) = some true ∧ Ev (fun k => spec_GraphOk.l0 k (ws.length : Int) (i : Int) ws bars) z) ∨ (impl_GraphOk.al (ws.drop i) = some false ∧ Ev (fun k => spec_GraphOk.l0 k (ws.length : Int) (i : Int) ws bars) false) := by
  intro d
  induction d with
  | zero =>
    intro i hd hi
    left
    refine ⟨by rw [List.drop_eq_nil_of_le (by omega)]; rfl, Ev.step (fun k => ?_) hz⟩
    simp (disch := omega) only [spec_GraphOk.l0, ↓if_neg]
  | succ d ih =>
    intro i hd hi
    have hil : i < ws.length := by omega
    have hdrop : ws.drop i = rd ws (i : Int) :: ws.drop (i + 1) := by
      rw [List.drop_eq_getElem_cons hil]
      congr 1
      unfold rd
      rw [List.getD_eq_getElem?_getD, Int.toNat_natCast, List.getElem?_eq_getElem hil]
      rfl
    rw [hdrop]
    by_cases c : 1 ≤ rd ws (i : Int) ∧ rd ws (i : Int) ≤ 4096
    · have dc := decide_eq_true c
      have e : impl_GraphOk.al (rd ws (i : Int) :: ws.drop (i + 1)) = impl_GraphOk.al (ws.drop (i + 1)) := by
        simp only [impl_GraphOk.al, inside_eq, dc, Option.bind_some, ↓reduceIte]
      have s : ∀ y, Ev (fun k => spec_GraphOk.l0 k (ws.length : Int) ((i + 1 : Nat) : Int) ws bars) y → Ev (fun k => spec_GraphOk.l0 k (ws.length : Int) (i : Int) ws bars) y := fun y hy => Ev.step (fun k => by
        simp (disch := omega) only [spec_GraphOk.l0, ↓if_pos, l1In_eq, dc, Option.bind_some, ↓reduceIte, wrap_next]) hy
      rw [e]
      rcases ih (i + 1) (by omega) (by omega) with ⟨a1, a2⟩ | ⟨a1, a2⟩
      · exact .inl ⟨a1, s _ a2⟩
      · exact .inr ⟨a1, s _ a2⟩
    · have dc := decide_eq_false c
      right
      refine ⟨?_, Ev.step (f := fun _ => some false) (fun k => ?_) (Ev.now _)⟩
      · simp only [impl_GraphOk.al, inside_eq, dc, Option.bind_some, ↓reduceIte, Bool.false_eq_true]
      · simp (disch := omega) only [spec_GraphOk.l0, ↓if_pos, l1In_eq, dc, Option.bind_some, ↓reduceIte, Bool.false_eq_true]
theorem graphOk_agree (ws : List Int) (bars : List S152) (U0 : UpI_Graph 1048576 ⟨ws, bars⟩) (W0 : WfI_Graph ⟨ws, bars⟩) : ∃ b, Ev (fun k => spec_GraphOk.f k ws bars) b ∧ Ev (fun k => impl_GraphOk.f k ws bars) b := by
  by_cases c1 : (ws.length : Int) > 200
  · refine ⟨false, ⟨1, fun k hk => ?_⟩, 0, fun k hk => ?_⟩
    · obtain ⟨m, rfl⟩ : ∃ m, k = m + 1 := ⟨k - 1, by omega⟩
      simp only [spec_GraphOk.f, if_pos c1, spec_GraphOk.j0, ↓reduceIte]
    · simp only [impl_GraphOk.f, if_pos c1]
  by_cases c2 : (bars.length : Int) > 1000
  · have d2 := decide_eq_true c2
    refine ⟨false, ⟨1, fun k hk => ?_⟩, 0, fun k hk => ?_⟩
    · obtain ⟨m, rfl⟩ : ∃ m, k = m + 1 := ⟨k - 1, by omega⟩
      simp only [spec_GraphOk.f, if_neg c1, spec_GraphOk.j0, d2, ↓reduceIte]
    · simp only [impl_GraphOk.f, if_neg c1, if_pos c2]
  have d2 := decide_eq_false c2
  have hu : ∀ v : Nat, v < bars.length → U64s (rd_T152 bars (v : Int)).f2.f1 ∧ (rd_T152 bars (v : Int)).f2.f1.length ≤ 1048576 ∧ -9223372036854775808 ≤ (rd_T152 bars (v : Int)).f2.f0 ∧ (rd_T152 bars (v : Int)).f2.f0 ≤ 9223372036854775807 := fun v hv => by
    rw [← rdG_T152 bars v (rd_T152 bars (v : Int)) hv, List.getD_eq_getElem?_getD, List.getElem?_eq_getElem hv]
    have w := W0.2 bars[v] (List.getElem_mem hv)
    have u := U0.2.2 bars[v] (List.getElem_mem hv)
    have u : ((bars[v]).f2.f1.length : Int) ≤ 1048576 := u
    exact ⟨w.2.2.2, by simp only [Option.getD_some]; omega, w.2.2.1.1, w.2.2.1.2⟩
  obtain ⟨r, a1, a2⟩ := graph_bars ws bars (by omega) (by omega) hu bars.length 0 (by omega) (by omega)
  rw [List.drop_zero] at a1
  have a1 : idxG (impl_GraphOk.p 0 ws) bars 0 = some r := a1
  have e : ∀ k, impl_GraphOk.p k ws = impl_GraphOk.p 0 ws := fun k => rfl
  have hw := graph_widths ws bars (by omega) _ a2 ws.length 0 (by omega) (by omega)
  rw [List.drop_zero] at hw
  have s1 : ∀ y, Ev (fun k => spec_GraphOk.l0 k (ws.length : Int) ((0 : Nat) : Int) ws bars) y → Ev (fun k => spec_GraphOk.f k ws bars) y := fun y hy => by
    obtain ⟨K, h⟩ := hy
    refine ⟨K + 1, fun k hk => ?_⟩
    obtain ⟨m, rfl⟩ : ∃ m, k = m + 1 := ⟨k - 1, by omega⟩
    have h := h m (by omega)
    simp only [spec_GraphOk.f, if_neg c1, spec_GraphOk.j0, d2, ↓reduceIte, Bool.false_eq_true]
    exact h
  rcases hw with ⟨b1, b2⟩ | ⟨b1, b2⟩
  · exact ⟨_, s1 _ b2, 0, fun k hk => by simp only [impl_GraphOk.f, if_neg c1, if_neg c2, b1, Option.bind_some, ↓reduceIte, e, a1]⟩
  · exact ⟨_, s1 _ b2, 0, fun k hk => by simp only [impl_GraphOk.f, if_neg c1, if_neg c2, b1, Option.bind_some, ↓reduceIte, Bool.false_eq_true]⟩
-- SAYS: The program's GraphOk answers as the reference's GraphOk does, for all arguments.
theorem FnExactGraphOk (l0_0 : List Int) (l0_1 : List S191) (q0_0 : ∀ x ∈ l0_0, (Lit.int .i64 x).wf = true) (hl0_0 : l0_0.length ≤ 9223372036854775807) (q0_1 : ∀ x ∈ l0_1, (Lit.int .i64 x.f0).wf = true ∧ (Lit.int .i64 x.f1).wf = true ∧ (Lit.int .i64 x.f2.f0).wf = true ∧ (x.f2.f1.length ≤ 9223372036854775807 ∧ ∀ y0 ∈ x.f2.f1, (Lit.int .u64 y0).wf = true)) (hl0_1 : l0_1.length ≤ 9223372036854775807) : ∃ k, laws_FnExactGraphOk.f k l0_0 l0_1 = some true := by
  obtain ⟨r0, g0, hb0⟩ := sz_Graph (⟨l0_0, l0_1⟩ : S74) 1048576 (in_Graph (⟨l0_0, l0_1⟩ : S74) ⟨(And.intro hl0_0 q0_0), (And.intro hl0_1 q0_1)⟩) (by omega) (by omega)
  obtain ⟨Ks0, s0⟩ := Ev.binds (g0)
  try dsimp only [cv_Graph] at s0
  rcases hb0 with hneg | ⟨p0, z0, u0⟩
  · have c0 := eq_true hneg
    exact ⟨Ks0 + 1 + 1 + 1 + 1, by simp (disch := omega) only [laws_FnExactGraphOk.f, ↓s0, ↓reduceIte, c0]⟩
  have c0 := eq_false (show ¬ r0 < 0 by omega)
  have U0 : UpI_Graph 1048576 ((cv_Graph (⟨l0_0, l0_1⟩ : S74))) := (upcv_Graph _ _ u0)
  have W0 : WfI_Graph ((cv_Graph (⟨l0_0, l0_1⟩ : S74))) := wf_Graph (⟨l0_0, l0_1⟩ : S74) ⟨(And.intro hl0_0 q0_0), (And.intro hl0_1 q0_1)⟩
  obtain ⟨y0, e1, e2⟩ := graphOk_agree l0_0 ((l0_1.map cv_Bar)) U0 W0
  obtain ⟨Kt0, t0⟩ := Ev.binds (to_Graph (⟨l0_0, l0_1⟩ : S74) u0)
  try dsimp only [cv_Graph] at t0
  obtain ⟨Khs, hs⟩ := Ev.binds (e1)
  obtain ⟨Khi, hi⟩ := Ev.binds (e2)
  obtain ⟨Ke0_, e0_⟩ := Ev.binds (eq_Graph ((cv_Graph (⟨l0_0, l0_1⟩ : S74))) U0)
  try dsimp only [cv_Graph] at e0_
  exact ⟨Ks0 + Kt0 + Khs + Khi + Ke0_ + 1 + 1 + 1 + 1, by simp (disch := omega) only [laws_FnExactGraphOk.f, ↓s0, ↓t0, ↓hs, ↓hi, ↓e0_, ↓reduceIte, c0, bne_self_eq_false, Bool.false_eq_true, Bool.not_true, Bool.not_false]⟩

end Go.Proofs.Ytkjlplcdjdenkaa.Pure
