/- The program's ClassAt answers as the reference's ClassAt does, for all arguments. -/
import Derived.Test.YtkjlplcdjdenkaaPFnExactClassAtx4
import Derived.Test.YtkjlplcdjdenkaaBits
import Derived.Test.YtkjlplcdjdenkaaLoops
namespace Go.Proofs.Ytkjlplcdjdenkaa.Pure
open Go Go.RowKit Go.Proofs.Ytkjlplcdjdenkaa.PFnExactClassAt Go.Proofs.YtkjlplcdjdenkaaW.PrintWords Go.Proofs.YtkjlplcdjdenkaaW.PrintLast Go.Proofs.YtkjlplcdjdenkaaW.PrintMore Go.Proofs.Ytkjlplcdjdenkaa.BitsLib Go.Proofs.Ytkjlplcdjdenkaa.Loops
set_option linter.unusedVariables false
set_option linter.unusedSimpArgs false
set_option maxRecDepth 4000

/-! wrap_next -/
theorem wrap_next (i : Nat) (h : i < 4611686018427387904) : wrap64 ((i : Int) + 1) = ((i + 1 : Nat) : Int) := by
  rw [wrap64_id (by omega) (by omega)]; rfl

/-! szn_out -/
theorem szn_out (n : Nat) (left : Int) (hn : (n : Int) ≤ 9223372036854775807) (h0 : 0 ≤ left) (h1 : left ≤ 1048576) :
    ∃ r, (True → wrap64 (left - (n : Int)) = r) ∧ (r < 0 ∨ (0 ≤ r ∧ r ≤ left ∧ (n : Int) ≤ 1048576)) := by
  refine ⟨left - (n : Int), fun _ => wrap64_id (by omega) (by omega), ?_⟩
  by_cases c : left - (n : Int) < 0
  · exact .inl c
  · exact .inr (by omega)

/-! rdE_L1 -/
theorem rdE_L1 (l : List (List Int)) (i : Nat) (h : i < l.length) : rd_L1 l (i : Int) = l[i] := by
  unfold rd_L1
  rw [List.getD_eq_getElem?_getD, Int.toNat_natCast, List.getElem?_eq_getElem h]; rfl
theorem rdM_L1 (l : List (List Int)) (i : Nat) (h : i < l.length) : rd_L1 l (i : Int) ∈ l := by rw [rdE_L1 l i h]; exact List.getElem_mem h

/-! UpL_Bits -/
def UpL_Bits (c : Int) (x : S161) : Prop := ((x.f1.length : Int) ≤ c)

/-! sz_Uint64S -/
theorem sz_Uint64S (x : List Int) (left : Int) (hin : ((x.length : Int) ≤ 9223372036854775807)) (h0 : 0 ≤ left) (h1 : left ≤ 1048576) :
    ∃ r, Ev (fun k => laws_szUint64S.f x left) r ∧ (r < 0 ∨ (0 ≤ r ∧ r ≤ left ∧ ((x.length : Int) ≤ 1048576))) := by
  obtain ⟨r, hr, hb⟩ := szn_out x.length left hin h0 h1
  rcases hb with c | ⟨p0, q0, u0⟩
  · exact ⟨-1, ⟨0, fun k _ => by dsimp only; unfold laws_szUint64S.f; rw [hr trivial, if_pos c]⟩, .inl (by omega)⟩
  · exact ⟨r, ⟨0, fun k _ => by dsimp only; unfold laws_szUint64S.f; rw [hr trivial, if_neg (by omega)]⟩, .inr ⟨p0, q0, u0⟩⟩

/-! sz_Bits -/
theorem sz_Bits (x : S161) (left : Int) (hin : UpL_Bits 9223372036854775807 x) (h0 : 0 ≤ left) (h1 : left ≤ 1048576) :
    ∃ r, Ev (fun k => laws_szBits.f x.f0 x.f1 left) r ∧ (r < 0 ∨ (0 ≤ r ∧ r ≤ left ∧ UpL_Bits 1048576 x)) := by
  unfold UpL_Bits at hin
  have i1 := hin
  obtain ⟨r1, ⟨K1, e1⟩, hb1⟩ := sz_Uint64S x.f1 left i1 (by omega) (by omega)
  rcases hb1 with c1 | ⟨p1, q1, u1⟩
  · exact ⟨-1, ⟨K1, fun k hk => by have e1 := e1 k (by omega); dsimp only at e1 ⊢; unfold laws_szBits.f; rw [e1]; simp only [Option.bind_some]; rw [if_pos c1]⟩, .inl (by omega)⟩
  exact ⟨r1, ⟨K1, fun k hk => by have e1 := e1 k (by omega); dsimp only at e1 ⊢; unfold laws_szBits.f; rw [e1]; simp only [Option.bind_some]; rw [if_neg (by omega)]⟩, .inr ⟨by omega, by omega, u1⟩⟩

/-! UpL_Class -/
def UpL_Class (c : Int) (x : S203) : Prop := ((x.f0.length : Int) ≤ c) ∧ UpL_Bits c x.f2

/-! rdE_T203 -/
theorem rdE_T203 (l : List S203) (i : Nat) (h : i < l.length) : rd_T203 l (i : Int) = l[i] := by
  unfold rd_T203
  rw [List.getD_eq_getElem?_getD, Int.toNat_natCast, List.getElem?_eq_getElem h]; rfl
theorem rdM_T203 (l : List S203) (i : Nat) (h : i < l.length) : rd_T203 l (i : Int) ∈ l := by rw [rdE_T203 l i h]; exact List.getElem_mem h

/-! sz_Int64S -/
theorem sz_Int64S (x : List Int) (left : Int) (hin : ((x.length : Int) ≤ 9223372036854775807)) (h0 : 0 ≤ left) (h1 : left ≤ 1048576) :
    ∃ r, Ev (fun k => laws_szInt64S.f x left) r ∧ (r < 0 ∨ (0 ≤ r ∧ r ≤ left ∧ ((x.length : Int) ≤ 1048576))) := by
  obtain ⟨r, hr, hb⟩ := szn_out x.length left hin h0 h1
  rcases hb with c | ⟨p0, q0, u0⟩
  · exact ⟨-1, ⟨0, fun k _ => by dsimp only; unfold laws_szInt64S.f; rw [hr trivial, if_pos c]⟩, .inl (by omega)⟩
  · exact ⟨r, ⟨0, fun k _ => by dsimp only; unfold laws_szInt64S.f; rw [hr trivial, if_neg (by omega)]⟩, .inr ⟨p0, q0, u0⟩⟩

/-! sz_Class -/
theorem sz_Class (x : S203) (left : Int) (hin : UpL_Class 9223372036854775807 x) (h0 : 0 ≤ left) (h1 : left ≤ 1048576) :
    ∃ r, Ev (fun k => laws_szClass.f x.f0 x.f1 x.f2.f0 x.f2.f1 left) r ∧ (r < 0 ∨ (0 ≤ r ∧ r ≤ left ∧ UpL_Class 1048576 x)) := by
  unfold UpL_Class at hin
  obtain ⟨i0, i2⟩ := hin
  obtain ⟨r0, ⟨K0, e0⟩, hb0⟩ := sz_Int64S x.f0 left i0 (by omega) (by omega)
  rcases hb0 with c0 | ⟨p0, q0, u0⟩
  · exact ⟨-1, ⟨K0, fun k hk => by have e0 := e0 k (by omega); dsimp only at e0 ⊢; unfold laws_szClass.f; rw [e0]; simp only [Option.bind_some]; rw [if_pos c0]⟩, .inl (by omega)⟩
  obtain ⟨r2, ⟨K2, e2⟩, hb2⟩ := sz_Bits x.f2 r0 i2 (by omega) (by omega)
  rcases hb2 with c2 | ⟨p2, q2, u2⟩
  · exact ⟨-1, ⟨K0 + K2, fun k hk => by have e0 := e0 k (by omega); have e2 := e2 k (by omega); dsimp only at e0 e2 ⊢; unfold laws_szClass.f; rw [e0]; simp only [Option.bind_some]; rw [if_neg (by omega)]; rw [e2]; simp only [Option.bind_some]; rw [if_pos c2]⟩, .inl (by omega)⟩
  exact ⟨r2, ⟨K0 + K2, fun k hk => by have e0 := e0 k (by omega); have e2 := e2 k (by omega); dsimp only at e0 e2 ⊢; unfold laws_szClass.f; rw [e0]; simp only [Option.bind_some]; rw [if_neg (by omega)]; rw [e2]; simp only [Option.bind_some]; rw [if_neg (by omega)]⟩, .inr ⟨by omega, by omega, ⟨u0, u2⟩⟩⟩

/-! sz_ClassS -/
theorem sz_ClassS (x : List S203) (left : Int) (hin : ((x.length : Int) ≤ 9223372036854775807 ∧ ∀ y ∈ x, UpL_Class 9223372036854775807 y)) (h0 : 0 ≤ left) (h1 : left ≤ 1048576) :
    ∃ r, Ev (fun k => laws_szClassS.f k x left) r ∧ (r < 0 ∨ (0 ≤ r ∧ r ≤ left ∧ ((x.length : Int) ≤ 1048576 ∧ ∀ y ∈ x, UpL_Class 1048576 y))) := by
  obtain ⟨hl, hx⟩ := hin
  obtain ⟨r0, hr0, hb0⟩ := szn_out x.length left hl h0 h1
  rcases hb0 with c | ⟨p0, q0, u0⟩
  · exact ⟨-1, ⟨0, fun k _ => by dsimp only; unfold laws_szClassS.f; rw [hr0 trivial, if_pos c]⟩, .inl (by omega)⟩
  · have main : ∀ d i, x.length - i = d → i ≤ x.length → ∀ lf, 0 ≤ lf → lf ≤ left → ∃ r, Ev (fun k => laws_szClassS.l0 k x lf (i : Int)) r ∧ (r < 0 ∨ (0 ≤ r ∧ r ≤ lf ∧ ∀ j : Nat, i ≤ j → j < x.length → UpL_Class 1048576 ((rd_T203 x (j : Int))))) := by
      intro d
      induction d with
      | zero =>
        intro i hd hi lf g0 g1
        exact ⟨lf, Ev.step (f := fun _ => some lf) (fun k => by simp only [laws_szClassS.l0]; rw [if_neg (by omega)]) (Ev.now _), .inr ⟨g0, Int.le_refl _, fun j g2 g3 => absurd g3 (by omega)⟩⟩
      | succ d ih =>
        intro i hd hi lf g0 g1
        have hil : i < x.length := by omega
        obtain ⟨r, ⟨K, hr⟩, hrb⟩ := sz_Class (rd_T203 x (i : Int)) lf (hx _ (rdM_T203 x i hil)) g0 (by omega)
        rcases hrb with hneg | ⟨p1, p2, p3⟩
        · refine ⟨-1, ⟨K + 1, fun k hk => ?_⟩, .inl (by omega)⟩
          obtain ⟨m, rfl⟩ : ∃ m, k = m + 1 := ⟨k - 1, by omega⟩
          have hr := hr m (by omega)
          dsimp only at hr ⊢
          simp only [laws_szClassS.l0]
          rw [if_pos (by omega), if_pos (by omega), hr]
          simp only [Option.bind_some]
          rw [if_pos hneg]
        · obtain ⟨r2, ⟨K2, h2⟩, hb2⟩ := ih (i + 1) (by omega) (by omega) r p1 (by omega)
          refine ⟨r2, ⟨K + K2 + 1, fun k hk => ?_⟩, ?_⟩
          · obtain ⟨m, rfl⟩ : ∃ m, k = m + 1 := ⟨k - 1, by omega⟩
            have hr := hr m (by omega)
            have h2 := h2 m (by omega)
            dsimp only at hr h2 ⊢
            simp only [laws_szClassS.l0]
            rw [if_pos (by omega), if_pos (by omega), hr]
            simp only [Option.bind_some]
            rw [if_neg (by omega), wrap_next i (by omega)]
            exact h2
          · rcases hb2 with hb2 | ⟨s0, s1, s2⟩
            · exact .inl hb2
            · refine .inr ⟨s0, by omega, fun j g2 g3 => ?_⟩
              by_cases e : j = i
              · rw [e]; exact p3
              · exact s2 j (by omega) g3
    obtain ⟨r, ⟨K, hr⟩, hb⟩ := main x.length 0 (by omega) (by omega) r0 p0 q0
    refine ⟨r, ⟨K, fun k hk => ?_⟩, ?_⟩
    · have hr := hr k hk
      dsimp only at hr ⊢
      unfold laws_szClassS.f
      rw [hr0 trivial, if_neg (by omega)]
      exact hr
    · rcases hb with hb | ⟨s0, s1, s2⟩
      · exact .inl hb
      · refine .inr ⟨s0, by omega, by omega, fun y hy => ?_⟩
        obtain ⟨j, hjl, rfl⟩ := List.getElem_of_mem hy
        have := s2 j (by omega) hjl
        rwa [rdE_T203 x j hjl] at this

/-! S61 -/
structure S61 where
  f0 : List (List Int)

/-! UpL_Cuts -/
def UpL_Cuts (c : Int) (x : S61) : Prop := ((x.f0.length : Int) ≤ c ∧ ∀ y ∈ x.f0, ((y.length : Int) ≤ c))

/-! S101 -/
structure S101 where
  f0 : S61
  f1 : List S203
  f2 : List Int

/-! UpL_Classes -/
def UpL_Classes (c : Int) (x : S101) : Prop := UpL_Cuts c x.f0 ∧ ((x.f1.length : Int) ≤ c ∧ ∀ y ∈ x.f1, UpL_Class c y) ∧ ((x.f2.length : Int) ≤ c)

/-! sz_Int64SS -/
theorem sz_Int64SS (x : List (List Int)) (left : Int) (hin : ((x.length : Int) ≤ 9223372036854775807 ∧ ∀ y ∈ x, ((y.length : Int) ≤ 9223372036854775807))) (h0 : 0 ≤ left) (h1 : left ≤ 1048576) :
    ∃ r, Ev (fun k => laws_szInt64SS.f k x left) r ∧ (r < 0 ∨ (0 ≤ r ∧ r ≤ left ∧ ((x.length : Int) ≤ 1048576 ∧ ∀ y ∈ x, ((y.length : Int) ≤ 1048576)))) := by
  obtain ⟨hl, hx⟩ := hin
  obtain ⟨r0, hr0, hb0⟩ := szn_out x.length left hl h0 h1
  rcases hb0 with c | ⟨p0, q0, u0⟩
  · exact ⟨-1, ⟨0, fun k _ => by dsimp only; unfold laws_szInt64SS.f; rw [hr0 trivial, if_pos c]⟩, .inl (by omega)⟩
  · have main : ∀ d i, x.length - i = d → i ≤ x.length → ∀ lf, 0 ≤ lf → lf ≤ left → ∃ r, Ev (fun k => laws_szInt64SS.l0 k x lf (i : Int)) r ∧ (r < 0 ∨ (0 ≤ r ∧ r ≤ lf ∧ ∀ j : Nat, i ≤ j → j < x.length → (((rd_L1 x (j : Int)).length : Int) ≤ 1048576))) := by
      intro d
      induction d with
      | zero =>
        intro i hd hi lf g0 g1
        exact ⟨lf, Ev.step (f := fun _ => some lf) (fun k => by simp only [laws_szInt64SS.l0]; rw [if_neg (by omega)]) (Ev.now _), .inr ⟨g0, Int.le_refl _, fun j g2 g3 => absurd g3 (by omega)⟩⟩
      | succ d ih =>
        intro i hd hi lf g0 g1
        have hil : i < x.length := by omega
        obtain ⟨r, ⟨K, hr⟩, hrb⟩ := sz_Int64S (rd_L1 x (i : Int)) lf (hx _ (rdM_L1 x i hil)) g0 (by omega)
        rcases hrb with hneg | ⟨p1, p2, p3⟩
        · refine ⟨-1, ⟨K + 1, fun k hk => ?_⟩, .inl (by omega)⟩
          obtain ⟨m, rfl⟩ : ∃ m, k = m + 1 := ⟨k - 1, by omega⟩
          have hr := hr m (by omega)
          dsimp only at hr ⊢
          simp only [laws_szInt64SS.l0]
          rw [if_pos (by omega), if_pos (by omega), hr]
          simp only [Option.bind_some]
          rw [if_pos hneg]
        · obtain ⟨r2, ⟨K2, h2⟩, hb2⟩ := ih (i + 1) (by omega) (by omega) r p1 (by omega)
          refine ⟨r2, ⟨K + K2 + 1, fun k hk => ?_⟩, ?_⟩
          · obtain ⟨m, rfl⟩ : ∃ m, k = m + 1 := ⟨k - 1, by omega⟩
            have hr := hr m (by omega)
            have h2 := h2 m (by omega)
            dsimp only at hr h2 ⊢
            simp only [laws_szInt64SS.l0]
            rw [if_pos (by omega), if_pos (by omega), hr]
            simp only [Option.bind_some]
            rw [if_neg (by omega), wrap_next i (by omega)]
            exact h2
          · rcases hb2 with hb2 | ⟨s0, s1, s2⟩
            · exact .inl hb2
            · refine .inr ⟨s0, by omega, fun j g2 g3 => ?_⟩
              by_cases e : j = i
              · rw [e]; exact p3
              · exact s2 j (by omega) g3
    obtain ⟨r, ⟨K, hr⟩, hb⟩ := main x.length 0 (by omega) (by omega) r0 p0 q0
    refine ⟨r, ⟨K, fun k hk => ?_⟩, ?_⟩
    · have hr := hr k hk
      dsimp only at hr ⊢
      unfold laws_szInt64SS.f
      rw [hr0 trivial, if_neg (by omega)]
      exact hr
    · rcases hb with hb | ⟨s0, s1, s2⟩
      · exact .inl hb
      · refine .inr ⟨s0, by omega, by omega, fun y hy => ?_⟩
        obtain ⟨j, hjl, rfl⟩ := List.getElem_of_mem hy
        have := s2 j (by omega) hjl
        rwa [rdE_L1 x j hjl] at this

/-! sz_Cuts -/
theorem sz_Cuts (x : S61) (left : Int) (hin : UpL_Cuts 9223372036854775807 x) (h0 : 0 ≤ left) (h1 : left ≤ 1048576) :
    ∃ r, Ev (fun k => laws_szCuts.f k x.f0 left) r ∧ (r < 0 ∨ (0 ≤ r ∧ r ≤ left ∧ UpL_Cuts 1048576 x)) := by
  unfold UpL_Cuts at hin
  have i0 := hin
  obtain ⟨r0, ⟨K0, e0⟩, hb0⟩ := sz_Int64SS x.f0 left i0 (by omega) (by omega)
  rcases hb0 with c0 | ⟨p0, q0, u0⟩
  · exact ⟨-1, ⟨K0, fun k hk => by have e0 := e0 k (by omega); dsimp only at e0 ⊢; unfold laws_szCuts.f; rw [e0]; simp only [Option.bind_some]; rw [if_pos c0]⟩, .inl (by omega)⟩
  exact ⟨r0, ⟨K0, fun k hk => by have e0 := e0 k (by omega); dsimp only at e0 ⊢; unfold laws_szCuts.f; rw [e0]; simp only [Option.bind_some]; rw [if_neg (by omega)]⟩, .inr ⟨by omega, by omega, u0⟩⟩

/-! sz_Classes -/
theorem sz_Classes (x : S101) (left : Int) (hin : UpL_Classes 9223372036854775807 x) (h0 : 0 ≤ left) (h1 : left ≤ 1048576) :
    ∃ r, Ev (fun k => laws_szClasses.f k x.f0.f0 x.f1 x.f2 left) r ∧ (r < 0 ∨ (0 ≤ r ∧ r ≤ left ∧ UpL_Classes 1048576 x)) := by
  unfold UpL_Classes at hin
  obtain ⟨i0, i1, i2⟩ := hin
  obtain ⟨r0, ⟨K0, e0⟩, hb0⟩ := sz_Cuts x.f0 left i0 (by omega) (by omega)
  rcases hb0 with c0 | ⟨p0, q0, u0⟩
  · exact ⟨-1, ⟨K0, fun k hk => by have e0 := e0 k (by omega); dsimp only at e0 ⊢; unfold laws_szClasses.f; rw [e0]; simp only [Option.bind_some]; rw [if_pos c0]⟩, .inl (by omega)⟩
  obtain ⟨r1, ⟨K1, e1⟩, hb1⟩ := sz_ClassS x.f1 r0 i1 (by omega) (by omega)
  rcases hb1 with c1 | ⟨p1, q1, u1⟩
  · exact ⟨-1, ⟨K0 + K1, fun k hk => by have e0 := e0 k (by omega); have e1 := e1 k (by omega); dsimp only at e0 e1 ⊢; unfold laws_szClasses.f; rw [e0]; simp only [Option.bind_some]; rw [if_neg (by omega)]; rw [e1]; simp only [Option.bind_some]; rw [if_pos c1]⟩, .inl (by omega)⟩
  obtain ⟨r2, ⟨K2, e2⟩, hb2⟩ := sz_Int64S x.f2 r1 i2 (by omega) (by omega)
  rcases hb2 with c2 | ⟨p2, q2, u2⟩
  · exact ⟨-1, ⟨K0 + K1 + K2, fun k hk => by have e0 := e0 k (by omega); have e1 := e1 k (by omega); have e2 := e2 k (by omega); dsimp only at e0 e1 e2 ⊢; unfold laws_szClasses.f; rw [e0]; simp only [Option.bind_some]; rw [if_neg (by omega)]; rw [e1]; simp only [Option.bind_some]; rw [if_neg (by omega)]; rw [e2]; simp only [Option.bind_some]; rw [if_pos c2]⟩, .inl (by omega)⟩
  exact ⟨r2, ⟨K0 + K1 + K2, fun k hk => by have e0 := e0 k (by omega); have e1 := e1 k (by omega); have e2 := e2 k (by omega); dsimp only at e0 e1 e2 ⊢; unfold laws_szClasses.f; rw [e0]; simp only [Option.bind_some]; rw [if_neg (by omega)]; rw [e1]; simp only [Option.bind_some]; rw [if_neg (by omega)]; rw [e2]; simp only [Option.bind_some]; rw [if_neg (by omega)]⟩, .inr ⟨by omega, by omega, ⟨u0, u1, u2⟩⟩⟩

/-! UpI_Bits -/
def UpI_Bits (c : Int) (x : S150) : Prop := ((x.f1.length : Int) ≤ c)

/-! cv_Bits -/
def cv_Bits (x : S161) : S150 := ⟨x.f0, x.f1⟩

/-! upcv_Bits -/
theorem upcv_Bits (c : Int) (x : S161) (h : UpL_Bits c x) : UpI_Bits c (cv_Bits x) := by
  unfold UpL_Bits at h
  unfold UpI_Bits
  have i1 := h
  exact i1

/-! in_Bits -/
theorem in_Bits (x : S161) (h : (Lit.int .i64 x.f0).wf = true ∧ (x.f1.length ≤ 9223372036854775807 ∧ ∀ y0 ∈ x.f1, (Lit.int .u64 y0).wf = true)) : UpL_Bits 9223372036854775807 x := by
  obtain ⟨j0, j1⟩ := h
  unfold UpL_Bits
  exact (Int.ofNat_le.2 j1.1)

/-! to_Uint64S -/
theorem to_Uint64S (x : List Int) (h : ((x.length : Int) ≤ 1048576)) : Ev (fun k => laws_toUint64S.f k x) x := by
  have hl := h
  have main := up_loop x.length (filled (fun i => (rd x i)) (List.replicate x.length 0)) (fun k xs i => laws_toUint64S.l0 k x xs i)
    (fun i hi r h2 => by
      obtain ⟨K2, h2⟩ := h2
      refine ⟨K2 + 1, fun k hk => ?_⟩
      obtain ⟨m, rfl⟩ : ∃ m, k = m + 1 := ⟨k - 1, by omega⟩
      have h2 := h2 m (by omega)
      dsimp only at h2 ⊢
      rw [← filled_set _ _ (by simpa using hi)] at h2
      simp only [laws_toUint64S.l0]
      rw [if_pos (by omega), if_pos (by omega)]
      rw [if_pos (by rw [filled_len _ _ (by simp; omega)]; simp; omega), Int.toNat_natCast, wrap64_id (by omega) (by omega)]
      exact h2)
    x (Ev.step (f := fun _ => some x) (fun k => by
      simp only [laws_toUint64S.l0]
      rw [if_neg (by omega), filled_all _ _ (by simp)]
      congr 1
      exact list_of_rd x) (Ev.now _))
  rw [filled_zero] at main
  refine Ev.congr (fun k => ?_) main
  unfold laws_toUint64S.f
  rw [if_pos (by omega), if_pos (by omega), Int.toNat_natCast]

/-! to_Bits -/
theorem to_Bits (x : S161) (h : UpL_Bits 1048576 x) : Ev (fun k => laws_toBits.f k x.f0 x.f1) ((cv_Bits x).f0, (cv_Bits x).f1) := by
  unfold UpL_Bits at h
  have i1 := h
  obtain ⟨K1, e1⟩ := to_Uint64S x.f1 i1
  refine ⟨K1, fun k hk => ?_⟩
  have e1 := e1 k (by omega)
  dsimp only at e1 ⊢
  simp only [laws_toBits.f, e1, Option.bind_some]
  all_goals rfl

/-! UpI_Class -/
def UpI_Class (c : Int) (x : S166) : Prop := ((x.f0.length : Int) ≤ c) ∧ UpI_Bits c x.f2

/-! rdE_T166 -/
theorem rdE_T166 (l : List S166) (i : Nat) (h : i < l.length) : rd_T166 l (i : Int) = l[i] := by
  unfold rd_T166
  rw [List.getD_eq_getElem?_getD, Int.toNat_natCast, List.getElem?_eq_getElem h]; rfl
theorem rdM_T166 (l : List S166) (i : Nat) (h : i < l.length) : rd_T166 l (i : Int) ∈ l := by rw [rdE_T166 l i h]; exact List.getElem_mem h

/-! cv_Class -/
def cv_Class (x : S203) : S166 := ⟨x.f0, x.f1, (cv_Bits x.f2)⟩

/-! upcv_Class -/
theorem upcv_Class (c : Int) (x : S203) (h : UpL_Class c x) : UpI_Class c (cv_Class x) := by
  unfold UpL_Class at h
  unfold UpI_Class
  obtain ⟨i0, i2⟩ := h
  exact ⟨i0, (upcv_Bits c _ i2)⟩

/-! in_Class -/
theorem in_Class (x : S203) (h : (x.f0.length ≤ 9223372036854775807 ∧ ∀ y0 ∈ x.f0, (Lit.int .i64 y0).wf = true) ∧ True ∧ (Lit.int .i64 x.f2.f0).wf = true ∧ (x.f2.f1.length ≤ 9223372036854775807 ∧ ∀ y0 ∈ x.f2.f1, (Lit.int .u64 y0).wf = true)) : UpL_Class 9223372036854775807 x := by
  obtain ⟨j0, j1, j2⟩ := h
  unfold UpL_Class
  exact ⟨(Int.ofNat_le.2 j0.1), (in_Bits _ j2)⟩

/-! to_Int64S -/
theorem to_Int64S (x : List Int) (h : ((x.length : Int) ≤ 1048576)) : Ev (fun k => laws_toInt64S.f k x) x := by
  have hl := h
  have main := up_loop x.length (filled (fun i => (rd x i)) (List.replicate x.length 0)) (fun k xs i => laws_toInt64S.l0 k x xs i)
    (fun i hi r h2 => by
      obtain ⟨K2, h2⟩ := h2
      refine ⟨K2 + 1, fun k hk => ?_⟩
      obtain ⟨m, rfl⟩ : ∃ m, k = m + 1 := ⟨k - 1, by omega⟩
      have h2 := h2 m (by omega)
      dsimp only at h2 ⊢
      rw [← filled_set _ _ (by simpa using hi)] at h2
      simp only [laws_toInt64S.l0]
      rw [if_pos (by omega), if_pos (by omega)]
      rw [if_pos (by rw [filled_len _ _ (by simp; omega)]; simp; omega), Int.toNat_natCast, wrap64_id (by omega) (by omega)]
      exact h2)
    x (Ev.step (f := fun _ => some x) (fun k => by
      simp only [laws_toInt64S.l0]
      rw [if_neg (by omega), filled_all _ _ (by simp)]
      congr 1
      exact list_of_rd x) (Ev.now _))
  rw [filled_zero] at main
  refine Ev.congr (fun k => ?_) main
  unfold laws_toInt64S.f
  rw [if_pos (by omega), if_pos (by omega), Int.toNat_natCast]

/-! to_Class -/
theorem to_Class (x : S203) (h : UpL_Class 1048576 x) : Ev (fun k => laws_toClass.f k x.f0 x.f1 x.f2.f0 x.f2.f1) ((cv_Class x).f0, (cv_Class x).f1, (cv_Class x).f2.f0, (cv_Class x).f2.f1) := by
  unfold UpL_Class at h
  obtain ⟨i0, i2⟩ := h
  obtain ⟨K0, e0⟩ := to_Int64S x.f0 i0
  obtain ⟨K2, e2⟩ := to_Bits x.f2 i2
  refine ⟨K0 + K2, fun k hk => ?_⟩
  have e0 := e0 k (by omega)
  have e2 := e2 k (by omega)
  dsimp only at e0 e2 ⊢
  simp only [laws_toClass.f, e0, e2, Option.bind_some]
  all_goals rfl

/-! to_ClassS -/
theorem to_ClassS (x : List S203) (h : ((x.length : Int) ≤ 1048576 ∧ ∀ y ∈ x, UpL_Class 1048576 y)) : Ev (fun k => laws_toClassS.f k x) (x.map cv_Class) := by
  have hl := h.1
  have main := up_loop x.length (filled (fun i => (cv_Class (rd_T203 x i))) (List.replicate x.length z166)) (fun k xs i => laws_toClassS.l0 k x xs i)
    (fun i hi r h2 => by
      obtain ⟨K, he⟩ := to_Class (rd_T203 x (i : Int)) (h.2 _ (rdM_T203 x i hi))
      obtain ⟨K2, h2⟩ := h2
      refine ⟨K + K2 + 1, fun k hk => ?_⟩
      obtain ⟨m, rfl⟩ : ∃ m, k = m + 1 := ⟨k - 1, by omega⟩
      have h2 := h2 m (by omega)
      have he := he m (by omega)
      dsimp only at he h2 ⊢
      rw [← filled_set _ _ (by simpa using hi)] at h2
      simp only [laws_toClassS.l0]
      rw [if_pos (by omega), if_pos (by omega), he]
      simp only [Option.bind_some]
      rw [if_pos (by rw [filled_len _ _ (by simp; omega)]; simp; omega), Int.toNat_natCast, wrap64_id (by omega) (by omega)]
      exact h2)
    (x.map cv_Class) (Ev.step (f := fun _ => some (x.map cv_Class)) (fun k => by
      simp only [laws_toClassS.l0]
      rw [if_neg (by omega), filled_all _ _ (by simp)]
      congr 1
      apply List.ext_getElem?
      intro i
      by_cases hi : i < x.length
      · simp [hi, rdE_T203]
      · rw [List.getElem?_eq_none (by first | omega | (simp; omega)), List.getElem?_eq_none (by first | omega | (simp; omega))]) (Ev.now _))
  rw [filled_zero] at main
  refine Ev.congr (fun k => ?_) main
  unfold laws_toClassS.f
  rw [if_pos (by omega), if_pos (by omega), Int.toNat_natCast]

/-! S67 -/
structure S67 where
  f0 : List (List Int)

/-! UpI_Cuts -/
def UpI_Cuts (c : Int) (x : S67) : Prop := ((x.f0.length : Int) ≤ c ∧ ∀ y ∈ x.f0, ((y.length : Int) ≤ c))

/-! cv_Cuts -/
def cv_Cuts (x : S61) : S67 := ⟨x.f0⟩

/-! upcv_Cuts -/
theorem upcv_Cuts (c : Int) (x : S61) (h : UpL_Cuts c x) : UpI_Cuts c (cv_Cuts x) := by
  unfold UpL_Cuts at h
  unfold UpI_Cuts
  have i0 := h
  exact i0

/-! in_Cuts -/
theorem in_Cuts (x : S61) (h : (x.f0.length ≤ 9223372036854775807 ∧ ∀ y0 ∈ x.f0, (y0.length ≤ 9223372036854775807 ∧ ∀ y1 ∈ y0, (Lit.int .i64 y1).wf = true))) : UpL_Cuts 9223372036854775807 x := by
  have j0 := h
  unfold UpL_Cuts
  exact ⟨Int.ofNat_le.2 j0.1, fun y hy => (Int.ofNat_le.2 (j0.2 y hy).1)⟩

/-! S106 -/
structure S106 where
  f0 : S67
  f1 : List S166
  f2 : List Int

/-! UpI_Classes -/
def UpI_Classes (c : Int) (x : S106) : Prop := UpI_Cuts c x.f0 ∧ ((x.f1.length : Int) ≤ c ∧ ∀ y ∈ x.f1, UpI_Class c y) ∧ ((x.f2.length : Int) ≤ c)

/-! cv_Classes -/
def cv_Classes (x : S101) : S106 := ⟨(cv_Cuts x.f0), (x.f1.map cv_Class), x.f2⟩

/-! upcv_Classes -/
theorem upcv_Classes (c : Int) (x : S101) (h : UpL_Classes c x) : UpI_Classes c (cv_Classes x) := by
  unfold UpL_Classes at h
  unfold UpI_Classes
  obtain ⟨i0, i1, i2⟩ := h
  exact ⟨(upcv_Cuts c _ i0), ⟨by simpa [cv_Classes] using i1.1, fun y hy => by obtain ⟨z, hz, rfl⟩ := List.mem_map.1 hy; exact upcv_Class c z (i1.2 z hz)⟩, i2⟩

/-! in_Classes -/
theorem in_Classes (x : S101) (h : (x.f0.f0.length ≤ 9223372036854775807 ∧ ∀ y0 ∈ x.f0.f0, (y0.length ≤ 9223372036854775807 ∧ ∀ y1 ∈ y0, (Lit.int .i64 y1).wf = true)) ∧ (x.f1.length ≤ 9223372036854775807 ∧ ∀ y0 ∈ x.f1, (y0.f0.length ≤ 9223372036854775807 ∧ ∀ y1 ∈ y0.f0, (Lit.int .i64 y1).wf = true) ∧ True ∧ (Lit.int .i64 y0.f2.f0).wf = true ∧ (y0.f2.f1.length ≤ 9223372036854775807 ∧ ∀ y1 ∈ y0.f2.f1, (Lit.int .u64 y1).wf = true)) ∧ (x.f2.length ≤ 9223372036854775807 ∧ ∀ y0 ∈ x.f2, (Lit.int .i64 y0).wf = true)) : UpL_Classes 9223372036854775807 x := by
  obtain ⟨j0, j1, j2⟩ := h
  unfold UpL_Classes
  exact ⟨(in_Cuts _ j0), ⟨Int.ofNat_le.2 j1.1, fun y hy => in_Class y (j1.2 y hy)⟩, (Int.ofNat_le.2 j2.1)⟩

/-! to_Int64SS -/
theorem to_Int64SS (x : List (List Int)) (h : ((x.length : Int) ≤ 1048576 ∧ ∀ y ∈ x, ((y.length : Int) ≤ 1048576))) : Ev (fun k => laws_toInt64SS.f k x) x := by
  have hl := h.1
  have main := up_loop x.length (filled (fun i => (rd_L1 x i)) (List.replicate x.length [])) (fun k xs i => laws_toInt64SS.l0 k x xs i)
    (fun i hi r h2 => by
      obtain ⟨K, he⟩ := to_Int64S (rd_L1 x (i : Int)) (h.2 _ (rdM_L1 x i hi))
      obtain ⟨K2, h2⟩ := h2
      refine ⟨K + K2 + 1, fun k hk => ?_⟩
      obtain ⟨m, rfl⟩ : ∃ m, k = m + 1 := ⟨k - 1, by omega⟩
      have h2 := h2 m (by omega)
      have he := he m (by omega)
      dsimp only at he h2 ⊢
      rw [← filled_set _ _ (by simpa using hi)] at h2
      simp only [laws_toInt64SS.l0]
      rw [if_pos (by omega), if_pos (by omega), he]
      simp only [Option.bind_some]
      rw [if_pos (by rw [filled_len _ _ (by simp; omega)]; simp; omega), Int.toNat_natCast, wrap64_id (by omega) (by omega)]
      exact h2)
    x (Ev.step (f := fun _ => some x) (fun k => by
      simp only [laws_toInt64SS.l0]
      rw [if_neg (by omega), filled_all _ _ (by simp)]
      congr 1
      apply List.ext_getElem?
      intro i
      by_cases hi : i < x.length
      · simp [hi, rdE_L1]
      · rw [List.getElem?_eq_none (by first | omega | (simp; omega)), List.getElem?_eq_none (by first | omega | (simp; omega))]) (Ev.now _))
  rw [filled_zero] at main
  refine Ev.congr (fun k => ?_) main
  unfold laws_toInt64SS.f
  rw [if_pos (by omega), if_pos (by omega), Int.toNat_natCast]

/-! to_Cuts -/
theorem to_Cuts (x : S61) (h : UpL_Cuts 1048576 x) : Ev (fun k => laws_toCuts.f k x.f0) (cv_Cuts x).f0 := by
  unfold UpL_Cuts at h
  have i0 := h
  obtain ⟨K0, e0⟩ := to_Int64SS x.f0 i0
  refine ⟨K0, fun k hk => ?_⟩
  have e0 := e0 k (by omega)
  dsimp only at e0 ⊢
  simp only [laws_toCuts.f, e0, Option.bind_some]
  all_goals rfl

/-! to_Classes -/
theorem to_Classes (x : S101) (h : UpL_Classes 1048576 x) : Ev (fun k => laws_toClasses.f k x.f0.f0 x.f1 x.f2) ((cv_Classes x).f0.f0, (cv_Classes x).f1, (cv_Classes x).f2) := by
  unfold UpL_Classes at h
  obtain ⟨i0, i1, i2⟩ := h
  obtain ⟨K0, e0⟩ := to_Cuts x.f0 i0
  obtain ⟨K1, e1⟩ := to_ClassS x.f1 i1
  obtain ⟨K2, e2⟩ := to_Int64S x.f2 i2
  refine ⟨K0 + K1 + K2, fun k hk => ?_⟩
  have e0 := e0 k (by omega)
  have e1 := e1 k (by omega)
  have e2 := e2 k (by omega)
  dsimp only at e0 e1 e2 ⊢
  simp only [laws_toClasses.f, e0, e1, e2, Option.bind_some]
  all_goals rfl

/-! eq_Uint64S -/
theorem eq_Uint64S (x : List Int) (h : ((x.length : Int) ≤ 1048576)) : Ev (fun k => laws_eqUint64S.f k x x) true := by
  have hl := h
  have main := up_loop x.length (fun _ => ()) (fun k _ i => laws_eqUint64S.l0 k x x i)
    (fun i hi r h2 => by
      obtain ⟨K2, h2⟩ := h2
      refine ⟨K2 + 1, fun k hk => ?_⟩
      obtain ⟨m, rfl⟩ : ∃ m, k = m + 1 := ⟨k - 1, by omega⟩
      have h2 := h2 m (by omega)
      dsimp only at h2 ⊢
      simp only [laws_eqUint64S.l0]
      rw [if_pos (by omega), if_pos (by omega), if_pos (by omega)]
      simp only [if_true]
      rw [wrap64_id (by omega) (by omega)]
      exact h2)
    true (Ev.step (f := fun _ => some true) (fun k => by
      simp only [laws_eqUint64S.l0]
      rw [if_neg (by omega)]) (Ev.now _))
  obtain ⟨K, h⟩ := main
  refine ⟨K, fun k hk => ?_⟩
  have h := h k hk
  dsimp only at h ⊢
  unfold laws_eqUint64S.f
  rw [if_pos rfl]
  exact h

/-! eq_Bits -/
theorem eq_Bits (x : S150) (h : UpI_Bits 1048576 x) : Ev (fun k => laws_eqBits.f k x.f0 x.f1 x.f0 x.f1) true := by
  unfold UpI_Bits at h
  have i1 := h
  obtain ⟨K1, e1⟩ := eq_Uint64S x.f1 i1
  refine ⟨K1, fun k hk => ?_⟩
  have e1 := e1 k (by omega)
  dsimp only at e1 ⊢
  simp only [laws_eqBits.f, e1, Option.bind_some, if_true, ↓reduceIte, bne_self_eq_false, Bool.false_eq_true]

/-! eq_Int64S -/
theorem eq_Int64S (x : List Int) (h : ((x.length : Int) ≤ 1048576)) : Ev (fun k => laws_eqInt64S.f k x x) true := by
  have hl := h
  have main := up_loop x.length (fun _ => ()) (fun k _ i => laws_eqInt64S.l0 k x x i)
    (fun i hi r h2 => by
      obtain ⟨K2, h2⟩ := h2
      refine ⟨K2 + 1, fun k hk => ?_⟩
      obtain ⟨m, rfl⟩ : ∃ m, k = m + 1 := ⟨k - 1, by omega⟩
      have h2 := h2 m (by omega)
      dsimp only at h2 ⊢
      simp only [laws_eqInt64S.l0]
      rw [if_pos (by omega), if_pos (by omega), if_pos (by omega)]
      simp only [if_true]
      rw [wrap64_id (by omega) (by omega)]
      exact h2)
    true (Ev.step (f := fun _ => some true) (fun k => by
      simp only [laws_eqInt64S.l0]
      rw [if_neg (by omega)]) (Ev.now _))
  obtain ⟨K, h⟩ := main
  refine ⟨K, fun k hk => ?_⟩
  have h := h k hk
  dsimp only at h ⊢
  unfold laws_eqInt64S.f
  rw [if_pos rfl]
  exact h

/-! eq_Class -/
theorem eq_Class (x : S166) (h : UpI_Class 1048576 x) : Ev (fun k => laws_eqClass.f k x.f0 x.f1 x.f2.f0 x.f2.f1 x.f0 x.f1 x.f2.f0 x.f2.f1) true := by
  unfold UpI_Class at h
  obtain ⟨i0, i2⟩ := h
  obtain ⟨K0, e0⟩ := eq_Int64S x.f0 i0
  obtain ⟨K2, e2⟩ := eq_Bits x.f2 i2
  refine ⟨K0 + K2, fun k hk => ?_⟩
  have e0 := e0 k (by omega)
  have e2 := e2 k (by omega)
  dsimp only at e0 e2 ⊢
  simp only [laws_eqClass.f, e0, e2, Option.bind_some, if_true, ↓reduceIte, bne_self_eq_false, Bool.false_eq_true]

/-! eq_ClassS -/
theorem eq_ClassS (x : List S166) (h : ((x.length : Int) ≤ 1048576 ∧ ∀ y ∈ x, UpI_Class 1048576 y)) : Ev (fun k => laws_eqClassS.f k x x) true := by
  have hl := h.1
  have main := up_loop x.length (fun _ => ()) (fun k _ i => laws_eqClassS.l0 k x x i)
    (fun i hi r h2 => by
      obtain ⟨K, he⟩ := eq_Class (rd_T166 x (i : Int)) (h.2 _ (rdM_T166 x i hi))
      obtain ⟨K2, h2⟩ := h2
      refine ⟨K + K2 + 1, fun k hk => ?_⟩
      obtain ⟨m, rfl⟩ : ∃ m, k = m + 1 := ⟨k - 1, by omega⟩
      have h2 := h2 m (by omega)
      have he := he m (by omega)
      dsimp only at he h2 ⊢
      simp only [laws_eqClassS.l0]
      rw [if_pos (by omega), if_pos (by omega), if_pos (by omega), he]
      simp only [Option.bind_some, if_true, ↓reduceIte]
      rw [wrap64_id (by omega) (by omega)]
      exact h2)
    true (Ev.step (f := fun _ => some true) (fun k => by
      simp only [laws_eqClassS.l0]
      rw [if_neg (by omega)]) (Ev.now _))
  obtain ⟨K, h⟩ := main
  refine ⟨K, fun k hk => ?_⟩
  have h := h k hk
  dsimp only at h ⊢
  unfold laws_eqClassS.f
  rw [if_pos rfl]
  exact h

/-! eq_Int64SS -/
theorem eq_Int64SS (x : List (List Int)) (h : ((x.length : Int) ≤ 1048576 ∧ ∀ y ∈ x, ((y.length : Int) ≤ 1048576))) : Ev (fun k => laws_eqInt64SS.f k x x) true := by
  have hl := h.1
  have main := up_loop x.length (fun _ => ()) (fun k _ i => laws_eqInt64SS.l0 k x x i)
    (fun i hi r h2 => by
      obtain ⟨K, he⟩ := eq_Int64S (rd_L1 x (i : Int)) (h.2 _ (rdM_L1 x i hi))
      obtain ⟨K2, h2⟩ := h2
      refine ⟨K + K2 + 1, fun k hk => ?_⟩
      obtain ⟨m, rfl⟩ : ∃ m, k = m + 1 := ⟨k - 1, by omega⟩
      have h2 := h2 m (by omega)
      have he := he m (by omega)
      dsimp only at he h2 ⊢
      simp only [laws_eqInt64SS.l0]
      rw [if_pos (by omega), if_pos (by omega), if_pos (by omega), he]
      simp only [Option.bind_some, if_true, ↓reduceIte]
      rw [wrap64_id (by omega) (by omega)]
      exact h2)
    true (Ev.step (f := fun _ => some true) (fun k => by
      simp only [laws_eqInt64SS.l0]
      rw [if_neg (by omega)]) (Ev.now _))
  obtain ⟨K, h⟩ := main
  refine ⟨K, fun k hk => ?_⟩
  have h := h k hk
  dsimp only at h ⊢
  unfold laws_eqInt64SS.f
  rw [if_pos rfl]
  exact h

/-! eq_Cuts -/
theorem eq_Cuts (x : S67) (h : UpI_Cuts 1048576 x) : Ev (fun k => laws_eqCuts.f k x.f0 x.f0) true := by
  unfold UpI_Cuts at h
  have i0 := h
  obtain ⟨K0, e0⟩ := eq_Int64SS x.f0 i0
  refine ⟨K0, fun k hk => ?_⟩
  have e0 := e0 k (by omega)
  dsimp only at e0 ⊢
  simp only [laws_eqCuts.f, e0, Option.bind_some, if_true, ↓reduceIte, bne_self_eq_false, Bool.false_eq_true]

/-! eq_Classes -/
theorem eq_Classes (x : S106) (h : UpI_Classes 1048576 x) : Ev (fun k => laws_eqClasses.f k x.f0.f0 x.f1 x.f2 x.f0.f0 x.f1 x.f2) true := by
  unfold UpI_Classes at h
  obtain ⟨i0, i1, i2⟩ := h
  obtain ⟨K0, e0⟩ := eq_Cuts x.f0 i0
  obtain ⟨K1, e1⟩ := eq_ClassS x.f1 i1
  obtain ⟨K2, e2⟩ := eq_Int64S x.f2 i2
  refine ⟨K0 + K1 + K2, fun k hk => ?_⟩
  have e0 := e0 k (by omega)
  have e1 := e1 k (by omega)
  have e2 := e2 k (by omega)
  dsimp only at e0 e1 e2 ⊢
  simp only [laws_eqClasses.f, e0, e1, e2, Option.bind_some, if_true, ↓reduceIte, bne_self_eq_false, Bool.false_eq_true]

/-! WfI_Cuts -/
def WfI_Cuts (x : S67) : Prop := (∀ y ∈ x.f0, (∀ z ∈ y, (-9223372036854775808 ≤ z ∧ z ≤ 9223372036854775807)))

/-! wf_Cuts -/
theorem wf_Cuts (x : S61) (h : (x.f0.length ≤ 9223372036854775807 ∧ ∀ y0 ∈ x.f0, (y0.length ≤ 9223372036854775807 ∧ ∀ y1 ∈ y0, (Lit.int .i64 y1).wf = true))) : WfI_Cuts (cv_Cuts x) := by
  have j0 := h
  exact (fun a1_ ha1_ => (fun a2_ ha2_ => (wf_i64 ((j0.2 a1_ ha1_).2 a2_ ha2_))))

/-! WfI_Bits -/
def WfI_Bits (x : S150) : Prop := (-9223372036854775808 ≤ x.f0 ∧ x.f0 ≤ 9223372036854775807) ∧ (∀ y ∈ x.f1, W64 y)

/-! wf_Bits -/
theorem wf_Bits (x : S161) (h : (Lit.int .i64 x.f0).wf = true ∧ (x.f1.length ≤ 9223372036854775807 ∧ ∀ y0 ∈ x.f1, (Lit.int .u64 y0).wf = true)) : WfI_Bits (cv_Bits x) := by
  obtain ⟨j0, j1⟩ := h
  exact ⟨(wf_i64 j0), (fun a3_ ha3_ => (wf_u64 (j1.2 a3_ ha3_)))⟩

/-! WfI_Class -/
def WfI_Class (x : S166) : Prop := (∀ y ∈ x.f0, (-9223372036854775808 ≤ y ∧ y ≤ 9223372036854775807)) ∧ True ∧ WfI_Bits x.f2

/-! wf_Class -/
theorem wf_Class (x : S203) (h : (x.f0.length ≤ 9223372036854775807 ∧ ∀ y0 ∈ x.f0, (Lit.int .i64 y0).wf = true) ∧ True ∧ (Lit.int .i64 x.f2.f0).wf = true ∧ (x.f2.f1.length ≤ 9223372036854775807 ∧ ∀ y0 ∈ x.f2.f1, (Lit.int .u64 y0).wf = true)) : WfI_Class (cv_Class x) := by
  obtain ⟨j0, j1, j2⟩ := h
  exact ⟨(fun a4_ ha4_ => (wf_i64 (j0.2 a4_ ha4_))), trivial, (wf_Bits _ j2)⟩

/-! WfI_Classes -/
def WfI_Classes (x : S106) : Prop := WfI_Cuts x.f0 ∧ (∀ y ∈ x.f1, WfI_Class y) ∧ (∀ y ∈ x.f2, (-9223372036854775808 ≤ y ∧ y ≤ 9223372036854775807))

/-! wf_Classes -/
theorem wf_Classes (x : S101) (h : (x.f0.f0.length ≤ 9223372036854775807 ∧ ∀ y0 ∈ x.f0.f0, (y0.length ≤ 9223372036854775807 ∧ ∀ y1 ∈ y0, (Lit.int .i64 y1).wf = true)) ∧ (x.f1.length ≤ 9223372036854775807 ∧ ∀ y0 ∈ x.f1, (y0.f0.length ≤ 9223372036854775807 ∧ ∀ y1 ∈ y0.f0, (Lit.int .i64 y1).wf = true) ∧ True ∧ (Lit.int .i64 y0.f2.f0).wf = true ∧ (y0.f2.f1.length ≤ 9223372036854775807 ∧ ∀ y1 ∈ y0.f2.f1, (Lit.int .u64 y1).wf = true)) ∧ (x.f2.length ≤ 9223372036854775807 ∧ ∀ y0 ∈ x.f2, (Lit.int .i64 y0).wf = true)) : WfI_Classes (cv_Classes x) := by
  obtain ⟨j0, j1, j2⟩ := h
  exact ⟨(wf_Cuts _ j0), (fun y hy => by obtain ⟨z, hz, rfl⟩ := List.mem_map.1 hy; exact wf_Class z (j1.2 z hz)), (fun a6_ ha6_ => (wf_i64 (j2.2 a6_ ha6_)))⟩

/-! classAt -/
theorem has_loops (l : List Int) (a : Int) (hl : l.length ≤ 1048576) : ∀ d i, l.length - i = d → i ≤ l.length →
    ∃ r : Int, Ev (fun k => spec_l1Has.l0 k l a (i : Int)) (decide (r ≥ 0)) ∧ Ev (fun k => slices_Index_int64_int64.l0 k l a (l.length : Int) (i : Int)) r := by
  intro d
  induction d with
  | zero =>
    intro i hd hi
    refine ⟨-1, Ev.step (f := fun _ => some false) (fun k => ?_) (Ev.now _), Ev.step (f := fun _ => some (-1)) (fun k => ?_) (Ev.now _)⟩
    · simp (disch := omega) only [spec_l1Has.l0, ↓if_neg]
    · simp (disch := omega) only [slices_Index_int64_int64.l0, ↓if_neg]
  | succ d ih =>
    intro i hd hi
    by_cases c : rd l (i : Int) = a
    · refine ⟨(i : Int), Ev.step (f := fun _ => some true) (fun k => ?_) ?_, Ev.step (f := fun _ => some (i : Int)) (fun k => ?_) (Ev.now _)⟩
      · simp (disch := omega) only [spec_l1Has.l0, ↓if_pos, if_pos c]
      · have : decide ((i : Int) ≥ 0) = true := decide_eq_true (by omega)
        rw [this]
        exact Ev.now _
      · simp (disch := omega) only [slices_Index_int64_int64.l0, ↓if_pos, if_pos c.symm]
    · have c' : ¬ a = rd l (i : Int) := fun h => c h.symm
      obtain ⟨r, h1, h2⟩ := ih (i + 1) (by omega) (by omega)
      refine ⟨r, Ev.step (fun k => ?_) h1, Ev.step (fun k => ?_) h2⟩
      · simp (disch := omega) only [spec_l1Has.l0, ↓if_pos, if_neg c, wrap_next]
      · simp (disch := omega) only [slices_Index_int64_int64.l0, ↓if_pos, if_neg c', wrap_next]
theorem has_agree (l : List Int) (a : Int) (hl : l.length ≤ 1048576) : ∃ b, Ev (fun k => spec_l1Has.f k l a) b ∧ Ev (fun k => slices_Contains_int64_int64.f k l a) b := by
  obtain ⟨r, h1, K, h2⟩ := has_loops l a hl l.length 0 (by omega) (by omega)
  refine ⟨decide (r ≥ 0), h1, K, fun k hk => ?_⟩
  have h2 : slices_Index_int64_int64.l0 k l a (l.length : Int) 0 = some r := h2 k hk
  simp only [slices_Contains_int64_int64.f, slices_Index_int64_int64.f, h2, Option.bind_some]
theorem classAt_loops (cuts : List (List Int)) (cl : List S166) (clash : List Int) (a : Int) (hl : cl.length ≤ 1048576) (hc : ∀ v : Nat, v < cl.length → (rd_T166 cl (v : Int)).f0.length ≤ 1048576) :
    ∀ d v, cl.length - v = d → v ≤ cl.length → ∃ r : Int, Ev (fun k => spec_ClassAt.l0 k a (v : Int) cuts cl clash) r ∧ Ev (fun k => idxG (impl_ClassAt.p k a) (cl.drop v) (v : Int)) r := by
  intro d
  induction d with
  | zero =>
    intro v hd hv
    refine ⟨-1, Ev.step (f := fun _ => some (-1)) (fun k => ?_) (Ev.now _), 0, fun k _ => ?_⟩
    · simp (disch := omega) only [spec_ClassAt.l0, ↓if_neg]
    · have e : cl.drop v = [] := List.drop_eq_nil_of_le (by omega)
      rw [e]
      rfl
  | succ d ih =>
    intro v hd hv
    have hvl : v < cl.length := by omega
    have hdrop : cl.drop v = rd_T166 cl (v : Int) :: cl.drop (v + 1) := by
      rw [List.drop_eq_getElem_cons hvl]
      congr 1
      have := rdG_T166 cl v cl[v] hvl
      rw [← this, List.getD_eq_getElem?_getD, List.getElem?_eq_getElem hvl]
      rfl
    obtain ⟨b, ⟨K1, h1⟩, K2, h2⟩ := has_agree (rd_T166 cl (v : Int)).f0 a (hc v hvl)
    rw [hdrop]
    cases b with
    | true =>
      refine ⟨(v : Int), ⟨K1 + 1, fun k hk => ?_⟩, K2, fun k hk => ?_⟩
      · obtain ⟨m, rfl⟩ : ∃ m, k = m + 1 := ⟨k - 1, by omega⟩
        have h1 := h1 m (by omega)
        dsimp only at h1 ⊢
        simp (disch := omega) only [spec_ClassAt.l0, ↓if_pos, h1, Option.bind_some, ↓reduceIte]
      · have h2 := h2 k hk
        dsimp only at h2 ⊢
        simp only [idxG, impl_ClassAt.p, h2, Option.bind_some, ↓reduceIte]
    | false =>
      obtain ⟨r, ⟨K3, h3⟩, K4, h4⟩ := ih (v + 1) (by omega) (by omega)
      refine ⟨r, ⟨K1 + K3 + 1, fun k hk => ?_⟩, K2 + K4, fun k hk => ?_⟩
      · obtain ⟨m, rfl⟩ : ∃ m, k = m + 1 := ⟨k - 1, by omega⟩
        have h1 := h1 m (by omega)
        have h3 := h3 m (by omega)
        dsimp only at h1 h3 ⊢
        simp (disch := omega) only [spec_ClassAt.l0, ↓if_pos, h1, Option.bind_some, ↓reduceIte, Bool.false_eq_true, wrap_next]
        exact h3
      · have h2 := h2 k (by omega)
        have h4 := h4 k (by omega)
        dsimp only at h2 h4 ⊢
        simp only [idxG, impl_ClassAt.p, h2, Option.bind_some, ↓reduceIte, Bool.false_eq_true]
        exact h4
theorem classAt_agree (cuts : List (List Int)) (cl : List S166) (clash : List Int) (a : Int) (U0 : UpI_Classes 1048576 ⟨⟨cuts⟩, cl, clash⟩) (W0 : WfI_Classes ⟨⟨cuts⟩, cl, clash⟩) (W1 : -9223372036854775808 ≤ a ∧ a ≤ 9223372036854775807) : ∃ r, Ev (fun k => spec_ClassAt.f k cuts cl clash a) r ∧ Ev (fun k => impl_ClassAt.f k cuts cl clash a) r := by
  obtain ⟨_, ⟨u1, u2⟩, _⟩ := U0
  dsimp only at u1 u2
  have hu : ∀ v : Nat, v < cl.length → (rd_T166 cl (v : Int)).f0.length ≤ 1048576 := fun v hv => by
    rw [← rdG_T166 cl v (rd_T166 cl (v : Int)) hv, List.getD_eq_getElem?_getD, List.getElem?_eq_getElem hv]
    have := (u2 cl[v] (List.getElem_mem hv)).1
    simp only [Option.getD_some]
    omega
  obtain ⟨r, h1, h2⟩ := classAt_loops cuts cl clash a (by omega) hu cl.length 0 (by omega) (by omega)
  rw [List.drop_zero] at h2
  exact ⟨r, h1, h2⟩
-- SAYS: The program's ClassAt answers as the reference's ClassAt does, for all arguments.
theorem FnExactClassAt (l0_0 : List (List Int)) (l0_1 : List S203) (l0_2 : List Int) (a1 : Int) (q0_0 : ∀ x ∈ l0_0, (x.length ≤ 9223372036854775807 ∧ ∀ y0 ∈ x, (Lit.int .i64 y0).wf = true)) (hl0_0 : l0_0.length ≤ 9223372036854775807) (q0_1 : ∀ x ∈ l0_1, (x.f0.length ≤ 9223372036854775807 ∧ ∀ y0 ∈ x.f0, (Lit.int .i64 y0).wf = true) ∧ True ∧ (Lit.int .i64 x.f2.f0).wf = true ∧ (x.f2.f1.length ≤ 9223372036854775807 ∧ ∀ y0 ∈ x.f2.f1, (Lit.int .u64 y0).wf = true)) (hl0_1 : l0_1.length ≤ 9223372036854775807) (q0_2 : ∀ x ∈ l0_2, (Lit.int .i64 x).wf = true) (hl0_2 : l0_2.length ≤ 9223372036854775807) (q1 : (Lit.int .i64 a1).wf = true) : ∃ k, laws_FnExactClassAt.f k l0_0 l0_1 l0_2 a1 = some true := by
  obtain ⟨r0, g0, hb0⟩ := sz_Classes (⟨⟨l0_0⟩, l0_1, l0_2⟩ : S101) 1048576 (in_Classes (⟨⟨l0_0⟩, l0_1, l0_2⟩ : S101) ⟨(And.intro hl0_0 q0_0), (And.intro hl0_1 q0_1), (And.intro hl0_2 q0_2)⟩) (by omega) (by omega)
  obtain ⟨Ks0, s0⟩ := Ev.binds (g0)
  try dsimp only [cv_Classes, cv_Cuts] at s0
  rcases hb0 with hneg | ⟨p0, z0, u0⟩
  · have c0 := eq_true hneg
    exact ⟨Ks0 + 1 + 1 + 1 + 1, by simp (disch := omega) only [laws_FnExactClassAt.f, ↓s0, ↓reduceIte, c0]⟩
  have c0 := eq_false (show ¬ r0 < 0 by omega)
  have U0 : UpI_Classes 1048576 ((cv_Classes (⟨⟨l0_0⟩, l0_1, l0_2⟩ : S101))) := (upcv_Classes _ _ u0)
  have W0 : WfI_Classes ((cv_Classes (⟨⟨l0_0⟩, l0_1, l0_2⟩ : S101))) := wf_Classes (⟨⟨l0_0⟩, l0_1, l0_2⟩ : S101) ⟨(And.intro hl0_0 q0_0), (And.intro hl0_1 q0_1), (And.intro hl0_2 q0_2)⟩
  have W1 : (-9223372036854775808 ≤ a1 ∧ a1 ≤ 9223372036854775807) := (wf_i64 q1)
  obtain ⟨y0, e1, e2⟩ := classAt_agree l0_0 ((l0_1.map cv_Class)) l0_2 a1 U0 W0 W1
  obtain ⟨Kt0, t0⟩ := Ev.binds (to_Classes (⟨⟨l0_0⟩, l0_1, l0_2⟩ : S101) u0)
  try dsimp only [cv_Classes, cv_Cuts] at t0
  obtain ⟨Khs, hs⟩ := Ev.binds (e1)
  obtain ⟨Khi, hi⟩ := Ev.binds (e2)
  obtain ⟨Ke0_, e0_⟩ := Ev.binds (eq_Classes ((cv_Classes (⟨⟨l0_0⟩, l0_1, l0_2⟩ : S101))) U0)
  try dsimp only [cv_Classes, cv_Cuts] at e0_
  exact ⟨Ks0 + Kt0 + Khs + Khi + Ke0_ + 1 + 1 + 1 + 1, by simp (disch := omega) only [laws_FnExactClassAt.f, ↓s0, ↓t0, ↓hs, ↓hi, ↓e0_, ↓reduceIte, c0, bne_self_eq_false, Bool.false_eq_true, Bool.not_true, Bool.not_false]⟩

end Go.Proofs.Ytkjlplcdjdenkaa.Pure
