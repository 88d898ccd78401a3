/- The program's FlatOk answers as the reference's FlatOk does, for all arguments. -/
import Derived.Test.YtjmnhcooimdioaaPFnExactFlatOkx10
import Derived.Test.YtjmnhcooimdioaaBits
import Derived.Test.YtjmnhcooimdioaaLoops
namespace Go.Proofs.Ytjmnhcooimdioaa.Pure
open Go Go.RowKit Go.Proofs.Ytjmnhcooimdioaa.PFnExactFlatOk Go.Proofs.YtjmnhcooimdioaaW.PrintWords Go.Proofs.YtjmnhcooimdioaaW.PrintLast Go.Proofs.YtjmnhcooimdioaaW.PrintMore Go.Proofs.Ytjmnhcooimdioaa.BitsLib Go.Proofs.Ytjmnhcooimdioaa.Loops
set_option linter.unusedVariables false
set_option linter.unusedSimpArgs false
set_option maxRecDepth 4000
theorem wrap_next (i : Nat) (h : i < 4611686018427387904) : wrap64 ((i : Int) + 1) = ((i + 1 : Nat) : Int) := by
 rw [wrap64_id (by omega) (by omega)]; rfl
theorem szn_out (n : Nat) (left : Int) (hn : (n : Int) ≤ 9223372036854775807) (h0 : 0 ≤ left) (h1 : left ≤ 1048576) :
  ∃ r, (True → wrap64 (left - (n : Int)) = r) ∧ (r < 0 ∨ (0 ≤ r ∧ r ≤ left ∧ (n : Int) ≤ 1048576)) := by
 refine ⟨left - (n : Int), fun _ => wrap64_id (by omega) (by omega), ?_⟩
 by_cases c : left - (n : Int) < 0
 ·exact .inl c
 ·exact .inr (by omega)
def UpL_Bits (c : Int) (x : S160) : Prop := ((x.f1.length : Int) ≤ c)
theorem sz_Uint64S (x : List Int) (left : Int) (hin : ((x.length : Int) ≤ 9223372036854775807)) (h0 : 0 ≤ left) (h1 : left ≤ 1048576) :
  ∃ r, Ev (fun k => laws_szUint64S.f x left) r ∧ (r < 0 ∨ (0 ≤ r ∧ r ≤ left ∧ ((x.length : Int) ≤ 1048576))) := by
 obtain ⟨r, hr, hb⟩ := szn_out x.length left hin h0 h1
 rcases hb with c | ⟨p0, q0, u0⟩
 ·exact ⟨-1, ⟨0, fun k _ => by dsimp only; unfold laws_szUint64S.f; rw [hr trivial, if_pos c]⟩, .inl (by omega)⟩
 ·exact ⟨r, ⟨0, fun k _ => by dsimp only; unfold laws_szUint64S.f; rw [hr trivial, if_neg (by omega)]⟩, .inr ⟨p0, q0, u0⟩⟩
theorem sz_Bits (x : S160) (left : Int) (hin : UpL_Bits 9223372036854775807 x) (h0 : 0 ≤ left) (h1 : left ≤ 1048576) :
  ∃ r, Ev (fun k => laws_szBits.f x.f0 x.f1 left) r ∧ (r < 0 ∨ (0 ≤ r ∧ r ≤ left ∧ UpL_Bits 1048576 x)) := by
 unfold UpL_Bits at hin
 have i1 := hin
 obtain ⟨r1, ⟨K1, e1⟩, hb1⟩ := sz_Uint64S x.f1 left i1 (by omega) (by omega)
 rcases hb1 with c1 | ⟨p1, q1, u1⟩
 ·exact ⟨-1, ⟨K1, fun k hk => by have e1 := e1 k (by omega); dsimp only at e1 ⊢; unfold laws_szBits.f; rw [e1]; simp only [Option.bind_some]; rw [if_pos c1]⟩, .inl (by omega)⟩
 exact ⟨r1, ⟨K1, fun k hk => by have e1 := e1 k (by omega); dsimp only at e1 ⊢; unfold laws_szBits.f; rw [e1]; simp only [Option.bind_some]; rw [if_neg (by omega)]⟩, .inr ⟨by omega, by omega, u1⟩⟩
def UpL_Decl (c : Int) (x : S142) : Prop := ((x.f0.size : Int) ≤ c)
theorem rdE_T142 (l : List S142) (i : Nat) (h : i < l.length) : rd_T142 l (i : Int) = l[i] := by
 unfold rd_T142
 rw [List.getD_eq_getElem?_getD, Int.toNat_natCast, List.getElem?_eq_getElem h]; rfl
theorem rdM_T142 (l : List S142) (i : Nat) (h : i < l.length) : rd_T142 l (i : Int) ∈ l := by rw [rdE_T142 l i h]; exact List.getElem_mem h
theorem sz_Decl (x : S142) (left : Int) (hin : UpL_Decl 9223372036854775807 x) (h0 : 0 ≤ left) (h1 : left ≤ 1048576) :
  ∃ r, Ev (fun k => laws_szDecl.f x.f0 x.f1 left) r ∧ (r < 0 ∨ (0 ≤ r ∧ r ≤ left ∧ UpL_Decl 1048576 x)) := by
 unfold UpL_Decl at hin
 have i0 := hin
 obtain ⟨r0, e0, hb0⟩ := szn_out x.f0.size left i0 (by omega) (by omega)
 rcases hb0 with c0 | ⟨p0, q0, u0⟩
 ·exact ⟨-1, ⟨0, fun k hk => by dsimp only; unfold laws_szDecl.f; rw [e0 trivial]; rw [if_pos c0]⟩, .inl (by omega)⟩
 exact ⟨r0, ⟨0, fun k hk => by dsimp only; unfold laws_szDecl.f; rw [e0 trivial]; rw [if_neg (by omega)]⟩, .inr ⟨by omega, by omega, u0⟩⟩
theorem sz_DeclS (x : List S142) (left : Int) (hin : ((x.length : Int) ≤ 9223372036854775807 ∧ ∀ y ∈ x, UpL_Decl 9223372036854775807 y)) (h0 : 0 ≤ left) (h1 : left ≤ 1048576) :
  ∃ r, Ev (fun k => laws_szDeclS.f k x left) r ∧ (r < 0 ∨ (0 ≤ r ∧ r ≤ left ∧ ((x.length : Int) ≤ 1048576 ∧ ∀ y ∈ x, UpL_Decl 1048576 y))) := by
 obtain ⟨hl, hx⟩ := hin
 obtain ⟨r0, hr0, hb0⟩ := szn_out x.length left hl h0 h1
 rcases hb0 with c | ⟨p0, q0, u0⟩
 ·exact ⟨-1, ⟨0, fun k _ => by dsimp only; unfold laws_szDeclS.f; rw [hr0 trivial, if_pos c]⟩, .inl (by omega)⟩
 ·have main : ∀ d i, x.length - i = d → i ≤ x.length → ∀ lf, 0 ≤ lf → lf ≤ left → ∃ r, Ev (fun k => laws_szDeclS.l0 k x lf (i : Int)) r ∧ (r < 0 ∨ (0 ≤ r ∧ r ≤ lf ∧ ∀ j : Nat, i ≤ j → j < x.length → UpL_Decl 1048576 ((rd_T142 x (j : Int))))) := by
   intro d
   induction d with
   | zero =>
    intro i hd hi lf g0 g1
    exact ⟨lf, Ev.step (f := fun _ => some lf) (fun k => by simp only [laws_szDeclS.l0]; rw [if_neg (by omega)]) (Ev.now _), .inr ⟨g0, Int.le_refl _, fun j g2 g3 => absurd g3 (by omega)⟩⟩
   | succ d ih =>
    intro i hd hi lf g0 g1
    have hil : i < x.length := by omega
    obtain ⟨r, ⟨K, hr⟩, hrb⟩ := sz_Decl (rd_T142 x (i : Int)) lf (hx _ (rdM_T142 x i hil)) g0 (by omega)
    rcases hrb with hneg | ⟨p1, p2, p3⟩
    ·refine ⟨-1, ⟨K + 1, fun k hk => ?_⟩, .inl (by omega)⟩
     obtain ⟨m, rfl⟩ : ∃ m, k = m + 1 := ⟨k - 1, by omega⟩
     have hr := hr m (by omega)
     dsimp only at hr ⊢
     simp only [laws_szDeclS.l0]
     rw [if_pos (by omega), if_pos (by omega), hr]
     simp only [Option.bind_some]
     rw [if_pos hneg]
    ·obtain ⟨r2, ⟨K2, h2⟩, hb2⟩ := ih (i + 1) (by omega) (by omega) r p1 (by omega)
     refine ⟨r2, ⟨K + K2 + 1, fun k hk => ?_⟩, ?_⟩
     ·obtain ⟨m, rfl⟩ : ∃ m, k = m + 1 := ⟨k - 1, by omega⟩
      have hr := hr m (by omega)
      have h2 := h2 m (by omega)
      dsimp only at hr h2 ⊢
      simp only [laws_szDeclS.l0]
      rw [if_pos (by omega), if_pos (by omega), hr]
      simp only [Option.bind_some]
      rw [if_neg (by omega), wrap_next i (by omega)]
      exact h2
     ·rcases hb2 with hb2 | ⟨s0, s1, s2⟩
      ·exact .inl hb2
      ·refine .inr ⟨s0, by omega, fun j g2 g3 => ?_⟩
       by_cases e : j = i
       ·rw [e]; exact p3
       ·exact s2 j (by omega) g3
  obtain ⟨r, ⟨K, hr⟩, hb⟩ := main x.length 0 (by omega) (by omega) r0 p0 q0
  refine ⟨r, ⟨K, fun k hk => ?_⟩, ?_⟩
  ·have hr := hr k hk
   dsimp only at hr ⊢
   unfold laws_szDeclS.f
   rw [hr0 trivial, if_neg (by omega)]
   exact hr
  ·rcases hb with hb | ⟨s0, s1, s2⟩
   ·exact .inl hb
   ·refine .inr ⟨s0, by omega, by omega, fun y hy => ?_⟩
    obtain ⟨j, hjl, rfl⟩ := List.getElem_of_mem hy
    have := s2 j (by omega) hjl
    rwa [rdE_T142 x j hjl] at this
def UpL_Seg (c : Int) (x : S162) : Prop := UpL_Bits c x.f3
theorem rdE_T162 (l : List S162) (i : Nat) (h : i < l.length) : rd_T162 l (i : Int) = l[i] := by
 unfold rd_T162
 rw [List.getD_eq_getElem?_getD, Int.toNat_natCast, List.getElem?_eq_getElem h]; rfl
theorem rdM_T162 (l : List S162) (i : Nat) (h : i < l.length) : rd_T162 l (i : Int) ∈ l := by rw [rdE_T162 l i h]; exact List.getElem_mem h
theorem sz_Seg (x : S162) (left : Int) (hin : UpL_Seg 9223372036854775807 x) (h0 : 0 ≤ left) (h1 : left ≤ 1048576) :
  ∃ r, Ev (fun k => laws_szSeg.f x.f0 x.f1 x.f2 x.f3.f0 x.f3.f1 left) r ∧ (r < 0 ∨ (0 ≤ r ∧ r ≤ left ∧ UpL_Seg 1048576 x)) := by
 unfold UpL_Seg at hin
 have i3 := hin
 obtain ⟨r3, ⟨K3, e3⟩, hb3⟩ := sz_Bits x.f3 left i3 (by omega) (by omega)
 rcases hb3 with c3 | ⟨p3, q3, u3⟩
 ·exact ⟨-1, ⟨K3, fun k hk => by have e3 := e3 k (by omega); dsimp only at e3 ⊢; unfold laws_szSeg.f; rw [e3]; simp only [Option.bind_some]; rw [if_pos c3]⟩, .inl (by omega)⟩
 exact ⟨r3, ⟨K3, fun k hk => by have e3 := e3 k (by omega); dsimp only at e3 ⊢; unfold laws_szSeg.f; rw [e3]; simp only [Option.bind_some]; rw [if_neg (by omega)]⟩, .inr ⟨by omega, by omega, u3⟩⟩
theorem sz_SegS (x : List S162) (left : Int) (hin : ((x.length : Int) ≤ 9223372036854775807 ∧ ∀ y ∈ x, UpL_Seg 9223372036854775807 y)) (h0 : 0 ≤ left) (h1 : left ≤ 1048576) :
  ∃ r, Ev (fun k => laws_szSegS.f k x left) r ∧ (r < 0 ∨ (0 ≤ r ∧ r ≤ left ∧ ((x.length : Int) ≤ 1048576 ∧ ∀ y ∈ x, UpL_Seg 1048576 y))) := by
 obtain ⟨hl, hx⟩ := hin
 obtain ⟨r0, hr0, hb0⟩ := szn_out x.length left hl h0 h1
 rcases hb0 with c | ⟨p0, q0, u0⟩
 ·exact ⟨-1, ⟨0, fun k _ => by dsimp only; unfold laws_szSegS.f; rw [hr0 trivial, if_pos c]⟩, .inl (by omega)⟩
 ·have main : ∀ d i, x.length - i = d → i ≤ x.length → ∀ lf, 0 ≤ lf → lf ≤ left → ∃ r, Ev (fun k => laws_szSegS.l0 k x lf (i : Int)) r ∧ (r < 0 ∨ (0 ≤ r ∧ r ≤ lf ∧ ∀ j : Nat, i ≤ j → j < x.length → UpL_Seg 1048576 ((rd_T162 x (j : Int))))) := by
   intro d
   induction d with
   | zero =>
    intro i hd hi lf g0 g1
    exact ⟨lf, Ev.step (f := fun _ => some lf) (fun k => by simp only [laws_szSegS.l0]; rw [if_neg (by omega)]) (Ev.now _), .inr ⟨g0, Int.le_refl _, fun j g2 g3 => absurd g3 (by omega)⟩⟩
   | succ d ih =>
    intro i hd hi lf g0 g1
    have hil : i < x.length := by omega
    obtain ⟨r, ⟨K, hr⟩, hrb⟩ := sz_Seg (rd_T162 x (i : Int)) lf (hx _ (rdM_T162 x i hil)) g0 (by omega)
    rcases hrb with hneg | ⟨p1, p2, p3⟩
    ·refine ⟨-1, ⟨K + 1, fun k hk => ?_⟩, .inl (by omega)⟩
     obtain ⟨m, rfl⟩ : ∃ m, k = m + 1 := ⟨k - 1, by omega⟩
     have hr := hr m (by omega)
     dsimp only at hr ⊢
     simp only [laws_szSegS.l0]
     rw [if_pos (by omega), if_pos (by omega), hr]
     simp only [Option.bind_some]
     rw [if_pos hneg]
    ·obtain ⟨r2, ⟨K2, h2⟩, hb2⟩ := ih (i + 1) (by omega) (by omega) r p1 (by omega)
     refine ⟨r2, ⟨K + K2 + 1, fun k hk => ?_⟩, ?_⟩
     ·obtain ⟨m, rfl⟩ : ∃ m, k = m + 1 := ⟨k - 1, by omega⟩
      have hr := hr m (by omega)
      have h2 := h2 m (by omega)
      dsimp only at hr h2 ⊢
      simp only [laws_szSegS.l0]
      rw [if_pos (by omega), if_pos (by omega), hr]
      simp only [Option.bind_some]
      rw [if_neg (by omega), wrap_next i (by omega)]
      exact h2
     ·rcases hb2 with hb2 | ⟨s0, s1, s2⟩
      ·exact .inl hb2
      ·refine .inr ⟨s0, by omega, fun j g2 g3 => ?_⟩
       by_cases e : j = i
       ·rw [e]; exact p3
       ·exact s2 j (by omega) g3
  obtain ⟨r, ⟨K, hr⟩, hb⟩ := main x.length 0 (by omega) (by omega) r0 p0 q0
  refine ⟨r, ⟨K, fun k hk => ?_⟩, ?_⟩
  ·have hr := hr k hk
   dsimp only at hr ⊢
   unfold laws_szSegS.f
   rw [hr0 trivial, if_neg (by omega)]
   exact hr
  ·rcases hb with hb | ⟨s0, s1, s2⟩
   ·exact .inl hb
   ·refine .inr ⟨s0, by omega, by omega, fun y hy => ?_⟩
    obtain ⟨j, hjl, rfl⟩ := List.getElem_of_mem hy
    have := s2 j (by omega) hjl
    rwa [rdE_T162 x j hjl] at this
def UpI_Bits (c : Int) (x : S149) : Prop := ((x.f1.length : Int) ≤ c)
def cv_Bits (x : S160) : S149 := ⟨x.f0, x.f1⟩
theorem upcv_Bits (c : Int) (x : S160) (h : UpL_Bits c x) : UpI_Bits c (cv_Bits x) := by
 unfold UpL_Bits at h
 unfold UpI_Bits
 have i1 := h
 exact i1
theorem in_Bits (x : S160) (h : (Lit.int .i64 x.f0).wf = true ∧ (x.f1.length ≤ 9223372036854775807 ∧ ∀ y0 ∈ x.f1, (Lit.int .u64 y0).wf = true)) : UpL_Bits 9223372036854775807 x := by
 obtain ⟨j0, j1⟩ := h
 unfold UpL_Bits
 exact (Int.ofNat_le.2 j1.1)
theorem to_Uint64S (x : List Int) (h : ((x.length : Int) ≤ 1048576)) : Ev (fun k => laws_toUint64S.f k x) x := by
 have hl := h
 have main := up_loop x.length (filled (fun i => (rd x i)) (List.replicate x.length 0)) (fun k xs i => laws_toUint64S.l0 k x xs i)
  (fun i hi r h2 => by
   obtain ⟨K2, h2⟩ := h2
   refine ⟨K2 + 1, fun k hk => ?_⟩
   obtain ⟨m, rfl⟩ : ∃ m, k = m + 1 := ⟨k - 1, by omega⟩
   have h2 := h2 m (by omega)
   dsimp only at h2 ⊢
   rw [← filled_set _ _ (by simpa using hi)] at h2
   simp only [laws_toUint64S.l0]
   rw [if_pos (by omega), if_pos (by omega)]
   rw [if_pos (by rw [filled_len _ _ (by simp; omega)]; simp; omega), Int.toNat_natCast, wrap64_id (by omega) (by omega)]
   exact h2)
  x (Ev.step (f := fun _ => some x) (fun k => by
   simp only [laws_toUint64S.l0]
   rw [if_neg (by omega), filled_all _ _ (by simp)]
   congr 1
   exact list_of_rd x) (Ev.now _))
 rw [filled_zero] at main
 refine Ev.congr (fun k => ?_) main
 unfold laws_toUint64S.f
 rw [if_pos (by omega), if_pos (by omega), Int.toNat_natCast]
theorem to_Bits (x : S160) (h : UpL_Bits 1048576 x) : Ev (fun k => laws_toBits.f k x.f0 x.f1) ((cv_Bits x).f0, (cv_Bits x).f1) := by
 unfold UpL_Bits at h
 have i1 := h
 obtain ⟨K1, e1⟩ := to_Uint64S x.f1 i1
 refine ⟨K1, fun k hk => ?_⟩
 have e1 := e1 k (by omega)
 dsimp only at e1 ⊢
 simp only [laws_toBits.f, e1, Option.bind_some]
 all_goals rfl
def UpI_Decl (c : Int) (x : S146) : Prop := ((x.f0.size : Int) ≤ c)
theorem rdE_T146 (l : List S146) (i : Nat) (h : i < l.length) : rd_T146 l (i : Int) = l[i] := by
 unfold rd_T146
 rw [List.getD_eq_getElem?_getD, Int.toNat_natCast, List.getElem?_eq_getElem h]; rfl
theorem rdM_T146 (l : List S146) (i : Nat) (h : i < l.length) : rd_T146 l (i : Int) ∈ l := by rw [rdE_T146 l i h]; exact List.getElem_mem h
def cv_Decl (x : S142) : S146 := ⟨x.f0, x.f1⟩
theorem upcv_Decl (c : Int) (x : S142) (h : UpL_Decl c x) : UpI_Decl c (cv_Decl x) := by
 unfold UpL_Decl at h
 unfold UpI_Decl
 have i0 := h
 exact i0
theorem in_Decl (x : S142) (h : x.f0.size ≤ maxLen ∧ (Lit.int .i64 x.f1).wf = true) : UpL_Decl 9223372036854775807 x := by
 obtain ⟨j0, j1⟩ := h
 unfold UpL_Decl
 exact (by have := j0; unfold maxLen at this; omega)
theorem to_Decl (x : S142) (h : UpL_Decl 1048576 x) : Ev (fun k => laws_toDecl.f x.f0 x.f1) ((cv_Decl x).f0, (cv_Decl x).f1) := by
 unfold UpL_Decl at h
 have i0 := h
 refine ⟨0, fun k hk => ?_⟩
 dsimp only
 simp only [laws_toDecl.f, Option.bind_some]
 all_goals rfl
theorem to_DeclS (x : List S142) (h : ((x.length : Int) ≤ 1048576 ∧ ∀ y ∈ x, UpL_Decl 1048576 y)) : Ev (fun k => laws_toDeclS.f k x) (x.map cv_Decl) := by
 have hl := h.1
 have main := up_loop x.length (filled (fun i => (cv_Decl (rd_T142 x i))) (List.replicate x.length z146)) (fun k xs i => laws_toDeclS.l0 k x xs i)
  (fun i hi r h2 => by
   obtain ⟨K, he⟩ := to_Decl (rd_T142 x (i : Int)) (h.2 _ (rdM_T142 x i hi))
   obtain ⟨K2, h2⟩ := h2
   refine ⟨K + K2 + 1, fun k hk => ?_⟩
   obtain ⟨m, rfl⟩ : ∃ m, k = m + 1 := ⟨k - 1, by omega⟩
   have h2 := h2 m (by omega)
   have he := he m (by omega)
   dsimp only at he h2 ⊢
   rw [← filled_set _ _ (by simpa using hi)] at h2
   simp only [laws_toDeclS.l0]
   rw [if_pos (by omega), if_pos (by omega), he]
   simp only [Option.bind_some]
   rw [if_pos (by rw [filled_len _ _ (by simp; omega)]; simp; omega), Int.toNat_natCast, wrap64_id (by omega) (by omega)]
   exact h2)
  (x.map cv_Decl) (Ev.step (f := fun _ => some (x.map cv_Decl)) (fun k => by
   simp only [laws_toDeclS.l0]
   rw [if_neg (by omega), filled_all _ _ (by simp)]
   congr 1
   apply List.ext_getElem?
   intro i
   by_cases hi : i < x.length
   ·simp [hi, rdE_T142]
   ·rw [List.getElem?_eq_none (by first | omega | (simp; omega)), List.getElem?_eq_none (by first | omega | (simp; omega))]) (Ev.now _))
 rw [filled_zero] at main
 refine Ev.congr (fun k => ?_) main
 unfold laws_toDeclS.f
 rw [if_pos (by omega), if_pos (by omega), Int.toNat_natCast]
def UpI_Seg (c : Int) (x : S165) : Prop := UpI_Bits c x.f3
theorem rdE_T165 (l : List S165) (i : Nat) (h : i < l.length) : rd_T165 l (i : Int) = l[i] := by
 unfold rd_T165
 rw [List.getD_eq_getElem?_getD, Int.toNat_natCast, List.getElem?_eq_getElem h]; rfl
theorem rdM_T165 (l : List S165) (i : Nat) (h : i < l.length) : rd_T165 l (i : Int) ∈ l := by rw [rdE_T165 l i h]; exact List.getElem_mem h
def cv_Seg (x : S162) : S165 := ⟨x.f0, x.f1, x.f2, (cv_Bits x.f3)⟩
theorem upcv_Seg (c : Int) (x : S162) (h : UpL_Seg c x) : UpI_Seg c (cv_Seg x) := by
 unfold UpL_Seg at h
 unfold UpI_Seg
 have i3 := h
 exact (upcv_Bits c _ i3)
theorem in_Seg (x : S162) (h : (Lit.int .i64 x.f0).wf = true ∧ (Lit.int .i64 x.f1).wf = true ∧ (Lit.int .i64 x.f2).wf = true ∧ (Lit.int .i64 x.f3.f0).wf = true ∧ (x.f3.f1.length ≤ 9223372036854775807 ∧ ∀ y0 ∈ x.f3.f1, (Lit.int .u64 y0).wf = true)) : UpL_Seg 9223372036854775807 x := by
 obtain ⟨j0, j1, j2, j3⟩ := h
 unfold UpL_Seg
 exact (in_Bits _ j3)
theorem to_Seg (x : S162) (h : UpL_Seg 1048576 x) : Ev (fun k => laws_toSeg.f k x.f0 x.f1 x.f2 x.f3.f0 x.f3.f1) ((cv_Seg x).f0, (cv_Seg x).f1, (cv_Seg x).f2, (cv_Seg x).f3.f0, (cv_Seg x).f3.f1) := by
 unfold UpL_Seg at h
 have i3 := h
 obtain ⟨K3, e3⟩ := to_Bits x.f3 i3
 refine ⟨K3, fun k hk => ?_⟩
 have e3 := e3 k (by omega)
 dsimp only at e3 ⊢
 simp only [laws_toSeg.f, e3, Option.bind_some]
 all_goals rfl
theorem to_SegS (x : List S162) (h : ((x.length : Int) ≤ 1048576 ∧ ∀ y ∈ x, UpL_Seg 1048576 y)) : Ev (fun k => laws_toSegS.f k x) (x.map cv_Seg) := by
 have hl := h.1
 have main := up_loop x.length (filled (fun i => (cv_Seg (rd_T162 x i))) (List.replicate x.length z165)) (fun k xs i => laws_toSegS.l0 k x xs i)
  (fun i hi r h2 => by
   obtain ⟨K, he⟩ := to_Seg (rd_T162 x (i : Int)) (h.2 _ (rdM_T162 x i hi))
   obtain ⟨K2, h2⟩ := h2
   refine ⟨K + K2 + 1, fun k hk => ?_⟩
   obtain ⟨m, rfl⟩ : ∃ m, k = m + 1 := ⟨k - 1, by omega⟩
   have h2 := h2 m (by omega)
   have he := he m (by omega)
   dsimp only at he h2 ⊢
   rw [← filled_set _ _ (by simpa using hi)] at h2
   simp only [laws_toSegS.l0]
   rw [if_pos (by omega), if_pos (by omega), he]
   simp only [Option.bind_some]
   rw [if_pos (by rw [filled_len _ _ (by simp; omega)]; simp; omega), Int.toNat_natCast, wrap64_id (by omega) (by omega)]
   exact h2)
  (x.map cv_Seg) (Ev.step (f := fun _ => some (x.map cv_Seg)) (fun k => by
   simp only [laws_toSegS.l0]
   rw [if_neg (by omega), filled_all _ _ (by simp)]
   congr 1
   apply List.ext_getElem?
   intro i
   by_cases hi : i < x.length
   ·simp [hi, rdE_T162]
   ·rw [List.getElem?_eq_none (by first | omega | (simp; omega)), List.getElem?_eq_none (by first | omega | (simp; omega))]) (Ev.now _))
 rw [filled_zero] at main
 refine Ev.congr (fun k => ?_) main
 unfold laws_toSegS.f
 rw [if_pos (by omega), if_pos (by omega), Int.toNat_natCast]
theorem eq_Uint64S (x : List Int) (h : ((x.length : Int) ≤ 1048576)) : Ev (fun k => laws_eqUint64S.f k x x) true := by
 have hl := h
 have main := up_loop x.length (fun _ => ()) (fun k _ i => laws_eqUint64S.l0 k x x i)
  (fun i hi r h2 => by
   obtain ⟨K2, h2⟩ := h2
   refine ⟨K2 + 1, fun k hk => ?_⟩
   obtain ⟨m, rfl⟩ : ∃ m, k = m + 1 := ⟨k - 1, by omega⟩
   have h2 := h2 m (by omega)
   dsimp only at h2 ⊢
   simp only [laws_eqUint64S.l0]
   rw [if_pos (by omega), if_pos (by omega), if_pos (by omega)]
   simp only [if_true]
   rw [wrap64_id (by omega) (by omega)]
   exact h2)
  true (Ev.step (f := fun _ => some true) (fun k => by
   simp only [laws_eqUint64S.l0]
   rw [if_neg (by omega)]) (Ev.now _))
 obtain ⟨K, h⟩ := main
 refine ⟨K, fun k hk => ?_⟩
 have h := h k hk
 dsimp only at h ⊢
 unfold laws_eqUint64S.f
 rw [if_pos rfl]
 exact h
theorem eq_Bits (x : S149) (h : UpI_Bits 1048576 x) : Ev (fun k => laws_eqBits.f k x.f0 x.f1 x.f0 x.f1) true := by
 unfold UpI_Bits at h
 have i1 := h
 obtain ⟨K1, e1⟩ := eq_Uint64S x.f1 i1
 refine ⟨K1, fun k hk => ?_⟩
 have e1 := e1 k (by omega)
 dsimp only at e1 ⊢
 simp only [laws_eqBits.f, e1, Option.bind_some, if_true, ↓reduceIte]
theorem eq_Decl (x : S146) (h : UpI_Decl 1048576 x) : Ev (fun k => laws_eqDecl.f x.f0 x.f1 x.f0 x.f1) true := by
 unfold UpI_Decl at h
 have i0 := h
 refine ⟨0, fun k hk => ?_⟩
 dsimp only
 simp only [laws_eqDecl.f, Option.bind_some, if_true, ↓reduceIte]
theorem eq_DeclS (x : List S146) (h : ((x.length : Int) ≤ 1048576 ∧ ∀ y ∈ x, UpI_Decl 1048576 y)) : Ev (fun k => laws_eqDeclS.f k x x) true := by
 have hl := h.1
 have main := up_loop x.length (fun _ => ()) (fun k _ i => laws_eqDeclS.l0 k x x i)
  (fun i hi r h2 => by
   obtain ⟨K, he⟩ := eq_Decl (rd_T146 x (i : Int)) (h.2 _ (rdM_T146 x i hi))
   obtain ⟨K2, h2⟩ := h2
   refine ⟨K + K2 + 1, fun k hk => ?_⟩
   obtain ⟨m, rfl⟩ : ∃ m, k = m + 1 := ⟨k - 1, by omega⟩
   have h2 := h2 m (by omega)
   have he := he m (by omega)
   dsimp only at he h2 ⊢
   simp only [laws_eqDeclS.l0]
   rw [if_pos (by omega), if_pos (by omega), if_pos (by omega), he]
   simp only [Option.bind_some, if_true, ↓reduceIte]
   rw [wrap64_id (by omega) (by omega)]
   exact h2)
  true (Ev.step (f := fun _ => some true) (fun k => by
   simp only [laws_eqDeclS.l0]
   rw [if_neg (by omega)]) (Ev.now _))
 obtain ⟨K, h⟩ := main
 refine ⟨K, fun k hk => ?_⟩
 have h := h k hk
 dsimp only at h ⊢
 unfold laws_eqDeclS.f
 rw [if_pos rfl]
 exact h
theorem eq_Seg (x : S165) (h : UpI_Seg 1048576 x) : Ev (fun k => laws_eqSeg.f k x.f0 x.f1 x.f2 x.f3.f0 x.f3.f1 x.f0 x.f1 x.f2 x.f3.f0 x.f3.f1) true := by
 unfold UpI_Seg at h
 have i3 := h
 obtain ⟨K3, e3⟩ := eq_Bits x.f3 i3
 refine ⟨K3, fun k hk => ?_⟩
 have e3 := e3 k (by omega)
 dsimp only at e3 ⊢
 simp only [laws_eqSeg.f, e3, Option.bind_some, if_true, ↓reduceIte]
theorem eq_SegS (x : List S165) (h : ((x.length : Int) ≤ 1048576 ∧ ∀ y ∈ x, UpI_Seg 1048576 y)) : Ev (fun k => laws_eqSegS.f k x x) true := by
 have hl := h.1
 have main := up_loop x.length (fun _ => ()) (fun k _ i => laws_eqSegS.l0 k x x i)
  (fun i hi r h2 => by
   obtain ⟨K, he⟩ := eq_Seg (rd_T165 x (i : Int)) (h.2 _ (rdM_T165 x i hi))
   obtain ⟨K2, h2⟩ := h2
   refine ⟨K + K2 + 1, fun k hk => ?_⟩
   obtain ⟨m, rfl⟩ : ∃ m, k = m + 1 := ⟨k - 1, by omega⟩
   have h2 := h2 m (by omega)
   have he := he m (by omega)
   dsimp only at he h2 ⊢
   simp only [laws_eqSegS.l0]
   rw [if_pos (by omega), if_pos (by omega), if_pos (by omega), he]
   simp only [Option.bind_some, if_true, ↓reduceIte]
   rw [wrap64_id (by omega) (by omega)]
   exact h2)
  true (Ev.step (f := fun _ => some true) (fun k => by
   simp only [laws_eqSegS.l0]
   rw [if_neg (by omega)]) (Ev.now _))
 obtain ⟨K, h⟩ := main
 refine ⟨K, fun k hk => ?_⟩
 have h := h k hk
 dsimp only at h ⊢
 unfold laws_eqSegS.f
 rw [if_pos rfl]
 exact h
def WfI_Decl (x : S146) : Prop := True ∧ (-9223372036854775808 ≤ x.f1 ∧ x.f1 ≤ 9223372036854775807)
theorem wf_Decl (x : S142) (h : x.f0.size ≤ maxLen ∧ (Lit.int .i64 x.f1).wf = true) : WfI_Decl (cv_Decl x) := by
 obtain ⟨j0, j1⟩ := h
 exact ⟨trivial, (wf_i64 j1)⟩
def WfI_Bits (x : S149) : Prop := (-9223372036854775808 ≤ x.f0 ∧ x.f0 ≤ 9223372036854775807) ∧ (∀ y ∈ x.f1, W64 y)
theorem wf_Bits (x : S160) (h : (Lit.int .i64 x.f0).wf = true ∧ (x.f1.length ≤ 9223372036854775807 ∧ ∀ y0 ∈ x.f1, (Lit.int .u64 y0).wf = true)) : WfI_Bits (cv_Bits x) := by
 obtain ⟨j0, j1⟩ := h
 exact ⟨(wf_i64 j0), (fun a1_ ha1_ => (wf_u64 (j1.2 a1_ ha1_)))⟩
def WfI_Seg (x : S165) : Prop := (-9223372036854775808 ≤ x.f0 ∧ x.f0 ≤ 9223372036854775807) ∧ (-9223372036854775808 ≤ x.f1 ∧ x.f1 ≤ 9223372036854775807) ∧ (-9223372036854775808 ≤ x.f2 ∧ x.f2 ≤ 9223372036854775807) ∧ WfI_Bits x.f3
theorem wf_Seg (x : S162) (h : (Lit.int .i64 x.f0).wf = true ∧ (Lit.int .i64 x.f1).wf = true ∧ (Lit.int .i64 x.f2).wf = true ∧ (Lit.int .i64 x.f3.f0).wf = true ∧ (x.f3.f1.length ≤ 9223372036854775807 ∧ ∀ y0 ∈ x.f3.f1, (Lit.int .u64 y0).wf = true)) : WfI_Seg (cv_Seg x) := by
 obtain ⟨j0, j1, j2, j3⟩ := h
 exact ⟨(wf_i64 j0), (wf_i64 j1), (wf_i64 j2), (wf_Bits _ j3)⟩
noncomputable def okB (w : Int) (l : List Int) : Bool := @decide (Right w l) (Classical.propDecidable _)
theorem okB_true {w : Int} {l : List Int} (h : Right w l) : okB w l = true := by unfold okB; exact @decide_eq_true _ (Classical.propDecidable _) h
theorem okB_false {w : Int} {l : List Int} (h : ¬ Right w l) : okB w l = false := by unfold okB; exact @decide_eq_false _ (Classical.propDecidable _) h
theorem okB_cases (w : Int) (l : List Int) : (okB w l = true ∧ Right w l) ∨ (okB w l = false ∧ ¬ Right w l) := by
 by_cases h : Right w l
 ·exact .inl ⟨okB_true h, h⟩
 ·exact .inr ⟨okB_false h, h⟩
theorem l1Bit_eq (w : Int) (l : List Int) (h : U64s l) (i : Nat) (hi : i < 64 * l.length) (hl : l.length ≤ 1048576) : spec_l1Bit.f w l (i : Int) = some (bitI l i) := by
 unfold spec_l1Bit.f
 rw [tdiv64 i (by omega), utmod64, if_pos (by omega), if_pos (by omega), if_pos (by omega), bit_reads h]
 rcases bitI_01 l i with e | e <;> simp [e]
theorem specBitsOk_l0 (w : Int) (l : List Int) (h : U64s l) (hl : l.length ≤ 1048576) (h1 : 1 ≤ w) (hw : w ≤ 64 * l.length) :
  ∃ b, Ev (fun k => spec_BitsOk.l0 k w w l) b ∧ (b = true ↔ ∀ i : Nat, w ≤ i → bitN l i = false) := by
 rcases find_loop (64 * l.length - w.toNat) (fun i => bitN l (w.toNat + i)) (fun k i => spec_BitsOk.l0 k (w + i) w l) (fun _ => false) true
  (fun i hi hp => Ev.step (f := fun _ => some false) (fun k => by
   simp only [spec_BitsOk.l0]
   rw [wrap64_id (by omega) (by omega), if_pos (by omega), show w + (i : Int) = ((w.toNat + i : Nat) : Int) by omega, l1Bit_eq w l h _ (by omega) hl]
   simp only [Option.bind_some]
   rw [if_neg (by simp only [bitI, hp, if_true]; decide)]) (Ev.now _))
  (fun i hi hp r hr => Ev.step (fun k => by
   simp only [spec_BitsOk.l0]
   rw [wrap64_id (x := 64 * (l.length : Int)) (by omega) (by omega), if_pos (by omega)]
   have e := l1Bit_eq w l h (w.toNat + i) (by omega) hl
   rw [show w + (i : Int) = ((w.toNat + i : Nat) : Int) by omega, e]
   simp only [Option.bind_some]
   rw [if_pos (by simp only [bitI, hp]; rfl), wrap64_id (by omega) (by omega), show ((w.toNat + i : Nat) : Int) + 1 = w + ((i : Int) + 1) by omega]) hr)
  (Ev.step (f := fun _ => some true) (fun k => by
   simp only [spec_BitsOk.l0]
   rw [wrap64_id (by omega) (by omega), if_neg (by omega)]) (Ev.now _)) with ⟨i, hi, hp, _, hr⟩ | ⟨hp, hr⟩
 ·refine ⟨false, by simpa using hr, (fun hb => by cases hb), fun hb => ?_⟩
  have := hb (w.toNat + i) (by omega)
  rw [this] at hp; cases hp
 ·refine ⟨true, by simpa using hr, fun _ i hi => ?_, fun _ => rfl⟩
  by_cases ho : i < 64 * l.length
  ·have := hp (i - w.toNat) (by omega)
   rwa [show w.toNat + (i - w.toNat) = i by omega] at this
  ·exact bitN_out (by omega)
theorem specBitsOk_ev (w : Int) (l : List Int) (h : U64s l) (hl : l.length ≤ 1048576) (hw0 : -9223372036854775808 ≤ w) (hw1 : w ≤ 9223372036854775807) : Ev (fun k => spec_BitsOk.f k w l) (okB w l) := by
 by_cases hin : 1 ≤ w ∧ w ≤ 4096
 ·have e1 : spec_l1In.f w 1 4096 = some true := by unfold spec_l1In.f; rw [if_pos (by omega), decide_eq_true (by omega)]
  have e2 := fun (_ : True) => words_of w (by omega) (by omega)
  by_cases hlen : (l.length : Int) = (w + 63) / 64
  ·obtain ⟨b, hb, hbi⟩ := specBitsOk_l0 w l h hl hin.1 (by omega)
   have : okB w l = b := by
    cases b with
    | true => exact okB_true ⟨hin.1, hin.2, hlen, h, hbi.1 rfl⟩
    | false => exact okB_false fun hr => by have := hbi.2 hr.top; cases this
   rw [this]
   obtain ⟨K, hb⟩ := hb
   refine ⟨K + 1, fun k hk => ?_⟩
   obtain ⟨m, rfl⟩ : ∃ m, k = m + 1 := ⟨k - 1, by omega⟩
   dsimp only
   unfold spec_BitsOk.f
   rw [e1, e2 trivial]
   simp only [Option.bind_some, if_true, spec_BitsOk.j0]
   rw [if_neg (by simp [hlen])]
   exact hb m (by omega)
  ·rw [okB_false fun hr => hlen hr.len]
   refine ⟨1, fun k hk => ?_⟩
   obtain ⟨m, rfl⟩ : ∃ m, k = m + 1 := ⟨k - 1, by omega⟩
   dsimp only
   unfold spec_BitsOk.f
   rw [e1, e2 trivial]
   simp only [Option.bind_some, if_true, spec_BitsOk.j0]
   rw [if_pos (by simpa using hlen)]
 ·rw [okB_false fun hr => hin ⟨hr.low, hr.high⟩]
  have e1 : spec_l1In.f w 1 4096 = some false := by
   unfold spec_l1In.f
   by_cases h1 : w ≥ 1
   ·rw [if_pos h1, decide_eq_false (by omega)]
   ·rw [if_neg h1]
  refine ⟨1, fun k hk => ?_⟩
  obtain ⟨m, rfl⟩ : ∃ m, k = m + 1 := ⟨k - 1, by omega⟩
  dsimp only
  unfold spec_BitsOk.f
  rw [e1]
  simp [spec_BitsOk.j0]
theorem inside_eq (a b c : Int) : impl_inside.f a b c = some (decide (b ≤ a ∧ a ≤ c)) := by
 unfold impl_inside.f
 by_cases h1 : b ≤ a
 ·rw [if_pos h1]; simp [h1]
 ·rw [if_neg h1]; simp [h1]
theorem l1In_eq (a b c : Int) : spec_l1In.f a b c = some (decide (b ≤ a ∧ a ≤ c)) := by
 unfold spec_l1In.f
 by_cases h1 : b ≤ a
 ·rw [if_pos h1]; simp [h1]
 ·rw [if_neg h1]; simp [h1]
theorem wordsFor_eq (w : Int) (h0 : 0 ≤ w) (h1 : w ≤ 1000000000) : impl_wordsFor.f w = some ((w + 63) / 64) := by
 unfold impl_wordsFor.f
 rw [wrap64_id (x := w + 63) (by omega) (by omega), Int.tdiv_eq_ediv_of_nonneg (by omega), wrap64_id (by omega) (by omega)]
theorem implBitsOk_eq (w : Int) (l : List Int) (h : U64s l) (hl : l.length ≤ 1048576) : impl_BitsOk.f w l = some (okB w l) := by
 unfold impl_BitsOk.f
 rw [inside_eq]
 simp only [Option.bind_some]
 by_cases hin : 1 ≤ w ∧ w ≤ 4096
 ·rw [if_pos (decide_eq_true hin), wordsFor_eq w (by omega) (by omega)]
  simp only [Option.bind_some]
  by_cases hlen : (l.length : Int) = (w + 63) / 64
  ·rw [if_pos hlen, Int.tmod_eq_emod_of_nonneg (by omega)]
   by_cases hm : w % 64 = 0
   ·rw [if_pos hm, okB_true ⟨hin.1, hin.2, hlen, h, fun i hi => bitN_out (by omega)⟩]
   ·rw [if_neg hm, wrap64_id (x := (l.length : Int) - 1) (by omega) (by omega), if_pos (by omega), if_pos (by omega), if_pos (by omega)]
    congr 1
    have hx := rd_w64 h ((l.length : Int) - 1)
    have hs := shr_w64 hx (n := w % 64) (by omega)
    by_cases hz : shr .u64 (rd l ((l.length : Int) - 1)) (w % 64) = 0
    ·rw [hz]
     refine (okB_true ⟨hin.1, hin.2, hlen, h, fun i hi => ?_⟩).symm
     by_cases ho : i < 64 * l.length
     ·have h2 := hs.2 (i % 64 - (w % 64).toNat)
      rw [hz] at h2
      have e : i / 64 = l.length - 1 := by omega
      unfold bitN
      rw [e, ← show (w % 64).toNat + (i % 64 - (w % 64).toNat) = i % 64 by omega]
      rw [rd_getD, show ((l.length : Int) - 1).toNat = l.length - 1 by omega] at h2
      rw [← h2]; simp
     ·exact bitN_out (by omega)
    ·have e : (shr .u64 (rd l ((l.length : Int) - 1)) (w % 64) == 0) = false := by simpa using hz
     rw [e]
     refine (okB_false fun hr => hz ?_).symm
     have h0 : (shr .u64 (rd l ((l.length : Int) - 1)) (w % 64)).toNat = 0 := by
      apply testBit_ext (by have := hs.1; unfold W64 at this; omega) (by decide)
      intro j hj
      rw [hs.2]
      by_cases hb : (w % 64).toNat + j < 64
      ·have := hr.top (64 * (l.length - 1) + ((w % 64).toNat + j)) (by omega)
       unfold bitN at this
       rw [show (64 * (l.length - 1) + ((w % 64).toNat + j)) / 64 = l.length - 1 by omega, show (64 * (l.length - 1) + ((w % 64).toNat + j)) % 64 = (w % 64).toNat + j by omega] at this
       rw [rd_getD, show ((l.length : Int) - 1).toNat = l.length - 1 by omega, this]; simp
      ·rw [testBit_w64 hx (by omega)]; simp
     have := hs.1.1
     omega
  ·rw [if_neg hlen, okB_false fun hr => hlen hr.len]
 ·rw [if_neg (by simpa using hin), okB_false fun hr => hin ⟨hr.low, hr.high⟩]
theorem rdD (l : List S146) (i : Nat) (h : i < l.length) : rd_T146 l (i : Int) = l[i] := by
 unfold rd_T146
 rw [List.getD_eq_getElem?_getD, Int.toNat_natCast, List.getElem?_eq_getElem h]; rfl
theorem rdD_mem (l : List S146) (i : Nat) (h : i < l.length) : rd_T146 l (i : Int) ∈ l := by rw [rdD l i h]; exact List.getElem_mem h
theorem names_agree (s : ByteArray) (hs : s.size ≤ 1048576) : ∃ b, Ev (fun k => spec_l1Name.f k s) b ∧ Ev (fun k => impl_nameOk.f k s) b := by
 have digit : ∀ c, spec_l1Digit.f c = some (decide (48 ≤ c ∧ c ≤ 57)) := fun c => by
  unfold spec_l1Digit.f
  by_cases h : 48 ≤ c
  ·rw [if_pos h]; simp [h]
  ·rw [if_neg h]; simp [h]
 have main : ∀ d i, s.size - i = d → i ≤ s.size → ∃ b, Ev (fun k => spec_l1Name.l0 k s (i : Int)) b ∧ Ev (fun k => impl_nameOk.l0 k s (i : Int)) b := by
  intro d
  induction d with
  | zero =>
   intro i hd hi
   refine ⟨true, Ev.step (f := fun _ => some true) (fun k => ?_) (Ev.now _), Ev.step (f := fun _ => some true) (fun k => ?_) (Ev.now _)⟩
   ·simp only [spec_l1Name.l0]; rw [if_neg (by omega)]
   ·simp only [impl_nameOk.l0]; rw [if_neg (by omega)]
  | succ d ih =>
   intro i hd hi
   obtain ⟨b, h1, h2⟩ := ih (i + 1) (by omega) (by omega)
   have hw : True → wrap64 ((i : Int) + 1) = ((i + 1 : Nat) : Int) := fun _ => wrap_succ' i (by omega)
   have p1 : (i : Int) < (s.size : Int) := by omega
   have p2 : (0 : Int) ≤ (i : Int) := by omega
   by_cases cd : 48 ≤ bt s (i : Int) ∧ bt s (i : Int) ≤ 57
   ·refine ⟨b, Ev.step (fun k => ?_) h1, Ev.step (fun k => ?_) h2⟩
    ·simp only [spec_l1Name.l0]
     rw [hw trivial, if_pos p1, if_pos p2, digit, decide_eq_true cd]
     simp only [Option.bind_some, if_true]
    ·simp only [impl_nameOk.l0]
     rw [hw trivial, if_pos p1, if_pos p2, if_pos (by omega), if_neg (by omega), if_neg (by omega)]
   ·by_cases ca : bt s (i : Int) < 97
    ·refine ⟨false, Ev.step (f := fun _ => some false) (fun k => ?_) (Ev.now _), Ev.step (f := fun _ => some false) (fun k => ?_) (Ev.now _)⟩
     ·simp only [spec_l1Name.l0]
      rw [if_pos p1, if_pos p2, digit, decide_eq_false cd]
      simp only [Option.bind_some]
      rw [if_neg (by decide), if_pos ca]
     ·simp only [impl_nameOk.l0]
      rw [if_pos p1, if_pos p2, if_pos ca]
      by_cases c48 : bt s (i : Int) < 48
      ·rw [if_pos c48]
      ·rw [if_neg c48, if_pos (by omega)]
    ·by_cases cz : bt s (i : Int) > 122
     ·refine ⟨false, Ev.step (f := fun _ => some false) (fun k => ?_) (Ev.now _), Ev.step (f := fun _ => some false) (fun k => ?_) (Ev.now _)⟩
      ·simp only [spec_l1Name.l0]
       rw [if_pos p1, if_pos p2, digit, decide_eq_false cd]
       simp only [Option.bind_some]
       rw [if_neg (by decide), if_neg ca, if_pos cz]
      ·simp only [impl_nameOk.l0]
       rw [if_pos p1, if_pos p2, if_neg ca, if_pos cz, if_neg (by omega), if_pos (by omega)]
     ·refine ⟨b, Ev.step (fun k => ?_) h1, Ev.step (fun k => ?_) h2⟩
      ·simp only [spec_l1Name.l0]
       rw [hw trivial, if_pos p1, if_pos p2, digit, decide_eq_false cd]
       simp only [Option.bind_some]
       rw [if_neg (by decide), if_neg ca, if_neg cz]
      ·simp only [impl_nameOk.l0]
       rw [hw trivial, if_pos p1, if_pos p2, if_neg ca, if_neg cz]
 have yes1 : Ev (fun k => spec_l1Name.j0 k s true) false := Ev.step (f := fun _ => some false) (fun k => by simp only [spec_l1Name.j0, if_true]) (Ev.now _)
 have yes2 : Ev (fun k => impl_nameOk.j0 k s true) false := Ev.step (f := fun _ => some false) (fun k => by simp only [impl_nameOk.j0, if_true]) (Ev.now _)
 by_cases c1 : (s.size : Int) < 1
 ·exact ⟨false, Ev.congr (fun k => by unfold spec_l1Name.f; rw [if_pos c1]) yes1, Ev.congr (fun k => by unfold impl_nameOk.f; rw [if_pos c1]) yes2⟩
 ·by_cases c2 : (s.size : Int) > 12
  ·exact ⟨false, Ev.congr (fun k => by unfold spec_l1Name.f; rw [if_neg c1, if_pos c2]) yes1, Ev.congr (fun k => by unfold impl_nameOk.f; rw [if_neg c1, if_pos c2]) yes2⟩
  ·obtain ⟨b, h1, h2⟩ := main s.size 0 (by omega) (by omega)
   have p0 : (0 : Int) < (s.size : Int) := by omega
   have go1 : ∀ z, z = false → Ev (fun k => spec_l1Name.j0 k s z) b := fun z hz => Ev.step (fun k => by subst hz; simp only [spec_l1Name.j0]; rw [if_neg (by decide)]; rfl) h1
   have go2 : ∀ z, z = false → Ev (fun k => impl_nameOk.j0 k s z) b := fun z hz => Ev.step (fun k => by subst hz; simp only [impl_nameOk.j0]; rw [if_neg (by decide)]; rfl) h2
   by_cases cd : 48 ≤ bt s 0 ∧ bt s 0 ≤ 57
   ·refine ⟨false, Ev.congr (fun k => ?_) yes1, Ev.congr (fun k => ?_) yes2⟩
    ·unfold spec_l1Name.f; rw [if_neg c1, if_neg c2, if_pos p0, digit, decide_eq_true cd]; rfl
    ·unfold impl_nameOk.f; rw [if_neg c1, if_neg c2, if_pos p0, if_pos (by omega)]
   ·have e1 : ∀ k, spec_l1Name.f k s = spec_l1Name.j0 k s false := fun k => by unfold spec_l1Name.f; rw [if_neg c1, if_neg c2, if_pos p0, digit, decide_eq_false cd]; rfl
    by_cases ca : bt s 0 < 97
    ·-- the loop's first round says no
     obtain ⟨d, hd⟩ : ∃ d, d = s.size := ⟨_, rfl⟩
     refine ⟨false, Ev.congr e1 (Ev.step (fun k => by simp only [spec_l1Name.j0]; rw [if_neg (by decide)]) (Ev.step (g := fun k => spec_l1Name.l0 k s 0) (f := fun _ => some false) (fun k => ?_) (Ev.now _))), Ev.congr (fun k => ?_) yes2⟩
     ·simp only [spec_l1Name.l0]
      rw [if_pos p0, if_pos (by decide), digit, decide_eq_false cd]
      simp only [Option.bind_some]
      rw [if_neg (by decide), if_pos ca]
     ·unfold impl_nameOk.f; rw [if_neg c1, if_neg c2, if_pos p0, if_pos ca]
    ·by_cases cz : bt s 0 > 122
     ·refine ⟨false, Ev.congr e1 (Ev.step (fun k => by simp only [spec_l1Name.j0]; rw [if_neg (by decide)]) (Ev.step (g := fun k => spec_l1Name.l0 k s 0) (f := fun _ => some false) (fun k => ?_) (Ev.now _))), Ev.congr (fun k => ?_) yes2⟩
      ·simp only [spec_l1Name.l0]
       rw [if_pos p0, if_pos (by decide), digit, decide_eq_false cd]
       simp only [Option.bind_some]
       rw [if_neg (by decide), if_neg ca, if_pos cz]
      ·unfold impl_nameOk.f; rw [if_neg c1, if_neg c2, if_pos p0, if_neg ca, decide_eq_true cz]
     ·refine ⟨b, Ev.congr e1 (go1 _ rfl), Ev.congr (fun k => ?_) (go2 _ (decide_eq_false cz))⟩
      unfold impl_nameOk.f; rw [if_neg c1, if_neg c2, if_pos p0, if_neg ca]
theorem idxD_none (nm : ByteArray) : ∀ (l : List S146) (i : Int), (∀ x ∈ l, x.f0.toList ≠ nm.toList) → idxD nm l i = -1
 | [], i, _ => rfl
 | x :: xs, i, h => by
  simp only [idxD]
  rw [if_neg (by have := h x (by simp); simpa using this)]
  exact idxD_none nm xs (i + 1) fun y hy => h y (by simp [hy])
theorem idxD_some (nm : ByteArray) : ∀ (l : List S146) (i : Int), 0 ≤ i → (∃ x ∈ l, x.f0.toList = nm.toList) → 0 ≤ idxD nm l i
 | [], i, _, h => by obtain ⟨x, hx, _⟩ := h; cases hx
 | x :: xs, i, hi, h => by
  simp only [idxD]
  by_cases c : (x.f0.toList == nm.toList) = true
  ·rw [if_pos c]; exact hi
  ·rw [if_neg c]
   obtain ⟨y, hy, he⟩ := h
   rcases List.mem_cons.1 hy with rfl | hy
   ·exact absurd (by simpa using he) c
   ·exact idxD_some nm xs (i + 1) (by omega) ⟨y, hy, he⟩
def sumD : List S146 → Int
 | [] => 0
 | x :: xs => x.f1 + sumD xs
structure GoodDecls (l : List S146) : Prop where
 len : l.length ≤ 60
 width : ∀ x ∈ l, 1 ≤ x.f1 ∧ x.f1 ≤ 4096
 total : sumD l ≤ 20000
theorem decls_loops (l : List S146) (hl : l.length ≤ 60) (hx : ∀ x ∈ l, x.f0.size ≤ 1048576) :
  ∀ d i, l.length - i = d → i ≤ l.length → ∀ s : Int, 0 ≤ s → s ≤ 4096 * i → ∃ b, Ev (fun k => spec_DeclsOk.l0 k l s (i : Int)) b ∧ Ev (fun k => impl_DeclsOk.l0 k l s l (l.length : Int) (i : Int)) b ∧
   (b = true → (∀ x ∈ l.drop i, 1 ≤ x.f1 ∧ x.f1 ≤ 4096) ∧ s + sumD (l.drop i) ≤ 20000) := by
 intro d
 induction d with
 | zero =>
  intro i hd hi s g0 g1
  refine ⟨decide (s ≤ 20000), Ev.step (f := fun _ => some (decide (s ≤ 20000))) (fun k => ?_) (Ev.now _), Ev.step (f := fun _ => some (decide (s ≤ 20000))) (fun k => ?_) (Ev.now _), fun hb => ?_⟩
  ·simp only [spec_DeclsOk.l0]; rw [if_neg (by omega)]
  ·simp only [impl_DeclsOk.l0]; rw [if_neg (by omega)]
  ·have e : l.drop i = [] := List.drop_eq_nil_of_le (by omega)
   rw [e]
   refine ⟨(fun x hx => by cases hx), ?_⟩
   have := of_decide_eq_true hb
   show s + 0 ≤ 20000
   omega
 | succ d ih =>
  intro i hd hi s g0 g1
  have hil : i < l.length := by omega
  obtain ⟨x, hxx⟩ : ∃ x, x = rd_T146 l (i : Int) := ⟨_, rfl⟩
  have hxm : x ∈ l := by rw [hxx]; exact rdD_mem l i hil
  have hdrop : l.drop i = x :: l.drop (i + 1) := by rw [List.drop_eq_getElem_cons hil, hxx, rdD l i hil]
  obtain ⟨bn, ⟨K1, h1⟩, ⟨K2, h2⟩⟩ := names_agree x.f0 (hx x hxm)
  have q1 : (i : Int) < (l.length : Int) := by omega
  have q2 : (0 : Int) ≤ (i : Int) := by omega
  have q3 : (i : Int) ≤ (l.length : Int) := by omega
  have no : ∀ (P : Prop), ((false : Bool) = true → P) := fun P h => by cases h
  have specNo : ∀ m, spec_DeclsOk.j1 (m + 1) l s (i : Int) true = some false := fun m => by simp only [spec_DeclsOk.j1, if_true]
  cases bn with
  | false =>
   refine ⟨false, ⟨K1 + 2, fun k hk => ?_⟩, ⟨K2 + 1, fun k hk => ?_⟩, no _⟩
   ·obtain ⟨m, rfl⟩ : ∃ m, k = m + 1 + 1 := ⟨k - 2, by omega⟩
    have h1 := h1 (m + 1) (by omega)
    dsimp only at h1 ⊢
    simp only [spec_DeclsOk.l0]
    rw [← hxx, if_pos q1, if_pos q2, h1]
    simp only [Option.bind_some]
    rw [if_neg (by decide)]
    exact specNo m
   ·obtain ⟨m, rfl⟩ : ∃ m, k = m + 1 := ⟨k - 1, by omega⟩
    have h2 := h2 m (by omega)
    dsimp only at h2 ⊢
    simp only [impl_DeclsOk.l0]
    rw [← hxx, if_pos q1, if_pos q2, if_pos q1, h2]
    simp only [Option.bind_some]
    rw [if_neg (by decide)]
  | true =>
   by_cases cw : 1 ≤ x.f1 ∧ x.f1 ≤ 4096
   ·by_cases cd : ∃ y ∈ l.take i, y.f0.toList = x.f0.toList
    ·have hidx := idxD_some x.f0 (l.take i) 0 (by decide) cd
     -- the reference's inner loop finds it
     have inner : Ev (fun k => spec_DeclsOk.l1 k l s (i : Int) 0) false := by
      obtain ⟨y, hy, he⟩ := cd
      obtain ⟨j0, hj0, hyj⟩ := List.getElem_of_mem hy
      rw [List.length_take] at hj0
      rw [List.getElem_take] at hyj
      have heq : (rd_T146 l (j0 : Int)).f0.toList = x.f0.toList := by rw [rdD l j0 (by omega), hyj]; exact he
      have go : ∀ d j, j0 - j = d → j ≤ j0 → Ev (fun k => spec_DeclsOk.l1 k l s (i : Int) (j : Int)) false := by
       intro d
       induction d with
       | zero =>
        intro j hd hj
        have e : j = j0 := by omega
        subst e
        refine Ev.step (f := fun _ => some false) (fun k => ?_) (Ev.now _)
        simp only [spec_DeclsOk.l1]
        rw [← hxx, if_pos (by omega), if_pos (by omega), if_pos (by omega), if_pos q2, if_pos q1, if_pos heq]
       | succ d ih2 =>
        intro j hd hj
        by_cases e : (rd_T146 l (j : Int)).f0.toList = x.f0.toList
        ·refine Ev.step (f := fun _ => some false) (fun k => ?_) (Ev.now _)
         simp only [spec_DeclsOk.l1]
         rw [← hxx, if_pos (by omega), if_pos (by omega), if_pos (by omega), if_pos q2, if_pos q1, if_pos e]
        ·refine Ev.step (fun k => ?_) (ih2 (j + 1) (by omega) (by omega))
         simp only [spec_DeclsOk.l1]
         rw [← hxx, if_pos (by omega), if_pos (by omega), if_pos (by omega), if_pos q2, if_pos q1, if_neg e, wrap_succ' j (by omega)]
      exact go j0 0 (by omega) (by omega)
     obtain ⟨K3, h3⟩ := inner
     refine ⟨false, ⟨K1 + K3 + 2, fun k hk => ?_⟩, ⟨K2 + 1, fun k hk => ?_⟩, no _⟩
     ·obtain ⟨m, rfl⟩ : ∃ m, k = m + 1 + 1 := ⟨k - 2, by omega⟩
      have h1 := h1 (m + 1) (by omega)
      have h3 := h3 m (by omega)
      dsimp only at h1 h3 ⊢
      simp only [spec_DeclsOk.l0]
      rw [← hxx, if_pos q1, if_pos q2, h1]
      simp only [Option.bind_some, if_true]
      rw [l1In_eq, decide_eq_true cw]
      simp only [Option.bind_some, Bool.not_true, spec_DeclsOk.j1]
      rw [if_neg (by decide)]
      exact h3
     ·obtain ⟨m, rfl⟩ : ∃ m, k = m + 1 := ⟨k - 1, by omega⟩
      have h2 := h2 m (by omega)
      dsimp only at h2 ⊢
      simp only [impl_DeclsOk.l0, impl_declared.f]
      rw [← hxx, if_pos q1, if_pos q2, if_pos q1, h2]
      simp only [Option.bind_some, if_true]
      rw [inside_eq, decide_eq_true cw]
      simp only [Option.bind_some, if_true]
      rw [if_pos q3, Int.toNat_natCast, if_pos hidx]
    ·have hidx := idxD_none x.f0 (l.take i) 0 (fun y hy he => cd ⟨y, hy, he⟩)
     obtain ⟨b, hs, hi2, hb⟩ := ih (i + 1) (by omega) (by omega) (s + x.f1) (by omega) (by omega)
     have hws : True → wrap64 (s + x.f1) = s + x.f1 := fun _ => wrap64_id (by omega) (by omega)
     have hwi : True → wrap64 ((i : Int) + 1) = ((i + 1 : Nat) : Int) := fun _ => wrap_succ' i (by omega)
     have inner : Ev (fun k => spec_DeclsOk.l1 k l s (i : Int) 0) b := by
      refine up_loop i (fun _ => ()) (fun k _ j => spec_DeclsOk.l1 k l s (i : Int) j) (fun j hj r h => Ev.step (fun k => ?_) h) b (Ev.step (fun k => ?_) hs)
      ·have hne : ¬ (rd_T146 l (j : Int)).f0.toList = x.f0.toList := fun he => cd ⟨rd_T146 l (j : Int), by rw [rdD l j (by omega)]; exact List.mem_take_iff_getElem.2 ⟨j, by omega, rfl⟩, he⟩
       simp only [spec_DeclsOk.l1]
       rw [← hxx, if_pos (by omega), if_pos (by omega), if_pos (by omega), if_pos q2, if_pos q1, if_neg hne, wrap64_id (by omega) (by omega)]
      ·simp only [spec_DeclsOk.l1]
       rw [← hxx, hws trivial, hwi trivial, if_neg (by omega), if_pos q2, if_pos q1]
     obtain ⟨K3, h3⟩ := inner
     obtain ⟨K4, h4⟩ := hi2
     refine ⟨b, ⟨K1 + K3 + 2, fun k hk => ?_⟩, ⟨K2 + K4 + 1, fun k hk => ?_⟩, fun hbt => ?_⟩
     ·obtain ⟨m, rfl⟩ : ∃ m, k = m + 1 + 1 := ⟨k - 2, by omega⟩
      have h1 := h1 (m + 1) (by omega)
      have h3 := h3 m (by omega)
      dsimp only at h1 h3 ⊢
      simp only [spec_DeclsOk.l0]
      rw [← hxx, if_pos q1, if_pos q2, h1]
      simp only [Option.bind_some, if_true]
      rw [l1In_eq, decide_eq_true cw]
      simp only [Option.bind_some, Bool.not_true, spec_DeclsOk.j1]
      rw [if_neg (by decide)]
      exact h3
     ·obtain ⟨m, rfl⟩ : ∃ m, k = m + 1 := ⟨k - 1, by omega⟩
      have h2 := h2 m (by omega)
      have h4 := h4 m (by omega)
      dsimp only at h2 h4 ⊢
      simp only [impl_DeclsOk.l0, impl_declared.f]
      rw [← hxx, if_pos q1, if_pos q2, if_pos q1, h2]
      simp only [Option.bind_some, if_true]
      rw [inside_eq, decide_eq_true cw]
      simp only [Option.bind_some, if_true]
      rw [if_pos q3, Int.toNat_natCast, hidx, if_neg (by decide), hws trivial, hwi trivial]
      exact h4
     ·obtain ⟨t1, t2⟩ := hb hbt
      rw [hdrop]
      refine ⟨fun y hy => ?_, ?_⟩
      ·rcases List.mem_cons.1 hy with rfl | hy
       ·exact cw
       ·exact t1 y hy
      ·show s + (x.f1 + sumD (l.drop (i + 1))) ≤ 20000
       omega
   ·refine ⟨false, ⟨K1 + 2, fun k hk => ?_⟩, ⟨K2 + 1, fun k hk => ?_⟩, no _⟩
    ·obtain ⟨m, rfl⟩ : ∃ m, k = m + 1 + 1 := ⟨k - 2, by omega⟩
     have h1 := h1 (m + 1) (by omega)
     dsimp only at h1 ⊢
     simp only [spec_DeclsOk.l0]
     rw [← hxx, if_pos q1, if_pos q2, h1]
     simp only [Option.bind_some, if_true]
     rw [l1In_eq, decide_eq_false cw]
     simp only [Option.bind_some, Bool.not_false]
     exact specNo m
    ·obtain ⟨m, rfl⟩ : ∃ m, k = m + 1 := ⟨k - 1, by omega⟩
     have h2 := h2 m (by omega)
     dsimp only at h2 ⊢
     simp only [impl_DeclsOk.l0]
     rw [← hxx, if_pos q1, if_pos q2, if_pos q1, h2]
     simp only [Option.bind_some, if_true]
     rw [inside_eq, decide_eq_false cw]
     rfl
theorem declsOk_agree (l : List S146) (hx : ∀ x ∈ l, x.f0.size ≤ 1048576) :
  ∃ b, Ev (fun k => spec_DeclsOk.f k l) b ∧ Ev (fun k => impl_DeclsOk.f k l) b ∧ (b = true → GoodDecls l) := by
 by_cases c : (l.length : Int) > 60
 ·exact ⟨false, Ev.congr (fun k => by unfold spec_DeclsOk.f; rw [if_pos c]) (Ev.now _), Ev.congr (fun k => by unfold impl_DeclsOk.f; rw [if_pos c]) (Ev.now _), fun h => by cases h⟩
 ·obtain ⟨b, h1, h2, h3⟩ := decls_loops l (by omega) hx l.length 0 (by omega) (by omega) 0 (by decide) (by decide)
  refine ⟨b, Ev.congr (fun k => by unfold spec_DeclsOk.f; rw [if_neg c]; rfl) h1, Ev.congr (fun k => by unfold impl_DeclsOk.f; rw [if_neg c]; rfl) h2, fun hb => ?_⟩
  obtain ⟨t1, t2⟩ := h3 hb
  rw [List.drop_zero] at t1 t2
  exact ⟨by omega, t1, by omega⟩
theorem upDecl {l : List S146} (U : (l.length : Int) ≤ 1048576 ∧ ∀ y ∈ l, UpI_Decl 1048576 y) : ∀ x ∈ l, x.f0.size ≤ 1048576 := fun x hx => by
 have := U.2 x hx
 unfold UpI_Decl at this
 omega
def GoodSeg (l : List S146) (v low width vw : Int) (ws : List Int) : Prop :=
 (v = -1 ∧ low = 0 ∧ Right vw ws ∧ vw = width) ∨ (0 ≤ v ∧ v < l.length ∧ vw = 0 ∧ ws.length = 0 ∧ 0 ≤ low ∧ 1 ≤ width ∧ low + width ≤ (rd_T146 l v).f1)
theorem GoodSeg.width {l : List S146} {v low width vw : Int} {ws : List Int} (hg : GoodDecls l) (h : GoodSeg l v low width vw ws) : 1 ≤ width ∧ width ≤ 4096 ∧ 0 ≤ low ∧ low ≤ 4096 := by
 rcases h with ⟨h1, h2, h3, h4⟩ | ⟨h1, h2, h3, h4, h5, h6, h7⟩
 ·have := h3.low; have := h3.high; omega
 ·obtain ⟨n, rfl⟩ := Int.eq_ofNat_of_zero_le h1
  have := hg.width _ (rdD_mem l n (by omega))
  omega
theorem seg_agree (l : List S146) (hg : GoodDecls l) (v low width vw : Int) (ws : List Int) (hw : U64s ws) (hl : ws.length ≤ 1048576) (h0 : -9223372036854775808 ≤ vw) (h1 : vw ≤ 9223372036854775807) :
  (GoodSeg l v low width vw ws ∧ Ev (fun k => spec_l5Seg.f k l v low width vw ws) true ∧ Ev (fun k => impl_segOk.f k l v low width vw ws) true) ∨
  (¬ GoodSeg l v low width vw ws ∧ Ev (fun k => spec_l5Seg.f k l v low width vw ws) false ∧ Ev (fun k => impl_segOk.f k l v low width vw ws) false) := by
 have hi := implBitsOk_eq vw ws hw hl
 obtain ⟨K, hs⟩ := Ev.binds (specBitsOk_ev vw ws hw hl h0 h1)
 have hlen := hg.len
 have implOut : width < 1 ∨ width > 4096 → Ev (fun k => impl_segOk.f k l v low width vw ws) false := fun c => ⟨1, fun k hk => by
  obtain ⟨m, rfl⟩ : ∃ m, k = m + 1 := ⟨k - 1, by omega⟩
  by_cases c1 : width < 1
  ·simp (disch := omega) only [impl_segOk.f, impl_segOk.j0, ↓if_pos, ↓reduceIte]
  ·have c2 : decide (width > 4096) = true := decide_eq_true (by omega)
   simp (disch := omega) only [impl_segOk.f, impl_segOk.j0, ↓if_neg, c2, ↓reduceIte]⟩
 by_cases cv : v = -1
 ·subst cv
  by_cases cl : low = 0
  ·subst cl
   rcases okB_cases vw ws with ⟨e, hr⟩ | ⟨e, hr⟩
   ·by_cases cw : vw = width
    ·subst cw
     left
     have hlo := hr.low
     have hhi := hr.high
     have c2 : decide (vw > 4096) = false := decide_eq_false (by omega)
     refine ⟨.inl ⟨rfl, rfl, hr, rfl⟩, ⟨K, fun k hk => ?_⟩, ⟨1, fun k hk => ?_⟩⟩
     ·simp (disch := omega) only [spec_l5Seg.f, ↓reduceIte, ↓hs, e, beq_self_eq_true]
     ·obtain ⟨m, rfl⟩ : ∃ m, k = m + 1 := ⟨k - 1, by omega⟩
      simp (disch := omega) only [impl_segOk.f, impl_segOk.j0, ↓if_neg, c2, ↓reduceIte, Bool.false_eq_true, hi, e, Option.bind_some, beq_self_eq_true]
    ·right
     have ne : (vw == width) = false := beq_eq_false_iff_ne.2 cw
     refine ⟨fun h => ?_, ⟨K, fun k hk => ?_⟩, ?_⟩
     ·rcases h with ⟨_, _, _, h⟩ | ⟨h, _⟩
      ·exact cw h
      ·omega
     ·simp (disch := omega) only [spec_l5Seg.f, ↓reduceIte, ↓hs, e, ne]
     ·by_cases c : width < 1 ∨ width > 4096
      ·exact implOut c
      ·have c2 : decide (width > 4096) = false := decide_eq_false (by omega)
       refine ⟨1, fun k hk => ?_⟩
       obtain ⟨m, rfl⟩ : ∃ m, k = m + 1 := ⟨k - 1, by omega⟩
       simp (disch := omega) only [impl_segOk.f, impl_segOk.j0, ↓if_neg, c2, ↓reduceIte, Bool.false_eq_true, hi, e, Option.bind_some, ne]
   ·right
    refine ⟨fun h => ?_, ⟨K, fun k hk => ?_⟩, ?_⟩
    ·rcases h with ⟨_, _, h, _⟩ | ⟨h, _⟩
     ·exact hr h
     ·omega
    ·simp (disch := omega) only [spec_l5Seg.f, ↓reduceIte, ↓hs, e, Bool.false_eq_true]
    ·by_cases c : width < 1 ∨ width > 4096
     ·exact implOut c
     ·have c2 : decide (width > 4096) = false := decide_eq_false (by omega)
      refine ⟨1, fun k hk => ?_⟩
      obtain ⟨m, rfl⟩ : ∃ m, k = m + 1 := ⟨k - 1, by omega⟩
      simp (disch := omega) only [impl_segOk.f, impl_segOk.j0, ↓if_neg, c2, ↓reduceIte, Bool.false_eq_true, hi, e, Option.bind_some]
  ·right
   refine ⟨fun h => ?_, ⟨0, fun k hk => ?_⟩, ?_⟩
   ·rcases h with ⟨_, h, _⟩ | ⟨h, _⟩
    ·exact cl h
    ·omega
   ·simp (disch := omega) only [spec_l5Seg.f, ↓reduceIte, if_neg cl]
   ·by_cases c : width < 1 ∨ width > 4096
    ·exact implOut c
    ·have c2 : decide (width > 4096) = false := decide_eq_false (by omega)
     refine ⟨1, fun k hk => ?_⟩
     obtain ⟨m, rfl⟩ : ∃ m, k = m + 1 := ⟨k - 1, by omega⟩
     simp (disch := omega) only [impl_segOk.f, impl_segOk.j0, ↓if_neg, c2, ↓reduceIte, Bool.false_eq_true, if_neg cl]
 ·have hwl : True → wrap64 ((l.length : Int) - 1) = (l.length : Int) - 1 := fun _ => wrap64_id (by omega) (by omega)
  by_cases cin : 0 ≤ v ∧ v ≤ (l.length : Int) - 1
  ·have din := decide_eq_true cin
   obtain ⟨n, rfl⟩ := Int.eq_ofNat_of_zero_le cin.1
   have hwd := hg.width _ (rdD_mem l n (by omega))
   obtain ⟨w, hwe⟩ : ∃ w, w = (rd_T146 l (n : Int)).f1 := ⟨_, rfl⟩
   rw [← hwe] at hwd
   by_cases cb : vw = 0 ∧ (ws.length : Int) = 0
   ·have nb : spec_l3NoBits.f vw ws = some true := by
     unfold spec_l3NoBits.f
     rw [if_pos cb.1, beq_iff_eq.2 cb.2]
    have hw1 : True → wrap64 (w - 1) = w - 1 := fun _ => wrap64_id (by omega) (by omega)
    by_cases cl : 0 ≤ low ∧ low ≤ w - 1
    ·have hw2 : True → wrap64 (w - low) = w - low := fun _ => wrap64_id (by omega) (by omega)
     have dl := decide_eq_true cl
     have specEnd : ∀ b, decide (1 ≤ width ∧ width ≤ w - low) = b → Ev (fun k => spec_l5Seg.f k l (n : Int) low width vw ws) b := fun b hb => ⟨1, fun k hk => by
      obtain ⟨m, rfl⟩ : ∃ m, k = m + 1 := ⟨k - 1, by omega⟩
      simp (disch := first | omega | trivial) only [spec_l5Seg.f, spec_l5Seg.j0, ↓if_neg, ↓if_pos, hwl, l1In_eq, din, Option.bind_some, ↓reduceIte, nb, Bool.not_true, Bool.false_eq_true, ← hwe, hw1, hw2, dl, hb]⟩
     by_cases cw : 1 ≤ width ∧ width ≤ w - low
     ·left
      refine ⟨.inr ⟨by omega, by omega, cb.1, by omega, by omega, by omega, by omega⟩, specEnd true (decide_eq_true cw), ⟨1, fun k hk => ?_⟩⟩
      obtain ⟨m, rfl⟩ : ∃ m, k = m + 1 := ⟨k - 1, by omega⟩
      have c2 : decide (width > 4096) = false := decide_eq_false (by omega)
      have hw3 : True → wrap64 (w - width) = w - width := fun _ => wrap64_id (by omega) (by omega)
      have d3 : decide (low ≤ w - width) = true := decide_eq_true (by omega)
      simp (disch := first | omega | trivial) only [impl_segOk.f, impl_segOk.j0, ↓if_neg, ↓if_pos, c2, ↓reduceIte, Bool.false_eq_true, hwl, inside_eq, din, Option.bind_some, ← hwe, hw3, d3]
     ·right
      refine ⟨fun h => ?_, specEnd false (decide_eq_false cw), ?_⟩
      ·rcases h with ⟨h, _⟩ | ⟨_, _, _, _, _, h6, h7⟩
       ·omega
       ·omega
      ·by_cases c : width < 1 ∨ width > 4096
       ·exact implOut c
       ·refine ⟨1, fun k hk => ?_⟩
        obtain ⟨m, rfl⟩ : ∃ m, k = m + 1 := ⟨k - 1, by omega⟩
        have c2 : decide (width > 4096) = false := decide_eq_false (by omega)
        have hw3 : True → wrap64 (w - width) = w - width := fun _ => wrap64_id (by omega) (by omega)
        have d3 : decide (low ≤ w - width) = false := decide_eq_false (by omega)
        simp (disch := first | omega | trivial) only [impl_segOk.f, impl_segOk.j0, ↓if_neg, ↓if_pos, c2, ↓reduceIte, Bool.false_eq_true, hwl, inside_eq, din, Option.bind_some, ← hwe, hw3, d3]
    ·have dl := decide_eq_false cl
     right
     refine ⟨fun h => ?_, ⟨1, fun k hk => ?_⟩, ?_⟩
     ·rcases h with ⟨h, _⟩ | ⟨_, _, _, _, _, h6, h7⟩
      ·omega
      ·omega
     ·obtain ⟨m, rfl⟩ : ∃ m, k = m + 1 := ⟨k - 1, by omega⟩
      simp (disch := first | omega | trivial) only [spec_l5Seg.f, spec_l5Seg.j0, ↓if_neg, ↓if_pos, hwl, l1In_eq, din, Option.bind_some, ↓reduceIte, nb, Bool.not_true, Bool.false_eq_true, ← hwe, hw1, dl]
     ·by_cases c : width < 1 ∨ width > 4096
      ·exact implOut c
      ·refine ⟨1, fun k hk => ?_⟩
       obtain ⟨m, rfl⟩ : ∃ m, k = m + 1 := ⟨k - 1, by omega⟩
       have c2 : decide (width > 4096) = false := decide_eq_false (by omega)
       by_cases c0 : low ≥ 0
       ·have hw3 : True → wrap64 (w - width) = w - width := fun _ => wrap64_id (by omega) (by omega)
        have d3 : decide (low ≤ w - width) = false := decide_eq_false (by omega)
        simp (disch := first | omega | trivial) only [impl_segOk.f, impl_segOk.j0, ↓if_neg, ↓if_pos, c2, ↓reduceIte, Bool.false_eq_true, hwl, inside_eq, din, Option.bind_some, ← hwe, hw3, d3]
       ·simp (disch := first | omega | trivial) only [impl_segOk.f, impl_segOk.j0, ↓if_neg, ↓if_pos, c2, ↓reduceIte, Bool.false_eq_true, hwl, inside_eq, din, Option.bind_some]
   ·have nb : spec_l3NoBits.f vw ws = some false := by
     unfold spec_l3NoBits.f
     by_cases c0 : vw = 0
     ·rw [if_pos c0, beq_eq_false_iff_ne.2 (fun h => cb ⟨c0, h⟩)]
     ·rw [if_neg c0]
    right
    refine ⟨fun h => ?_, ⟨1, fun k hk => ?_⟩, ?_⟩
    ·rcases h with ⟨h, _⟩ | ⟨_, _, h3, h4, _⟩
     ·omega
     ·exact cb ⟨h3, by omega⟩
    ·obtain ⟨m, rfl⟩ : ∃ m, k = m + 1 := ⟨k - 1, by omega⟩
     simp (disch := first | omega | trivial) only [spec_l5Seg.f, spec_l5Seg.j0, ↓if_neg, ↓if_pos, hwl, l1In_eq, din, Option.bind_some, ↓reduceIte, nb, Bool.not_false]
    ·by_cases c : width < 1 ∨ width > 4096
     ·exact implOut c
     ·refine ⟨1, fun k hk => ?_⟩
      obtain ⟨m, rfl⟩ : ∃ m, k = m + 1 := ⟨k - 1, by omega⟩
      have c2 : decide (width > 4096) = false := decide_eq_false (by omega)
      by_cases c0 : vw = 0
      ·simp (disch := first | omega | trivial) only [impl_segOk.f, impl_segOk.j0, ↓if_neg, ↓if_pos, c2, ↓reduceIte, Bool.false_eq_true, hwl, inside_eq, din, Option.bind_some]
      ·simp (disch := first | omega | trivial) only [impl_segOk.f, impl_segOk.j0, ↓if_neg, ↓if_pos, c2, ↓reduceIte, Bool.false_eq_true, hwl, inside_eq, din, Option.bind_some]
  ·have din := decide_eq_false cin
   right
   refine ⟨fun h => ?_, ⟨1, fun k hk => ?_⟩, ?_⟩
   ·rcases h with ⟨h, _⟩ | ⟨h1, h2, _⟩
    ·omega
    ·omega
   ·obtain ⟨m, rfl⟩ : ∃ m, k = m + 1 := ⟨k - 1, by omega⟩
    simp (disch := first | omega | trivial) only [spec_l5Seg.f, spec_l5Seg.j0, ↓if_neg, hwl, l1In_eq, din, Option.bind_some, ↓reduceIte, Bool.false_eq_true]
   ·by_cases c : width < 1 ∨ width > 4096
    ·exact implOut c
    ·refine ⟨1, fun k hk => ?_⟩
     obtain ⟨m, rfl⟩ : ∃ m, k = m + 1 := ⟨k - 1, by omega⟩
     have c2 : decide (width > 4096) = false := decide_eq_false (by omega)
     simp (disch := first | omega | trivial) only [impl_segOk.f, impl_segOk.j0, ↓if_neg, c2, ↓reduceIte, Bool.false_eq_true, hwl, inside_eq, din, Option.bind_some]
abbrev SegOf (l : List S146) (s : S165) : Prop := GoodSeg l s.f0 s.f1 s.f2 s.f3.f0 s.f3.f1
def Meet (s t : S165) : Prop := s.f0 = t.f0 ∧ (t.f0 = -1 ∨ t.f1 = s.f1 + s.f2)
def sumW : List S165 → Int
 | [] => 0
 | x :: xs => x.f2 + sumW xs
structure GoodFlat (l : List S146) (f : List S165) : Prop where
 pos : 1 ≤ f.length
 len : f.length ≤ 2000
 seg : ∀ j : Nat, j < f.length → SegOf l (rd_T165 f (j : Int))
 apart : ∀ j : Nat, j + 1 < f.length → ¬ Meet (rd_T165 f (j : Int)) (rd_T165 f ((j + 1 : Nat) : Int))
 sum : sumW f ≤ 4096
theorem flat_loops (l : List S146) (f : List S165) (hg : GoodDecls l) (hf : f.length ≤ 2000) (hx : ∀ y ∈ f, U64s y.f3.f1 ∧ y.f3.f1.length ≤ 1048576 ∧ -9223372036854775808 ≤ y.f3.f0 ∧ y.f3.f0 ≤ 9223372036854775807) :
  ∀ d i, f.length - i = d → i ≤ f.length → (∀ j : Nat, j + 1 = i → SegOf l (rd_T165 f (j : Int))) → ∀ s : Int, 0 ≤ s → s ≤ 4096 * i →
   ∃ b, Ev (fun k => spec_FlatOk.l0 k l f s (i : Int)) b ∧ Ev (fun k => impl_flatOk.l0 k l f s f (f.length : Int) (i : Int)) b ∧
    (b = true → (∀ j : Nat, i ≤ j → j < f.length → SegOf l (rd_T165 f (j : Int)) ∧ ∀ m : Nat, m + 1 = j → ¬ Meet (rd_T165 f (m : Int)) (rd_T165 f (j : Int))) ∧ s + sumW (f.drop i) ≤ 4096) := by
 have no : ∀ (P : Prop), ((false : Bool) = true → P) := fun P h => by cases h
 intro d
 induction d with
 | zero =>
  intro i hd hi hp s s0 s1
  refine ⟨decide (s ≤ 4096), Ev.step (f := fun _ => some (decide (s ≤ 4096))) (fun k => ?_) (Ev.now _), Ev.step (f := fun _ => some (decide (s ≤ 4096))) (fun k => ?_) (Ev.now _), fun hb => ⟨fun j g1 g2 => absurd g1 (by omega), ?_⟩⟩
  ·simp (disch := omega) only [spec_FlatOk.l0, ↓if_neg]
  ·simp (disch := omega) only [impl_flatOk.l0, ↓if_neg]
  ·rw [List.drop_eq_nil_of_le (by omega)]
   have := of_decide_eq_true hb
   show s + 0 ≤ 4096
   omega
 | succ d ih =>
  intro i hd hi hp s s0 s1
  have hil : i < f.length := by omega
  obtain ⟨x, hxe⟩ : ∃ x, x = rd_T165 f (i : Int) := ⟨_, rfl⟩
  have hdrop : f.drop i = x :: f.drop (i + 1) := by rw [List.drop_eq_getElem_cons hil, hxe, rdE_T165 f i hil]
  obtain ⟨u1, u2, u3, u4⟩ := hx x (by rw [hxe]; exact rdM_T165 f i hil)
  rcases seg_agree l hg x.f0 x.f1 x.f2 x.f3.f0 x.f3.f1 u1 u2 u3 u4 with ⟨gs, ev1, ev2⟩ | ⟨gs, ev1, ev2⟩
  ·obtain ⟨K1, h1⟩ := Ev.binds ev1
   obtain ⟨K2, h2⟩ := Ev.binds ev2
   have hwx := GoodSeg.width hg gs
   obtain ⟨b, ⟨K3, h3⟩, ⟨K4, h4⟩, hb⟩ := ih (i + 1) (by omega) (by omega) (fun j hj => by
    obtain rfl : j = i := by omega
    rw [← hxe]; exact gs) (s + x.f2) (by omega) (by omega)
   have hws : True → wrap64 (s + x.f2) = s + x.f2 := fun _ => wrap64_id (by omega) (by omega)
   have hrest : b = true → (∀ m : Nat, m + 1 = i → ¬ Meet (rd_T165 f (m : Int)) x) → (∀ j : Nat, i ≤ j → j < f.length → SegOf l (rd_T165 f (j : Int)) ∧ ∀ m : Nat, m + 1 = j → ¬ Meet (rd_T165 f (m : Int)) (rd_T165 f (j : Int))) ∧ s + sumW (f.drop i) ≤ 4096 := fun hbt hm => by
    obtain ⟨t1, t2⟩ := hb hbt
    refine ⟨fun j g1 g2 => ?_, ?_⟩
    ·by_cases e : j = i
     ·subst e
      rw [← hxe]
      exact ⟨gs, hm⟩
     ·exact t1 j (by omega) g2
    ·rw [hdrop]
     show s + (x.f2 + sumW (f.drop (i + 1))) ≤ 4096
     omega
   by_cases i0 : i = 0
   ·refine ⟨b, ⟨K1 + K3 + 1, fun k hk => ?_⟩, ⟨K2 + K4 + 1, fun k hk => ?_⟩, fun hbt => hrest hbt (fun m hm => absurd hm (by omega))⟩
    ·obtain ⟨m, rfl⟩ : ∃ m, k = m + 1 := ⟨k - 1, by omega⟩
     have h3 := h3 m (by omega)
     simp (disch := first | omega | trivial) only [spec_FlatOk.l0, ← hxe, ↓if_pos, ↓if_neg, ↓h1, ↓reduceIte, hws, wrap_next]
     exact h3
    ·obtain ⟨m, rfl⟩ : ∃ m, k = m + 1 := ⟨k - 1, by omega⟩
     have h4 := h4 m (by omega)
     simp (disch := first | omega | trivial) only [impl_flatOk.l0, ← hxe, ↓if_pos, ↓if_neg, ↓h2, ↓reduceIte, hws, wrap_next]
     exact h4
   ·obtain ⟨q, rfl⟩ : ∃ q, i = q + 1 := ⟨i - 1, by omega⟩
    have gp := hp q rfl
    obtain ⟨p, hpe⟩ : ∃ p, p = rd_T165 f (q : Int) := ⟨_, rfl⟩
    rw [← hpe] at gp
    have hwp := GoodSeg.width hg gp
    have e1 : True → wrap64 (((q + 1 : Nat) : Int) - 1) = (q : Int) := fun _ => by rw [wrap64_id (by omega) (by omega)]; omega
    have e2 : True → wrap64 (p.f1 + p.f2) = p.f1 + p.f2 := fun _ => wrap64_id (by omega) (by omega)
    by_cases cm : Meet p x
    ·obtain ⟨m1, m2⟩ := cm
     refine ⟨false, ⟨K1 + 1, fun k hk => ?_⟩, ⟨K2 + 1, fun k hk => ?_⟩, no _⟩
     ·obtain ⟨m, rfl⟩ : ∃ m, k = m + 1 := ⟨k - 1, by omega⟩
      by_cases c1 : x.f0 = -1
      ·simp (disch := first | omega | trivial) only [spec_FlatOk.l0, ← hxe, ↓if_pos, ↓h1, ↓reduceIte, e1, ← hpe]
      ·have c2 : x.f1 = p.f1 + p.f2 := by rcases m2 with h | h; exact absurd h c1; exact h
       simp (disch := first | omega | trivial) only [spec_FlatOk.l0, ← hxe, ↓if_pos, ↓if_neg, ↓h1, ↓reduceIte, e1, ← hpe, e2]
     ·obtain ⟨m, rfl⟩ : ∃ m, k = m + 1 := ⟨k - 1, by omega⟩
      by_cases c1 : p.f0 = -1
      ·simp (disch := first | omega | trivial) only [impl_flatOk.l0, ← hxe, ↓if_pos, ↓h2, ↓reduceIte, e1, ← hpe, impl_Seg_meets.f, Option.bind_some]
      ·have c2 : (p.f1 + p.f2 == x.f1) = true := beq_iff_eq.2 (by rcases m2 with h | h <;> omega)
       simp (disch := first | omega | trivial) only [impl_flatOk.l0, ← hxe, ↓if_pos, ↓if_neg, ↓h2, ↓reduceIte, e1, ← hpe, impl_Seg_meets.f, Option.bind_some, e2, c2]
    ·refine ⟨b, ⟨K1 + K3 + 1, fun k hk => ?_⟩, ⟨K2 + K4 + 1, fun k hk => ?_⟩, fun hbt => hrest hbt (fun m hm => by
      obtain rfl : m = q := by omega
      rw [← hpe]; exact cm)⟩
     ·obtain ⟨m, rfl⟩ : ∃ m, k = m + 1 := ⟨k - 1, by omega⟩
      have h3 := h3 m (by omega)
      by_cases c0 : x.f0 = p.f0
      ·have c1 : ¬ x.f0 = -1 := fun h => cm ⟨c0.symm, .inl h⟩
       have c2 : ¬ x.f1 = p.f1 + p.f2 := fun h => cm ⟨c0.symm, .inr h⟩
       simp (disch := first | omega | trivial) only [spec_FlatOk.l0, ← hxe, ↓if_pos, ↓if_neg, ↓h1, ↓reduceIte, e1, ← hpe, e2, hws, wrap_next]
       exact h3
      ·simp (disch := first | omega | trivial) only [spec_FlatOk.l0, ← hxe, ↓if_pos, ↓if_neg, ↓h1, ↓reduceIte, e1, ← hpe, hws, wrap_next]
       exact h3
     ·obtain ⟨m, rfl⟩ : ∃ m, k = m + 1 := ⟨k - 1, by omega⟩
      have h4 := h4 m (by omega)
      by_cases c0 : p.f0 = x.f0
      ·have c1 : ¬ p.f0 = -1 := fun h => cm ⟨c0, .inl (by omega)⟩
       have c2 : (p.f1 + p.f2 == x.f1) = false := beq_eq_false_iff_ne.2 (fun h => cm ⟨c0, .inr h.symm⟩)
       simp (disch := first | omega | trivial) only [impl_flatOk.l0, ← hxe, ↓if_pos, ↓if_neg, ↓h2, ↓reduceIte, e1, ← hpe, impl_Seg_meets.f, Option.bind_some, e2, c2, Bool.false_eq_true, hws, wrap_next]
       exact h4
      ·simp (disch := first | omega | trivial) only [impl_flatOk.l0, ← hxe, ↓if_pos, ↓if_neg, ↓h2, ↓reduceIte, e1, ← hpe, impl_Seg_meets.f, Option.bind_some, Bool.false_eq_true, hws, wrap_next]
       exact h4
  ·obtain ⟨K1, h1⟩ := Ev.binds ev1
   obtain ⟨K2, h2⟩ := Ev.binds ev2
   refine ⟨false, ⟨K1 + 1, fun k hk => ?_⟩, ⟨K2 + 1, fun k hk => ?_⟩, no _⟩
   ·obtain ⟨m, rfl⟩ : ∃ m, k = m + 1 := ⟨k - 1, by omega⟩
    simp (disch := omega) only [spec_FlatOk.l0, ← hxe, ↓if_pos, ↓h1, ↓reduceIte, Bool.false_eq_true]
   ·obtain ⟨m, rfl⟩ : ∃ m, k = m + 1 := ⟨k - 1, by omega⟩
    simp (disch := omega) only [impl_flatOk.l0, ← hxe, ↓if_pos, ↓h2, ↓reduceIte, Bool.false_eq_true]
theorem flat_core (l : List S146) (f : List S165) (hx : ∀ x ∈ l, x.f0.size ≤ 1048576) (hfl : f.length ≤ 1048576) (hf : ∀ y ∈ f, U64s y.f3.f1 ∧ y.f3.f1.length ≤ 1048576 ∧ -9223372036854775808 ≤ y.f3.f0 ∧ y.f3.f0 ≤ 9223372036854775807) :
  ∃ z, Ev (fun k => spec_FlatOk.f k l f) z ∧ Ev (fun k => impl_FlatOk.f k l f) z ∧ (z = true → GoodDecls l ∧ GoodFlat l f) := by
 have no : ∀ (P : Prop), ((false : Bool) = true → P) := fun P h => by cases h
 obtain ⟨bd, g1, g2, hg⟩ := declsOk_agree l hx
 obtain ⟨K1, h1⟩ := Ev.binds g1
 obtain ⟨K2, h2⟩ := Ev.binds g2
 cases bd with
 | false =>
  refine ⟨false, ⟨K1 + 2, fun k hk => ?_⟩, ⟨K2, fun k hk => ?_⟩, no _⟩
  ·obtain ⟨m, rfl⟩ : ∃ m, k = m + 1 := ⟨k - 1, by omega⟩
   simp (disch := omega) only [spec_FlatOk.f, ↓h1, ↓reduceIte, Bool.false_eq_true, spec_FlatOk.j0]
  ·simp (disch := omega) only [impl_FlatOk.f, ↓h2, ↓reduceIte, Bool.false_eq_true]
 | true =>
  have hg := hg rfl
  by_cases c1 : (f.length : Int) < 1
  ·refine ⟨false, ⟨K1 + 2, fun k hk => ?_⟩, ⟨K2 + 2, fun k hk => ?_⟩, no _⟩
   ·obtain ⟨m, rfl⟩ : ∃ m, k = m + 1 := ⟨k - 1, by omega⟩
    simp (disch := omega) only [spec_FlatOk.f, ↓h1, ↓reduceIte, ↓if_pos, spec_FlatOk.j0]
   ·obtain ⟨m, rfl⟩ : ∃ m, k = m + 1 := ⟨k - 1, by omega⟩
    simp (disch := omega) only [impl_FlatOk.f, ↓h2, ↓reduceIte, impl_flatOk.f, ↓if_pos, impl_flatOk.j0, Option.bind_some]
  ·by_cases c2 : (f.length : Int) > 2000
   ·have d2 := decide_eq_true c2
    refine ⟨false, ⟨K1 + 2, fun k hk => ?_⟩, ⟨K2 + 2, fun k hk => ?_⟩, no _⟩
    ·obtain ⟨m, rfl⟩ : ∃ m, k = m + 1 := ⟨k - 1, by omega⟩
     simp (disch := omega) only [spec_FlatOk.f, ↓h1, ↓reduceIte, ↓if_neg, d2, spec_FlatOk.j0]
    ·obtain ⟨m, rfl⟩ : ∃ m, k = m + 1 := ⟨k - 1, by omega⟩
     simp (disch := omega) only [impl_FlatOk.f, ↓h2, ↓reduceIte, impl_flatOk.f, ↓if_neg, d2, impl_flatOk.j0, Option.bind_some]
   ·have d2 := decide_eq_false c2
    obtain ⟨b, ⟨K3, h3⟩, ⟨K4, h4⟩, hb⟩ := flat_loops l f hg (by omega) hf f.length 0 (by omega) (by omega) (fun j hj => absurd hj (by omega)) 0 (by decide) (by decide)
    refine ⟨b, ⟨K1 + K3 + 2, fun k hk => ?_⟩, ⟨K2 + K4 + 2, fun k hk => ?_⟩, fun hbt => ?_⟩
    ·obtain ⟨m, rfl⟩ : ∃ m, k = m + 1 := ⟨k - 1, by omega⟩
     have h3 := h3 m (by omega)
     simp (disch := omega) only [spec_FlatOk.f, ↓h1, ↓reduceIte, ↓if_neg, d2, spec_FlatOk.j0, Bool.false_eq_true]
     exact h3
    ·obtain ⟨m, rfl⟩ : ∃ m, k = m + 1 := ⟨k - 1, by omega⟩
     have h4 : impl_flatOk.l0 m l f 0 f (f.length : Int) 0 = some b := h4 m (by omega)
     simp (disch := omega) only [impl_FlatOk.f, ↓h2, ↓reduceIte, impl_flatOk.f, ↓if_neg, d2, impl_flatOk.j0, Bool.false_eq_true, h4, Option.bind_some]
    ·obtain ⟨t1, t2⟩ := hb hbt
     rw [List.drop_zero] at t2
     exact ⟨hg, by omega, by omega, fun j hj => (t1 j (by omega) hj).1, fun j hj => (t1 (j + 1) (by omega) hj).2 j rfl, by omega⟩
theorem upSeg {f : List S165} (U : (f.length : Int) ≤ 1048576 ∧ ∀ y ∈ f, UpI_Seg 1048576 y) (W : ∀ y ∈ f, WfI_Seg y) : ∀ y ∈ f, U64s y.f3.f1 ∧ y.f3.f1.length ≤ 1048576 ∧ -9223372036854775808 ≤ y.f3.f0 ∧ y.f3.f0 ≤ 9223372036854775807 := fun y hy => by
 have u := U.2 y hy
 have w := (W y hy).2.2.2
 unfold UpI_Seg UpI_Bits at u
 exact ⟨w.2, by omega, w.1.1, w.1.2⟩
theorem flatOk_agree (l : List S146) (f : List S165) (U0 : (l.length : Int) ≤ 1048576 ∧ ∀ y ∈ l, UpI_Decl 1048576 y) (W0 : ∀ y ∈ l, WfI_Decl y) (U1 : (f.length : Int) ≤ 1048576 ∧ ∀ y ∈ f, UpI_Seg 1048576 y) (W1 : ∀ y ∈ f, WfI_Seg y) :
  ∃ z, Ev (fun k => spec_FlatOk.f k l f) z ∧ Ev (fun k => impl_FlatOk.f k l f) z := by
 obtain ⟨z, h1, h2, _⟩ := flat_core l f (upDecl U0) (by omega) (upSeg U1 W1)
 exact ⟨z, h1, h2⟩
-- SAYS: The program's FlatOk answers as the reference's FlatOk does, for all arguments.
theorem FnExactFlatOk (l0 : List S142) (l1 : List S162) (q0 : ∀ x ∈ l0, x.f0.size ≤ maxLen ∧ (Lit.int .i64 x.f1).wf = true) (hl0 : l0.length ≤ 9223372036854775807) (q1 : ∀ x ∈ l1, (Lit.int .i64 x.f0).wf = true ∧ (Lit.int .i64 x.f1).wf = true ∧ (Lit.int .i64 x.f2).wf = true ∧ (Lit.int .i64 x.f3.f0).wf = true ∧ (x.f3.f1.length ≤ 9223372036854775807 ∧ ∀ y0 ∈ x.f3.f1, (Lit.int .u64 y0).wf = true)) (hl1 : l1.length ≤ 9223372036854775807) : ∃ k, laws_FnExactFlatOk.f k l0 l1 = some true := by
 obtain ⟨r0, g0, hb0⟩ := sz_DeclS l0 1048576 (⟨Int.ofNat_le.2 (And.intro hl0 q0).1, fun y hy => in_Decl y ((And.intro hl0 q0).2 y hy)⟩) (by omega) (by omega)
 obtain ⟨Ks0, s0⟩ := Ev.binds (g0)
 rcases hb0 with hneg | ⟨p0, z0, u0⟩
 ·have c0 := eq_true hneg
  exact ⟨Ks0 + 1 + 1 + 1 + 1, by simp (disch := omega) only [laws_FnExactFlatOk.f, ↓s0, ↓reduceIte, c0]⟩
 have c0 := eq_false (show ¬ r0 < 0 by omega)
 obtain ⟨r1, g1, hb1⟩ := sz_SegS l1 r0 (⟨Int.ofNat_le.2 (And.intro hl1 q1).1, fun y hy => in_Seg y ((And.intro hl1 q1).2 y hy)⟩) (by omega) (by omega)
 obtain ⟨Ks1, s1⟩ := Ev.binds (g1)
 rcases hb1 with hneg | ⟨p1, z1, u1⟩
 ·have c1 := eq_true hneg
  exact ⟨Ks0 + Ks1 + 1 + 1 + 1 + 1, by simp (disch := omega) only [laws_FnExactFlatOk.f, ↓s0, ↓s1, ↓reduceIte, c0, c1]⟩
 have c1 := eq_false (show ¬ r1 < 0 by omega)
 have U0 : (((l0.map cv_Decl).length : Int) ≤ 1048576 ∧ ∀ y ∈ (l0.map cv_Decl), UpI_Decl 1048576 y) := ⟨by simpa using u0.1, fun y hy => by obtain ⟨z, hz, rfl⟩ := List.mem_map.1 hy; exact upcv_Decl _ z (u0.2 z hz)⟩
 have W0 : (∀ y ∈ (l0.map cv_Decl), WfI_Decl y) := (fun y hy => by obtain ⟨z, hz, rfl⟩ := List.mem_map.1 hy; exact wf_Decl z ((And.intro hl0 q0).2 z hz))
 have U1 : (((l1.map cv_Seg).length : Int) ≤ 1048576 ∧ ∀ y ∈ (l1.map cv_Seg), UpI_Seg 1048576 y) := ⟨by simpa using u1.1, fun y hy => by obtain ⟨z, hz, rfl⟩ := List.mem_map.1 hy; exact upcv_Seg _ z (u1.2 z hz)⟩
 have W1 : (∀ y ∈ (l1.map cv_Seg), WfI_Seg y) := (fun y hy => by obtain ⟨z, hz, rfl⟩ := List.mem_map.1 hy; exact wf_Seg z ((And.intro hl1 q1).2 z hz))
 obtain ⟨y0, e1, e2⟩ := flatOk_agree ((l0.map cv_Decl)) ((l1.map cv_Seg)) U0 W0 U1 W1
 obtain ⟨Kt0, t0⟩ := Ev.binds (to_DeclS l0 u0)
 obtain ⟨Kt1, t1⟩ := Ev.binds (to_SegS l1 u1)
 obtain ⟨Khs, hs⟩ := Ev.binds (e1)
 obtain ⟨Khi, hi⟩ := Ev.binds (e2)
 obtain ⟨Ke0_, e0_⟩ := Ev.binds (eq_DeclS ((l0.map cv_Decl)) U0)
 obtain ⟨Ke1_, e1_⟩ := Ev.binds (eq_SegS ((l1.map cv_Seg)) U1)
 exact ⟨Ks0 + Ks1 + Kt0 + Kt1 + Khs + Khi + Ke0_ + Ke1_ + 1 + 1 + 1 + 1, by simp (disch := omega) only [laws_FnExactFlatOk.f, ↓s0, ↓s1, ↓t0, ↓t1, ↓hs, ↓hi, ↓e0_, ↓e1_, ↓reduceIte, c0, c1, bne_self_eq_false, Bool.false_eq_true]⟩
end Go.Proofs.Ytjmnhcooimdioaa.Pure
