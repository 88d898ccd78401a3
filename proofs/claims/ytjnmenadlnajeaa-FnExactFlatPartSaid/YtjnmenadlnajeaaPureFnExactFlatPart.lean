/- The program's FlatPart answers as the reference's FlatPart does, for all arguments. -/
import Derived.Test.YtjnmenadlnajeaaPFnExactFlatPartx19
import Derived.Test.YtjnmenadlnajeaaBits
import Derived.Test.YtjnmenadlnajeaaLoops
namespace Go.Proofs.Ytjnmenadlnajeaa.Pure
open Go Go.RowKit Go.Proofs.Ytjnmenadlnajeaa.PFnExactFlatPart Go.Proofs.YtjnmenadlnajeaaW.PrintWords Go.Proofs.YtjnmenadlnajeaaW.PrintLast Go.Proofs.YtjnmenadlnajeaaW.PrintMore Go.Proofs.Ytjnmenadlnajeaa.BitsLib Go.Proofs.Ytjnmenadlnajeaa.Loops
set_option linter.unusedVariables false
set_option linter.unusedSimpArgs false
set_option maxRecDepth 4000

/-! wrap_next -/
theorem wrap_next (i : Nat) (h : i < 4611686018427387904) : wrap64 ((i : Int) + 1) = ((i + 1 : Nat) : Int) := by
 rw [wrap64_id (by omega) (by omega)]; rfl

/-! szn_out -/
theorem szn_out (n : Nat) (left : Int) (hn : (n : Int) ≤ 9223372036854775807) (h0 : 0 ≤ left) (h1 : left ≤ 1048576) :
  ∃ r, (True → wrap64 (left - (n : Int)) = r) ∧ (r < 0 ∨ (0 ≤ r ∧ r ≤ left ∧ (n : Int) ≤ 1048576)) := by
 refine ⟨left - (n : Int), fun _ => wrap64_id (by omega) (by omega), ?_⟩
 by_cases c : left - (n : Int) < 0
 ·exact .inl c
 ·exact .inr (by omega)

/-! UpL_Bits -/
def UpL_Bits (c : Int) (x : S57) : Prop := ((x.f1.length : Int) ≤ c)

/-! sz_Uint64S -/
theorem sz_Uint64S (x : List Int) (left : Int) (hin : ((x.length : Int) ≤ 9223372036854775807)) (h0 : 0 ≤ left) (h1 : left ≤ 1048576) :
  ∃ r, Ev (fun k => laws_szUint64S.f x left) r ∧ (r < 0 ∨ (0 ≤ r ∧ r ≤ left ∧ ((x.length : Int) ≤ 1048576))) := by
 obtain ⟨r, hr, hb⟩ := szn_out x.length left hin h0 h1
 rcases hb with c | ⟨p0, q0, u0⟩
 ·exact ⟨-1, ⟨0, fun k _ => by dsimp only; unfold laws_szUint64S.f; rw [hr trivial, if_pos c]⟩, .inl (by omega)⟩
 ·exact ⟨r, ⟨0, fun k _ => by dsimp only; unfold laws_szUint64S.f; rw [hr trivial, if_neg (by omega)]⟩, .inr ⟨p0, q0, u0⟩⟩

/-! sz_Bits -/
theorem sz_Bits (x : S57) (left : Int) (hin : UpL_Bits 9223372036854775807 x) (h0 : 0 ≤ left) (h1 : left ≤ 1048576) :
  ∃ r, Ev (fun k => laws_szBits.f x.f0 x.f1 left) r ∧ (r < 0 ∨ (0 ≤ r ∧ r ≤ left ∧ UpL_Bits 1048576 x)) := by
 unfold UpL_Bits at hin
 have i1 := hin
 obtain ⟨r1, ⟨K1, e1⟩, hb1⟩ := sz_Uint64S x.f1 left i1 (by omega) (by omega)
 rcases hb1 with c1 | ⟨p1, q1, u1⟩
 ·exact ⟨-1, ⟨K1, fun k hk => by have e1 := e1 k (by omega); dsimp only at e1 ⊢; unfold laws_szBits.f; rw [e1]; simp only [Option.bind_some]; rw [if_pos c1]⟩, .inl (by omega)⟩
 exact ⟨r1, ⟨K1, fun k hk => by have e1 := e1 k (by omega); dsimp only at e1 ⊢; unfold laws_szBits.f; rw [e1]; simp only [Option.bind_some]; rw [if_neg (by omega)]⟩, .inr ⟨by omega, by omega, u1⟩⟩

/-! UpL_Decl -/
def UpL_Decl (c : Int) (x : S55) : Prop := ((x.f0.size : Int) ≤ c)

/-! rdE_T55 -/
theorem rdE_T55 (l : List S55) (i : Nat) (h : i < l.length) : rd_T55 l (i : Int) = l[i] := by
 unfold rd_T55
 rw [List.getD_eq_getElem?_getD, Int.toNat_natCast, List.getElem?_eq_getElem h]; rfl
theorem rdM_T55 (l : List S55) (i : Nat) (h : i < l.length) : rd_T55 l (i : Int) ∈ l := by rw [rdE_T55 l i h]; exact List.getElem_mem h

/-! sz_Decl -/
theorem sz_Decl (x : S55) (left : Int) (hin : UpL_Decl 9223372036854775807 x) (h0 : 0 ≤ left) (h1 : left ≤ 1048576) :
  ∃ r, Ev (fun k => laws_szDecl.f x.f0 x.f1 left) r ∧ (r < 0 ∨ (0 ≤ r ∧ r ≤ left ∧ UpL_Decl 1048576 x)) := by
 unfold UpL_Decl at hin
 have i0 := hin
 obtain ⟨r0, e0, hb0⟩ := szn_out x.f0.size left i0 (by omega) (by omega)
 rcases hb0 with c0 | ⟨p0, q0, u0⟩
 ·exact ⟨-1, ⟨0, fun k hk => by dsimp only; unfold laws_szDecl.f; rw [e0 trivial]; rw [if_pos c0]⟩, .inl (by omega)⟩
 exact ⟨r0, ⟨0, fun k hk => by dsimp only; unfold laws_szDecl.f; rw [e0 trivial]; rw [if_neg (by omega)]⟩, .inr ⟨by omega, by omega, u0⟩⟩

/-! sz_DeclS -/
theorem sz_DeclS (x : List S55) (left : Int) (hin : ((x.length : Int) ≤ 9223372036854775807 ∧ ∀ y ∈ x, UpL_Decl 9223372036854775807 y)) (h0 : 0 ≤ left) (h1 : left ≤ 1048576) :
  ∃ r, Ev (fun k => laws_szDeclS.f k x left) r ∧ (r < 0 ∨ (0 ≤ r ∧ r ≤ left ∧ ((x.length : Int) ≤ 1048576 ∧ ∀ y ∈ x, UpL_Decl 1048576 y))) := by
 obtain ⟨hl, hx⟩ := hin
 obtain ⟨r0, hr0, hb0⟩ := szn_out x.length left hl h0 h1
 rcases hb0 with c | ⟨p0, q0, u0⟩
 ·exact ⟨-1, ⟨0, fun k _ => by dsimp only; unfold laws_szDeclS.f; rw [hr0 trivial, if_pos c]⟩, .inl (by omega)⟩
 ·have main : ∀ d i, x.length - i = d → i ≤ x.length → ∀ lf, 0 ≤ lf → lf ≤ left → ∃ r, Ev (fun k => laws_szDeclS.l0 k x lf (i : Int)) r ∧ (r < 0 ∨ (0 ≤ r ∧ r ≤ lf ∧ ∀ j : Nat, i ≤ j → j < x.length → UpL_Decl 1048576 ((rd_T55 x (j : Int))))) := by
   intro d
   induction d with
   | zero =>
    intro i hd hi lf g0 g1
    exact ⟨lf, Ev.step (f := fun _ => some lf) (fun k => by simp only [laws_szDeclS.l0]; rw [if_neg (by omega)]) (Ev.now _), .inr ⟨g0, Int.le_refl _, fun j g2 g3 => absurd g3 (by omega)⟩⟩
   | succ d ih =>
    intro i hd hi lf g0 g1
    have hil : i < x.length := by omega
    obtain ⟨r, ⟨K, hr⟩, hrb⟩ := sz_Decl (rd_T55 x (i : Int)) lf (hx _ (rdM_T55 x i hil)) g0 (by omega)
    rcases hrb with hneg | ⟨p1, p2, p3⟩
    ·refine ⟨-1, ⟨K + 1, fun k hk => ?_⟩, .inl (by omega)⟩
     obtain ⟨m, rfl⟩ : ∃ m, k = m + 1 := ⟨k - 1, by omega⟩
     have hr := hr m (by omega)
     dsimp only at hr ⊢
     simp only [laws_szDeclS.l0]
     rw [if_pos (by omega), if_pos (by omega), hr]
     simp only [Option.bind_some]
     rw [if_pos hneg]
    ·obtain ⟨r2, ⟨K2, h2⟩, hb2⟩ := ih (i + 1) (by omega) (by omega) r p1 (by omega)
     refine ⟨r2, ⟨K + K2 + 1, fun k hk => ?_⟩, ?_⟩
     ·obtain ⟨m, rfl⟩ : ∃ m, k = m + 1 := ⟨k - 1, by omega⟩
      have hr := hr m (by omega)
      have h2 := h2 m (by omega)
      dsimp only at hr h2 ⊢
      simp only [laws_szDeclS.l0]
      rw [if_pos (by omega), if_pos (by omega), hr]
      simp only [Option.bind_some]
      rw [if_neg (by omega), wrap_next i (by omega)]
      exact h2
     ·rcases hb2 with hb2 | ⟨s0, s1, s2⟩
      ·exact .inl hb2
      ·refine .inr ⟨s0, by omega, fun j g2 g3 => ?_⟩
       by_cases e : j = i
       ·rw [e]; exact p3
       ·exact s2 j (by omega) g3
  obtain ⟨r, ⟨K, hr⟩, hb⟩ := main x.length 0 (by omega) (by omega) r0 p0 q0
  refine ⟨r, ⟨K, fun k hk => ?_⟩, ?_⟩
  ·have hr := hr k hk
   dsimp only at hr ⊢
   unfold laws_szDeclS.f
   rw [hr0 trivial, if_neg (by omega)]
   exact hr
  ·rcases hb with hb | ⟨s0, s1, s2⟩
   ·exact .inl hb
   ·refine .inr ⟨s0, by omega, by omega, fun y hy => ?_⟩
    obtain ⟨j, hjl, rfl⟩ := List.getElem_of_mem hy
    have := s2 j (by omega) hjl
    rwa [rdE_T55 x j hjl] at this

/-! UpL_Seg -/
def UpL_Seg (c : Int) (x : S59) : Prop := UpL_Bits c x.f3

/-! rdE_T59 -/
theorem rdE_T59 (l : List S59) (i : Nat) (h : i < l.length) : rd_T59 l (i : Int) = l[i] := by
 unfold rd_T59
 rw [List.getD_eq_getElem?_getD, Int.toNat_natCast, List.getElem?_eq_getElem h]; rfl
theorem rdM_T59 (l : List S59) (i : Nat) (h : i < l.length) : rd_T59 l (i : Int) ∈ l := by rw [rdE_T59 l i h]; exact List.getElem_mem h

/-! sz_Seg -/
theorem sz_Seg (x : S59) (left : Int) (hin : UpL_Seg 9223372036854775807 x) (h0 : 0 ≤ left) (h1 : left ≤ 1048576) :
  ∃ r, Ev (fun k => laws_szSeg.f x.f0 x.f1 x.f2 x.f3.f0 x.f3.f1 left) r ∧ (r < 0 ∨ (0 ≤ r ∧ r ≤ left ∧ UpL_Seg 1048576 x)) := by
 unfold UpL_Seg at hin
 have i3 := hin
 obtain ⟨r3, ⟨K3, e3⟩, hb3⟩ := sz_Bits x.f3 left i3 (by omega) (by omega)
 rcases hb3 with c3 | ⟨p3, q3, u3⟩
 ·exact ⟨-1, ⟨K3, fun k hk => by have e3 := e3 k (by omega); dsimp only at e3 ⊢; unfold laws_szSeg.f; rw [e3]; simp only [Option.bind_some]; rw [if_pos c3]⟩, .inl (by omega)⟩
 exact ⟨r3, ⟨K3, fun k hk => by have e3 := e3 k (by omega); dsimp only at e3 ⊢; unfold laws_szSeg.f; rw [e3]; simp only [Option.bind_some]; rw [if_neg (by omega)]⟩, .inr ⟨by omega, by omega, u3⟩⟩

/-! sz_SegS -/
theorem sz_SegS (x : List S59) (left : Int) (hin : ((x.length : Int) ≤ 9223372036854775807 ∧ ∀ y ∈ x, UpL_Seg 9223372036854775807 y)) (h0 : 0 ≤ left) (h1 : left ≤ 1048576) :
  ∃ r, Ev (fun k => laws_szSegS.f k x left) r ∧ (r < 0 ∨ (0 ≤ r ∧ r ≤ left ∧ ((x.length : Int) ≤ 1048576 ∧ ∀ y ∈ x, UpL_Seg 1048576 y))) := by
 obtain ⟨hl, hx⟩ := hin
 obtain ⟨r0, hr0, hb0⟩ := szn_out x.length left hl h0 h1
 rcases hb0 with c | ⟨p0, q0, u0⟩
 ·exact ⟨-1, ⟨0, fun k _ => by dsimp only; unfold laws_szSegS.f; rw [hr0 trivial, if_pos c]⟩, .inl (by omega)⟩
 ·have main : ∀ d i, x.length - i = d → i ≤ x.length → ∀ lf, 0 ≤ lf → lf ≤ left → ∃ r, Ev (fun k => laws_szSegS.l0 k x lf (i : Int)) r ∧ (r < 0 ∨ (0 ≤ r ∧ r ≤ lf ∧ ∀ j : Nat, i ≤ j → j < x.length → UpL_Seg 1048576 ((rd_T59 x (j : Int))))) := by
   intro d
   induction d with
   | zero =>
    intro i hd hi lf g0 g1
    exact ⟨lf, Ev.step (f := fun _ => some lf) (fun k => by simp only [laws_szSegS.l0]; rw [if_neg (by omega)]) (Ev.now _), .inr ⟨g0, Int.le_refl _, fun j g2 g3 => absurd g3 (by omega)⟩⟩
   | succ d ih =>
    intro i hd hi lf g0 g1
    have hil : i < x.length := by omega
    obtain ⟨r, ⟨K, hr⟩, hrb⟩ := sz_Seg (rd_T59 x (i : Int)) lf (hx _ (rdM_T59 x i hil)) g0 (by omega)
    rcases hrb with hneg | ⟨p1, p2, p3⟩
    ·refine ⟨-1, ⟨K + 1, fun k hk => ?_⟩, .inl (by omega)⟩
     obtain ⟨m, rfl⟩ : ∃ m, k = m + 1 := ⟨k - 1, by omega⟩
     have hr := hr m (by omega)
     dsimp only at hr ⊢
     simp only [laws_szSegS.l0]
     rw [if_pos (by omega), if_pos (by omega), hr]
     simp only [Option.bind_some]
     rw [if_pos hneg]
    ·obtain ⟨r2, ⟨K2, h2⟩, hb2⟩ := ih (i + 1) (by omega) (by omega) r p1 (by omega)
     refine ⟨r2, ⟨K + K2 + 1, fun k hk => ?_⟩, ?_⟩
     ·obtain ⟨m, rfl⟩ : ∃ m, k = m + 1 := ⟨k - 1, by omega⟩
      have hr := hr m (by omega)
      have h2 := h2 m (by omega)
      dsimp only at hr h2 ⊢
      simp only [laws_szSegS.l0]
      rw [if_pos (by omega), if_pos (by omega), hr]
      simp only [Option.bind_some]
      rw [if_neg (by omega), wrap_next i (by omega)]
      exact h2
     ·rcases hb2 with hb2 | ⟨s0, s1, s2⟩
      ·exact .inl hb2
      ·refine .inr ⟨s0, by omega, fun j g2 g3 => ?_⟩
       by_cases e : j = i
       ·rw [e]; exact p3
       ·exact s2 j (by omega) g3
  obtain ⟨r, ⟨K, hr⟩, hb⟩ := main x.length 0 (by omega) (by omega) r0 p0 q0
  refine ⟨r, ⟨K, fun k hk => ?_⟩, ?_⟩
  ·have hr := hr k hk
   dsimp only at hr ⊢
   unfold laws_szSegS.f
   rw [hr0 trivial, if_neg (by omega)]
   exact hr
  ·rcases hb with hb | ⟨s0, s1, s2⟩
   ·exact .inl hb
   ·refine .inr ⟨s0, by omega, by omega, fun y hy => ?_⟩
    obtain ⟨j, hjl, rfl⟩ := List.getElem_of_mem hy
    have := s2 j (by omega) hjl
    rwa [rdE_T59 x j hjl] at this

/-! UpI_Bits -/
def UpI_Bits (c : Int) (x : S41) : Prop := ((x.f1.length : Int) ≤ c)

/-! cv_Bits -/
def cv_Bits (x : S57) : S41 := ⟨x.f0, x.f1⟩

/-! upcv_Bits -/
theorem upcv_Bits (c : Int) (x : S57) (h : UpL_Bits c x) : UpI_Bits c (cv_Bits x) := by
 unfold UpL_Bits at h
 unfold UpI_Bits
 have i1 := h
 exact i1

/-! in_Bits -/
theorem in_Bits (x : S57) (h : (Lit.int .i64 x.f0).wf = true ∧ (x.f1.length ≤ 9223372036854775807 ∧ ∀ y0 ∈ x.f1, (Lit.int .u64 y0).wf = true)) : UpL_Bits 9223372036854775807 x := by
 obtain ⟨j0, j1⟩ := h
 unfold UpL_Bits
 exact (Int.ofNat_le.2 j1.1)

/-! to_Uint64S -/
theorem to_Uint64S (x : List Int) (h : ((x.length : Int) ≤ 1048576)) : Ev (fun k => laws_toUint64S.f k x) x := by
 have hl := h
 have main := up_loop x.length (filled (fun i => (rd x i)) (List.replicate x.length 0)) (fun k xs i => laws_toUint64S.l0 k x xs i)
  (fun i hi r h2 => by
   obtain ⟨K2, h2⟩ := h2
   refine ⟨K2 + 1, fun k hk => ?_⟩
   obtain ⟨m, rfl⟩ : ∃ m, k = m + 1 := ⟨k - 1, by omega⟩
   have h2 := h2 m (by omega)
   dsimp only at h2 ⊢
   rw [← filled_set _ _ (by simpa using hi)] at h2
   simp only [laws_toUint64S.l0]
   rw [if_pos (by omega), if_pos (by omega)]
   rw [if_pos (by rw [filled_len _ _ (by simp; omega)]; simp; omega), Int.toNat_natCast, wrap64_id (by omega) (by omega)]
   exact h2)
  x (Ev.step (f := fun _ => some x) (fun k => by
   simp only [laws_toUint64S.l0]
   rw [if_neg (by omega), filled_all _ _ (by simp)]
   congr 1
   exact list_of_rd x) (Ev.now _))
 rw [filled_zero] at main
 refine Ev.congr (fun k => ?_) main
 unfold laws_toUint64S.f
 rw [if_pos (by omega), if_pos (by omega), Int.toNat_natCast]

/-! to_Bits -/
theorem to_Bits (x : S57) (h : UpL_Bits 1048576 x) : Ev (fun k => laws_toBits.f k x.f0 x.f1) ((cv_Bits x).f0, (cv_Bits x).f1) := by
 unfold UpL_Bits at h
 have i1 := h
 obtain ⟨K1, e1⟩ := to_Uint64S x.f1 i1
 refine ⟨K1, fun k hk => ?_⟩
 have e1 := e1 k (by omega)
 dsimp only at e1 ⊢
 simp only [laws_toBits.f, e1, Option.bind_some]
 all_goals rfl

/-! UpI_Decl -/
def UpI_Decl (c : Int) (x : S64) : Prop := ((x.f0.size : Int) ≤ c)

/-! rdE_T64 -/
theorem rdE_T64 (l : List S64) (i : Nat) (h : i < l.length) : rd_T64 l (i : Int) = l[i] := by
 unfold rd_T64
 rw [List.getD_eq_getElem?_getD, Int.toNat_natCast, List.getElem?_eq_getElem h]; rfl
theorem rdM_T64 (l : List S64) (i : Nat) (h : i < l.length) : rd_T64 l (i : Int) ∈ l := by rw [rdE_T64 l i h]; exact List.getElem_mem h

/-! cv_Decl -/
def cv_Decl (x : S55) : S64 := ⟨x.f0, x.f1⟩

/-! upcv_Decl -/
theorem upcv_Decl (c : Int) (x : S55) (h : UpL_Decl c x) : UpI_Decl c (cv_Decl x) := by
 unfold UpL_Decl at h
 unfold UpI_Decl
 have i0 := h
 exact i0

/-! in_Decl -/
theorem in_Decl (x : S55) (h : x.f0.size ≤ maxLen ∧ (Lit.int .i64 x.f1).wf = true) : UpL_Decl 9223372036854775807 x := by
 obtain ⟨j0, j1⟩ := h
 unfold UpL_Decl
 exact (by have := j0; unfold maxLen at this; omega)

/-! to_Decl -/
theorem to_Decl (x : S55) (h : UpL_Decl 1048576 x) : Ev (fun k => laws_toDecl.f x.f0 x.f1) ((cv_Decl x).f0, (cv_Decl x).f1) := by
 unfold UpL_Decl at h
 have i0 := h
 refine ⟨0, fun k hk => ?_⟩
 dsimp only
 simp only [laws_toDecl.f, Option.bind_some]
 all_goals rfl

/-! to_DeclS -/
theorem to_DeclS (x : List S55) (h : ((x.length : Int) ≤ 1048576 ∧ ∀ y ∈ x, UpL_Decl 1048576 y)) : Ev (fun k => laws_toDeclS.f k x) (x.map cv_Decl) := by
 have hl := h.1
 have main := up_loop x.length (filled (fun i => (cv_Decl (rd_T55 x i))) (List.replicate x.length z64)) (fun k xs i => laws_toDeclS.l0 k x xs i)
  (fun i hi r h2 => by
   obtain ⟨K, he⟩ := to_Decl (rd_T55 x (i : Int)) (h.2 _ (rdM_T55 x i hi))
   obtain ⟨K2, h2⟩ := h2
   refine ⟨K + K2 + 1, fun k hk => ?_⟩
   obtain ⟨m, rfl⟩ : ∃ m, k = m + 1 := ⟨k - 1, by omega⟩
   have h2 := h2 m (by omega)
   have he := he m (by omega)
   dsimp only at he h2 ⊢
   rw [← filled_set _ _ (by simpa using hi)] at h2
   simp only [laws_toDeclS.l0]
   rw [if_pos (by omega), if_pos (by omega), he]
   simp only [Option.bind_some]
   rw [if_pos (by rw [filled_len _ _ (by simp; omega)]; simp; omega), Int.toNat_natCast, wrap64_id (by omega) (by omega)]
   exact h2)
  (x.map cv_Decl) (Ev.step (f := fun _ => some (x.map cv_Decl)) (fun k => by
   simp only [laws_toDeclS.l0]
   rw [if_neg (by omega), filled_all _ _ (by simp)]
   congr 1
   apply List.ext_getElem?
   intro i
   by_cases hi : i < x.length
   ·simp [hi, rdE_T55]
   ·rw [List.getElem?_eq_none (by first | omega | (simp; omega)), List.getElem?_eq_none (by first | omega | (simp; omega))]) (Ev.now _))
 rw [filled_zero] at main
 refine Ev.congr (fun k => ?_) main
 unfold laws_toDeclS.f
 rw [if_pos (by omega), if_pos (by omega), Int.toNat_natCast]

/-! UpI_Seg -/
def UpI_Seg (c : Int) (x : S67) : Prop := UpI_Bits c x.f3

/-! rdE_T67 -/
theorem rdE_T67 (l : List S67) (i : Nat) (h : i < l.length) : rd_T67 l (i : Int) = l[i] := by
 unfold rd_T67
 rw [List.getD_eq_getElem?_getD, Int.toNat_natCast, List.getElem?_eq_getElem h]; rfl
theorem rdM_T67 (l : List S67) (i : Nat) (h : i < l.length) : rd_T67 l (i : Int) ∈ l := by rw [rdE_T67 l i h]; exact List.getElem_mem h

/-! cv_Seg -/
def cv_Seg (x : S59) : S67 := ⟨x.f0, x.f1, x.f2, (cv_Bits x.f3)⟩

/-! upcv_Seg -/
theorem upcv_Seg (c : Int) (x : S59) (h : UpL_Seg c x) : UpI_Seg c (cv_Seg x) := by
 unfold UpL_Seg at h
 unfold UpI_Seg
 have i3 := h
 exact (upcv_Bits c _ i3)

/-! in_Seg -/
theorem in_Seg (x : S59) (h : (Lit.int .i64 x.f0).wf = true ∧ (Lit.int .i64 x.f1).wf = true ∧ (Lit.int .i64 x.f2).wf = true ∧ (Lit.int .i64 x.f3.f0).wf = true ∧ (x.f3.f1.length ≤ 9223372036854775807 ∧ ∀ y0 ∈ x.f3.f1, (Lit.int .u64 y0).wf = true)) : UpL_Seg 9223372036854775807 x := by
 obtain ⟨j0, j1, j2, j3⟩ := h
 unfold UpL_Seg
 exact (in_Bits _ j3)

/-! to_Seg -/
theorem to_Seg (x : S59) (h : UpL_Seg 1048576 x) : Ev (fun k => laws_toSeg.f k x.f0 x.f1 x.f2 x.f3.f0 x.f3.f1) ((cv_Seg x).f0, (cv_Seg x).f1, (cv_Seg x).f2, (cv_Seg x).f3.f0, (cv_Seg x).f3.f1) := by
 unfold UpL_Seg at h
 have i3 := h
 obtain ⟨K3, e3⟩ := to_Bits x.f3 i3
 refine ⟨K3, fun k hk => ?_⟩
 have e3 := e3 k (by omega)
 dsimp only at e3 ⊢
 simp only [laws_toSeg.f, e3, Option.bind_some]
 all_goals rfl

/-! to_SegS -/
theorem to_SegS (x : List S59) (h : ((x.length : Int) ≤ 1048576 ∧ ∀ y ∈ x, UpL_Seg 1048576 y)) : Ev (fun k => laws_toSegS.f k x) (x.map cv_Seg) := by
 have hl := h.1
 have main := up_loop x.length (filled (fun i => (cv_Seg (rd_T59 x i))) (List.replicate x.length z67)) (fun k xs i => laws_toSegS.l0 k x xs i)
  (fun i hi r h2 => by
   obtain ⟨K, he⟩ := to_Seg (rd_T59 x (i : Int)) (h.2 _ (rdM_T59 x i hi))
   obtain ⟨K2, h2⟩ := h2
   refine ⟨K + K2 + 1, fun k hk => ?_⟩
   obtain ⟨m, rfl⟩ : ∃ m, k = m + 1 := ⟨k - 1, by omega⟩
   have h2 := h2 m (by omega)
   have he := he m (by omega)
   dsimp only at he h2 ⊢
   rw [← filled_set _ _ (by simpa using hi)] at h2
   simp only [laws_toSegS.l0]
   rw [if_pos (by omega), if_pos (by omega), he]
   simp only [Option.bind_some]
   rw [if_pos (by rw [filled_len _ _ (by simp; omega)]; simp; omega), Int.toNat_natCast, wrap64_id (by omega) (by omega)]
   exact h2)
  (x.map cv_Seg) (Ev.step (f := fun _ => some (x.map cv_Seg)) (fun k => by
   simp only [laws_toSegS.l0]
   rw [if_neg (by omega), filled_all _ _ (by simp)]
   congr 1
   apply List.ext_getElem?
   intro i
   by_cases hi : i < x.length
   ·simp [hi, rdE_T59]
   ·rw [List.getElem?_eq_none (by first | omega | (simp; omega)), List.getElem?_eq_none (by first | omega | (simp; omega))]) (Ev.now _))
 rw [filled_zero] at main
 refine Ev.congr (fun k => ?_) main
 unfold laws_toSegS.f
 rw [if_pos (by omega), if_pos (by omega), Int.toNat_natCast]

/-! eq_Uint64S -/
theorem eq_Uint64S (x : List Int) (h : ((x.length : Int) ≤ 1048576)) : Ev (fun k => laws_eqUint64S.f k x x) true := by
 have hl := h
 have main := up_loop x.length (fun _ => ()) (fun k _ i => laws_eqUint64S.l0 k x x i)
  (fun i hi r h2 => by
   obtain ⟨K2, h2⟩ := h2
   refine ⟨K2 + 1, fun k hk => ?_⟩
   obtain ⟨m, rfl⟩ : ∃ m, k = m + 1 := ⟨k - 1, by omega⟩
   have h2 := h2 m (by omega)
   dsimp only at h2 ⊢
   simp only [laws_eqUint64S.l0]
   rw [if_pos (by omega), if_pos (by omega), if_pos (by omega)]
   simp only [if_true]
   rw [wrap64_id (by omega) (by omega)]
   exact h2)
  true (Ev.step (f := fun _ => some true) (fun k => by
   simp only [laws_eqUint64S.l0]
   rw [if_neg (by omega)]) (Ev.now _))
 obtain ⟨K, h⟩ := main
 refine ⟨K, fun k hk => ?_⟩
 have h := h k hk
 dsimp only at h ⊢
 unfold laws_eqUint64S.f
 rw [if_pos rfl]
 exact h

/-! eq_Bits -/
theorem eq_Bits (x : S41) (h : UpI_Bits 1048576 x) : Ev (fun k => laws_eqBits.f k x.f0 x.f1 x.f0 x.f1) true := by
 unfold UpI_Bits at h
 have i1 := h
 obtain ⟨K1, e1⟩ := eq_Uint64S x.f1 i1
 refine ⟨K1, fun k hk => ?_⟩
 have e1 := e1 k (by omega)
 dsimp only at e1 ⊢
 simp only [laws_eqBits.f, e1, Option.bind_some, if_true, ↓reduceIte, bne_self_eq_false, Bool.false_eq_true]

/-! eq_Decl -/
theorem eq_Decl (x : S64) (h : UpI_Decl 1048576 x) : Ev (fun k => laws_eqDecl.f x.f0 x.f1 x.f0 x.f1) true := by
 unfold UpI_Decl at h
 have i0 := h
 refine ⟨0, fun k hk => ?_⟩
 dsimp only
 simp only [laws_eqDecl.f, Option.bind_some, if_true, ↓reduceIte, bne_self_eq_false, Bool.false_eq_true]

/-! eq_DeclS -/
theorem eq_DeclS (x : List S64) (h : ((x.length : Int) ≤ 1048576 ∧ ∀ y ∈ x, UpI_Decl 1048576 y)) : Ev (fun k => laws_eqDeclS.f k x x) true := by
 have hl := h.1
 have main := up_loop x.length (fun _ => ()) (fun k _ i => laws_eqDeclS.l0 k x x i)
  (fun i hi r h2 => by
   obtain ⟨K, he⟩ := eq_Decl (rd_T64 x (i : Int)) (h.2 _ (rdM_T64 x i hi))
   obtain ⟨K2, h2⟩ := h2
   refine ⟨K + K2 + 1, fun k hk => ?_⟩
   obtain ⟨m, rfl⟩ : ∃ m, k = m + 1 := ⟨k - 1, by omega⟩
   have h2 := h2 m (by omega)
   have he := he m (by omega)
   dsimp only at he h2 ⊢
   simp only [laws_eqDeclS.l0]
   rw [if_pos (by omega), if_pos (by omega), if_pos (by omega), he]
   simp only [Option.bind_some, if_true, ↓reduceIte]
   rw [wrap64_id (by omega) (by omega)]
   exact h2)
  true (Ev.step (f := fun _ => some true) (fun k => by
   simp only [laws_eqDeclS.l0]
   rw [if_neg (by omega)]) (Ev.now _))
 obtain ⟨K, h⟩ := main
 refine ⟨K, fun k hk => ?_⟩
 have h := h k hk
 dsimp only at h ⊢
 unfold laws_eqDeclS.f
 rw [if_pos rfl]
 exact h

/-! eq_Seg -/
theorem eq_Seg (x : S67) (h : UpI_Seg 1048576 x) : Ev (fun k => laws_eqSeg.f k x.f0 x.f1 x.f2 x.f3.f0 x.f3.f1 x.f0 x.f1 x.f2 x.f3.f0 x.f3.f1) true := by
 unfold UpI_Seg at h
 have i3 := h
 obtain ⟨K3, e3⟩ := eq_Bits x.f3 i3
 refine ⟨K3, fun k hk => ?_⟩
 have e3 := e3 k (by omega)
 dsimp only at e3 ⊢
 simp only [laws_eqSeg.f, e3, Option.bind_some, if_true, ↓reduceIte, bne_self_eq_false, Bool.false_eq_true]

/-! eq_SegS -/
theorem eq_SegS (x : List S67) (h : ((x.length : Int) ≤ 1048576 ∧ ∀ y ∈ x, UpI_Seg 1048576 y)) : Ev (fun k => laws_eqSegS.f k x x) true := by
 have hl := h.1
 have main := up_loop x.length (fun _ => ()) (fun k _ i => laws_eqSegS.l0 k x x i)
  (fun i hi r h2 => by
   obtain ⟨K, he⟩ := eq_Seg (rd_T67 x (i : Int)) (h.2 _ (rdM_T67 x i hi))
   obtain ⟨K2, h2⟩ := h2
   refine ⟨K + K2 + 1, fun k hk => ?_⟩
   obtain ⟨m, rfl⟩ : ∃ m, k = m + 1 := ⟨k - 1, by omega⟩
   have h2 := h2 m (by omega)
   have he := he m (by omega)
   dsimp only at he h2 ⊢
   simp only [laws_eqSegS.l0]
   rw [if_pos (by omega), if_pos (by omega), if_pos (by omega), he]
   simp only [Option.bind_some, if_true, ↓reduceIte]
   rw [wrap64_id (by omega) (by omega)]
   exact h2)
  true (Ev.step (f := fun _ => some true) (fun k => by
   simp only [laws_eqSegS.l0]
   rw [if_neg (by omega)]) (Ev.now _))
 obtain ⟨K, h⟩ := main
 refine ⟨K, fun k hk => ?_⟩
 have h := h k hk
 dsimp only at h ⊢
 unfold laws_eqSegS.f
 rw [if_pos rfl]
 exact h

/-! rdset_T64 -/
theorem rdset_T64 (l : List S64) (i : Nat) (h : i < l.length) (v : S64) : rd_T64 (l.set i v) (i : Int) = v := by
 unfold rd_T64
 rw [List.getD_eq_getElem?_getD, Int.toNat_natCast, List.getElem?_set_self h]; rfl

/-! mtext_ev -/
theorem mtext_loop : ∀ n : Nat, ∀ z : Int, 0 ≤ z → z < 10 ^ n → z ≤ 9223372036854775807 → ∀ s : ByteArray, s.size + n ≤ 1000000 → ∃ t, Ev (fun k => laws_markText.l0 k z s) t := by
 intro n
 induction n with
 | zero =>
  intro z h0 h1 big s hs
  have : z = 0 := by simp at h1; omega
  subst this
  exact ⟨_, Ev.step (f := fun _ => some ((⟨#[109]⟩ : ByteArray) ++ s)) (fun k => by simp (disch := omega) only [laws_markText.l0, ↓if_neg, ↓if_pos]) (Ev.now _)⟩
 | succ n ih =>
  intro z h0 h1 big s hs
  by_cases c : z > 0
  ·have e1 : Int.tdiv z 10 = z / 10 := Int.tdiv_eq_ediv_of_nonneg (by omega)
   ·have hsz : ∀ v : Int, (strOfNums [v]).size = 1 := fun v => rfl
    obtain ⟨t, h⟩ := ih (z / 10) (by omega) (by rw [Int.pow_succ] at h1; omega) (by omega) (strOfNums [(wrap64 (48 + (Int.tmod z 10))) % 256] ++ s) (by rw [ByteArray.size_append, hsz]; omega)
    refine ⟨t, Ev.step (fun k => ?_) h⟩
    have hle : (strOfNums [(wrap64 (48 + (Int.tmod z 10))) % 256]).size + s.size ≤ 9223372036854775807 := by rw [hsz]; omega
    simp only [laws_markText.l0]
    rw [if_pos c]
    simp only [Option.bind_some]
    rw [if_pos hle, e1, wrap64_id (by omega) (by omega)]
  ·have : z = 0 := by omega
   subst this
   exact ⟨_, Ev.step (f := fun _ => some ((⟨#[109]⟩ : ByteArray) ++ s)) (fun k => by simp (disch := omega) only [laws_markText.l0, ↓if_neg, ↓if_pos]) (Ev.now _)⟩
theorem mtext_ev : ∀ z : Int, ∃ t : ByteArray, (0 ≤ z → z ≤ 4611686018427387904 → Ev (fun k => laws_markText.f k z) t) := by
 intro z
 by_cases c : 0 ≤ z ∧ z ≤ 4611686018427387904
 ·by_cases c0 : z ≤ 0
  ·exact ⟨_, fun _ _ => Ev.congr (fun k => by unfold laws_markText.f; rw [if_pos c0]) (Ev.now _)⟩
  ·obtain ⟨t, h⟩ := mtext_loop 19 z c.1 (by rw [show (10 : Int) ^ 19 = 10000000000000000000 from by decide]; omega) (by omega) ⟨#[]⟩ (by decide)
   exact ⟨t, fun _ _ => Ev.congr (fun k => by unfold laws_markText.f; rw [if_neg c0]) h⟩
 ·exact ⟨ByteArray.empty, fun h0 h1 => absurd ⟨h0, h1⟩ c⟩

/-! mark_DeclS -/
theorem mark_DeclS (x : List S64) (h : ((x.length : Int) ≤ 1048576 ∧ ∀ y ∈ x, UpI_Decl 1048576 y)) (m : Int) (h0 : 0 ≤ m) (h1 : m ≤ 4611686018425290752) : ∃ (m' : Int) (x' : List S64), Ev (fun k => laws_markDeclS.f k x m) (m', x') ∧ m ≤ m' ∧ m' ≤ m + 2097152 := by
 have hl : (x.length : Int) ≤ 1048576 := h.1
 obtain ⟨T, hT⟩ := Classical.axiomOfChoice mtext_ev
 obtain ⟨conv, hconv⟩ : ∃ conv : Nat → S64, ∀ i, conv i = (⟨T (m + 2 * (i : Int)), m + 2 * (i : Int) + 1⟩ : S64) := ⟨fun i => _, fun _ => rfl⟩
 have main := up_loop x.length (fun i => (m + 2 * (i : Int), filled conv x i)) (fun k s i => laws_markDeclS.l0 k s.2 s.1 i)
  (fun i hi r h2 => by
   obtain ⟨K2, h2⟩ := h2
   obtain ⟨K0_, T0_⟩ := Ev.binds (hT (m + 2 * (i : Int)) (by omega) (by omega))
   refine ⟨K0_ + K2 + 1, fun k hk => ?_⟩
   obtain ⟨mm, rfl⟩ : ∃ mm, k = mm + 1 := ⟨k - 1, by omega⟩
   have h2 := h2 mm (by omega)
   dsimp only at h2 ⊢
   have hlen : i < (filled conv x i).length := by rw [filled_len _ _ (by omega)]; exact hi
   rw [← filled_set conv x hi, hconv] at h2
   simp (disch := first | omega | (simp only [List.length_set]; omega)) only [laws_markDeclS.l0, ↓if_pos, Option.bind_some, Int.toNat_natCast, rdset_T64, List.set_set, ↓T0_, wrap64_id]
   rw [show m + 2 * (i : Int) + 1 + 1 = m + 2 * ((i + 1 : Nat) : Int) by omega]
   exact h2)
  (m + 2 * (x.length : Int), (List.range x.length).map conv) (Ev.step (f := fun _ => some (m + 2 * (x.length : Int), (List.range x.length).map conv)) (fun k => by
   simp only [laws_markDeclS.l0]
   rw [if_neg (by rw [filled_len _ _ (Nat.le_refl _)]; omega), filled_all _ _ rfl]) (Ev.now _))
 simp only [filled_zero] at main
 refine ⟨m + 2 * (x.length : Int), (List.range x.length).map conv, Ev.congr (fun k => by unfold laws_markDeclS.f; simp) main, by omega, by omega⟩

/-! mark_Uint64S -/
theorem mark_Uint64S (x : List Int) (h : ((x.length : Int) ≤ 1048576)) (m : Int) (h0 : 0 ≤ m) (h1 : m ≤ 4611686018426339328) : ∃ (m' : Int) (x' : List Int), Ev (fun k => laws_markUint64S.f k x m) (m', x') ∧ m ≤ m' ∧ m' ≤ m + 1048576 ∧ Ev (fun k => laws_heldUint64S.f k x' m) m' := by
 have hl : (x.length : Int) ≤ 1048576 := h
 obtain ⟨conv, hconv⟩ : ∃ conv : Nat → Int, ∀ i, conv i = IntKind.u64.wrap (m + 1 * (i : Int)) := ⟨fun i => _, fun _ => rfl⟩
 have main := up_loop x.length (fun i => (m + 1 * (i : Int), filled conv x i)) (fun k s i => laws_markUint64S.l0 k s.2 s.1 i)
  (fun i hi r h2 => by
   obtain ⟨K2, h2⟩ := h2
   refine ⟨K2 + 1, fun k hk => ?_⟩
   obtain ⟨mm, rfl⟩ : ∃ mm, k = mm + 1 := ⟨k - 1, by omega⟩
   have h2 := h2 mm (by omega)
   dsimp only at h2 ⊢
   have hlen : i < (filled conv x i).length := by rw [filled_len _ _ (by omega)]; exact hi
   rw [← filled_set conv x hi, hconv] at h2
   simp (disch := first | omega | (simp only [List.length_set]; omega)) only [laws_markUint64S.l0, ↓if_pos, Option.bind_some, Int.toNat_natCast, wrap64_id]
   rw [show m + 1 * (i : Int) + 1 = m + 1 * ((i + 1 : Nat) : Int) by omega]
   exact h2)
  (m + 1 * (x.length : Int), (List.range x.length).map conv) (Ev.step (f := fun _ => some (m + 1 * (x.length : Int), (List.range x.length).map conv)) (fun k => by
   simp only [laws_markUint64S.l0]
   rw [if_neg (by rw [filled_len _ _ (Nat.le_refl _)]; omega), filled_all _ _ rfl]) (Ev.now _))
 simp only [filled_zero] at main
 refine ⟨m + 1 * (x.length : Int), (List.range x.length).map conv, Ev.congr (fun k => by unfold laws_markUint64S.f; simp) main, by omega, by omega, ?_⟩
 have hrd : ∀ i : Nat, i < x.length → rd ((List.range x.length).map conv) (i : Int) = conv i := fun i hi => by
  rw [rd_getD]
  rw [List.getD_eq_getElem?_getD, Int.toNat_natCast, List.getElem?_map, List.getElem?_range hi]; rfl
 have main2 := up_loop x.length (fun i => m + 1 * (i : Int)) (fun k s i => laws_heldUint64S.l0 k ((List.range x.length).map conv) s i)
  (fun i hi r h2 => by
   obtain ⟨K2, h2⟩ := h2
   refine ⟨K2 + 1, fun k hk => ?_⟩
   obtain ⟨mm, rfl⟩ : ∃ mm, k = mm + 1 := ⟨k - 1, by omega⟩
   have h2 := h2 mm (by omega)
   dsimp only at h2 ⊢
   have hr := hrd i hi
   rw [hconv] at hr
   simp (disch := omega) only [laws_heldUint64S.l0, List.length_map, List.length_range, ↓if_pos, hr, wrap64_id, ↓reduceIte, bne_self_eq_false, Bool.false_eq_true]
   rw [show m + 1 * (i : Int) + 1 = m + 1 * ((i + 1 : Nat) : Int) by omega]
   exact h2)
  (m + 1 * (x.length : Int)) (Ev.step (f := fun _ => some (m + 1 * (x.length : Int))) (fun k => by
   simp only [laws_heldUint64S.l0]
   rw [if_neg (by simp)]) (Ev.now _))
 exact Ev.congr (fun k => by unfold laws_heldUint64S.f; simp) main2

/-! mark_SegS -/
theorem mark_SegS_loop (x : List S67) (hl : x.length ≤ 1048576) (hx : ∀ j : Nat, j < x.length → (((rd_T67 x (j : Int)).f3.f1.length : Int) ≤ 1048576)) :
  ∀ d i, x.length - i = d → i ≤ x.length → ∀ (xs : List S67) (m : Int), xs.length = x.length → (∀ j : Nat, i ≤ j → j < x.length → (rd_T67 xs (j : Int)) = (rd_T67 x (j : Int))) → 0 ≤ m → m ≤ 4611686018427387904 - (d : Int) * 1048580 →
   ∃ (m' : Int) (x' : List S67), Ev (fun k => laws_markSegS.l0 k xs m (i : Int)) (m', x') ∧ m ≤ m' ∧ m' ≤ m + (d : Int) * 1048580 ∧ x'.length = x.length ∧ (∀ j : Nat, j < i → (rd_T67 x' (j : Int)) = (rd_T67 xs (j : Int))) ∧ Ev (fun k => laws_heldSegS.l0 k x' m (i : Int)) m' := by
 intro d
 induction d with
 | zero =>
  intro i hd hi xs m hlen hrd h0 h1
  refine ⟨m, xs, Ev.step (f := fun _ => some (m, xs)) (fun k => ?_) (Ev.now _), by omega, by omega, hlen, fun _ _ => rfl, Ev.step (f := fun _ => some m) (fun k => ?_) (Ev.now _)⟩
  ·simp (disch := omega) only [laws_markSegS.l0, ↓if_neg]
  ·simp (disch := omega) only [laws_heldSegS.l0, ↓if_neg]
 | succ d ih =>
  intro i hd hi xs m hlen hrd h0 h1
  have hil : i < x.length := by omega
  have hr := hrd i (Nat.le_refl _) hil
  have hb := hx i hil
  rw [← hr] at hb
  have hb0 := hb
  obtain ⟨m0_, z0, ⟨K0, e0⟩, o0, u0, ⟨L0, d0⟩⟩ := mark_Uint64S (rd_T67 xs (i : Int)).f3.f1 hb0 (m + 1 + 1 + 1 + 1) (by omega) (by omega)
  obtain ⟨m2, x', ⟨Kn, en⟩, p1, p2, p3, p4, ⟨Kh, eh⟩⟩ := ih (i + 1) (by omega) (by omega) (xs.set i (⟨(m), (m + 1), (m + 1 + 1), ⟨(m + 1 + 1 + 1), z0⟩⟩ : S67)) (m0_) (by rw [List.length_set]; exact hlen) (fun j hj hjl => by
   rw [← hrd j (by omega) hjl]
   unfold rd_T67
   rw [List.getD_eq_getElem?_getD, List.getD_eq_getElem?_getD, Int.toNat_natCast, List.getElem?_set_ne (by omega)]) (by omega) (by omega)
  have hri : rd_T67 x' (i : Int) = (⟨(m), (m + 1), (m + 1 + 1), ⟨(m + 1 + 1 + 1), z0⟩⟩ : S67) := by
   rw [p4 i (by omega)]
   unfold rd_T67
   rw [List.getD_eq_getElem?_getD, Int.toNat_natCast, List.getElem?_set_self (by omega)]
   rfl
  refine ⟨m2, x', ⟨K0 + Kn + 1, fun k hk => ?_⟩, by omega, by omega, p3, fun j hj => ?_, ⟨L0 + Kh + 1, fun k hk => ?_⟩⟩
  ·obtain ⟨mm, rfl⟩ : ∃ mm, k = mm + 1 := ⟨k - 1, by omega⟩
   have e0 := e0 mm (by omega)
   have en := en mm (by omega)
   dsimp only at e0 en ⊢
   simp (disch := omega) only [laws_markSegS.l0, ↓if_pos, wrap64_id (x := m + 1), wrap64_id (x := m + 1 + 1), wrap64_id (x := m + 1 + 1 + 1), wrap64_id (x := m + 1 + 1 + 1 + 1), e0, Option.bind_some, Int.toNat_natCast, wrap_next]
   exact en
  ·rw [p4 j (by omega)]
   unfold rd_T67
   rw [List.getD_eq_getElem?_getD, List.getD_eq_getElem?_getD, Int.toNat_natCast, List.getElem?_set_ne (by omega)]
  ·obtain ⟨mm, rfl⟩ : ∃ mm, k = mm + 1 := ⟨k - 1, by omega⟩
   have d0 := d0 mm (by omega)
   have eh := eh mm (by omega)
   dsimp only at d0 eh ⊢
   simp (disch := omega) only [laws_heldSegS.l0, hri, ↓if_pos, ↓reduceIte, wrap64_id (x := m + 1), wrap64_id (x := m + 1 + 1), wrap64_id (x := m + 1 + 1 + 1), wrap64_id (x := m + 1 + 1 + 1 + 1), d0, Option.bind_some, ↓if_neg, wrap_next, bne_self_eq_false, Bool.false_eq_true, beq_self_eq_true]
   exact eh
theorem mark_SegS (x : List S67) (h : ((x.length : Int) ≤ 1048576 ∧ ∀ y ∈ x, UpI_Seg 1048576 y)) (m : Int) (h0 : 0 ≤ m) (h1 : m ≤ 4611684918911565824) : ∃ (m' : Int) (x' : List S67), Ev (fun k => laws_markSegS.f k x m) (m', x') ∧ m ≤ m' ∧ m' ≤ m + 1099515822080 ∧ Ev (fun k => laws_heldSegS.f k x' m) m' := by
 obtain ⟨m', x', ev, p1, p2, _, _, e2⟩ := mark_SegS_loop x (by omega) (fun j hj => by
  have hu := h.2 _ (rdM_T67 x j hj)
  simp only [UpI_Seg, UpI_Bits] at hu
  try simp only [and_true, true_and] at hu ⊢
  omega) x.length 0 (by omega) (by omega) x m rfl (fun _ _ _ => rfl) h0 (by omega)
 exact ⟨m', x', ev, p1, by omega, e2⟩

/-! WfI_Decl -/
def WfI_Decl (x : S64) : Prop := True ∧ (-9223372036854775808 ≤ x.f1 ∧ x.f1 ≤ 9223372036854775807)

/-! wf_Decl -/
theorem wf_Decl (x : S55) (h : x.f0.size ≤ maxLen ∧ (Lit.int .i64 x.f1).wf = true) : WfI_Decl (cv_Decl x) := by
 obtain ⟨j0, j1⟩ := h
 exact ⟨trivial, (wf_i64 j1)⟩

/-! WfI_Bits -/
def WfI_Bits (x : S41) : Prop := (-9223372036854775808 ≤ x.f0 ∧ x.f0 ≤ 9223372036854775807) ∧ (∀ y ∈ x.f1, W64 y)

/-! wf_Bits -/
theorem wf_Bits (x : S57) (h : (Lit.int .i64 x.f0).wf = true ∧ (x.f1.length ≤ 9223372036854775807 ∧ ∀ y0 ∈ x.f1, (Lit.int .u64 y0).wf = true)) : WfI_Bits (cv_Bits x) := by
 obtain ⟨j0, j1⟩ := h
 exact ⟨(wf_i64 j0), (fun a1_ ha1_ => (wf_u64 (j1.2 a1_ ha1_)))⟩

/-! WfI_Seg -/
def WfI_Seg (x : S67) : Prop := (-9223372036854775808 ≤ x.f0 ∧ x.f0 ≤ 9223372036854775807) ∧ (-9223372036854775808 ≤ x.f1 ∧ x.f1 ≤ 9223372036854775807) ∧ (-9223372036854775808 ≤ x.f2 ∧ x.f2 ≤ 9223372036854775807) ∧ WfI_Bits x.f3

/-! wf_Seg -/
theorem wf_Seg (x : S59) (h : (Lit.int .i64 x.f0).wf = true ∧ (Lit.int .i64 x.f1).wf = true ∧ (Lit.int .i64 x.f2).wf = true ∧ (Lit.int .i64 x.f3.f0).wf = true ∧ (x.f3.f1.length ≤ 9223372036854775807 ∧ ∀ y0 ∈ x.f3.f1, (Lit.int .u64 y0).wf = true)) : WfI_Seg (cv_Seg x) := by
 obtain ⟨j0, j1, j2, j3⟩ := h
 exact ⟨(wf_i64 j0), (wf_i64 j1), (wf_i64 j2), (wf_Bits _ j3)⟩

/-! okB -/
noncomputable def okB (w : Int) (l : List Int) : Bool := @decide (Right w l) (Classical.propDecidable _)
theorem okB_true {w : Int} {l : List Int} (h : Right w l) : okB w l = true := by unfold okB; exact @decide_eq_true _ (Classical.propDecidable _) h
theorem okB_false {w : Int} {l : List Int} (h : ¬ Right w l) : okB w l = false := by unfold okB; exact @decide_eq_false _ (Classical.propDecidable _) h
theorem okB_cases (w : Int) (l : List Int) : (okB w l = true ∧ Right w l) ∨ (okB w l = false ∧ ¬ Right w l) := by
 by_cases h : Right w l
 ·exact .inl ⟨okB_true h, h⟩
 ·exact .inr ⟨okB_false h, h⟩

/-! l1Bit -/
theorem l1Bit_eq (w : Int) (l : List Int) (h : U64s l) (i : Nat) (hi : i < 64 * l.length) (hl : l.length ≤ 1048576) : spec_l1Bit.f w l (i : Int) = some (bitI l i) := by
 unfold spec_l1Bit.f
 rw [tdiv64 i (by omega), utmod64, if_pos (by omega), if_pos (by omega), if_pos (by omega), bit_reads h]
 rcases bitI_01 l i with e | e <;> simp [e]

/-! specBitsOk -/
theorem specBitsOk_l0 (w : Int) (l : List Int) (h : U64s l) (hl : l.length ≤ 1048576) (h1 : 1 ≤ w) (hw : w ≤ 64 * l.length) :
  ∃ b, Ev (fun k => spec_BitsOk.l0 k w w l) b ∧ (b = true ↔ ∀ i : Nat, w ≤ i → bitN l i = false) := by
 rcases find_loop (64 * l.length - w.toNat) (fun i => bitN l (w.toNat + i)) (fun k i => spec_BitsOk.l0 k (w + i) w l) (fun _ => false) true
  (fun i hi hp => Ev.step (f := fun _ => some false) (fun k => by
   simp only [spec_BitsOk.l0]
   rw [wrap64_id (by omega) (by omega), if_pos (by omega), show w + (i : Int) = ((w.toNat + i : Nat) : Int) by omega, l1Bit_eq w l h _ (by omega) hl]
   simp only [Option.bind_some]
   rw [if_neg (by simp only [bitI, hp, if_true]; decide)]) (Ev.now _))
  (fun i hi hp r hr => Ev.step (fun k => by
   simp only [spec_BitsOk.l0]
   rw [wrap64_id (x := 64 * (l.length : Int)) (by omega) (by omega), if_pos (by omega)]
   have e := l1Bit_eq w l h (w.toNat + i) (by omega) hl
   rw [show w + (i : Int) = ((w.toNat + i : Nat) : Int) by omega, e]
   simp only [Option.bind_some]
   rw [if_pos (by simp only [bitI, hp]; rfl), wrap64_id (by omega) (by omega), show ((w.toNat + i : Nat) : Int) + 1 = w + ((i : Int) + 1) by omega]) hr)
  (Ev.step (f := fun _ => some true) (fun k => by
   simp only [spec_BitsOk.l0]
   rw [wrap64_id (by omega) (by omega), if_neg (by omega)]) (Ev.now _)) with ⟨i, hi, hp, _, hr⟩ | ⟨hp, hr⟩
 ·refine ⟨false, by simpa using hr, (fun hb => by cases hb), fun hb => ?_⟩
  have := hb (w.toNat + i) (by omega)
  rw [this] at hp; cases hp
 ·refine ⟨true, by simpa using hr, fun _ i hi => ?_, fun _ => rfl⟩
  by_cases ho : i < 64 * l.length
  ·have := hp (i - w.toNat) (by omega)
   rwa [show w.toNat + (i - w.toNat) = i by omega] at this
  ·exact bitN_out (by omega)
theorem specBitsOk_ev (w : Int) (l : List Int) (h : U64s l) (hl : l.length ≤ 1048576) (hw0 : -9223372036854775808 ≤ w) (hw1 : w ≤ 9223372036854775807) : Ev (fun k => spec_BitsOk.f k w l) (okB w l) := by
 by_cases hin : 1 ≤ w ∧ w ≤ 4096
 ·have e1 : spec_l1In.f w 1 4096 = some true := by unfold spec_l1In.f; rw [if_pos (by omega), decide_eq_true (by omega)]
  have e2 := fun (_ : True) => words_of w (by omega) (by omega)
  by_cases hlen : (l.length : Int) = (w + 63) / 64
  ·obtain ⟨b, hb, hbi⟩ := specBitsOk_l0 w l h hl hin.1 (by omega)
   have : okB w l = b := by
    cases b with
    | true => exact okB_true ⟨hin.1, hin.2, hlen, h, hbi.1 rfl⟩
    | false => exact okB_false fun hr => by have := hbi.2 hr.top; cases this
   rw [this]
   obtain ⟨K, hb⟩ := hb
   refine ⟨K + 1, fun k hk => ?_⟩
   obtain ⟨m, rfl⟩ : ∃ m, k = m + 1 := ⟨k - 1, by omega⟩
   dsimp only
   unfold spec_BitsOk.f
   rw [e1, e2 trivial]
   simp only [Option.bind_some, if_true, spec_BitsOk.j0]
   rw [if_neg (by simp [hlen])]
   exact hb m (by omega)
  ·rw [okB_false fun hr => hlen hr.len]
   refine ⟨1, fun k hk => ?_⟩
   obtain ⟨m, rfl⟩ : ∃ m, k = m + 1 := ⟨k - 1, by omega⟩
   dsimp only
   unfold spec_BitsOk.f
   rw [e1, e2 trivial]
   simp only [Option.bind_some, if_true, spec_BitsOk.j0]
   rw [if_pos (by simpa using hlen)]
 ·rw [okB_false fun hr => hin ⟨hr.low, hr.high⟩]
  have e1 : spec_l1In.f w 1 4096 = some false := by
   unfold spec_l1In.f
   by_cases h1 : w ≥ 1
   ·rw [if_pos h1, decide_eq_false (by omega)]
   ·rw [if_neg h1]
  refine ⟨1, fun k hk => ?_⟩
  obtain ⟨m, rfl⟩ : ∃ m, k = m + 1 := ⟨k - 1, by omega⟩
  dsimp only
  unfold spec_BitsOk.f
  rw [e1]
  simp [spec_BitsOk.j0]

/-! implInside -/
theorem inside_eq (a b c : Int) : impl_inside.f a b c = some (decide (b ≤ a ∧ a ≤ c)) := by
 unfold impl_inside.f
 by_cases h1 : b ≤ a
 ·rw [if_pos h1]; simp [h1]
 ·rw [if_neg h1]; simp [h1]

/-! specIn -/
theorem l1In_eq (a b c : Int) : spec_l1In.f a b c = some (decide (b ≤ a ∧ a ≤ c)) := by
 unfold spec_l1In.f
 by_cases h1 : b ≤ a
 ·rw [if_pos h1]; simp [h1]
 ·rw [if_neg h1]; simp [h1]

/-! wordsFor -/
theorem wordsFor_eq (w : Int) (h0 : 0 ≤ w) (h1 : w ≤ 1000000000) : impl_wordsFor.f w = some ((w + 63) / 64) := by
 unfold impl_wordsFor.f
 rw [wrap64_id (x := w + 63) (by omega) (by omega), Int.tdiv_eq_ediv_of_nonneg (by omega), wrap64_id (by omega) (by omega)]

/-! implBitsOk -/
theorem implBitsOk_eq (w : Int) (l : List Int) (h : U64s l) (hl : l.length ≤ 1048576) : impl_BitsOk.f w l = some (okB w l) := by
 unfold impl_BitsOk.f
 rw [inside_eq]
 simp only [Option.bind_some]
 by_cases hin : 1 ≤ w ∧ w ≤ 4096
 ·rw [if_pos (decide_eq_true hin), wordsFor_eq w (by omega) (by omega)]
  simp only [Option.bind_some]
  by_cases hlen : (l.length : Int) = (w + 63) / 64
  ·rw [if_pos hlen, Int.tmod_eq_emod_of_nonneg (by omega)]
   by_cases hm : w % 64 = 0
   ·rw [if_pos hm, okB_true ⟨hin.1, hin.2, hlen, h, fun i hi => bitN_out (by omega)⟩]
   ·rw [if_neg hm, wrap64_id (x := (l.length : Int) - 1) (by omega) (by omega), if_pos (by omega), if_pos (by omega), if_pos (by omega)]
    congr 1
    have hx := rd_w64 h ((l.length : Int) - 1)
    have hs := shr_w64 hx (n := w % 64) (by omega)
    by_cases hz : shr .u64 (rd l ((l.length : Int) - 1)) (w % 64) = 0
    ·rw [hz]
     refine (okB_true ⟨hin.1, hin.2, hlen, h, fun i hi => ?_⟩).symm
     by_cases ho : i < 64 * l.length
     ·have h2 := hs.2 (i % 64 - (w % 64).toNat)
      rw [hz] at h2
      have e : i / 64 = l.length - 1 := by omega
      unfold bitN
      rw [e, ← show (w % 64).toNat + (i % 64 - (w % 64).toNat) = i % 64 by omega]
      rw [rd_getD, show ((l.length : Int) - 1).toNat = l.length - 1 by omega] at h2
      rw [← h2]; simp
     ·exact bitN_out (by omega)
    ·have e : (shr .u64 (rd l ((l.length : Int) - 1)) (w % 64) == 0) = false := by simpa using hz
     rw [e]
     refine (okB_false fun hr => hz ?_).symm
     have h0 : (shr .u64 (rd l ((l.length : Int) - 1)) (w % 64)).toNat = 0 := by
      apply testBit_ext (by have := hs.1; unfold W64 at this; omega) (by decide)
      intro j hj
      rw [hs.2]
      by_cases hb : (w % 64).toNat + j < 64
      ·have := hr.top (64 * (l.length - 1) + ((w % 64).toNat + j)) (by omega)
       unfold bitN at this
       rw [show (64 * (l.length - 1) + ((w % 64).toNat + j)) / 64 = l.length - 1 by omega, show (64 * (l.length - 1) + ((w % 64).toNat + j)) % 64 = (w % 64).toNat + j by omega] at this
       rw [rd_getD, show ((l.length : Int) - 1).toNat = l.length - 1 by omega, this]; simp
      ·rw [testBit_w64 hx (by omega)]; simp
     have := hs.1.1
     omega
  ·rw [if_neg hlen, okB_false fun hr => hlen hr.len]
 ·rw [if_neg (by simpa using hin), okB_false fun hr => hin ⟨hr.low, hr.high⟩]

/-! packs -/
/-- ws is the row whose bits are z. -/
structure Packs (z : List Int) (ws : List Int) : Prop where
 right : Right (z.length : Int) ws
 bit : ∀ j, j < z.length → bitN ws j = decide (rd z (j : Int) = 1)
theorem Packs.uniq {z ws ws' : List Int} (h : Packs z ws) (k : Packs z ws') : ws = ws' :=
 h.right.ext k.right fun i hi => by rw [h.bit i (by omega), k.bit i (by omega)]
theorem packs_of {w : Int} {z ws : List Int} (hw : w = z.length) (h : Right w ws) (hb : ∀ j, j < z.length → bitN ws j = decide (rd z (j : Int) = 1)) : Packs z ws := by
 subst hw
 exact ⟨h, hb⟩

/-! l1From -/
theorem l1From_ev (z : List Int) (h01 : Bits01 z) (h1 : 1 ≤ z.length) (h2 : z.length ≤ 4096) :
  ∃ ws, Ev (fun k => spec_l1From.f k z) ((z.length : Int), ws, true) ∧ Packs z ws := by
 have ew := fun (_ : True) => words_of (z.length : Int) (by omega) (by omega)
 obtain ⟨ws, hI, hr⟩ := inv_loop z.length (fun i (ws : List Int) => (ws.length : Int) = ((z.length : Int) + 63) / 64 ∧ U64s ws ∧ ∀ j, bitN ws j = (decide (j < i) && decide (rd z (j : Int) = 1)))
  (fun k ws i => spec_l1From.l0 k z i (z.length : Int) ws)
  (fun i hi ws ⟨hl, hu, hb⟩ => by
   have hk : i / 64 < ws.length := by omega
   have hz := rd_01 h01 (i : Int)
   have e3 := fun (_ : True) => wrap_u64_id (x := rd z (i : Int)) (by omega) (by omega)
   have hzw : W64 (rd z (i : Int)) := by unfold W64; omega
   have hs := shl_nat hzw (i % 64)
   have ho := or_w64 (rd_w64 hu ((i / 64 : Nat) : Int)) hs.1
   refine ⟨ws.set (i / 64) (Go.bits .or .u64 (rd ws ((i / 64 : Nat) : Int)) (shl .u64 (rd z (i : Int)) ((i % 64 : Nat) : Int))), ⟨by simpa using hl, hu.set _ ho.1, fun j => ?_⟩, fun r h => Ev.step (fun k => ?_) h⟩
   ·rw [bitN_set hk]
    by_cases hj : j / 64 = i / 64
    ·have e4 : (rd ws ((i / 64 : Nat) : Int)).toNat.testBit (j % 64) = bitN ws j := by unfold bitN; rw [hj]; rfl
     rw [if_pos hj, ho.2, hs.2 _ (by omega), e4, hb, testBit_01 hz]
     by_cases hji : j = i
     ·subst hji
      simp
     ·have e5 : (decide (i % 64 ≤ j % 64) && decide (j % 64 - i % 64 = 0)) = false := by
       by_cases hle : i % 64 ≤ j % 64
       ·rw [decide_eq_false (show ¬ j % 64 - i % 64 = 0 by omega)]; simp
       ·rw [decide_eq_false hle]; simp
      rw [← Bool.and_assoc, e5]
      by_cases hlt : j < i
      ·simp [hlt, show j < i + 1 by omega]
      ·simp [hlt, show ¬ j < i + 1 by omega]
    ·rw [if_neg hj, hb]
     have : j ≠ i := fun e => hj (by rw [e])
     by_cases hji : j < i
     ·simp [hji, show j < i + 1 by omega]
     ·simp [hji, show ¬ j < i + 1 by omega]
   ·simp only [spec_l1From.l0]
    rw [if_pos (by omega), tdiv64 i (by omega), utmod64, e3 trivial, if_pos (by omega), if_pos (by omega), if_pos (by omega), if_pos (by omega), wrap_succ i (by omega), Int.toNat_natCast])
  (List.replicate (((z.length : Int) + 63) / 64).toNat 0) ⟨by simp; omega, U64s.replicate _, fun j => by rw [bitN_replicate]; simp⟩
 obtain ⟨hl, hu, hb⟩ := hI
 have hright : Right (z.length : Int) ws := ⟨by omega, by omega, by omega, hu, fun i hi => by rw [hb]; simp; omega⟩
 refine ⟨ws, ?_, hright, fun j hj => by rw [hb]; simp [hj]⟩
 have := hr ((z.length : Int), ws, true) (Ev.step (f := fun _ => some ((z.length : Int), ws, true)) (fun k => by simp only [spec_l1From.l0]; rw [if_neg (by omega)]) (Ev.now _))
 obtain ⟨K, hK⟩ := this
 refine ⟨K + 1, fun k hk => ?_⟩
 obtain ⟨m, rfl⟩ : ∃ m, k = m + 1 := ⟨k - 1, by omega⟩
 dsimp only
 unfold spec_l1From.f
 rw [if_neg (by omega), decide_eq_false (by omega)]
 simp only [spec_l1From.j0]
 rw [if_neg (by simp), ew trivial, if_pos (by omega), if_pos (by omega)]
 exact hK m (by omega)
theorem l1From_none (z : List Int) (h : z.length < 1 ∨ 4096 < z.length) : Ev (fun k => spec_l1From.f k z) (0, [], false) := by
 refine ⟨1, fun k hk => ?_⟩
 obtain ⟨m, rfl⟩ : ∃ m, k = m + 1 := ⟨k - 1, by omega⟩
 dsimp only
 unfold spec_l1From.f
 by_cases h1 : (z.length : Int) < 1
 ·rw [if_pos h1]; simp [spec_l1From.j0]
 ·rw [if_neg h1, decide_eq_true (by omega)]; simp [spec_l1From.j0]

/-! zeroBits -/
theorem zeroBits_eq (w : Int) (h0 : 0 ≤ w) (h1 : w ≤ 1000000) : impl_zeroBits.f w = some (w, List.replicate ((w + 63) / 64).toNat 0) := by
 unfold impl_zeroBits.f
 rw [wordsFor_eq w h0 (by omega)]
 simp only [Option.bind_some]
 rw [if_pos (by omega), if_pos (by omega)]

/-! implPut -/
theorem put_step (k : Nat) (a0 : Int) (s l2 : List Int) (at_ i n : Nat) (hn : l2.length = n) (hi : i < n) (hq : (at_ + 64 * i) / 64 < s.length) (s1 : s.length ≤ 100000) (s2 : n ≤ 100000) :
  impl_Bits_put.l0 (k + 1) (at_ : Int) l2 (n : Int) (i : Int) a0 s = impl_Bits_put.l0 k (at_ : Int) l2 (n : Int) ((i : Int) + 1) a0 (putW s (at_ + 64 * i) (rd l2 (i : Int))) := by
 have h0 := wrap_at at_ i (by omega) (by omega)
 obtain ⟨t, ht⟩ : ∃ t, t = at_ + 64 * i := ⟨_, rfl⟩
 rw [← ht] at h0 hq ⊢
 have c1 : (i : Int) < (n : Int) := by clear h0; omega
 have c2 : (0 : Int) ≤ (i : Int) := by clear h0; omega
 have c4 : (0 : Int) ≤ ((t / 64 : Nat) : Int) := by clear h0; omega
 have c5 : ((t / 64 : Nat) : Int) < (s.length : Int) := by clear h0; omega
 have c6 : (0 : Int) ≤ ((t % 64 : Nat) : Int) := by clear h0; omega
 have ht9 : t ≤ 1000000000 := by clear h0; omega
 simp only [impl_Bits_put.l0]
 rw [h0, tdiv64 t ht9, tmod64, wrap_succ' (t / 64) (by clear h0; omega), wrap_64, wrap_succ i (by clear h0; omega), hn, if_pos c1, if_pos c2, if_pos c1, if_pos c4, if_pos c5, if_pos c6]
 clear h0
 simp only [Option.bind_some, Int.toNat_natCast]
 unfold putW
 by_cases c1 : t % 64 = 0
 ·rw [if_pos (show ((t % 64 : Nat) : Int) = 0 by omega), if_pos (.inl c1)]
 ·rw [if_neg (show ¬ ((t % 64 : Nat) : Int) = 0 by omega)]
  by_cases c2 : t / 64 + 1 < s.length
  ·rw [if_pos (show ((t / 64 + 1 : Nat) : Int) < (s.length : Int) by omega), if_pos (by omega), if_pos (by omega), if_neg (fun h => h.elim c1 (fun h => h c2))]
  ·rw [if_neg (show ¬ ((t / 64 + 1 : Nat) : Int) < (s.length : Int) by omega), if_pos (.inr c2)]
theorem put_next (o s l2 : List Int) (at_ i : Nat) (hl : s.length = o.length) (hu : U64s s) (h2 : U64s l2) (hf : at_ + 64 * i < 64 * o.length)
  (hb : ∀ j, j < 64 * o.length → bitN s j = (bitN o j || (decide (at_ ≤ j) && decide (j - at_ < 64 * i) && bitN l2 (j - at_)))) (j : Nat) (hj : j < 64 * o.length) :
  bitN (putW s (at_ + 64 * i) (rd l2 (i : Int))) j = (bitN o j || (decide (at_ ≤ j) && decide (j - at_ < 64 * (i + 1)) && bitN l2 (j - at_))) := by
 rw [putW_bit hu _ (rd_w64 h2 _) (by omega) j (by omega), hb j hj, Bool.or_assoc]
 congr 1
 by_cases c1 : at_ + 64 * i ≤ j
 ·by_cases c2 : j < at_ + 64 * i + 64
  ·have hw : bitN l2 (j - at_) = (rd l2 (i : Int)).toNat.testBit (j - (at_ + 64 * i)) := by
    rw [← bitN_word _ _ _ (by omega)]; congr 1; omega
   rw [hw, decide_eq_true c1, decide_eq_true c2, decide_eq_false (show ¬ j - at_ < 64 * i by omega), decide_eq_true (show at_ ≤ j by omega), decide_eq_true (show j - at_ < 64 * (i + 1) by omega)]; simp
  ·rw [decide_eq_false c2, decide_eq_false (show ¬ j - at_ < 64 * i by omega), decide_eq_false (show ¬ j - at_ < 64 * (i + 1) by omega)]; simp
 ·rw [decide_eq_false c1]
  by_cases c3 : at_ ≤ j
  ·rw [decide_eq_true (show j - at_ < 64 * i by omega), decide_eq_true (show j - at_ < 64 * (i + 1) by omega)]; simp
  ·rw [decide_eq_false c3]; simp
theorem put_ev (a0 w2 : Int) (o l2 : List Int) (at_ : Nat) (ho : U64s o) (h2 : U64s l2) (hfit : ∀ i, i < l2.length → at_ + 64 * i < 64 * o.length) (s1 : o.length ≤ 100000) (s2 : l2.length ≤ 100000) :
  ∃ o', Ev (fun k => impl_Bits_put.f k a0 o (at_ : Int) w2 l2) o' ∧ o'.length = o.length ∧ U64s o' ∧ ∀ j, j < 64 * o.length → bitN o' j = (bitN o j || (decide (at_ ≤ j) && bitN l2 (j - at_))) := by
 obtain ⟨o', ⟨hl, hu, hb⟩, hr⟩ := inv_loop l2.length (fun i (s : List Int) => s.length = o.length ∧ U64s s ∧ ∀ j, j < 64 * o.length → bitN s j = (bitN o j || (decide (at_ ≤ j) && decide (j - at_ < 64 * i) && bitN l2 (j - at_))))
  (fun k s i => impl_Bits_put.l0 k (at_ : Int) l2 (l2.length : Int) i a0 s)
  (fun i hi s ⟨hl, hu, hb⟩ => ⟨putW s (at_ + 64 * i) (rd l2 (i : Int)), ⟨by rw [putW_len, hl], putW_u64 hu _ (rd_w64 h2 _) (by have := hfit i hi; omega), put_next o s l2 at_ i hl hu h2 (hfit i hi) hb⟩,
   fun r h => Ev.step (fun k => put_step k a0 s l2 at_ i l2.length rfl hi (by have := hfit i hi; omega) (by omega) s2) h⟩)
  o ⟨rfl, ho, fun j hj => by simp⟩
 refine ⟨o', ?_, hl, hu, fun j hj => ?_⟩
 ·have := hr o' (Ev.step (f := fun _ => some o') (fun k => by simp only [impl_Bits_put.l0]; rw [if_neg (by omega)]) (Ev.now _))
  exact Ev.congr (fun k => by unfold impl_Bits_put.f; rfl) this
 ·rw [hb j hj]
  by_cases c : j - at_ < 64 * l2.length
  ·rw [decide_eq_true c]; simp
  ·rw [bitN_out (l := l2) (i := j - at_) (by omega)]; simp

/-! implCut -/
theorem cut_step (k : Nat) (low wd n i : Nat) (w : Int) (l s : List Int) (hn : s.length = n) (hi : i < n) (hq : (low + 64 * i) / 64 < l.length) (s1 : l.length ≤ 64) (s2 : n ≤ 64) :
  impl_Bits_cut.l0 (k + 1) (low : Int) (wd : Int) (n : Int) (i : Int) w l (wd : Int) s = impl_Bits_cut.l0 k (low : Int) (wd : Int) (n : Int) ((i : Int) + 1) w l (wd : Int) (s.set i (wordAt l (low + 64 * i))) := by
 have h0 := wrap_at low i (by omega) (by omega)
 obtain ⟨t, ht⟩ : ∃ t, t = low + 64 * i := ⟨_, rfl⟩
 rw [← ht] at h0 hq ⊢
 have c1 : (i : Int) < (n : Int) := by clear h0; omega
 have c2 : (0 : Int) ≤ (i : Int) := by clear h0; omega
 have c3 : (i : Int) < (s.length : Int) := by clear h0; omega
 have c4 : (0 : Int) ≤ ((t / 64 : Nat) : Int) := by clear h0; omega
 have c5 : ((t / 64 : Nat) : Int) < (l.length : Int) := by clear h0; omega
 have c6 : (0 : Int) ≤ ((t % 64 : Nat) : Int) := by clear h0; omega
 have ht9 : t ≤ 1000000000 := by clear h0; omega
 simp only [impl_Bits_cut.l0]
 rw [h0, tdiv64 t ht9, tmod64, wrap_succ' (t / 64) (by clear h0; omega), wrap_64, wrap_succ i (by clear h0; omega), if_pos c1, if_pos c4, if_pos c5, if_pos c6, if_pos c2, if_pos c3]
 clear h0
 simp only [Option.bind_some, Int.toNat_natCast]
 unfold wordAt
 by_cases c1 : t % 64 = 0
 ·rw [if_pos (show ((t % 64 : Nat) : Int) = 0 by omega), if_pos (.inl c1)]
 ·rw [if_neg (show ¬ ((t % 64 : Nat) : Int) = 0 by omega)]
  by_cases c2 : t / 64 + 1 < l.length
  ·rw [if_pos (show ((t / 64 + 1 : Nat) : Int) < (l.length : Int) by omega), if_pos (by omega), if_pos (by omega), if_neg (fun h => h.elim c1 (fun h => h c2))]
   congr 1
   rw [rd_getD _ (i : Int), Int.toNat_natCast, List.getD_eq_getElem?_getD, List.getElem?_set_self (by omega), Option.getD_some, List.set_set]
  ·rw [if_neg (show ¬ ((t / 64 + 1 : Nat) : Int) < (l.length : Int) by omega), if_pos (.inr c2)]
theorem cut_mask (ws : List Int) (hu : U64s ws) (n wd : Nat) (hl : ws.length = n) (h0 : 0 < n) (hm : wd % 64 ≠ 0) (hw : wd / 64 = n - 1) :
  IntKind.u64.wrap (shl .u64 1 ((wd % 64 : Nat) : Int) - 1) = ((2 ^ (wd % 64) - 1 : Nat) : Int) ∧
  U64s (ws.set (n - 1) (Go.bits .and .u64 (rd ws ((n - 1 : Nat) : Int)) ((2 ^ (wd % 64) - 1 : Nat) : Int))) ∧
  ∀ j, bitN (ws.set (n - 1) (Go.bits .and .u64 (rd ws ((n - 1 : Nat) : Int)) ((2 ^ (wd % 64) - 1 : Nat) : Int))) j = (decide (j < wd) && bitN ws j) := by
 have hx := rd_w64 hu ((n - 1 : Nat) : Int)
 have hp : 2 ^ (wd % 64) ≤ 2 ^ 63 := Nat.pow_le_pow_right (by decide) (by omega)
 have hp1 : 1 ≤ 2 ^ (wd % 64) := Nat.one_le_two_pow
 obtain ⟨P, hP⟩ : ∃ P, P = 2 ^ (wd % 64) := ⟨_, rfl⟩
 have hmw : W64 ((2 ^ (wd % 64) - 1 : Nat) : Int) := by
  rw [← hP] at hp hp1 ⊢
  unfold W64; omega
 have ha := and_w64 hx hmw
 refine ⟨?_, hu.set _ ha.1, fun j => ?_⟩
 ·have e := shl_u64 1 ((wd % 64 : Nat) : Int) (by omega) (by omega)
  rw [show (1 : Int) = ((1 : Nat) : Int) from rfl, e, Int.toNat_natCast, Nat.shiftLeft_eq, Nat.one_mul, ← hP]
  rw [← hP] at hp hp1
  rw [Nat.mod_eq_of_lt (by omega), wrap_u64_id (by omega) (by omega)]
  omega
 ·rw [bitN_set (by omega)]
  by_cases hj : j / 64 = n - 1
  ·rw [if_pos hj, ha.2, Int.toNat_natCast, Nat.testBit_two_pow_sub_one]
   have e5 : (rd ws ((n - 1 : Nat) : Int)).toNat.testBit (j % 64) = bitN ws j := by rw [bitN_div, hj]
   rw [e5, Bool.and_comm]
   congr 1
   exact decide_eq_decide.2 ⟨fun h => by omega, fun h => by omega⟩
  ·rw [if_neg hj]
   by_cases c : j < 64 * n
   ·rw [decide_eq_true (show j < wd by omega)]; simp
   ·rw [bitN_out (by omega)]; simp
theorem cut_ev (w : Int) (l : List Int) (low width : Int) (h : Right w l) (h0 : 0 ≤ low) (h1 : 1 ≤ width) (hw : low + width ≤ w) :
  ∃ ws, Ev (fun k => impl_Bits_cut.f k w l low width) (width, ws) ∧ Right width ws ∧ ∀ j : Nat, (j : Int) < width → bitN ws j = bitN l (low.toNat + j) := by
 obtain ⟨low, rfl⟩ := Int.eq_ofNat_of_zero_le h0
 obtain ⟨wd, rfl⟩ := Int.eq_ofNat_of_zero_le (show 0 ≤ width by omega)
 have hlen := h.len
 have hhi := h.high
 obtain ⟨n, hnn⟩ : ∃ n : Nat, n = (((wd : Int) + 63) / 64).toNat := ⟨_, rfl⟩
 have hn2 : wd ≤ 64 * n := by omega
 have hn3 : 64 * n ≤ wd + 63 := by omega
 have hn64 : n ≤ 64 := by omega
 have hll : l.length ≤ 64 := by omega
 have hq : ∀ i, i < n → (low + 64 * i) / 64 < l.length := fun i hi => by omega
 obtain ⟨ws, ⟨hl, hu, hb⟩, hr⟩ := inv_loop n (fun i (s : List Int) => s.length = n ∧ U64s s ∧ ∀ j, bitN s j = (decide (j < 64 * i) && bitN l (low + j)))
  (fun k s i => impl_Bits_cut.l0 k (low : Int) (wd : Int) (n : Int) i w l (wd : Int) s)
  (fun i hi s ⟨hl, hu, hb⟩ => by
   have hw := wordAt_told h.words (low + 64 * i)
   refine ⟨s.set i (wordAt l (low + 64 * i)), ⟨by simpa using hl, hu.set _ hw.1, fun j => ?_⟩, fun r h => Ev.step (fun k => cut_step k low wd n i w l s hl hi (hq i hi) hll hn64) h⟩
   clear hq hnn hlen
   rw [bitN_set (by omega)]
   by_cases hj : j / 64 = i
   ·rw [if_pos hj, hw.2 _ (Nat.mod_lt _ (by decide)), decide_eq_true (show j < 64 * (i + 1) by omega), show low + 64 * i + j % 64 = low + j by omega]; simp
   ·rw [if_neg hj, hb]
    congr 1
    exact decide_eq_decide.2 ⟨fun h => by omega, fun h => by omega⟩)
  (List.replicate n 0) ⟨by simp, U64s.replicate _, fun j => by rw [bitN_replicate]; simp⟩
 have glue : ∀ r, Ev (fun k => impl_Bits_cut.l0 k (low : Int) (wd : Int) (n : Int) (n : Int) w l (wd : Int) ws) r → Ev (fun k => impl_Bits_cut.f k w l (low : Int) (wd : Int)) r := by
  intro r hend
  refine Ev.congr (fun k => ?_) (hr r hend)
  unfold impl_Bits_cut.f
  rw [zeroBits_eq (wd : Int) (by omega) (by omega)]
  simp only [Option.bind_some]
  rw [← hnn, List.length_replicate]
 clear hr
 by_cases hm : wd % 64 = 0
 ·refine ⟨ws, glue _ (Ev.step (f := fun _ => some ((wd : Int), ws)) (fun k => ?_) (Ev.now _)), ⟨by omega, by omega, by omega, hu, fun j hj => bitN_out (by omega)⟩, fun j hj => ?_⟩
  ·simp only [impl_Bits_cut.l0]
   rw [if_neg (by omega), tmod64, if_pos (by omega)]
  ·rw [hb, Int.toNat_natCast, decide_eq_true (show j < 64 * n by omega)]; simp
 ·obtain ⟨hmask, hus, hbit⟩ := cut_mask ws hu n wd hl (by omega) hm (by omega)
  refine ⟨_, glue _ (Ev.step (f := fun _ => some ((wd : Int), ws.set (n - 1) (Go.bits .and .u64 (rd ws ((n - 1 : Nat) : Int)) ((2 ^ (wd % 64) - 1 : Nat) : Int)))) (fun k => ?_) (Ev.now _)),
   ⟨by clear hmask; omega, by clear hmask; omega, by clear hmask; simp; omega, hus, fun j hj => ?_⟩, fun j hj => ?_⟩
  ·have c1 : ¬ (n : Int) < (n : Int) := by omega
   have c2 : ¬ ((wd % 64 : Nat) : Int) = 0 := by clear hmask; omega
   have c3 : (0 : Int) ≤ ((n - 1 : Nat) : Int) := by clear hmask; omega
   have c4 : ((n - 1 : Nat) : Int) < (ws.length : Int) := by clear hmask; omega
   have c5 : (0 : Int) ≤ ((wd % 64 : Nat) : Int) := by clear hmask; omega
   have e6 : wrap64 ((ws.length : Int) - 1) = ((n - 1 : Nat) : Int) := by clear hmask; rw [wrap64_id (by omega) (by omega)]; omega
   simp only [impl_Bits_cut.l0]
   rw [if_neg c1, tmod64, if_neg c2, e6, if_pos c3, if_pos c4, if_pos c5, hmask, Int.toNat_natCast]
  ·clear hmask; rw [hbit, decide_eq_false (show ¬ j < wd by omega)]; simp
  ·clear hmask; rw [hbit, hb, Int.toNat_natCast, decide_eq_true (show j < wd by omega), decide_eq_true (show j < 64 * n by omega)]; simp

/-! implOver -/
theorem over_ev (w w2 : Int) (l l2 : List Int) (h : Right w l) (h2 : Right w2 l2) (hs : w + w2 ≤ 4096) :
  ∃ ws, Ev (fun k => impl_Bits_over.f k w l w2 l2) (w + w2, ws) ∧ Right (w + w2) ws ∧ ∀ j : Nat, bitN ws j = if (j : Int) < w2 then bitN l2 j else bitN l (j - w2.toNat) := by
 have a1 := h.low; have a2 := h2.low; have a3 := h.len; have a4 := h2.len
 have hz : ((List.replicate ((w + w2 + 63) / 64).toNat (0 : Int)).length : Int) = (w + w2 + 63) / 64 := by simp; omega
 obtain ⟨o1, e1, n1, u1, b1⟩ := put_ev (w + w2) w2 (List.replicate ((w + w2 + 63) / 64).toNat 0) l2 0 (U64s.replicate _) h2.words (fun i hi => by omega) (by omega) (by omega)
 obtain ⟨o2, e2, n2, u2, b2⟩ := put_ev (w + w2) w o1 l w2.toNat u1 h.words (fun i hi => by omega) (by omega) (by omega)
 have hb : ∀ j : Nat, j < 64 * o2.length → bitN o2 j = if (j : Int) < w2 then bitN l2 j else bitN l (j - w2.toNat) := by
  intro j hj
  rw [b2 j (by omega), b1 j (by omega), bitN_replicate]
  by_cases c : (j : Int) < w2
  ·simp [c, show ¬ w2.toNat ≤ j by omega]
  ·rw [if_neg c]
   simp [show w2.toNat ≤ j by omega, h2.top j (by omega)]
 have hb' : ∀ j : Nat, bitN o2 j = if (j : Int) < w2 then bitN l2 j else bitN l (j - w2.toNat) := by
  intro j
  by_cases hj : j < 64 * o2.length
  ·exact hb j hj
  ·rw [bitN_out (by omega), if_neg (by omega), h.top _ (by omega)]
 refine ⟨o2, ?_, ⟨by omega, hs, by omega, u2, fun j hj => ?_⟩, hb'⟩
 ·obtain ⟨K1, e1⟩ := e1
  obtain ⟨K2, e2⟩ := e2
  refine ⟨K1 + K2, fun k hk => ?_⟩
  have e1 := e1 k (by omega)
  have e2 := e2 k (by omega)
  dsimp only at e1 e2 ⊢
  rw [show ((w2.toNat : Nat) : Int) = w2 by omega] at e2
  unfold impl_Bits_over.f
  rw [wrap64_id (by omega) (by omega), zeroBits_eq _ (by omega) (by omega)]
  simp only [Option.bind_some]
  rw [show ((0 : Nat) : Int) = 0 from rfl] at e1
  rw [e1]
  simp only [Option.bind_some]
  rw [e2]; rfl
 ·rw [hb', if_neg (by omega), h.top _ (by omega)]

/-! rdq -/
theorem rd_q (z : List Int) (j : Nat) : rd z (j : Int) = (z[j]?).getD 0 := by rw [rd_getD, List.getD_eq_getElem?_getD, Int.toNat_natCast]
theorem bitI_one (l : List Int) (i : Nat) : decide (bitI l i = 1) = bitN l i := by unfold bitI; cases bitN l i <;> simp
theorem Bits01.append {a b : List Int} (ha : Bits01 a) (hb : Bits01 b) : Bits01 (a ++ b) := fun x hx => (List.mem_append.1 hx).elim (ha x) (hb x)
theorem Bits01.sub {a b : List Int} (ha : Bits01 a) (h : ∀ x ∈ b, x ∈ a) : Bits01 b := fun x hx => ha x (h x hx)
/-- What a call that tells bits is asked: both tell the same. -/
def Agree (f g : Nat → Option (Int × List Int × Bool)) : Prop := ∃ w ws ok, ws.length ≤ 1048576 ∧ Ev f (w, ws, ok) ∧ Ev g (w, ws, ok)

/-! memD -/
theorem rdD (l : List S64) (i : Nat) (h : i < l.length) : rd_T64 l (i : Int) = l[i] := by
 unfold rd_T64
 rw [List.getD_eq_getElem?_getD, Int.toNat_natCast, List.getElem?_eq_getElem h]; rfl
theorem rdD_mem (l : List S64) (i : Nat) (h : i < l.length) : rd_T64 l (i : Int) ∈ l := by rw [rdD l i h]; exact List.getElem_mem h

/-! names -/
theorem names_agree (s : ByteArray) (hs : s.size ≤ 1048576) : ∃ b, Ev (fun k => spec_l1Name.f k s) b ∧ Ev (fun k => impl_nameOk.f k s) b := by
 have digit : ∀ c, spec_l1Digit.f c = some (decide (48 ≤ c ∧ c ≤ 57)) := fun c => by
  unfold spec_l1Digit.f
  by_cases h : 48 ≤ c
  ·rw [if_pos h]; simp [h]
  ·rw [if_neg h]; simp [h]
 have main : ∀ d i, s.size - i = d → i ≤ s.size → ∃ b, Ev (fun k => spec_l1Name.l0 k s (i : Int)) b ∧ Ev (fun k => impl_nameOk.l0 k s (i : Int)) b := by
  intro d
  induction d with
  | zero =>
   intro i hd hi
   refine ⟨true, Ev.step (f := fun _ => some true) (fun k => ?_) (Ev.now _), Ev.step (f := fun _ => some true) (fun k => ?_) (Ev.now _)⟩
   ·simp only [spec_l1Name.l0]; rw [if_neg (by omega)]
   ·simp only [impl_nameOk.l0]; rw [if_neg (by omega)]
  | succ d ih =>
   intro i hd hi
   obtain ⟨b, h1, h2⟩ := ih (i + 1) (by omega) (by omega)
   have hw : True → wrap64 ((i : Int) + 1) = ((i + 1 : Nat) : Int) := fun _ => wrap_succ' i (by omega)
   have p1 : (i : Int) < (s.size : Int) := by omega
   have p2 : (0 : Int) ≤ (i : Int) := by omega
   by_cases cd : 48 ≤ bt s (i : Int) ∧ bt s (i : Int) ≤ 57
   ·refine ⟨b, Ev.step (fun k => ?_) h1, Ev.step (fun k => ?_) h2⟩
    ·simp only [spec_l1Name.l0]
     rw [hw trivial, if_pos p1, if_pos p2, digit, decide_eq_true cd]
     simp only [Option.bind_some, if_true]
    ·simp only [impl_nameOk.l0]
     rw [hw trivial, if_pos p1, if_pos p2, if_pos (by omega), if_neg (by omega), if_neg (by omega)]
   ·by_cases ca : bt s (i : Int) < 97
    ·refine ⟨false, Ev.step (f := fun _ => some false) (fun k => ?_) (Ev.now _), Ev.step (f := fun _ => some false) (fun k => ?_) (Ev.now _)⟩
     ·simp only [spec_l1Name.l0]
      rw [if_pos p1, if_pos p2, digit, decide_eq_false cd]
      simp only [Option.bind_some]
      rw [if_neg (by decide), if_pos ca]
     ·simp only [impl_nameOk.l0]
      rw [if_pos p1, if_pos p2, if_pos ca]
      by_cases c48 : bt s (i : Int) < 48
      ·rw [if_pos c48]
      ·rw [if_neg c48, if_pos (by omega)]
    ·by_cases cz : bt s (i : Int) > 122
     ·refine ⟨false, Ev.step (f := fun _ => some false) (fun k => ?_) (Ev.now _), Ev.step (f := fun _ => some false) (fun k => ?_) (Ev.now _)⟩
      ·simp only [spec_l1Name.l0]
       rw [if_pos p1, if_pos p2, digit, decide_eq_false cd]
       simp only [Option.bind_some]
       rw [if_neg (by decide), if_neg ca, if_pos cz]
      ·simp only [impl_nameOk.l0]
       rw [if_pos p1, if_pos p2, if_neg ca, if_pos cz, if_neg (by omega), if_pos (by omega)]
     ·refine ⟨b, Ev.step (fun k => ?_) h1, Ev.step (fun k => ?_) h2⟩
      ·simp only [spec_l1Name.l0]
       rw [hw trivial, if_pos p1, if_pos p2, digit, decide_eq_false cd]
       simp only [Option.bind_some]
       rw [if_neg (by decide), if_neg ca, if_neg cz]
      ·simp only [impl_nameOk.l0]
       rw [hw trivial, if_pos p1, if_pos p2, if_neg ca, if_neg cz]
 have yes1 : Ev (fun k => spec_l1Name.j0 k s true) false := Ev.step (f := fun _ => some false) (fun k => by simp only [spec_l1Name.j0, if_true]) (Ev.now _)
 have yes2 : Ev (fun k => impl_nameOk.j0 k s true) false := Ev.step (f := fun _ => some false) (fun k => by simp only [impl_nameOk.j0, if_true]) (Ev.now _)
 by_cases c1 : (s.size : Int) < 1
 ·exact ⟨false, Ev.congr (fun k => by unfold spec_l1Name.f; rw [if_pos c1]) yes1, Ev.congr (fun k => by unfold impl_nameOk.f; rw [if_pos c1]) yes2⟩
 ·by_cases c2 : (s.size : Int) > 12
  ·exact ⟨false, Ev.congr (fun k => by unfold spec_l1Name.f; rw [if_neg c1, if_pos c2]) yes1, Ev.congr (fun k => by unfold impl_nameOk.f; rw [if_neg c1, if_pos c2]) yes2⟩
  ·obtain ⟨b, h1, h2⟩ := main s.size 0 (by omega) (by omega)
   have p0 : (0 : Int) < (s.size : Int) := by omega
   have go1 : ∀ z, z = false → Ev (fun k => spec_l1Name.j0 k s z) b := fun z hz => Ev.step (fun k => by subst hz; simp only [spec_l1Name.j0]; rw [if_neg (by decide)]; rfl) h1
   have go2 : ∀ z, z = false → Ev (fun k => impl_nameOk.j0 k s z) b := fun z hz => Ev.step (fun k => by subst hz; simp only [impl_nameOk.j0]; rw [if_neg (by decide)]; rfl) h2
   by_cases cd : 48 ≤ bt s 0 ∧ bt s 0 ≤ 57
   ·refine ⟨false, Ev.congr (fun k => ?_) yes1, Ev.congr (fun k => ?_) yes2⟩
    ·unfold spec_l1Name.f; rw [if_neg c1, if_neg c2, if_pos p0, digit, decide_eq_true cd]; rfl
    ·unfold impl_nameOk.f; rw [if_neg c1, if_neg c2, if_pos p0, if_pos (by omega)]
   ·have e1 : ∀ k, spec_l1Name.f k s = spec_l1Name.j0 k s false := fun k => by unfold spec_l1Name.f; rw [if_neg c1, if_neg c2, if_pos p0, digit, decide_eq_false cd]; rfl
    by_cases ca : bt s 0 < 97
    ·-- the loop's first round says no
     obtain ⟨d, hd⟩ : ∃ d, d = s.size := ⟨_, rfl⟩
     refine ⟨false, Ev.congr e1 (Ev.step (fun k => by simp only [spec_l1Name.j0]; rw [if_neg (by decide)]) (Ev.step (g := fun k => spec_l1Name.l0 k s 0) (f := fun _ => some false) (fun k => ?_) (Ev.now _))), Ev.congr (fun k => ?_) yes2⟩
     ·simp only [spec_l1Name.l0]
      rw [if_pos p0, if_pos (by decide), digit, decide_eq_false cd]
      simp only [Option.bind_some]
      rw [if_neg (by decide), if_pos ca]
     ·unfold impl_nameOk.f; rw [if_neg c1, if_neg c2, if_pos p0, if_pos ca]
    ·by_cases cz : bt s 0 > 122
     ·refine ⟨false, Ev.congr e1 (Ev.step (fun k => by simp only [spec_l1Name.j0]; rw [if_neg (by decide)]) (Ev.step (g := fun k => spec_l1Name.l0 k s 0) (f := fun _ => some false) (fun k => ?_) (Ev.now _))), Ev.congr (fun k => ?_) yes2⟩
      ·simp only [spec_l1Name.l0]
       rw [if_pos p0, if_pos (by decide), digit, decide_eq_false cd]
       simp only [Option.bind_some]
       rw [if_neg (by decide), if_neg ca, if_pos cz]
      ·unfold impl_nameOk.f; rw [if_neg c1, if_neg c2, if_pos p0, if_neg ca, decide_eq_true cz]
     ·refine ⟨b, Ev.congr e1 (go1 _ rfl), Ev.congr (fun k => ?_) (go2 _ (decide_eq_false cz))⟩
      unfold impl_nameOk.f; rw [if_neg c1, if_neg c2, if_pos p0, if_neg ca]

/-! idxD -/
theorem idxD_none (nm : ByteArray) : ∀ (l : List S64) (i : Int), (∀ x ∈ l, x.f0.toList ≠ nm.toList) → idxD nm l i = -1
 | [], i, _ => rfl
 | x :: xs, i, h => by
  simp only [idxD]
  rw [if_neg (by have := h x (by simp); simpa using this)]
  exact idxD_none nm xs (i + 1) fun y hy => h y (by simp [hy])
theorem idxD_some (nm : ByteArray) : ∀ (l : List S64) (i : Int), 0 ≤ i → (∃ x ∈ l, x.f0.toList = nm.toList) → 0 ≤ idxD nm l i
 | [], i, _, h => by obtain ⟨x, hx, _⟩ := h; cases hx
 | x :: xs, i, hi, h => by
  simp only [idxD]
  by_cases c : (x.f0.toList == nm.toList) = true
  ·rw [if_pos c]; exact hi
  ·rw [if_neg c]
   obtain ⟨y, hy, he⟩ := h
   rcases List.mem_cons.1 hy with rfl | hy
   ·exact absurd (by simpa using he) c
   ·exact idxD_some nm xs (i + 1) (by omega) ⟨y, hy, he⟩

/-! declsOk -/
def sumD : List S64 → Int
 | [] => 0
 | x :: xs => x.f1 + sumD xs
/-- What right decls are good for. -/
structure GoodDecls (l : List S64) : Prop where
 len : l.length ≤ 60
 width : ∀ x ∈ l, 1 ≤ x.f1 ∧ x.f1 ≤ 4096
 total : sumD l ≤ 20000
theorem decls_loops (l : List S64) (hl : l.length ≤ 60) (hx : ∀ x ∈ l, x.f0.size ≤ 1048576) :
  ∀ d i, l.length - i = d → i ≤ l.length → ∀ s : Int, 0 ≤ s → s ≤ 4096 * i → ∃ b, Ev (fun k => spec_DeclsOk.l0 k l s (i : Int)) b ∧ Ev (fun k => impl_DeclsOk.l0 k l s l (l.length : Int) (i : Int)) b ∧
   (b = true → (∀ x ∈ l.drop i, 1 ≤ x.f1 ∧ x.f1 ≤ 4096) ∧ s + sumD (l.drop i) ≤ 20000) := by
 intro d
 induction d with
 | zero =>
  intro i hd hi s g0 g1
  refine ⟨decide (s ≤ 20000), Ev.step (f := fun _ => some (decide (s ≤ 20000))) (fun k => ?_) (Ev.now _), Ev.step (f := fun _ => some (decide (s ≤ 20000))) (fun k => ?_) (Ev.now _), fun hb => ?_⟩
  ·simp only [spec_DeclsOk.l0]; rw [if_neg (by omega)]
  ·simp only [impl_DeclsOk.l0]; rw [if_neg (by omega)]
  ·have e : l.drop i = [] := List.drop_eq_nil_of_le (by omega)
   rw [e]
   refine ⟨(fun x hx => by cases hx), ?_⟩
   have := of_decide_eq_true hb
   show s + 0 ≤ 20000
   omega
 | succ d ih =>
  intro i hd hi s g0 g1
  have hil : i < l.length := by omega
  obtain ⟨x, hxx⟩ : ∃ x, x = rd_T64 l (i : Int) := ⟨_, rfl⟩
  have hxm : x ∈ l := by rw [hxx]; exact rdD_mem l i hil
  have hdrop : l.drop i = x :: l.drop (i + 1) := by rw [List.drop_eq_getElem_cons hil, hxx, rdD l i hil]
  obtain ⟨bn, ⟨K1, h1⟩, ⟨K2, h2⟩⟩ := names_agree x.f0 (hx x hxm)
  have q1 : (i : Int) < (l.length : Int) := by omega
  have q2 : (0 : Int) ≤ (i : Int) := by omega
  have q3 : (i : Int) ≤ (l.length : Int) := by omega
  have no : ∀ (P : Prop), ((false : Bool) = true → P) := fun P h => by cases h
  have specNo : ∀ m, spec_DeclsOk.j1 (m + 1) l s (i : Int) true = some false := fun m => by simp only [spec_DeclsOk.j1, if_true]
  cases bn with
  | false =>
   refine ⟨false, ⟨K1 + 2, fun k hk => ?_⟩, ⟨K2 + 1, fun k hk => ?_⟩, no _⟩
   ·obtain ⟨m, rfl⟩ : ∃ m, k = m + 1 + 1 := ⟨k - 2, by omega⟩
    have h1 := h1 (m + 1) (by omega)
    dsimp only at h1 ⊢
    simp only [spec_DeclsOk.l0]
    rw [← hxx, if_pos q1, if_pos q2, h1]
    simp only [Option.bind_some]
    rw [if_neg (by decide)]
    exact specNo m
   ·obtain ⟨m, rfl⟩ : ∃ m, k = m + 1 := ⟨k - 1, by omega⟩
    have h2 := h2 m (by omega)
    dsimp only at h2 ⊢
    simp only [impl_DeclsOk.l0]
    rw [← hxx, if_pos q1, if_pos q2, if_pos q1, h2]
    simp only [Option.bind_some]
    rw [if_neg (by decide)]
  | true =>
   by_cases cw : 1 ≤ x.f1 ∧ x.f1 ≤ 4096
   ·by_cases cd : ∃ y ∈ l.take i, y.f0.toList = x.f0.toList
    ·have hidx := idxD_some x.f0 (l.take i) 0 (by decide) cd
     -- the reference's inner loop finds it
     have inner : Ev (fun k => spec_DeclsOk.l1 k l s (i : Int) 0) false := by
      obtain ⟨y, hy, he⟩ := cd
      obtain ⟨j0, hj0, hyj⟩ := List.getElem_of_mem hy
      rw [List.length_take] at hj0
      rw [List.getElem_take] at hyj
      have heq : (rd_T64 l (j0 : Int)).f0.toList = x.f0.toList := by rw [rdD l j0 (by omega), hyj]; exact he
      have go : ∀ d j, j0 - j = d → j ≤ j0 → Ev (fun k => spec_DeclsOk.l1 k l s (i : Int) (j : Int)) false := by
       intro d
       induction d with
       | zero =>
        intro j hd hj
        have e : j = j0 := by omega
        subst e
        refine Ev.step (f := fun _ => some false) (fun k => ?_) (Ev.now _)
        simp only [spec_DeclsOk.l1]
        rw [← hxx, if_pos (by omega), if_pos (by omega), if_pos (by omega), if_pos q2, if_pos q1, if_pos heq]
       | succ d ih2 =>
        intro j hd hj
        by_cases e : (rd_T64 l (j : Int)).f0.toList = x.f0.toList
        ·refine Ev.step (f := fun _ => some false) (fun k => ?_) (Ev.now _)
         simp only [spec_DeclsOk.l1]
         rw [← hxx, if_pos (by omega), if_pos (by omega), if_pos (by omega), if_pos q2, if_pos q1, if_pos e]
        ·refine Ev.step (fun k => ?_) (ih2 (j + 1) (by omega) (by omega))
         simp only [spec_DeclsOk.l1]
         rw [← hxx, if_pos (by omega), if_pos (by omega), if_pos (by omega), if_pos q2, if_pos q1, if_neg e, wrap_succ' j (by omega)]
      exact go j0 0 (by omega) (by omega)
     obtain ⟨K3, h3⟩ := inner
     refine ⟨false, ⟨K1 + K3 + 2, fun k hk => ?_⟩, ⟨K2 + 1, fun k hk => ?_⟩, no _⟩
     ·obtain ⟨m, rfl⟩ : ∃ m, k = m + 1 + 1 := ⟨k - 2, by omega⟩
      have h1 := h1 (m + 1) (by omega)
      have h3 := h3 m (by omega)
      dsimp only at h1 h3 ⊢
      simp only [spec_DeclsOk.l0]
      rw [← hxx, if_pos q1, if_pos q2, h1]
      simp only [Option.bind_some, if_true]
      rw [l1In_eq, decide_eq_true cw]
      simp only [Option.bind_some, Bool.not_true, spec_DeclsOk.j1]
      rw [if_neg (by decide)]
      exact h3
     ·obtain ⟨m, rfl⟩ : ∃ m, k = m + 1 := ⟨k - 1, by omega⟩
      have h2 := h2 m (by omega)
      dsimp only at h2 ⊢
      simp only [impl_DeclsOk.l0, impl_declared.f]
      rw [← hxx, if_pos q1, if_pos q2, if_pos q1, h2]
      simp only [Option.bind_some, if_true]
      rw [inside_eq, decide_eq_true cw]
      simp only [Option.bind_some, if_true]
      rw [if_pos q3, Int.toNat_natCast, if_pos hidx]
    ·have hidx := idxD_none x.f0 (l.take i) 0 (fun y hy he => cd ⟨y, hy, he⟩)
     obtain ⟨b, hs, hi2, hb⟩ := ih (i + 1) (by omega) (by omega) (s + x.f1) (by omega) (by omega)
     have hws : True → wrap64 (s + x.f1) = s + x.f1 := fun _ => wrap64_id (by omega) (by omega)
     have hwi : True → wrap64 ((i : Int) + 1) = ((i + 1 : Nat) : Int) := fun _ => wrap_succ' i (by omega)
     have inner : Ev (fun k => spec_DeclsOk.l1 k l s (i : Int) 0) b := by
      refine up_loop i (fun _ => ()) (fun k _ j => spec_DeclsOk.l1 k l s (i : Int) j) (fun j hj r h => Ev.step (fun k => ?_) h) b (Ev.step (fun k => ?_) hs)
      ·have hne : ¬ (rd_T64 l (j : Int)).f0.toList = x.f0.toList := fun he => cd ⟨rd_T64 l (j : Int), by rw [rdD l j (by omega)]; exact List.mem_take_iff_getElem.2 ⟨j, by omega, rfl⟩, he⟩
       simp only [spec_DeclsOk.l1]
       rw [← hxx, if_pos (by omega), if_pos (by omega), if_pos (by omega), if_pos q2, if_pos q1, if_neg hne, wrap64_id (by omega) (by omega)]
      ·simp only [spec_DeclsOk.l1]
       rw [← hxx, hws trivial, hwi trivial, if_neg (by omega), if_pos q2, if_pos q1]
     obtain ⟨K3, h3⟩ := inner
     obtain ⟨K4, h4⟩ := hi2
     refine ⟨b, ⟨K1 + K3 + 2, fun k hk => ?_⟩, ⟨K2 + K4 + 1, fun k hk => ?_⟩, fun hbt => ?_⟩
     ·obtain ⟨m, rfl⟩ : ∃ m, k = m + 1 + 1 := ⟨k - 2, by omega⟩
      have h1 := h1 (m + 1) (by omega)
      have h3 := h3 m (by omega)
      dsimp only at h1 h3 ⊢
      simp only [spec_DeclsOk.l0]
      rw [← hxx, if_pos q1, if_pos q2, h1]
      simp only [Option.bind_some, if_true]
      rw [l1In_eq, decide_eq_true cw]
      simp only [Option.bind_some, Bool.not_true, spec_DeclsOk.j1]
      rw [if_neg (by decide)]
      exact h3
     ·obtain ⟨m, rfl⟩ : ∃ m, k = m + 1 := ⟨k - 1, by omega⟩
      have h2 := h2 m (by omega)
      have h4 := h4 m (by omega)
      dsimp only at h2 h4 ⊢
      simp only [impl_DeclsOk.l0, impl_declared.f]
      rw [← hxx, if_pos q1, if_pos q2, if_pos q1, h2]
      simp only [Option.bind_some, if_true]
      rw [inside_eq, decide_eq_true cw]
      simp only [Option.bind_some, if_true]
      rw [if_pos q3, Int.toNat_natCast, hidx, if_neg (by decide), hws trivial, hwi trivial]
      exact h4
     ·obtain ⟨t1, t2⟩ := hb hbt
      rw [hdrop]
      refine ⟨fun y hy => ?_, ?_⟩
      ·rcases List.mem_cons.1 hy with rfl | hy
       ·exact cw
       ·exact t1 y hy
      ·show s + (x.f1 + sumD (l.drop (i + 1))) ≤ 20000
       omega
   ·refine ⟨false, ⟨K1 + 2, fun k hk => ?_⟩, ⟨K2 + 1, fun k hk => ?_⟩, no _⟩
    ·obtain ⟨m, rfl⟩ : ∃ m, k = m + 1 + 1 := ⟨k - 2, by omega⟩
     have h1 := h1 (m + 1) (by omega)
     dsimp only at h1 ⊢
     simp only [spec_DeclsOk.l0]
     rw [← hxx, if_pos q1, if_pos q2, h1]
     simp only [Option.bind_some, if_true]
     rw [l1In_eq, decide_eq_false cw]
     simp only [Option.bind_some, Bool.not_false]
     exact specNo m
    ·obtain ⟨m, rfl⟩ : ∃ m, k = m + 1 := ⟨k - 1, by omega⟩
     have h2 := h2 m (by omega)
     dsimp only at h2 ⊢
     simp only [impl_DeclsOk.l0]
     rw [← hxx, if_pos q1, if_pos q2, if_pos q1, h2]
     simp only [Option.bind_some, if_true]
     rw [inside_eq, decide_eq_false cw]
     rfl
theorem declsOk_agree (l : List S64) (hx : ∀ x ∈ l, x.f0.size ≤ 1048576) :
  ∃ b, Ev (fun k => spec_DeclsOk.f k l) b ∧ Ev (fun k => impl_DeclsOk.f k l) b ∧ (b = true → GoodDecls l) := by
 by_cases c : (l.length : Int) > 60
 ·exact ⟨false, Ev.congr (fun k => by unfold spec_DeclsOk.f; rw [if_pos c]) (Ev.now _), Ev.congr (fun k => by unfold impl_DeclsOk.f; rw [if_pos c]) (Ev.now _), fun h => by cases h⟩
 ·obtain ⟨b, h1, h2, h3⟩ := decls_loops l (by omega) hx l.length 0 (by omega) (by omega) 0 (by decide) (by decide)
  refine ⟨b, Ev.congr (fun k => by unfold spec_DeclsOk.f; rw [if_neg c]; rfl) h1, Ev.congr (fun k => by unfold impl_DeclsOk.f; rw [if_neg c]; rfl) h2, fun hb => ?_⟩
  obtain ⟨t1, t2⟩ := h3 hb
  rw [List.drop_zero] at t1 t2
  exact ⟨by omega, t1, by omega⟩

/-! upDecl -/
theorem upDecl {l : List S64} (U : (l.length : Int) ≤ 1048576 ∧ ∀ y ∈ l, UpI_Decl 1048576 y) : ∀ x ∈ l, x.f0.size ≤ 1048576 := fun x hx => by
 have := U.2 x hx
 unfold UpI_Decl at this
 omega

/-! segOk -/
/-- A right segment for decls. -/
def GoodSeg (l : List S64) (v low width vw : Int) (ws : List Int) : Prop :=
 (v = -1 ∧ low = 0 ∧ Right vw ws ∧ vw = width) ∨ (0 ≤ v ∧ v < l.length ∧ vw = 0 ∧ ws.length = 0 ∧ 0 ≤ low ∧ 1 ≤ width ∧ low + width ≤ (rd_T64 l v).f1)
theorem GoodSeg.width {l : List S64} {v low width vw : Int} {ws : List Int} (hg : GoodDecls l) (h : GoodSeg l v low width vw ws) : 1 ≤ width ∧ width ≤ 4096 ∧ 0 ≤ low ∧ low ≤ 4096 := by
 rcases h with ⟨h1, h2, h3, h4⟩ | ⟨h1, h2, h3, h4, h5, h6, h7⟩
 ·have := h3.low; have := h3.high; omega
 ·obtain ⟨n, rfl⟩ := Int.eq_ofNat_of_zero_le h1
  have := hg.width _ (rdD_mem l n (by omega))
  omega
theorem seg_agree (l : List S64) (hg : GoodDecls l) (v low width vw : Int) (ws : List Int) (hw : U64s ws) (hl : ws.length ≤ 1048576) (h0 : -9223372036854775808 ≤ vw) (h1 : vw ≤ 9223372036854775807) :
  (GoodSeg l v low width vw ws ∧ Ev (fun k => spec_l5Seg.f k l v low width vw ws) true ∧ Ev (fun k => impl_segOk.f k l v low width vw ws) true) ∨
  (¬ GoodSeg l v low width vw ws ∧ Ev (fun k => spec_l5Seg.f k l v low width vw ws) false ∧ Ev (fun k => impl_segOk.f k l v low width vw ws) false) := by
 have hi := implBitsOk_eq vw ws hw hl
 obtain ⟨K, hs⟩ := Ev.binds (specBitsOk_ev vw ws hw hl h0 h1)
 have hlen := hg.len
 have implOut : width < 1 ∨ width > 4096 → Ev (fun k => impl_segOk.f k l v low width vw ws) false := fun c => ⟨1, fun k hk => by
  obtain ⟨m, rfl⟩ : ∃ m, k = m + 1 := ⟨k - 1, by omega⟩
  by_cases c1 : width < 1
  ·simp (disch := omega) only [impl_segOk.f, impl_segOk.j0, ↓if_pos, ↓reduceIte]
  ·have c2 : decide (width > 4096) = true := decide_eq_true (by omega)
   simp (disch := omega) only [impl_segOk.f, impl_segOk.j0, ↓if_neg, c2, ↓reduceIte]⟩
 by_cases cv : v = -1
 ·subst cv
  by_cases cl : low = 0
  ·subst cl
   rcases okB_cases vw ws with ⟨e, hr⟩ | ⟨e, hr⟩
   ·by_cases cw : vw = width
    ·subst cw
     left
     have hlo := hr.low
     have hhi := hr.high
     have c2 : decide (vw > 4096) = false := decide_eq_false (by omega)
     refine ⟨.inl ⟨rfl, rfl, hr, rfl⟩, ⟨K, fun k hk => ?_⟩, ⟨1, fun k hk => ?_⟩⟩
     ·simp (disch := omega) only [spec_l5Seg.f, ↓reduceIte, ↓hs, e, beq_self_eq_true]
     ·obtain ⟨m, rfl⟩ : ∃ m, k = m + 1 := ⟨k - 1, by omega⟩
      simp (disch := omega) only [impl_segOk.f, impl_segOk.j0, ↓if_neg, c2, ↓reduceIte, Bool.false_eq_true, hi, e, Option.bind_some, beq_self_eq_true]
    ·right
     have ne : (vw == width) = false := beq_eq_false_iff_ne.2 cw
     refine ⟨fun h => ?_, ⟨K, fun k hk => ?_⟩, ?_⟩
     ·rcases h with ⟨_, _, _, h⟩ | ⟨h, _⟩
      ·exact cw h
      ·omega
     ·simp (disch := omega) only [spec_l5Seg.f, ↓reduceIte, ↓hs, e, ne]
     ·by_cases c : width < 1 ∨ width > 4096
      ·exact implOut c
      ·have c2 : decide (width > 4096) = false := decide_eq_false (by omega)
       refine ⟨1, fun k hk => ?_⟩
       obtain ⟨m, rfl⟩ : ∃ m, k = m + 1 := ⟨k - 1, by omega⟩
       simp (disch := omega) only [impl_segOk.f, impl_segOk.j0, ↓if_neg, c2, ↓reduceIte, Bool.false_eq_true, hi, e, Option.bind_some, ne]
   ·right
    refine ⟨fun h => ?_, ⟨K, fun k hk => ?_⟩, ?_⟩
    ·rcases h with ⟨_, _, h, _⟩ | ⟨h, _⟩
     ·exact hr h
     ·omega
    ·simp (disch := omega) only [spec_l5Seg.f, ↓reduceIte, ↓hs, e, Bool.false_eq_true]
    ·by_cases c : width < 1 ∨ width > 4096
     ·exact implOut c
     ·have c2 : decide (width > 4096) = false := decide_eq_false (by omega)
      refine ⟨1, fun k hk => ?_⟩
      obtain ⟨m, rfl⟩ : ∃ m, k = m + 1 := ⟨k - 1, by omega⟩
      simp (disch := omega) only [impl_segOk.f, impl_segOk.j0, ↓if_neg, c2, ↓reduceIte, Bool.false_eq_true, hi, e, Option.bind_some]
  ·right
   refine ⟨fun h => ?_, ⟨0, fun k hk => ?_⟩, ?_⟩
   ·rcases h with ⟨_, h, _⟩ | ⟨h, _⟩
    ·exact cl h
    ·omega
   ·simp (disch := omega) only [spec_l5Seg.f, ↓reduceIte, if_neg cl]
   ·by_cases c : width < 1 ∨ width > 4096
    ·exact implOut c
    ·have c2 : decide (width > 4096) = false := decide_eq_false (by omega)
     refine ⟨1, fun k hk => ?_⟩
     obtain ⟨m, rfl⟩ : ∃ m, k = m + 1 := ⟨k - 1, by omega⟩
     simp (disch := omega) only [impl_segOk.f, impl_segOk.j0, ↓if_neg, c2, ↓reduceIte, Bool.false_eq_true, if_neg cl]
 ·have hwl : True → wrap64 ((l.length : Int) - 1) = (l.length : Int) - 1 := fun _ => wrap64_id (by omega) (by omega)
  by_cases cin : 0 ≤ v ∧ v ≤ (l.length : Int) - 1
  ·have din := decide_eq_true cin
   obtain ⟨n, rfl⟩ := Int.eq_ofNat_of_zero_le cin.1
   have hwd := hg.width _ (rdD_mem l n (by omega))
   obtain ⟨w, hwe⟩ : ∃ w, w = (rd_T64 l (n : Int)).f1 := ⟨_, rfl⟩
   rw [← hwe] at hwd
   by_cases cb : vw = 0 ∧ (ws.length : Int) = 0
   ·have nb : spec_l3NoBits.f vw ws = some true := by
     unfold spec_l3NoBits.f
     rw [if_pos cb.1, beq_iff_eq.2 cb.2]
    have hw1 : True → wrap64 (w - 1) = w - 1 := fun _ => wrap64_id (by omega) (by omega)
    by_cases cl : 0 ≤ low ∧ low ≤ w - 1
    ·have hw2 : True → wrap64 (w - low) = w - low := fun _ => wrap64_id (by omega) (by omega)
     have dl := decide_eq_true cl
     have specEnd : ∀ b, decide (1 ≤ width ∧ width ≤ w - low) = b → Ev (fun k => spec_l5Seg.f k l (n : Int) low width vw ws) b := fun b hb => ⟨1, fun k hk => by
      obtain ⟨m, rfl⟩ : ∃ m, k = m + 1 := ⟨k - 1, by omega⟩
      simp (disch := first | omega | trivial) only [spec_l5Seg.f, spec_l5Seg.j0, ↓if_neg, ↓if_pos, hwl, l1In_eq, din, Option.bind_some, ↓reduceIte, nb, Bool.not_true, Bool.false_eq_true, ← hwe, hw1, hw2, dl, hb]⟩
     by_cases cw : 1 ≤ width ∧ width ≤ w - low
     ·left
      refine ⟨.inr ⟨by omega, by omega, cb.1, by omega, by omega, by omega, by omega⟩, specEnd true (decide_eq_true cw), ⟨1, fun k hk => ?_⟩⟩
      obtain ⟨m, rfl⟩ : ∃ m, k = m + 1 := ⟨k - 1, by omega⟩
      have c2 : decide (width > 4096) = false := decide_eq_false (by omega)
      have hw3 : True → wrap64 (w - width) = w - width := fun _ => wrap64_id (by omega) (by omega)
      have d3 : decide (low ≤ w - width) = true := decide_eq_true (by omega)
      simp (disch := first | omega | trivial) only [impl_segOk.f, impl_segOk.j0, ↓if_neg, ↓if_pos, c2, ↓reduceIte, Bool.false_eq_true, hwl, inside_eq, din, Option.bind_some, ← hwe, hw3, d3]
     ·right
      refine ⟨fun h => ?_, specEnd false (decide_eq_false cw), ?_⟩
      ·rcases h with ⟨h, _⟩ | ⟨_, _, _, _, _, h6, h7⟩
       ·omega
       ·omega
      ·by_cases c : width < 1 ∨ width > 4096
       ·exact implOut c
       ·refine ⟨1, fun k hk => ?_⟩
        obtain ⟨m, rfl⟩ : ∃ m, k = m + 1 := ⟨k - 1, by omega⟩
        have c2 : decide (width > 4096) = false := decide_eq_false (by omega)
        have hw3 : True → wrap64 (w - width) = w - width := fun _ => wrap64_id (by omega) (by omega)
        have d3 : decide (low ≤ w - width) = false := decide_eq_false (by omega)
        simp (disch := first | omega | trivial) only [impl_segOk.f, impl_segOk.j0, ↓if_neg, ↓if_pos, c2, ↓reduceIte, Bool.false_eq_true, hwl, inside_eq, din, Option.bind_some, ← hwe, hw3, d3]
    ·have dl := decide_eq_false cl
     right
     refine ⟨fun h => ?_, ⟨1, fun k hk => ?_⟩, ?_⟩
     ·rcases h with ⟨h, _⟩ | ⟨_, _, _, _, _, h6, h7⟩
      ·omega
      ·omega
     ·obtain ⟨m, rfl⟩ : ∃ m, k = m + 1 := ⟨k - 1, by omega⟩
      simp (disch := first | omega | trivial) only [spec_l5Seg.f, spec_l5Seg.j0, ↓if_neg, ↓if_pos, hwl, l1In_eq, din, Option.bind_some, ↓reduceIte, nb, Bool.not_true, Bool.false_eq_true, ← hwe, hw1, dl]
     ·by_cases c : width < 1 ∨ width > 4096
      ·exact implOut c
      ·refine ⟨1, fun k hk => ?_⟩
       obtain ⟨m, rfl⟩ : ∃ m, k = m + 1 := ⟨k - 1, by omega⟩
       have c2 : decide (width > 4096) = false := decide_eq_false (by omega)
       by_cases c0 : low ≥ 0
       ·have hw3 : True → wrap64 (w - width) = w - width := fun _ => wrap64_id (by omega) (by omega)
        have d3 : decide (low ≤ w - width) = false := decide_eq_false (by omega)
        simp (disch := first | omega | trivial) only [impl_segOk.f, impl_segOk.j0, ↓if_neg, ↓if_pos, c2, ↓reduceIte, Bool.false_eq_true, hwl, inside_eq, din, Option.bind_some, ← hwe, hw3, d3]
       ·simp (disch := first | omega | trivial) only [impl_segOk.f, impl_segOk.j0, ↓if_neg, ↓if_pos, c2, ↓reduceIte, Bool.false_eq_true, hwl, inside_eq, din, Option.bind_some]
   ·have nb : spec_l3NoBits.f vw ws = some false := by
     unfold spec_l3NoBits.f
     by_cases c0 : vw = 0
     ·rw [if_pos c0, beq_eq_false_iff_ne.2 (fun h => cb ⟨c0, h⟩)]
     ·rw [if_neg c0]
    right
    refine ⟨fun h => ?_, ⟨1, fun k hk => ?_⟩, ?_⟩
    ·rcases h with ⟨h, _⟩ | ⟨_, _, h3, h4, _⟩
     ·omega
     ·exact cb ⟨h3, by omega⟩
    ·obtain ⟨m, rfl⟩ : ∃ m, k = m + 1 := ⟨k - 1, by omega⟩
     simp (disch := first | omega | trivial) only [spec_l5Seg.f, spec_l5Seg.j0, ↓if_neg, ↓if_pos, hwl, l1In_eq, din, Option.bind_some, ↓reduceIte, nb, Bool.not_false]
    ·by_cases c : width < 1 ∨ width > 4096
     ·exact implOut c
     ·refine ⟨1, fun k hk => ?_⟩
      obtain ⟨m, rfl⟩ : ∃ m, k = m + 1 := ⟨k - 1, by omega⟩
      have c2 : decide (width > 4096) = false := decide_eq_false (by omega)
      by_cases c0 : vw = 0
      ·simp (disch := first | omega | trivial) only [impl_segOk.f, impl_segOk.j0, ↓if_neg, ↓if_pos, c2, ↓reduceIte, Bool.false_eq_true, hwl, inside_eq, din, Option.bind_some]
      ·simp (disch := first | omega | trivial) only [impl_segOk.f, impl_segOk.j0, ↓if_neg, ↓if_pos, c2, ↓reduceIte, Bool.false_eq_true, hwl, inside_eq, din, Option.bind_some]
  ·have din := decide_eq_false cin
   right
   refine ⟨fun h => ?_, ⟨1, fun k hk => ?_⟩, ?_⟩
   ·rcases h with ⟨h, _⟩ | ⟨h1, h2, _⟩
    ·omega
    ·omega
   ·obtain ⟨m, rfl⟩ : ∃ m, k = m + 1 := ⟨k - 1, by omega⟩
    simp (disch := first | omega | trivial) only [spec_l5Seg.f, spec_l5Seg.j0, ↓if_neg, hwl, l1In_eq, din, Option.bind_some, ↓reduceIte, Bool.false_eq_true]
   ·by_cases c : width < 1 ∨ width > 4096
    ·exact implOut c
    ·refine ⟨1, fun k hk => ?_⟩
     obtain ⟨m, rfl⟩ : ∃ m, k = m + 1 := ⟨k - 1, by omega⟩
     have c2 : decide (width > 4096) = false := decide_eq_false (by omega)
     simp (disch := first | omega | trivial) only [impl_segOk.f, impl_segOk.j0, ↓if_neg, c2, ↓reduceIte, Bool.false_eq_true, hwl, inside_eq, din, Option.bind_some]

/-! flatGood -/
abbrev SegOf (l : List S64) (s : S67) : Prop := GoodSeg l s.f0 s.f1 s.f2 s.f3.f0 s.f3.f1
/-- A segment and the one above it could be one. -/
def Meet (s t : S67) : Prop := s.f0 = t.f0 ∧ (t.f0 = -1 ∨ t.f1 = s.f1 + s.f2)
def sumW : List S67 → Int
 | [] => 0
 | x :: xs => x.f2 + sumW xs
structure GoodFlat (l : List S64) (f : List S67) : Prop where
 pos : 1 ≤ f.length
 len : f.length ≤ 2000
 seg : ∀ j : Nat, j < f.length → SegOf l (rd_T67 f (j : Int))
 apart : ∀ j : Nat, j + 1 < f.length → ¬ Meet (rd_T67 f (j : Int)) (rd_T67 f ((j + 1 : Nat) : Int))
 sum : sumW f ≤ 4096
theorem flat_loops (l : List S64) (f : List S67) (hg : GoodDecls l) (hf : f.length ≤ 2000) (hx : ∀ y ∈ f, U64s y.f3.f1 ∧ y.f3.f1.length ≤ 1048576 ∧ -9223372036854775808 ≤ y.f3.f0 ∧ y.f3.f0 ≤ 9223372036854775807) :
  ∀ d i, f.length - i = d → i ≤ f.length → (∀ j : Nat, j + 1 = i → SegOf l (rd_T67 f (j : Int))) → ∀ s : Int, 0 ≤ s → s ≤ 4096 * i →
   ∃ b, Ev (fun k => spec_FlatOk.l0 k l f s (i : Int)) b ∧ Ev (fun k => impl_flatOk.l0 k l f s f (f.length : Int) (i : Int)) b ∧
    (b = true → (∀ j : Nat, i ≤ j → j < f.length → SegOf l (rd_T67 f (j : Int)) ∧ ∀ m : Nat, m + 1 = j → ¬ Meet (rd_T67 f (m : Int)) (rd_T67 f (j : Int))) ∧ s + sumW (f.drop i) ≤ 4096) := by
 have no : ∀ (P : Prop), ((false : Bool) = true → P) := fun P h => by cases h
 intro d
 induction d with
 | zero =>
  intro i hd hi hp s s0 s1
  refine ⟨decide (s ≤ 4096), Ev.step (f := fun _ => some (decide (s ≤ 4096))) (fun k => ?_) (Ev.now _), Ev.step (f := fun _ => some (decide (s ≤ 4096))) (fun k => ?_) (Ev.now _), fun hb => ⟨fun j g1 g2 => absurd g1 (by omega), ?_⟩⟩
  ·simp (disch := omega) only [spec_FlatOk.l0, ↓if_neg]
  ·simp (disch := omega) only [impl_flatOk.l0, ↓if_neg]
  ·rw [List.drop_eq_nil_of_le (by omega)]
   have := of_decide_eq_true hb
   show s + 0 ≤ 4096
   omega
 | succ d ih =>
  intro i hd hi hp s s0 s1
  have hil : i < f.length := by omega
  obtain ⟨x, hxe⟩ : ∃ x, x = rd_T67 f (i : Int) := ⟨_, rfl⟩
  have hdrop : f.drop i = x :: f.drop (i + 1) := by rw [List.drop_eq_getElem_cons hil, hxe, rdE_T67 f i hil]
  obtain ⟨u1, u2, u3, u4⟩ := hx x (by rw [hxe]; exact rdM_T67 f i hil)
  rcases seg_agree l hg x.f0 x.f1 x.f2 x.f3.f0 x.f3.f1 u1 u2 u3 u4 with ⟨gs, ev1, ev2⟩ | ⟨gs, ev1, ev2⟩
  ·obtain ⟨K1, h1⟩ := Ev.binds ev1
   obtain ⟨K2, h2⟩ := Ev.binds ev2
   have hwx := GoodSeg.width hg gs
   obtain ⟨b, ⟨K3, h3⟩, ⟨K4, h4⟩, hb⟩ := ih (i + 1) (by omega) (by omega) (fun j hj => by
    obtain rfl : j = i := by omega
    rw [← hxe]; exact gs) (s + x.f2) (by omega) (by omega)
   have hws : True → wrap64 (s + x.f2) = s + x.f2 := fun _ => wrap64_id (by omega) (by omega)
   have hrest : b = true → (∀ m : Nat, m + 1 = i → ¬ Meet (rd_T67 f (m : Int)) x) → (∀ j : Nat, i ≤ j → j < f.length → SegOf l (rd_T67 f (j : Int)) ∧ ∀ m : Nat, m + 1 = j → ¬ Meet (rd_T67 f (m : Int)) (rd_T67 f (j : Int))) ∧ s + sumW (f.drop i) ≤ 4096 := fun hbt hm => by
    obtain ⟨t1, t2⟩ := hb hbt
    refine ⟨fun j g1 g2 => ?_, ?_⟩
    ·by_cases e : j = i
     ·subst e
      rw [← hxe]
      exact ⟨gs, hm⟩
     ·exact t1 j (by omega) g2
    ·rw [hdrop]
     show s + (x.f2 + sumW (f.drop (i + 1))) ≤ 4096
     omega
   by_cases i0 : i = 0
   ·refine ⟨b, ⟨K1 + K3 + 1, fun k hk => ?_⟩, ⟨K2 + K4 + 1, fun k hk => ?_⟩, fun hbt => hrest hbt (fun m hm => absurd hm (by omega))⟩
    ·obtain ⟨m, rfl⟩ : ∃ m, k = m + 1 := ⟨k - 1, by omega⟩
     have h3 := h3 m (by omega)
     simp (disch := first | omega | trivial) only [spec_FlatOk.l0, ← hxe, ↓if_pos, ↓if_neg, ↓h1, ↓reduceIte, hws, wrap_next]
     exact h3
    ·obtain ⟨m, rfl⟩ : ∃ m, k = m + 1 := ⟨k - 1, by omega⟩
     have h4 := h4 m (by omega)
     simp (disch := first | omega | trivial) only [impl_flatOk.l0, ← hxe, ↓if_pos, ↓if_neg, ↓h2, ↓reduceIte, hws, wrap_next]
     exact h4
   ·obtain ⟨q, rfl⟩ : ∃ q, i = q + 1 := ⟨i - 1, by omega⟩
    have gp := hp q rfl
    obtain ⟨p, hpe⟩ : ∃ p, p = rd_T67 f (q : Int) := ⟨_, rfl⟩
    rw [← hpe] at gp
    have hwp := GoodSeg.width hg gp
    have e1 : True → wrap64 (((q + 1 : Nat) : Int) - 1) = (q : Int) := fun _ => by rw [wrap64_id (by omega) (by omega)]; omega
    have e2 : True → wrap64 (p.f1 + p.f2) = p.f1 + p.f2 := fun _ => wrap64_id (by omega) (by omega)
    by_cases cm : Meet p x
    ·obtain ⟨m1, m2⟩ := cm
     refine ⟨false, ⟨K1 + 1, fun k hk => ?_⟩, ⟨K2 + 1, fun k hk => ?_⟩, no _⟩
     ·obtain ⟨m, rfl⟩ : ∃ m, k = m + 1 := ⟨k - 1, by omega⟩
      by_cases c1 : x.f0 = -1
      ·simp (disch := first | omega | trivial) only [spec_FlatOk.l0, ← hxe, ↓if_pos, ↓h1, ↓reduceIte, e1, ← hpe]
      ·have c2 : x.f1 = p.f1 + p.f2 := by rcases m2 with h | h; exact absurd h c1; exact h
       simp (disch := first | omega | trivial) only [spec_FlatOk.l0, ← hxe, ↓if_pos, ↓if_neg, ↓h1, ↓reduceIte, e1, ← hpe, e2]
     ·obtain ⟨m, rfl⟩ : ∃ m, k = m + 1 := ⟨k - 1, by omega⟩
      by_cases c1 : p.f0 = -1
      ·simp (disch := first | omega | trivial) only [impl_flatOk.l0, ← hxe, ↓if_pos, ↓h2, ↓reduceIte, e1, ← hpe, impl_Seg_meets.f, Option.bind_some]
      ·have c2 : (p.f1 + p.f2 == x.f1) = true := beq_iff_eq.2 (by rcases m2 with h | h <;> omega)
       simp (disch := first | omega | trivial) only [impl_flatOk.l0, ← hxe, ↓if_pos, ↓if_neg, ↓h2, ↓reduceIte, e1, ← hpe, impl_Seg_meets.f, Option.bind_some, e2, c2]
    ·refine ⟨b, ⟨K1 + K3 + 1, fun k hk => ?_⟩, ⟨K2 + K4 + 1, fun k hk => ?_⟩, fun hbt => hrest hbt (fun m hm => by
      obtain rfl : m = q := by omega
      rw [← hpe]; exact cm)⟩
     ·obtain ⟨m, rfl⟩ : ∃ m, k = m + 1 := ⟨k - 1, by omega⟩
      have h3 := h3 m (by omega)
      by_cases c0 : x.f0 = p.f0
      ·have c1 : ¬ x.f0 = -1 := fun h => cm ⟨c0.symm, .inl h⟩
       have c2 : ¬ x.f1 = p.f1 + p.f2 := fun h => cm ⟨c0.symm, .inr h⟩
       simp (disch := first | omega | trivial) only [spec_FlatOk.l0, ← hxe, ↓if_pos, ↓if_neg, ↓h1, ↓reduceIte, e1, ← hpe, e2, hws, wrap_next]
       exact h3
      ·simp (disch := first | omega | trivial) only [spec_FlatOk.l0, ← hxe, ↓if_pos, ↓if_neg, ↓h1, ↓reduceIte, e1, ← hpe, hws, wrap_next]
       exact h3
     ·obtain ⟨m, rfl⟩ : ∃ m, k = m + 1 := ⟨k - 1, by omega⟩
      have h4 := h4 m (by omega)
      by_cases c0 : p.f0 = x.f0
      ·have c1 : ¬ p.f0 = -1 := fun h => cm ⟨c0, .inl (by omega)⟩
       have c2 : (p.f1 + p.f2 == x.f1) = false := beq_eq_false_iff_ne.2 (fun h => cm ⟨c0, .inr h.symm⟩)
       simp (disch := first | omega | trivial) only [impl_flatOk.l0, ← hxe, ↓if_pos, ↓if_neg, ↓h2, ↓reduceIte, e1, ← hpe, impl_Seg_meets.f, Option.bind_some, e2, c2, Bool.false_eq_true, hws, wrap_next]
       exact h4
      ·simp (disch := first | omega | trivial) only [impl_flatOk.l0, ← hxe, ↓if_pos, ↓if_neg, ↓h2, ↓reduceIte, e1, ← hpe, impl_Seg_meets.f, Option.bind_some, Bool.false_eq_true, hws, wrap_next]
       exact h4
  ·obtain ⟨K1, h1⟩ := Ev.binds ev1
   obtain ⟨K2, h2⟩ := Ev.binds ev2
   refine ⟨false, ⟨K1 + 1, fun k hk => ?_⟩, ⟨K2 + 1, fun k hk => ?_⟩, no _⟩
   ·obtain ⟨m, rfl⟩ : ∃ m, k = m + 1 := ⟨k - 1, by omega⟩
    simp (disch := omega) only [spec_FlatOk.l0, ← hxe, ↓if_pos, ↓h1, ↓reduceIte, Bool.false_eq_true]
   ·obtain ⟨m, rfl⟩ : ∃ m, k = m + 1 := ⟨k - 1, by omega⟩
    simp (disch := omega) only [impl_flatOk.l0, ← hxe, ↓if_pos, ↓h2, ↓reduceIte, Bool.false_eq_true]
/-- Forms over declarations that are right. -/
theorem flat_in (l : List S64) (f : List S67) (hg : GoodDecls l) (g1 : Ev (fun k => spec_DeclsOk.f k l) true) (hfl : f.length ≤ 1048576) (hf : ∀ y ∈ f, U64s y.f3.f1 ∧ y.f3.f1.length ≤ 1048576 ∧ -9223372036854775808 ≤ y.f3.f0 ∧ y.f3.f0 ≤ 9223372036854775807) :
  ∃ z, Ev (fun k => spec_FlatOk.f k l f) z ∧ Ev (fun k => impl_flatOk.f k l f) z ∧ (z = true → GoodFlat l f) := by
 have no : ∀ (P : Prop), ((false : Bool) = true → P) := fun P h => by cases h
 obtain ⟨K1, h1⟩ := Ev.binds g1
 by_cases c1 : (f.length : Int) < 1
 ·refine ⟨false, ⟨K1 + 2, fun k hk => ?_⟩, ⟨2, fun k hk => ?_⟩, no _⟩
  ·obtain ⟨m, rfl⟩ : ∃ m, k = m + 1 := ⟨k - 1, by omega⟩
   simp (disch := omega) only [spec_FlatOk.f, ↓h1, ↓reduceIte, ↓if_pos, spec_FlatOk.j0]
  ·obtain ⟨m, rfl⟩ : ∃ m, k = m + 1 := ⟨k - 1, by omega⟩
   simp (disch := omega) only [↓reduceIte, impl_flatOk.f, ↓if_pos, impl_flatOk.j0, Option.bind_some]
 ·by_cases c2 : (f.length : Int) > 2000
  ·have d2 := decide_eq_true c2
   refine ⟨false, ⟨K1 + 2, fun k hk => ?_⟩, ⟨2, fun k hk => ?_⟩, no _⟩
   ·obtain ⟨m, rfl⟩ : ∃ m, k = m + 1 := ⟨k - 1, by omega⟩
    simp (disch := omega) only [spec_FlatOk.f, ↓h1, ↓reduceIte, ↓if_neg, d2, spec_FlatOk.j0]
   ·obtain ⟨m, rfl⟩ : ∃ m, k = m + 1 := ⟨k - 1, by omega⟩
    simp (disch := omega) only [↓reduceIte, impl_flatOk.f, ↓if_neg, d2, impl_flatOk.j0, Option.bind_some]
  ·have d2 := decide_eq_false c2
   obtain ⟨b, ⟨K3, h3⟩, ⟨K4, h4⟩, hb⟩ := flat_loops l f hg (by omega) hf f.length 0 (by omega) (by omega) (fun j hj => absurd hj (by omega)) 0 (by decide) (by decide)
   refine ⟨b, ⟨K1 + K3 + 2, fun k hk => ?_⟩, ⟨K4 + 2, fun k hk => ?_⟩, fun hbt => ?_⟩
   ·obtain ⟨m, rfl⟩ : ∃ m, k = m + 1 := ⟨k - 1, by omega⟩
    have h3 := h3 m (by omega)
    simp (disch := omega) only [spec_FlatOk.f, ↓h1, ↓reduceIte, ↓if_neg, d2, spec_FlatOk.j0, Bool.false_eq_true]
    exact h3
   ·obtain ⟨m, rfl⟩ : ∃ m, k = m + 1 := ⟨k - 1, by omega⟩
    have h4 : impl_flatOk.l0 m l f 0 f (f.length : Int) 0 = some b := h4 m (by omega)
    simp (disch := omega) only [↓reduceIte, impl_flatOk.f, ↓if_neg, d2, impl_flatOk.j0, Bool.false_eq_true, h4, Option.bind_some]
   ·obtain ⟨t1, t2⟩ := hb hbt
    rw [List.drop_zero] at t2
    exact ⟨by omega, by omega, fun j hj => (t1 j (by omega) hj).1, fun j hj => (t1 (j + 1) (by omega) hj).2 j rfl, by omega⟩
theorem upSeg {f : List S67} (U : (f.length : Int) ≤ 1048576 ∧ ∀ y ∈ f, UpI_Seg 1048576 y) (W : ∀ y ∈ f, WfI_Seg y) : ∀ y ∈ f, U64s y.f3.f1 ∧ y.f3.f1.length ≤ 1048576 ∧ -9223372036854775808 ≤ y.f3.f0 ∧ y.f3.f0 ≤ 9223372036854775807 := fun y hy => by
 have u := U.2 y hy
 have w := (W y hy).2.2.2
 unfold UpI_Seg UpI_Bits at u
 exact ⟨w.2, by omega, w.1.1, w.1.2⟩

/-! flatOk -/
theorem flat_core (l : List S64) (f : List S67) (hx : ∀ x ∈ l, x.f0.size ≤ 1048576) (hfl : f.length ≤ 1048576) (hf : ∀ y ∈ f, U64s y.f3.f1 ∧ y.f3.f1.length ≤ 1048576 ∧ -9223372036854775808 ≤ y.f3.f0 ∧ y.f3.f0 ≤ 9223372036854775807) :
  ∃ z, Ev (fun k => spec_FlatOk.f k l f) z ∧ Ev (fun k => impl_FlatOk.f k l f) z ∧ (z = true → GoodDecls l ∧ GoodFlat l f) := by
 have no : ∀ (P : Prop), ((false : Bool) = true → P) := fun P h => by cases h
 obtain ⟨bd, g1, g2, hg⟩ := declsOk_agree l hx
 obtain ⟨K1, h1⟩ := Ev.binds g1
 obtain ⟨K2, h2⟩ := Ev.binds g2
 cases bd with
 | false =>
  refine ⟨false, ⟨K1 + 2, fun k hk => ?_⟩, ⟨K2, fun k hk => ?_⟩, no _⟩
  ·obtain ⟨m, rfl⟩ : ∃ m, k = m + 1 := ⟨k - 1, by omega⟩
   simp (disch := omega) only [spec_FlatOk.f, ↓h1, ↓reduceIte, Bool.false_eq_true, spec_FlatOk.j0]
  ·simp (disch := omega) only [impl_FlatOk.f, ↓h2, ↓reduceIte, Bool.false_eq_true]
 | true =>
  have hg := hg rfl
  by_cases c1 : (f.length : Int) < 1
  ·refine ⟨false, ⟨K1 + 2, fun k hk => ?_⟩, ⟨K2 + 2, fun k hk => ?_⟩, no _⟩
   ·obtain ⟨m, rfl⟩ : ∃ m, k = m + 1 := ⟨k - 1, by omega⟩
    simp (disch := omega) only [spec_FlatOk.f, ↓h1, ↓reduceIte, ↓if_pos, spec_FlatOk.j0]
   ·obtain ⟨m, rfl⟩ : ∃ m, k = m + 1 := ⟨k - 1, by omega⟩
    simp (disch := omega) only [impl_FlatOk.f, ↓h2, ↓reduceIte, impl_flatOk.f, ↓if_pos, impl_flatOk.j0, Option.bind_some]
  ·by_cases c2 : (f.length : Int) > 2000
   ·have d2 := decide_eq_true c2
    refine ⟨false, ⟨K1 + 2, fun k hk => ?_⟩, ⟨K2 + 2, fun k hk => ?_⟩, no _⟩
    ·obtain ⟨m, rfl⟩ : ∃ m, k = m + 1 := ⟨k - 1, by omega⟩
     simp (disch := omega) only [spec_FlatOk.f, ↓h1, ↓reduceIte, ↓if_neg, d2, spec_FlatOk.j0]
    ·obtain ⟨m, rfl⟩ : ∃ m, k = m + 1 := ⟨k - 1, by omega⟩
     simp (disch := omega) only [impl_FlatOk.f, ↓h2, ↓reduceIte, impl_flatOk.f, ↓if_neg, d2, impl_flatOk.j0, Option.bind_some]
   ·have d2 := decide_eq_false c2
    obtain ⟨b, ⟨K3, h3⟩, ⟨K4, h4⟩, hb⟩ := flat_loops l f hg (by omega) hf f.length 0 (by omega) (by omega) (fun j hj => absurd hj (by omega)) 0 (by decide) (by decide)
    refine ⟨b, ⟨K1 + K3 + 2, fun k hk => ?_⟩, ⟨K2 + K4 + 2, fun k hk => ?_⟩, fun hbt => ?_⟩
    ·obtain ⟨m, rfl⟩ : ∃ m, k = m + 1 := ⟨k - 1, by omega⟩
     have h3 := h3 m (by omega)
     simp (disch := omega) only [spec_FlatOk.f, ↓h1, ↓reduceIte, ↓if_neg, d2, spec_FlatOk.j0, Bool.false_eq_true]
     exact h3
    ·obtain ⟨m, rfl⟩ : ∃ m, k = m + 1 := ⟨k - 1, by omega⟩
     have h4 : impl_flatOk.l0 m l f 0 f (f.length : Int) 0 = some b := h4 m (by omega)
     simp (disch := omega) only [impl_FlatOk.f, ↓h2, ↓reduceIte, impl_flatOk.f, ↓if_neg, d2, impl_flatOk.j0, Bool.false_eq_true, h4, Option.bind_some]
    ·obtain ⟨t1, t2⟩ := hb hbt
     rw [List.drop_zero] at t2
     exact ⟨hg, by omega, by omega, fun j hj => (t1 j (by omega) hj).1, fun j hj => (t1 (j + 1) (by omega) hj).2 j rfl, by omega⟩
theorem flatOk_agree (l : List S64) (f : List S67) (U0 : (l.length : Int) ≤ 1048576 ∧ ∀ y ∈ l, UpI_Decl 1048576 y) (W0 : ∀ y ∈ l, WfI_Decl y) (U1 : (f.length : Int) ≤ 1048576 ∧ ∀ y ∈ f, UpI_Seg 1048576 y) (W1 : ∀ y ∈ f, WfI_Seg y) :
  ∃ z, Ev (fun k => spec_FlatOk.f k l f) z ∧ Ev (fun k => impl_FlatOk.f k l f) z := by
 obtain ⟨z, h1, h2, _⟩ := flat_core l f (upDecl U0) (by omega) (upSeg U1 W1)
 exact ⟨z, h1, h2⟩

/-! flatL -/
/-- The bits of a segment, and of a form. -/
def segL (s : S67) : List S80 := (List.range s.f2.toNat).map fun k => if s.f0 < 0 then (⟨-1, bitI s.f3.f1 k⟩ : S80) else (⟨s.f0, s.f1 + (k : Int)⟩ : S80)
def flatL (f : List S67) : List S80 := f.flatMap segL
theorem segL_len (s : S67) : (segL s).length = s.f2.toNat := by simp [segL]
theorem flatL_nil : flatL [] = [] := rfl
theorem flatL_cons (s : S67) (f : List S67) : flatL (s :: f) = segL s ++ flatL f := rfl
theorem flatL_append (f g : List S67) : flatL (f ++ g) = flatL f ++ flatL g := by simp [flatL]
theorem flatL_one (s : S67) : flatL [s] = segL s := by simp [flatL]
theorem flatL_take {f : List S67} {i : Nat} (h : i < f.length) : flatL (f.take (i + 1)) = flatL (f.take i) ++ segL (rd_T67 f (i : Int)) := by
 rw [← List.take_append_getElem h, flatL_append, flatL_one, rdE_T67 f i h]
theorem flatL_len {f : List S67} (h : ∀ s ∈ f, 0 ≤ s.f2) : ((flatL f).length : Int) = sumW f := by
 induction f with
 | nil => rfl
 | cons s f ih =>
  have h0 := h s List.mem_cons_self
  have := ih (fun x hx => h x (List.mem_cons_of_mem _ hx))
  rw [flatL_cons, List.length_append, segL_len]
  show _ = s.f2 + sumW f
  omega
theorem sumW_nonneg {f : List S67} (h : ∀ s ∈ f, 0 ≤ s.f2) : 0 ≤ sumW f := by
 have := flatL_len h
 omega
theorem sumW_take {f : List S67} (h : ∀ s ∈ f, 0 ≤ s.f2) (i : Nat) : sumW (f.take i) ≤ sumW f := by
 have e : flatL f = flatL (f.take i) ++ flatL (f.drop i) := by rw [← flatL_append, List.take_append_drop]
 have h1 := flatL_len h
 have h2 := flatL_len (f := f.take i) (fun s hs => h s (List.mem_of_mem_take hs))
 rw [e, List.length_append] at h1
 omega
/-- A segment as forms have it: what the declarations say of it is left out. -/
def SegW (s : S67) : Prop := (s.f0 = -1 ∧ s.f1 = 0 ∧ Right s.f3.f0 s.f3.f1 ∧ s.f3.f0 = s.f2) ∨ (0 ≤ s.f0 ∧ s.f3.f0 = 0 ∧ s.f3.f1 = [] ∧ 0 ≤ s.f1 ∧ 1 ≤ s.f2 ∧ s.f1 + s.f2 ≤ 4096)
theorem SegW.width {s : S67} (h : SegW s) : 1 ≤ s.f2 ∧ s.f2 ≤ 4096 ∧ 0 ≤ s.f1 ∧ s.f1 ≤ 4096 ∧ -1 ≤ s.f0 := by
 rcases h with ⟨h1, h2, h3, h4⟩ | ⟨h1, h2, h3, h4, h5, h6⟩
 ·have := h3.low; have := h3.high; omega
 ·omega
theorem GoodFlat.segW {l : List S64} {f : List S67} (hg : GoodDecls l) (h : GoodFlat l f) : ∀ s ∈ f, SegW s := fun s hs => by
 obtain ⟨i, hi, e⟩ := List.mem_iff_getElem.1 hs
 have := h.seg i hi
 rw [rdE_T67 f i hi, e] at this
 rcases this with ⟨h1, h2, h3, h4⟩ | ⟨h1, h2, h3, h4, h5, h6, h7⟩
 ·exact .inl ⟨h1, h2, h3, h4⟩
 ·obtain ⟨n, hn⟩ := Int.eq_ofNat_of_zero_le h1
  have hw := hg.width _ (rdD_mem l n (by omega))
  have hw2 := hw.2
  rw [hn] at h7
  exact .inr ⟨h1, h3, List.eq_nil_of_length_eq_zero h4, h5, h6, by omega⟩

/-! l5Bits -/
theorem l5Bits_ev (f : List S67) (hw : ∀ s ∈ f, SegW s) (hs : sumW f ≤ 8192) : Ev (fun k => spec_l5Bits.f k f) (flatL f) := by
 have hp : ∀ s ∈ f, 0 ≤ s.f2 := fun s h => by have := (hw s h).width; omega
 have hlen : f.length ≤ 8192 := by
  have : ∀ g : List S67, (∀ s ∈ g, SegW s) → (g.length : Int) ≤ sumW g := by
   intro g
   induction g with
   | nil => intro _; exact Int.le_refl 0
   | cons s g ih =>
    intro h
    have h1 := ih (fun x hx => h x (List.mem_cons_of_mem _ hx))
    have h2 := (h s List.mem_cons_self).width
    show ((g.length + 1 : Nat) : Int) ≤ s.f2 + sumW g
    omega
  have := this f hw
  omega
 have main := up_loop f.length (fun i => flatL (f.take i)) (fun k xs i => spec_l5Bits.l0 k f xs i)
  (fun i hi r h => by
   obtain ⟨s, hse⟩ : ∃ s, s = rd_T67 f (i : Int) := ⟨_, rfl⟩
   have hsm : s ∈ f := by rw [hse]; exact rdM_T67 f i hi
   have hsw := hw s hsm
   have hswd := hsw.width
   obtain ⟨n, hn⟩ := Int.eq_ofNat_of_zero_le (show 0 ≤ s.f2 by omega)
   have hacc : (flatL (f.take i)).length ≤ 8192 := by
    have h1 := flatL_len (f := f.take i) (fun s hs => hp s (List.mem_of_mem_take hs))
    have h2 := sumW_take hp i
    omega
   obtain ⟨acc, hae⟩ : ∃ acc, acc = flatL (f.take i) := ⟨_, rfl⟩
   have hfin : flatL (f.take (i + 1)) = acc ++ segL s := by rw [flatL_take hi, hae, hse]
   rw [hfin] at h
   rw [← hae] at hacc ⊢
   obtain ⟨bit, hbit⟩ : ∃ bit : Nat → S80, bit = fun k => if s.f0 < 0 then (⟨-1, bitI s.f3.f1 k⟩ : S80) else (⟨s.f0, s.f1 + (k : Int)⟩ : S80) := ⟨_, rfl⟩
   have hseg : segL s = (List.range n).map bit := by unfold segL; rw [hn, hbit]; rfl
   have inner := up_loop n (fun j => acc ++ (List.range j).map bit) (fun k xs j => spec_l5Bits.l1 k f xs (i : Int) j)
    (fun j hj r' h' => by
     obtain ⟨K, h'⟩ := h'
     refine ⟨K + 1, fun k hk => ?_⟩
     obtain ⟨m, rfl⟩ : ∃ m, k = m + 1 := ⟨k - 1, by omega⟩
     have h' := h' m (by omega)
     dsimp only at h' ⊢
     rw [List.range_succ, List.map_append, ← List.append_assoc] at h'
     have hlj : (acc ++ (List.range j).map bit).length < 8796093022208 := by simp; omega
     have e1 : True → wrap64 ((j : Int) + 1) = (j : Int) + 1 := fun _ => wrap64_id (by omega) (by omega)
     by_cases c : s.f0 < 0
     ·have hb : bit j = (⟨-1, bitI s.f3.f1 j⟩ : S80) := by rw [hbit]; exact if_pos c
      rcases hsw with ⟨g1, g2, g3, g4⟩ | ⟨g1, _⟩
      ·have hl := g3.len
       have hb1 := l1Bit_eq s.f3.f0 s.f3.f1 g3.words j (by omega) (by have := g3.high; omega)
       have hb2 := bitI_01 s.f3.f1 j
       have e2 : True → wrap64 (bitI s.f3.f1 j) = bitI s.f3.f1 j := fun _ => wrap64_id (by omega) (by omega)
       simp (disch := first | omega | trivial) only [spec_l5Bits.l1, ↓if_pos, ← hse, hb1, Option.bind_some, e1, e2]
       rw [show List.map bit [j] = [bit j] from rfl, hb] at h'
       exact h'
      ·omega
     ·have hb : bit j = (⟨s.f0, s.f1 + (j : Int)⟩ : S80) := by rw [hbit]; exact if_neg c
      have e2 : True → wrap64 (s.f1 + (j : Int)) = s.f1 + (j : Int) := fun _ => wrap64_id (by omega) (by omega)
      simp (disch := first | omega | trivial) only [spec_l5Bits.l1, ↓if_pos, ↓if_neg, ← hse, e1, e2]
      rw [show List.map bit [j] = [bit j] from rfl, hb] at h'
      exact h')
    r (by
     obtain ⟨K, h⟩ := h
     refine ⟨K + 1, fun k hk => ?_⟩
     obtain ⟨m, rfl⟩ : ∃ m, k = m + 1 := ⟨k - 1, by omega⟩
     have h := h m (by omega)
     have e1 : True → wrap64 ((i : Int) + 1) = (i : Int) + 1 := fun _ => wrap64_id (by omega) (by omega)
     dsimp only at h ⊢
     rw [← hseg]
     simp (disch := first | omega | trivial) only [spec_l5Bits.l1, ↓if_pos, ↓if_neg, ← hse, e1]
     exact h)
   obtain ⟨K, h2⟩ := inner
   refine ⟨K + 1, fun k hk => ?_⟩
   obtain ⟨m, rfl⟩ : ∃ m, k = m + 1 := ⟨k - 1, by omega⟩
   have h2 := h2 m (by omega)
   simp only [List.range_zero, List.map_nil, List.append_nil] at h2
   simp (disch := omega) only [spec_l5Bits.l0, ↓if_pos]
   exact h2)
  (flatL f) (Ev.step (f := fun _ => some (flatL f)) (fun k => by
   simp (disch := omega) only [spec_l5Bits.l0, ↓if_neg, List.take_length]) (Ev.now _))
 simp only [List.take_zero, flatL_nil] at main
 exact Ev.congr (fun k => rfl) main

/-! flatWidth -/
theorem flatWidth_ev (f : List S67) (hp : ∀ s ∈ f, 0 ≤ s.f2) (hs : sumW f ≤ 1000000) (hl : f.length ≤ 1048576) : Ev (fun k => impl_flatWidth.f k f) (sumW f) := by
 have main := up_loop f.length (fun i => sumW (f.take i)) (fun k s i => impl_flatWidth.l0 k s f (f.length : Int) i)
  (fun i hi r h => by
   have e : sumW (f.take (i + 1)) = sumW (f.take i) + (rd_T67 f (i : Int)).f2 := by
    have h1 := flatL_len (f := f.take (i + 1)) (fun s hs => hp s (List.mem_of_mem_take hs))
    have h2 := flatL_len (f := f.take i) (fun s hs => hp s (List.mem_of_mem_take hs))
    have h3 := hp _ (rdM_T67 f i hi)
    rw [flatL_take hi, List.length_append, segL_len] at h1
    omega
   have h1 := sumW_take hp (i + 1)
   have h2 := sumW_take hp i
   have h3 := sumW_nonneg (f := f.take i) (fun s hs => hp s (List.mem_of_mem_take hs))
   have h4 := sumW_nonneg (f := f.take (i + 1)) (fun s hs => hp s (List.mem_of_mem_take hs))
   have e1 : True → wrap64 ((i : Int) + 1) = (i : Int) + 1 := fun _ => wrap64_id (by omega) (by omega)
   have e2 : wrap64 (sumW (f.take i) + (rd_T67 f (i : Int)).f2) = sumW (f.take (i + 1)) := by rw [← e, wrap64_id (by omega) (by omega)]
   exact Ev.step (fun k => by simp (disch := first | omega | trivial) only [impl_flatWidth.l0, ↓if_pos, e1, e2]) h)
  (sumW f) (Ev.step (f := fun _ => some (sumW f)) (fun k => by simp (disch := omega) only [impl_flatWidth.l0, ↓if_neg, List.take_length]) (Ev.now _))
 exact Ev.congr (fun k => rfl) main

/-! canon -/
/-- Neighbours that could not be one. -/
def ApartL (f : List S67) : Prop := ∀ (j : Nat) (a b : S67), f[j]? = some a → f[j + 1]? = some b → ¬ Meet a b
structure Canon (f : List S67) : Prop where
 seg : ∀ s ∈ f, SegW s
 apart : ApartL f
theorem GoodFlat.canon {l : List S64} {f : List S67} (hg : GoodDecls l) (h : GoodFlat l f) : Canon f := by
 refine ⟨h.segW hg, fun j a b ha hb => ?_⟩
 obtain ⟨h1, e1⟩ := List.getElem?_eq_some_iff.1 ha
 obtain ⟨h2, e2⟩ := List.getElem?_eq_some_iff.1 hb
 have := h.apart j h2
 rw [rdE_T67 f j h1, e1, rdE_T67 f (j + 1) h2, e2] at this
 exact this
theorem Canon.nil : Canon [] := ⟨fun s h => absurd h List.not_mem_nil, fun j a b ha => by simp at ha⟩
theorem Canon.tail {s : S67} {f : List S67} (h : Canon (s :: f)) : Canon f := ⟨fun x hx => h.seg x (List.mem_cons_of_mem _ hx), fun j a b ha hb => h.apart (j + 1) a b ha hb⟩
theorem Canon.one {s : S67} (h : SegW s) : Canon [s] := ⟨fun x hx => by rw [List.mem_singleton.1 hx]; exact h, fun j a b ha hb => by simp at hb⟩
theorem Canon.pos {f : List S67} (h : Canon f) : ∀ s ∈ f, 0 ≤ s.f2 := fun s hs => by have := (h.seg s hs).width; omega
theorem Canon.count {f : List S67} (h : ∀ s ∈ f, SegW s) : (f.length : Int) ≤ sumW f := by
 induction f with
 | nil => exact Int.le_refl 0
 | cons s f ih =>
  have h1 := ih (fun x hx => h x (List.mem_cons_of_mem _ hx))
  have h2 := (h s List.mem_cons_self).width
  show ((f.length + 1 : Nat) : Int) ≤ s.f2 + sumW f
  omega
theorem Canon.snoc {G : List S67} {a s : S67} (h : Canon (G ++ [a])) (hs : SegW s) (hm : ¬ Meet a s) : Canon ((G ++ [a]) ++ [s]) := by
 refine ⟨fun x hx => ?_, fun j p q hp hq => ?_⟩
 ·rcases List.mem_append.1 hx with hx | hx
  ·exact h.seg x hx
  ·rw [List.mem_singleton.1 hx]; exact hs
 ·have hl : (G ++ [a]).length = G.length + 1 := by simp
  by_cases c : j + 1 < (G ++ [a]).length
  ·rw [List.getElem?_append_left (by omega)] at hp
   rw [List.getElem?_append_left c] at hq
   exact h.apart j p q hp hq
  ·by_cases c2 : j + 1 = (G ++ [a]).length
   ·rw [List.getElem?_append_left (by omega), List.getElem?_append_right (by omega), show j - G.length = 0 from by omega] at hp
    rw [List.getElem?_append_right (by omega), show j + 1 - (G ++ [a]).length = 0 from by omega] at hq
    simp only [List.getElem?_cons_zero, Option.some.injEq] at hp hq
    subst hp hq
    exact hm
   ·rw [List.getElem?_eq_none (by simp; omega)] at hq
    cases hq
theorem Canon.swap {G : List S67} {a b : S67} (h : Canon (G ++ [a])) (hb : SegW b) (h0 : b.f0 = a.f0) (h1 : b.f1 = a.f1) : Canon (G ++ [b]) := by
 refine ⟨fun x hx => ?_, fun j p q hp hq => ?_⟩
 ·rcases List.mem_append.1 hx with hx | hx
  ·exact h.seg x (List.mem_append.2 (.inl hx))
  ·rw [List.mem_singleton.1 hx]; exact hb
 ·by_cases c : j + 1 < G.length
  ·rw [List.getElem?_append_left (by omega)] at hp
   rw [List.getElem?_append_left c] at hq
   exact h.apart j p q (by rw [List.getElem?_append_left (by omega)]; exact hp) (by rw [List.getElem?_append_left c]; exact hq)
  ·by_cases c2 : j + 1 = G.length
   ·rw [List.getElem?_append_left (by omega)] at hp
    rw [List.getElem?_append_right (by omega), show j + 1 - G.length = 0 from by omega] at hq
    simp only [List.getElem?_cons_zero, Option.some.injEq] at hq
    subst hq
    have := h.apart j p a (by rw [List.getElem?_append_left (by omega)]; exact hp) (by rw [List.getElem?_append_right (by omega), show j + 1 - G.length = 0 from by omega]; rfl)
    unfold Meet at this ⊢
    rw [h0, h1]
    exact this
   ·rw [List.getElem?_eq_none (by simp; omega)] at hq
    cases hq
theorem segL_get (s : S67) (j : Nat) (h : j < s.f2.toNat) : (segL s)[j]? = some (if s.f0 < 0 then (⟨-1, bitI s.f3.f1 j⟩ : S80) else (⟨s.f0, s.f1 + (j : Int)⟩ : S80)) := by simp [segL, h]
theorem flatL_pos {f : List S67} (h : ∀ s ∈ f, SegW s) (hn : 0 < (flatL f).length) : ∃ s t, f = s :: t := by
 cases f with
 | nil => simp [flatL] at hn
 | cons s t => exact ⟨s, t, rfl⟩

/-! l5Form -/
theorem rdB (B : List S80) (i : Nat) (x : S80) (h : B[i]? = some x) : rd_T80 B (i : Int) = x := by
 unfold rd_T80
 rw [List.getD_eq_getElem?_getD, Int.toNat_natCast, h]
 rfl
theorem l5Form_ev (B : List S80) (hB : B.length ≤ 8192) : ∀ (rest : List S67) (pre : List S80) (acc : List S67), Canon rest → B = pre ++ flatL rest → acc.length + rest.length ≤ 10000 →
  Ev (fun k => spec_l5Form.l0 k B acc (pre.length : Int)) (acc ++ rest, decide (((acc ++ rest).length : Int) ≤ 2000)) := by
 intro rest
 induction rest with
 | nil =>
  intro pre acc _ hb hl
  have : B.length = pre.length := by rw [hb]; simp [flatL]
  rw [List.append_nil]
  exact Ev.step (f := fun _ => some (acc, decide ((acc.length : Int) ≤ 2000))) (fun k => by simp (disch := omega) only [spec_l5Form.l0, ↓if_neg]) (Ev.now _)
 | cons s rest ih =>
  intro pre acc hc hb hl
  have hs := hc.seg s List.mem_cons_self
  have hw := hs.width
  obtain ⟨n, hn⟩ := Int.eq_ofNat_of_zero_le (show 0 ≤ s.f2 by omega)
  have hnn : s.f2.toNat = n := by omega
  rw [flatL_cons, ← List.append_assoc] at hb
  have hlen : B.length = pre.length + n + (flatL rest).length := by rw [hb]; simp [segL_len, hnn]; omega
  have hnext := ih (pre ++ segL s) (acc ++ [s]) hc.tail hb (by simp at hl ⊢; omega)
  rw [List.append_assoc, List.singleton_append, List.length_append, segL_len, hnn] at hnext
  have hin : ∀ j, j < n → B[pre.length + j]? = some (if s.f0 < 0 then (⟨-1, bitI s.f3.f1 j⟩ : S80) else (⟨s.f0, s.f1 + (j : Int)⟩ : S80)) := fun j hj => by
   rw [hb, List.getElem?_append_left (by simp [segL_len]; omega), List.getElem?_append_right (by omega), Nat.add_sub_cancel_left, segL_get s j (by omega)]
  -- the bit behind the segment
  have hout : pre.length + n < B.length → ∃ t, SegW t ∧ ¬ Meet s t ∧ B[pre.length + n]? = some (if t.f0 < 0 then (⟨-1, bitI t.f3.f1 0⟩ : S80) else (⟨t.f0, t.f1 + (0 : Nat)⟩ : S80)) := fun h => by
   obtain ⟨t, u, e⟩ := flatL_pos hc.tail.seg (by omega)
   have ht := hc.seg t (by rw [e]; exact List.mem_cons_of_mem _ List.mem_cons_self)
   refine ⟨t, ht, hc.apart 0 s t rfl (by rw [e]; rfl), ?_⟩
   have htw := ht.width
   rw [hb, List.getElem?_append_right (by simp [segL_len]; omega), e, flatL_cons, List.getElem?_append_left (by simp [segL_len]; omega)]
   rw [show pre.length + n - (pre ++ segL s).length = 0 from by simp [segL_len]; omega]
   exact segL_get t 0 (by omega)
  have hmin : (spec_l5Form.l0 0 B acc 0) = none := rfl
  by_cases c : s.f0 < 0
  ·obtain ⟨g1, g2, g3, g4⟩ : s.f0 = -1 ∧ s.f1 = 0 ∧ Right s.f3.f0 s.f3.f1 ∧ s.f3.f0 = s.f2 := by
    rcases hs with h | h
    ·exact h
    ·omega
   have hseq : s = (⟨-1, 0, (n : Int), ⟨(n : Int), s.f3.f1⟩⟩ : S67) := by
    obtain ⟨a, b, c', ⟨d, e⟩⟩ := s
    simp only at g1 g2 g4 hn ⊢
    subst g1 g2 hn
    rw [g4]
   have hzl : (bitsL n s.f3.f1).length = n := bitsL_len _ _
   obtain ⟨ws, ⟨K1, hws⟩, hp⟩ := l1From_ev (bitsL n s.f3.f1) (bitsL_01 _ _) (by omega) (by omega)
   have hp' : Packs (bitsL n s.f3.f1) s.f3.f1 := packs_of (w := (n : Int)) (by omega) (by rw [← hn, ← g4]; exact g3) fun j hj => by
    rw [rd_q, bitsL_get (by omega), Option.getD_some, bitI_one]
   have := hp.uniq hp'
   subst this
   rw [hzl] at hws
   obtain ⟨K2, hnext⟩ := hnext
   have loop := up_from n (fun j => (List.range j).map fun q => bitI s.f3.f1 q) (fun k xs j => spec_l5Form.l1 k B acc ((pre.length : Int) + j) xs)
    (fun j hj r h => by
     obtain ⟨K, h⟩ := h
     refine ⟨K + 1, fun k hk => ?_⟩
     obtain ⟨m, rfl⟩ : ∃ m, k = m + 1 := ⟨k - 1, by omega⟩
     have h := h m (by omega)
     dsimp only at h ⊢
     have hx := hin j hj
     rw [if_pos c] at hx
     have hrd : rd_T80 B ((pre.length : Int) + (j : Int)) = (⟨-1, bitI s.f3.f1 j⟩ : S80) := by
      rw [show (pre.length : Int) + (j : Int) = ((pre.length + j : Nat) : Int) from by omega]; exact rdB _ _ _ hx
     have hbi := bitI_01 s.f3.f1 j
     have e1 : True → wrap64 ((pre.length : Int) + (j : Int) + 1) = (pre.length : Int) + ((j : Int) + 1) := fun _ => by rw [wrap64_id (by omega) (by omega)]; omega
     have e2 : bitI s.f3.f1 j % 256 = bitI s.f3.f1 j := by omega
     have hl : ((List.range j).map fun q => bitI s.f3.f1 q).length < 140737488355328 := by simp; omega
     rw [List.range_succ, List.map_append] at h
     simp (disch := first | omega | trivial) only [spec_l5Form.l1, ↓if_pos, hrd, e1, e2, show ((-1 : Int) < 0) = True from by decide, ↓reduceIte]
     exact h)
    (acc ++ s :: rest, decide (((acc ++ s :: rest).length : Int) ≤ 2000)) (by
     refine ⟨K1 + K2 + 1, fun k hk => ?_⟩
     obtain ⟨m, rfl⟩ : ∃ m, k = m + 1 := ⟨k - 1, by omega⟩
     have h := hnext m (by omega)
     have hws := hws m (by omega)
     dsimp only at h hws ⊢
     have hla : acc.length < 2513169434916 := by omega
     rw [show ((pre.length : Int) + (n : Int)) = ((pre.length + n : Nat) : Int) from by omega]
     have hap : (acc ++ [(⟨-1, 0, (n : Int), ⟨(n : Int), s.f3.f1⟩⟩ : S67)]) = acc ++ [s] := by rw [← hseq]
     by_cases ce : pre.length + n < B.length
     ·obtain ⟨t, ht, hm, hx⟩ := hout ce
      have ht0 : ¬ t.f0 < 0 := fun h0 => hm ⟨by have := ht.width; omega, .inl (by have := ht.width; omega)⟩
      rw [if_neg ht0] at hx
      have hrd := rdB _ _ _ hx
      simp (disch := first | omega | trivial) only [spec_l5Form.l1, ↓if_pos, ↓if_neg, hrd, ↓hws, Option.bind_some, hap, bitsL]
      rw [show (List.map (fun i => bitI s.f3.f1 i) (List.range n)) = bitsL n s.f3.f1 from rfl, hws]
      simp (disch := omega) only [Option.bind_some, ↓if_pos, hap]
      exact h
     ·simp (disch := first | omega | trivial) only [spec_l5Form.l1, ↓if_neg]
      rw [show (List.map (fun i => bitI s.f3.f1 i) (List.range n)) = bitsL n s.f3.f1 from rfl, hws]
      simp (disch := omega) only [Option.bind_some, ↓if_pos, hap]
      exact h)
   obtain ⟨K, h⟩ := loop (n - 1) 1 (by omega) (by omega)
   refine ⟨K + 1, fun k hk => ?_⟩
   obtain ⟨m, rfl⟩ : ∃ m, k = m + 1 := ⟨k - 1, by omega⟩
   have h := h m (by omega)
   dsimp only at h ⊢
   have hx := hin 0 (by omega)
   rw [if_pos c] at hx
   have hrd := rdB _ _ _ hx
   rw [Nat.add_zero] at hrd
   have hbi := bitI_01 s.f3.f1 0
   have e1 : True → wrap64 ((pre.length : Int) + 1) = (pre.length : Int) + ((1 : Nat) : Int) := fun _ => by rw [wrap64_id (by omega) (by omega)]; omega
   have e2 : bitI s.f3.f1 0 % 256 = bitI s.f3.f1 0 := by omega
   simp (disch := first | omega | trivial) only [spec_l5Form.l0, ↓if_pos, hrd, e1, e2, show ((-1 : Int) < 0) = True from by decide, ↓reduceIte]
   exact h
  ·obtain ⟨g1, g2, g3, g4, g5, g6⟩ : 0 ≤ s.f0 ∧ s.f3.f0 = 0 ∧ s.f3.f1 = [] ∧ 0 ≤ s.f1 ∧ 1 ≤ s.f2 ∧ s.f1 + s.f2 ≤ 4096 := by
    rcases hs with h | h
    ·omega
    ·exact h
   have hseq : s = (⟨s.f0, s.f1, (n : Int), ⟨0, []⟩⟩ : S67) := by
    obtain ⟨a, b, c', ⟨d, e⟩⟩ := s
    simp only at g2 g3 hn ⊢
    subst g2 g3 hn
    rfl
   obtain ⟨K2, hnext⟩ := hnext
   have hx0 := hin 0 (by omega)
   rw [if_neg c] at hx0
   have hrd0 := rdB _ _ _ hx0
   rw [Nat.add_zero, show s.f1 + ((0 : Nat) : Int) = s.f1 from by omega] at hrd0
   have hla : acc.length < 2513169434916 := by omega
   have e3 : True → wrap64 (((pre.length + n : Nat) : Int) - (pre.length : Int)) = (n : Int) := fun _ => by rw [wrap64_id (by omega) (by omega)]; omega
   have hap : (acc ++ [(⟨s.f0, s.f1, (n : Int), ⟨0, []⟩⟩ : S67)]) = acc ++ [s] := by rw [← hseq]
   have loop := up_loop (n - 1) (fun _ => ()) (fun k _ j => spec_l5Form.l2 k B acc (pre.length : Int) ((pre.length : Int) + 1 + j))
    (fun j hj r h => by
     obtain ⟨K, h⟩ := h
     refine ⟨K + 1, fun k hk => ?_⟩
     obtain ⟨m, rfl⟩ : ∃ m, k = m + 1 := ⟨k - 1, by omega⟩
     have h := h m (by omega)
     dsimp only at h ⊢
     have hx := hin (j + 1) (by omega)
     rw [if_neg c] at hx
     have hx1 := hin j (by omega)
     rw [if_neg c] at hx1
     have hrd := rdB _ _ _ hx
     have hrd1 := rdB _ _ _ hx1
     have e0 : (pre.length : Int) + 1 + (j : Int) = ((pre.length + (j + 1) : Nat) : Int) := by omega
     have e1 : True → wrap64 (((pre.length + (j + 1) : Nat) : Int) + 1) = (pre.length : Int) + 1 + ((j : Int) + 1) := fun _ => by rw [wrap64_id (by omega) (by omega)]; omega
     have e2 : True → wrap64 (((pre.length + (j + 1) : Nat) : Int) - 1) = ((pre.length + j : Nat) : Int) := fun _ => by rw [wrap64_id (by omega) (by omega)]; omega
     have e4 : True → wrap64 (s.f1 + (j : Int) + 1) = s.f1 + ((j + 1 : Nat) : Int) := fun _ => by rw [wrap64_id (by omega) (by omega)]; omega
     rw [e0]
     simp (disch := first | omega | trivial) only [spec_l5Form.l2, ↓if_pos, hrd, hrd0, e1, e2, hrd1, e4, ↓reduceIte]
     exact h)
    (acc ++ s :: rest, decide (((acc ++ s :: rest).length : Int) ≤ 2000)) (by
     refine ⟨K2 + 1, fun k hk => ?_⟩
     obtain ⟨m, rfl⟩ : ∃ m, k = m + 1 := ⟨k - 1, by omega⟩
     have h := hnext m (by omega)
     dsimp only at h ⊢
     rw [show ((pre.length : Int) + 1 + ((n - 1 : Nat) : Int)) = ((pre.length + n : Nat) : Int) from by omega]
     by_cases ce : pre.length + n < B.length
     ·obtain ⟨t, ht, hm, hx⟩ := hout ce
      have hrd := rdB _ _ _ hx
      have hx1 := hin (n - 1) (by omega)
      rw [if_neg c] at hx1
      have hrd1 := rdB _ _ _ hx1
      have e2 : True → wrap64 (((pre.length + n : Nat) : Int) - 1) = ((pre.length + (n - 1) : Nat) : Int) := fun _ => by rw [wrap64_id (by omega) (by omega)]; omega
      have e4 : True → wrap64 (s.f1 + ((n - 1 : Nat) : Int) + 1) = s.f1 + (n : Int) := fun _ => by rw [wrap64_id (by omega) (by omega)]; omega
      by_cases ct : t.f0 < 0
      ·rw [if_pos ct] at hrd
       simp (disch := first | omega | trivial) only [spec_l5Form.l2, ↓if_pos, ↓if_neg, hrd, hrd0, e3, hap]
       exact h
      ·rw [if_neg ct] at hrd
       by_cases cv : t.f0 = s.f0
       ·have hne : ¬ t.f1 + ((0 : Nat) : Int) = s.f1 + (n : Int) := fun h0 => hm ⟨cv.symm, .inr (by omega)⟩
        simp (disch := first | omega | trivial) only [spec_l5Form.l2, ↓if_pos, ↓if_neg, hrd, hrd0, e2, hrd1, e4, e3, hap]
        exact h
       ·simp (disch := first | omega | trivial) only [spec_l5Form.l2, ↓if_pos, ↓if_neg, hrd, hrd0, e3, hap]
        exact h
     ·simp (disch := first | omega | trivial) only [spec_l5Form.l2, ↓if_pos, ↓if_neg, hrd0, e3, hap]
      exact h)
   obtain ⟨K, h⟩ := loop
   refine ⟨K + 1, fun k hk => ?_⟩
   obtain ⟨m, rfl⟩ : ∃ m, k = m + 1 := ⟨k - 1, by omega⟩
   have h := h m (by omega)
   dsimp only at h ⊢
   have e1 : True → wrap64 ((pre.length : Int) + 1) = (pre.length : Int) + 1 + 0 := fun _ => by rw [wrap64_id (by omega) (by omega)]; omega
   simp (disch := first | omega | trivial) only [spec_l5Form.l0, ↓if_pos, ↓if_neg, hrd0, e1]
   exact h

/-! cloneFlat -/
theorem cloneFlat_ev (f : List S67) (h : Canon f) (hl : f.length ≤ 1048576) : Ev (fun k => impl_cloneFlat.f k f) f := by
 have main := up_loop f.length (filled (fun i => rd_T67 f (i : Int)) (List.replicate f.length z67)) (fun k xs i => impl_cloneFlat.l0 k xs f (f.length : Int) i)
  (fun i hi r hr => by
   obtain ⟨K, hr⟩ := hr
   refine ⟨K + 1, fun k hk => ?_⟩
   obtain ⟨m, rfl⟩ : ∃ m, k = m + 1 := ⟨k - 1, by omega⟩
   have hr := hr m (by omega)
   dsimp only at hr ⊢
   have hs := h.seg _ (rdM_T67 f i hi)
   have hsl : (rd_T67 f (i : Int)).f3.f1.length ≤ 100 := by
    rcases hs with ⟨_, _, h3, _⟩ | ⟨_, _, h3, _⟩
    ·have := h3.len; have := h3.high; omega
    ·rw [h3]; simp
   have hfl : (filled (fun i => rd_T67 f (i : Int)) (List.replicate f.length z67) i).length = f.length := by rw [filled_len _ _ (by simp; omega)]; simp
   rw [← filled_set _ _ (by simpa using hi)] at hr
   have e1 : True → wrap64 ((i : Int) + 1) = (i : Int) + 1 := fun _ => wrap64_id (by omega) (by omega)
   simp (disch := first | omega | trivial) only [impl_cloneFlat.l0, ↓if_pos, impl_cloneBits.f, slices_Clone_uint64_uint64.f, Option.bind_some, hfl, e1, Int.toNat_natCast]
   exact hr)
  f (Ev.step (f := fun _ => some f) (fun k => by
   simp (disch := omega) only [impl_cloneFlat.l0, ↓if_neg]
   rw [filled_all _ _ (by simp)]
   congr 1
   apply List.ext_getElem?
   intro i
   by_cases hi : i < f.length
   ·rw [List.getElem?_map, List.getElem?_range hi, Option.map_some, rdE_T67 f i hi, List.getElem?_eq_getElem hi]
   ·rw [List.getElem?_eq_none (by simp; omega), List.getElem?_eq_none (by omega)]) (Ev.now _))
 rw [filled_zero] at main
 refine Ev.congr (fun k => ?_) main
 unfold impl_cloneFlat.f
 simp (disch := omega) only [↓if_pos, Int.toNat_natCast]

/-! raise -/
theorem segW_const {s : S67} (h : SegW s) (hc : s.f0 = -1) : s.f1 = 0 ∧ Right s.f3.f0 s.f3.f1 ∧ s.f3.f0 = s.f2 := by
 rcases h with ⟨_, h⟩ | ⟨h, _⟩
 ·exact h
 ·omega
theorem segL_over {s t : S67} (hs : SegW s) (ht : SegW t) (h0 : s.f0 = -1) (h1 : t.f0 = -1) (ws : List Int) (hb : ∀ j : Nat, bitN ws j = if (j : Int) < s.f3.f0 then bitN s.f3.f1 j else bitN t.f3.f1 (j - s.f3.f0.toNat)) :
  segL (⟨s.f0, s.f1, s.f2 + t.f2, ⟨s.f3.f0 + t.f3.f0, ws⟩⟩ : S67) = segL s ++ segL t := by
 have hs2 := segW_const hs h0
 have ht2 := segW_const ht h1
 have hw := hs.width
 have hv := ht.width
 have hbi : ∀ j : Nat, bitI ws j = if (j : Int) < s.f3.f0 then bitI s.f3.f1 j else bitI t.f3.f1 (j - s.f3.f0.toNat) := fun j => by
  unfold bitI
  rw [hb j]
  split <;> rfl
 apply List.ext_getElem?
 intro j
 by_cases c : j < s.f2.toNat
 ·rw [List.getElem?_append_left (by rw [segL_len]; exact c), segL_get s j c, segL_get _ j (by show j < (s.f2 + t.f2).toNat; omega)]
  dsimp only
  rw [if_pos (show s.f0 < 0 by omega), if_pos (show s.f0 < 0 by omega), hbi j, if_pos (by omega)]
 ·by_cases c2 : j < (s.f2 + t.f2).toNat
  ·rw [List.getElem?_append_right (by rw [segL_len]; omega), segL_len, segL_get t _ (by omega), segL_get _ j c2]
   dsimp only
   rw [if_pos (show s.f0 < 0 by omega), if_pos (show t.f0 < 0 by omega), hbi j, if_neg (by omega), show s.f3.f0.toNat = s.f2.toNat from by omega]
  ·rw [List.getElem?_eq_none (by rw [segL_len]; show (s.f2 + t.f2).toNat ≤ j; omega), List.getElem?_eq_none (by rw [List.length_append, segL_len, segL_len]; omega)]
theorem segL_line {s t : S67} (hs : SegW s) (ht : SegW t) (h0 : 0 ≤ s.f0) (h1 : s.f0 = t.f0) (h2 : t.f1 = s.f1 + s.f2) :
  segL (⟨s.f0, s.f1, s.f2 + t.f2, s.f3⟩ : S67) = segL s ++ segL t := by
 have hw := hs.width
 have hv := ht.width
 apply List.ext_getElem?
 intro j
 by_cases c : j < s.f2.toNat
 ·rw [List.getElem?_append_left (by rw [segL_len]; exact c), segL_get s j c, segL_get _ j (by show j < (s.f2 + t.f2).toNat; omega)]
 ·by_cases c2 : j < (s.f2 + t.f2).toNat
  ·rw [List.getElem?_append_right (by rw [segL_len]; omega), segL_len, segL_get t _ (by omega), segL_get _ j c2]
   rw [if_neg (by show ¬ s.f0 < 0; omega), if_neg (by omega), h1, show s.f1 + (j : Int) = t.f1 + ((j - s.f2.toNat : Nat) : Int) from by omega]
  ·rw [List.getElem?_eq_none (by rw [segL_len]; show (s.f2 + t.f2).toNat ≤ j; omega), List.getElem?_eq_none (by rw [List.length_append, segL_len, segL_len]; omega)]
theorem sumW_append (f g : List S67) : sumW (f ++ g) = sumW f + sumW g := by
 induction f with
 | nil => show sumW g = 0 + sumW g; omega
 | cons s f ih =>
  show s.f2 + sumW (f ++ g) = s.f2 + sumW f + sumW g
  omega
theorem meets_eq (s t : S67) (hs : SegW s) : impl_Seg_meets.f s.f0 s.f1 s.f2 s.f3.f0 s.f3.f1 t.f0 t.f1 t.f2 t.f3.f0 t.f3.f1 = some true ∧ Meet s t ∨ impl_Seg_meets.f s.f0 s.f1 s.f2 s.f3.f0 s.f3.f1 t.f0 t.f1 t.f2 t.f3.f0 t.f3.f1 = some false ∧ ¬ Meet s t := by
 have hw := hs.width
 unfold impl_Seg_meets.f Meet
 by_cases c : s.f0 = t.f0
 ·rw [if_pos c]
  by_cases c1 : s.f0 = -1
  ·rw [if_pos c1]
   exact .inl ⟨rfl, c, .inl (by omega)⟩
  ·rw [if_neg c1, wrap64_id (by omega) (by omega)]
   by_cases c2 : s.f1 + s.f2 = t.f1
   ·exact .inl ⟨by rw [beq_iff_eq.2 c2], c, .inr c2.symm⟩
   ·exact .inr ⟨by rw [beq_eq_false_iff_ne.2 c2], fun h => h.2.elim (fun h => c1 (by omega)) (fun h => c2 h.symm)⟩
 ·rw [if_neg c]
  exact .inr ⟨rfl, fun h => c h.1⟩
set_option maxHeartbeats 2000000 in
theorem raise_ev (A : List S67) (hA : ∀ s ∈ A, SegW s) (hL : A.length ≤ 1048576) : ∀ d i, A.length - i = d → i ≤ A.length → ∀ F, Canon F → sumW F + sumW (A.drop i) ≤ 4096 → ∃ r, Ev (fun k => impl_raise.l0 k F A (i : Int)) r ∧ Canon r ∧ flatL r = flatL F ++ flatL (A.drop i) ∧ sumW r ≤ 4096 ∧ r.length + i ≤ F.length + A.length := by
 intro d
 induction d with
 | zero =>
  intro i hd hi F hF hs
  rw [List.drop_eq_nil_of_le (by omega)] at hs ⊢
  refine ⟨F, Ev.step (f := fun _ => some F) (fun k => by simp (disch := omega) only [impl_raise.l0, ↓if_neg]) (Ev.now _), hF, by simp [flatL], ?_, by omega⟩
  have h0 : sumW ([] : List S67) = 0 := rfl
  omega
 | succ d ih =>
  intro i hd hi F hF hs
  have hil : i < A.length := by omega
  have hA1 : A.length - (i + 1) = d := by omega
  have hA2 : i + 1 ≤ A.length := hil
  have hwi : wrap64 ((i : Int) + 1) = ((i + 1 : Nat) : Int) := by rw [wrap64_id (by omega) (by omega)]; omega
  have hlen5 : ∀ (r F' : List S67), r.length + (i + 1) ≤ F'.length + A.length → F'.length ≤ F.length + 1 → r.length + i ≤ F.length + A.length := fun r F' h1 h2 => by omega
  obtain ⟨s, hse⟩ : ∃ s, s = rd_T67 A (i : Int) := ⟨_, rfl⟩
  have hsm : s ∈ A := by rw [hse]; exact rdM_T67 A i hil
  have hsw := hA s hsm
  have hwd := hsw.width
  have hdrop : A.drop i = s :: A.drop (i + 1) := by rw [List.drop_eq_getElem_cons hil, hse, rdE_T67 A i hil]
  rw [hdrop] at hs ⊢
  have hs : sumW F + (s.f2 + sumW (A.drop (i + 1))) ≤ 4096 := hs
  have hrest : 0 ≤ sumW (A.drop (i + 1)) := sumW_nonneg fun x hx => by have := (hA x (List.mem_of_mem_drop hx)).width; omega
  have hF0 : 0 ≤ sumW F := sumW_nonneg hF.pos
  have hFl := Canon.count hF.seg
  have hAl : A.length - (i + 1) ≤ 4096 := by
   have := Canon.count (f := A.drop (i + 1)) (fun x hx => hA x (List.mem_of_mem_drop hx))
   rw [List.length_drop] at this
   omega
  have put : ∀ F', Canon F' → flatL F' = flatL F ++ segL s → F'.length ≤ F.length + 1 → ∀ K0 : Nat, (∀ k, K0 ≤ k → ∀ r, impl_raise.l0 k F' A (((i + 1 : Nat) : Int)) = r → impl_raise.l0 (k + 1) F A (i : Int) = r) → ∃ r, Ev (fun k => impl_raise.l0 k F A (i : Int)) r ∧ Canon r ∧ flatL r = flatL F ++ flatL (s :: A.drop (i + 1)) ∧ sumW r ≤ 4096 ∧ r.length + i ≤ F.length + A.length := fun F' hc hf hfl K0 hk => by
   have hsum : sumW F' = sumW F + s.f2 := by
    have h1 := flatL_len hc.pos
    have h2 := flatL_len hF.pos
    rw [hf, List.length_append, segL_len] at h1
    omega
   obtain ⟨r, ⟨K, e1⟩, e2, e3, e4, e5⟩ := ih (i + 1) hA1 hA2 F' hc (by rw [hsum]; exact (by omega : sumW F + s.f2 + sumW (A.drop (i + 1)) ≤ 4096))
   refine ⟨r, ⟨K + K0 + 1, fun k hk2 => ?_⟩, e2, ?_, e4, hlen5 r F' e5 hfl⟩
   ·obtain ⟨m, rfl⟩ : ∃ m, k = m + 1 := ⟨k - 1, by omega⟩
    have e1 := e1 m (by omega)
    dsimp only at e1 ⊢
    exact hk m (by omega) _ e1
   ·rw [e3, hf, List.append_assoc, flatL_cons]
  by_cases c0 : F.length = 0
  ·obtain rfl := List.eq_nil_of_length_eq_zero c0
   refine put [s] (Canon.one hsw) (by simp [flatL]) (by simp) 0 (fun k _ r h => ?_)
   simp (disch := first | omega | trivial) only [impl_raise.l0, ↓if_pos, ← hse, List.length_nil, List.nil_append, ↓reduceIte, hwi]
   exact h
  ·obtain ⟨G, a, rfl⟩ : ∃ G a, F = G ++ [a] := ⟨F.dropLast, F.getLast (fun h => c0 (by rw [h]; rfl)), (List.dropLast_concat_getLast _).symm⟩
   have hlen : (((G ++ [a]).length : Int) - 1) = (G.length : Int) := by simp
   have hlast : rd_T67 (G ++ [a]) (G.length : Int) = a := by
    rw [rdE_T67 (G ++ [a]) G.length (by simp)]; simp
   have hset : ∀ b : S67, (G ++ [a]).set G.length b = G ++ [b] := fun b => by simp
   have ha := hF.seg a (by simp)
   have haw := ha.width
   have hsG : sumW (G ++ [a]) = sumW G + a.f2 := by rw [sumW_append]; show sumW G + (a.f2 + 0) = _; omega
   have hG0 : 0 ≤ sumW G := sumW_nonneg fun x hx => hF.pos x (by simp [hx])
   have hlt : (G ++ [a]).length < 2513169434916 := by omega
   rcases meets_eq a s ha with ⟨em, hm⟩ | ⟨em, hm⟩
   ·by_cases cs : s.f0 = -1
    ·have ca : a.f0 = -1 := by rw [hm.1]; exact cs
     obtain ⟨b1, b2, b3⟩ := segW_const ha ca
     obtain ⟨d1, d2, d3⟩ := segW_const hsw cs
     obtain ⟨ws, ⟨K, eo⟩, hr, hb⟩ := over_ev s.f3.f0 a.f3.f0 s.f3.f1 a.f3.f1 d2 b2 (by omega)
     have hnew : SegW (⟨a.f0, a.f1, a.f2 + s.f2, ⟨s.f3.f0 + a.f3.f0, ws⟩⟩ : S67) := .inl ⟨ca, b1, hr, by show s.f3.f0 + a.f3.f0 = a.f2 + s.f2; omega⟩
     have hflat := segL_over ha hsw ca cs ws (fun j => by rw [hb j])
     rw [Int.add_comm a.f3.f0 s.f3.f0] at hflat
     refine put (G ++ [(⟨a.f0, a.f1, a.f2 + s.f2, ⟨s.f3.f0 + a.f3.f0, ws⟩⟩ : S67)]) (hF.swap hnew rfl rfl) (by rw [flatL_append, flatL_append, flatL_one, flatL_one, hflat, List.append_assoc]) (by simp) K (fun k hk r h => ?_)
     have eo := eo k hk
     dsimp only at eo
     have e1 : True → wrap64 (a.f2 + s.f2) = a.f2 + s.f2 := fun _ => wrap64_id (by omega) (by omega)
     simp (disch := first | omega | trivial) only [impl_raise.l0, ↓if_pos, ↓if_neg, ← hse, hlen, hlast, em, Option.bind_some, ↓reduceIte, eo, e1, Int.toNat_natCast, hset, hwi]
     exact h
    ·obtain ⟨ga, _⟩ | ga := ha
     ·exact absurd (by rw [← hm.1]; exact ga) cs
     ·have hms : s.f1 = a.f1 + a.f2 := hm.2.elim (fun h => absurd h cs) id
      obtain ⟨gs, _⟩ | gs := hsw
      ·exact absurd gs cs
      ·have ha : SegW a := .inr ga
       have hsw : SegW s := .inr gs
       have hnew : SegW (⟨a.f0, a.f1, a.f2 + s.f2, a.f3⟩ : S67) := .inr ⟨ga.1, ga.2.1, ga.2.2.1, ga.2.2.2.1, by show 1 ≤ a.f2 + s.f2; omega, by show a.f1 + (a.f2 + s.f2) ≤ 4096; have := gs.2.2.2.2.2; omega⟩
       refine put (G ++ [(⟨a.f0, a.f1, a.f2 + s.f2, a.f3⟩ : S67)]) (hF.swap hnew rfl rfl) (by rw [flatL_append, flatL_append, flatL_one, flatL_one, segL_line ha hsw ga.1 hm.1 hms, List.append_assoc]) (by simp) 0 (fun k hk r h => ?_)
       have e1 : True → wrap64 (a.f2 + s.f2) = a.f2 + s.f2 := fun _ => wrap64_id (by omega) (by omega)
       simp (disch := first | omega | trivial) only [impl_raise.l0, ↓if_pos, ↓if_neg, ← hse, hlen, hlast, em, Option.bind_some, ↓reduceIte, e1, Int.toNat_natCast, hset, hwi]
       exact h
   ·refine put ((G ++ [a]) ++ [s]) (hF.snoc hsw hm) (by rw [flatL_append, flatL_one]) (by simp) 0 (fun k hk r h => ?_)
    simp (disch := first | omega | trivial) only [impl_raise.l0, ↓if_pos, ↓if_neg, ← hse, hlen, hlast, em, Option.bind_some, ↓reduceIte, Bool.false_eq_true, hwi]
    exact h

/-! partOfSeg -/
theorem part_ev (s : S67) (hs : SegW s) (lo wd : Int) (h0 : 0 ≤ lo) (h1 : 1 ≤ wd) (h2 : lo + wd ≤ s.f2) :
  ∃ p : S67, SegW p ∧ p.f2 = wd ∧ segL p = ((segL s).take (lo + wd).toNat).drop lo.toNat ∧ Ev (fun k => impl_Seg_part.f k s.f0 s.f1 s.f2 s.f3.f0 s.f3.f1 lo wd) (p.f0, p.f1, p.f2, p.f3.f0, p.f3.f1) := by
 have hw := hs.width
 have hget : ∀ p : S67, p.f2 = wd → (∀ j, j < wd.toNat → (segL p)[j]? = (segL s)[lo.toNat + j]?) → segL p = ((segL s).take (lo + wd).toNat).drop lo.toNat := fun p hp h => by
  apply List.ext_getElem?
  intro j
  rw [List.getElem?_drop, List.getElem?_take]
  by_cases c : j < wd.toNat
  ·rw [if_pos (by omega), h j c]
  ·rw [if_neg (by omega), List.getElem?_eq_none (by rw [segL_len]; omega)]
 by_cases c : s.f0 = -1
 ·rcases hs with ⟨_, g2, g3, g4⟩ | h
  ·obtain ⟨ws, ⟨K, e1⟩, hr, hb⟩ := cut_ev s.f3.f0 s.f3.f1 lo wd g3 h0 h1 (by omega)
   refine ⟨⟨-1, 0, wd, ⟨wd, ws⟩⟩, .inl ⟨rfl, rfl, hr, rfl⟩, rfl, hget _ rfl (fun j hj => ?_), ⟨K, fun k hk => ?_⟩⟩
   ·rw [segL_get _ j hj, segL_get s _ (by omega)]
    simp only [c]
    unfold bitI
    rw [hb j (by omega)]
    rfl
   ·have e1 := e1 k hk
    dsimp only at e1 ⊢
    unfold impl_Seg_part.f
    rw [if_pos c, e1]
    rfl
  ·omega
 ·rcases hs with h | ⟨g1, g2, g3, g4, g5, g6⟩
  ·exact absurd h.1 c
  ·refine ⟨⟨s.f0, s.f1 + lo, wd, ⟨0, []⟩⟩, .inr ⟨g1, rfl, rfl, by show 0 ≤ s.f1 + lo; omega, h1, by show s.f1 + lo + wd ≤ 4096; omega⟩, rfl, hget _ rfl (fun j hj => ?_), ⟨0, fun k _ => ?_⟩⟩
   ·rw [segL_get _ j hj, segL_get s _ (by omega), if_neg (by show ¬ s.f0 < 0; omega), if_neg (by omega)]
    rw [show s.f1 + ((lo.toNat + j : Nat) : Int) = s.f1 + lo + (j : Int) from by omega]
   ·dsimp only
    unfold impl_Seg_part.f
    rw [if_neg c, wrap64_id (by omega) (by omega)]

/-! flatPartI -/
theorem flatPart_ev (f : List S67) (hf : Canon f) (hs : sumW f ≤ 4096) (hl : f.length ≤ 2000) (low width : Int) (h0 : 0 ≤ low) (h1 : 1 ≤ width) (h2 : low + width ≤ sumW f) :
  ∃ r, Ev (fun k => impl_flatPart.f k f low width) r ∧ Canon r ∧ flatL r = ((flatL f).take (low + width).toNat).drop low.toNat ∧ r.length ≤ f.length := by
 obtain ⟨l, rfl⟩ := Int.eq_ofNat_of_zero_le h0
 obtain ⟨wd, rfl⟩ := Int.eq_ofNat_of_zero_le (show 0 ≤ width by omega)
 have hF := flatL_len hf.pos
 obtain ⟨⟨out, at_⟩, ⟨i1, i2, i3, i4⟩, hr⟩ := inv_loop f.length (fun i (p : List S67 × Int) => Canon p.1 ∧ p.2 = ((flatL (f.take i)).length : Int) ∧ flatL p.1 = ((flatL (f.take i)).take (l + wd)).drop l ∧ p.1.length ≤ i)
  (fun k p i => impl_flatPart.l0 k f (l : Int) (wd : Int) p.1 p.2 i)
  (fun i hi p ⟨q1, q2, q3, q4⟩ => by
   obtain ⟨out, at_⟩ := p
   dsimp only at q1 q2 q3 q4 ⊢
   obtain ⟨s, hse⟩ : ∃ s, s = rd_T67 f (i : Int) := ⟨_, rfl⟩
   have hsw := hf.seg s (by rw [hse]; exact rdM_T67 f i hi)
   have hwd := hsw.width
   have hnx := flatL_take hi
   rw [← hse] at hnx
   have hle : (flatL (f.take (i + 1))).length ≤ (flatL f).length := by
    rw [show flatL f = flatL (f.take (i + 1)) ++ flatL (f.drop (i + 1)) from by rw [← flatL_append, List.take_append_drop], List.length_append]
    omega
   obtain ⟨X, hX⟩ : ∃ X, X = flatL (f.take i) := ⟨_, rfl⟩
   rw [hnx, ← hX]
   rw [hnx, ← hX, List.length_append, segL_len] at hle
   rw [← hX] at q2 q3
   have e1 : True → wrap64 ((i : Int) + 1) = (i : Int) + 1 := fun _ => wrap64_id (by omega) (by omega)
   have e2 : True → wrap64 (at_ + s.f2) = at_ + s.f2 := fun _ => wrap64_id (by omega) (by omega)
   have e3 : True → wrap64 ((l : Int) + (wd : Int)) = (l : Int) + (wd : Int) := fun _ => wrap64_id (by omega) (by omega)
   have hat : at_ + s.f2 = ((X ++ segL s).length : Int) := by rw [List.length_append, segL_len]; omega
   obtain ⟨fr, hfr⟩ : ∃ fr, fr = mx (l : Int) at_ := ⟨_, rfl⟩
   obtain ⟨tz, hto⟩ : ∃ tz, tz = mn ((l : Int) + (wd : Int)) (at_ + s.f2) := ⟨_, rfl⟩
   have hfr2 : (fr = l ∧ at_ ≤ l) ∨ (fr = at_ ∧ (l : Int) < at_) := by unfold mx at hfr; split at hfr <;> omega
   have hto2 : (tz = (l : Int) + wd ∧ (l : Int) + wd ≤ at_ + s.f2) ∨ (tz = at_ + s.f2 ∧ at_ + s.f2 < (l : Int) + wd) := by unfold mn at hto; split at hto <;> omega
   by_cases c : fr < tz
   ·obtain ⟨p, p1, p2, p3, K1, p4⟩ := part_ev s hsw (fr - at_) (tz - fr) (by omega) (by omega) (by omega)
    have hsumo : sumW out ≤ X.length := by
     have h1 := flatL_len q1.pos
     rw [q3] at h1
     have h2 : (((X.take (l + wd)).drop l).length) ≤ X.length := by simp; omega
     omega
    obtain ⟨o, ⟨K2, o1⟩, o2, o3, o4, o5⟩ := raise_ev [p] (fun x hx => by rw [List.mem_singleton.1 hx]; exact p1) (by simp) 1 0 (by simp) (by simp) out q1 (by
     have : sumW ([p].drop 0) = p.f2 + 0 := rfl
     omega)
    refine ⟨(o, at_ + s.f2), ⟨o2, hat, ?_, (by show o.length ≤ i + 1; have q5 : out.length ≤ i := q4; have o6 : o.length + 0 ≤ out.length + 1 := o5; omega)⟩, fun r h => ?_⟩
    ·rw [o3, List.drop_zero, flatL_one, p3, q3, List.take_append, List.drop_append]
     congr 1
     apply List.ext_getElem?
     intro j
     rw [List.getElem?_drop, List.getElem?_drop, List.getElem?_take, List.getElem?_take, List.length_take]
     by_cases cj : (fr - at_).toNat + j < s.f2.toNat
     ·have e5 : l - min (l + wd) X.length = (fr - at_).toNat := by omega
      rw [e5]
      by_cases cj2 : (fr - at_).toNat + j < (fr - at_ + (tz - fr)).toNat
      ·rw [if_pos cj2, if_pos (by omega)]
      ·rw [if_neg cj2, if_neg (by omega)]
     ·have e5 : l - min (l + wd) X.length = (fr - at_).toNat := by omega
      rw [e5, List.getElem?_eq_none (l := segL s) (by rw [segL_len]; omega)]
      simp
    ·obtain ⟨K, h⟩ := h
     refine ⟨K + K1 + K2 + 1, fun k hk => ?_⟩
     obtain ⟨m, rfl⟩ : ∃ m, k = m + 1 := ⟨k - 1, by omega⟩
     have h := h m (by omega)
     have p4 := p4 m (by omega)
     have o1 : impl_raise.f m out [p] = some o := o1 m (by omega)
     have e6 : True → wrap64 (fr - at_) = fr - at_ := fun _ => wrap64_id (by omega) (by omega)
     have e7 : True → wrap64 (tz - fr) = tz - fr := fun _ => wrap64_id (by omega) (by omega)
     have hpe : (⟨p.f0, p.f1, p.f2, ⟨p.f3.f0, p.f3.f1⟩⟩ : S67) = p := rfl
     dsimp only at h p4 ⊢
     simp (disch := first | omega | trivial) only [impl_flatPart.l0, ↓if_pos, ← hse, e1, e2, e3, ← hfr, ← hto, e6, e7, p4, Option.bind_some, hpe, o1]
     exact h
   ·refine ⟨(out, at_ + s.f2), ⟨q1, hat, ?_, (by show out.length ≤ i + 1; have q5 : out.length ≤ i := q4; omega)⟩, fun r h => ?_⟩
    ·rw [q3, List.take_append, List.drop_append]
     have : (((segL s).take (l + wd - X.length)).drop (l - (X.take (l + wd)).length)) = [] := by
      apply List.drop_eq_nil_of_le
      rw [List.length_take, List.length_take, segL_len]
      omega
     rw [this, List.append_nil]
    ·obtain ⟨K, h⟩ := h
     refine ⟨K + 1, fun k hk => ?_⟩
     obtain ⟨m, rfl⟩ : ∃ m, k = m + 1 := ⟨k - 1, by omega⟩
     have h := h m (by omega)
     dsimp only at h ⊢
     simp (disch := first | omega | trivial) only [impl_flatPart.l0, ↓if_pos, ↓if_neg, ← hse, e1, e2, e3, ← hfr, ← hto]
     exact h)
  ([], 0) ⟨Canon.nil, by simp [flatL], by simp [flatL], by simp⟩
 rw [List.take_length] at i2 i3
 dsimp only at i1 i2 i3 i4
 refine ⟨out, ?_, i1, by rw [i3, show ((l : Int) + (wd : Int)).toNat = l + wd from by omega, Int.toNat_natCast], i4⟩
 have := hr out (Ev.step (f := fun _ => some out) (fun k => by simp (disch := omega) only [impl_flatPart.l0, ↓if_neg]) (Ev.now _))
 exact Ev.congr (fun k => rfl) this

/-! flatPart -/
theorem SegW.up2 {s : S67} (h : SegW s) : UpI_Seg 1048576 s := by
 have : s.f3.f1.length ≤ 100 := by
  rcases h with ⟨_, _, h3, _⟩ | ⟨_, _, h3, _⟩
  ·have := h3.len; have := h3.high; omega
  ·rw [h3]; simp
 unfold UpI_Seg UpI_Bits
 omega
theorem flatPart_agree (l : List S64) (f : List S67) (hi lo : Int) (U0 : (l.length : Int) ≤ 1048576 ∧ ∀ y ∈ l, UpI_Decl 1048576 y) (W0 : ∀ y ∈ l, WfI_Decl y) (U1 : (f.length : Int) ≤ 1048576 ∧ ∀ y ∈ f, UpI_Seg 1048576 y) (W1 : ∀ y ∈ f, WfI_Seg y) (W2 : (-9223372036854775808 ≤ hi ∧ hi ≤ 9223372036854775807)) (W3 : (-9223372036854775808 ≤ lo ∧ lo ≤ 9223372036854775807)) :
  ∃ (y0 : List S67) (y1 : Bool), Ev (fun k => spec_FlatPart.f k l f hi lo) (y0, y1) ∧ Ev (fun k => impl_FlatPart.f k l f hi lo) (y0, y1) ∧ ((y0.length : Int) ≤ 1048576 ∧ ∀ y ∈ y0, UpI_Seg 1048576 y) := by
 have hnil : ((([] : List S67).length : Int) ≤ 1048576 ∧ ∀ y ∈ ([] : List S67), UpI_Seg 1048576 y) := ⟨by simp, fun y hy => by cases hy⟩
 obtain ⟨z, g1, g2, g3⟩ := flat_core l f (upDecl U0) (by omega) (upSeg U1 W1)
 obtain ⟨K1, h1⟩ := Ev.binds g1
 obtain ⟨K2, h2⟩ := Ev.binds g2
 cases z with
 | false =>
  refine ⟨[], false, ⟨K1 + 1, fun k hk => ?_⟩, ⟨K2 + 1, fun k hk => ?_⟩, hnil⟩
  ·simp (disch := omega) only [spec_FlatPart.f, ↓h1, ↓reduceIte, Bool.false_eq_true]
  ·obtain ⟨m, rfl⟩ : ∃ m, k = m + 1 := ⟨k - 1, by omega⟩
   simp (disch := omega) only [impl_FlatPart.f, ↓h2, ↓reduceIte, Bool.false_eq_true, impl_FlatPart.j0]
 | true =>
  obtain ⟨hg, hf⟩ := g3 rfl
  have c1 := hf.canon hg
  have s1 := hf.sum
  have l1 := hf.len
  have n1 := flatL_len c1.pos
  have p1 := sumW_nonneg c1.pos
  obtain ⟨K3, b1⟩ := Ev.binds (l5Bits_ev f c1.seg (by omega))
  obtain ⟨K4, w1⟩ := Ev.binds (flatWidth_ev f c1.pos (by omega) (by omega))
  by_cases ca : lo < 0
  ·refine ⟨[], false, ⟨K1 + K3 + 1, fun k hk => ?_⟩, ⟨K2 + 1, fun k hk => ?_⟩, hnil⟩
   ·simp (disch := omega) only [spec_FlatPart.f, ↓h1, ↓b1, ↓reduceIte, ↓if_pos]
   ·obtain ⟨m, rfl⟩ : ∃ m, k = m + 1 := ⟨k - 1, by omega⟩
    simp (disch := omega) only [impl_FlatPart.f, ↓h2, ↓reduceIte, ↓if_pos, impl_FlatPart.j0]
  ·by_cases cb : hi < lo
   ·refine ⟨[], false, ⟨K1 + K3 + 1, fun k hk => ?_⟩, ⟨K2 + 1, fun k hk => ?_⟩, hnil⟩
    ·simp (disch := omega) only [spec_FlatPart.f, ↓h1, ↓b1, ↓reduceIte, ↓if_pos, ↓if_neg]
    ·obtain ⟨m, rfl⟩ : ∃ m, k = m + 1 := ⟨k - 1, by omega⟩
     simp (disch := omega) only [impl_FlatPart.f, ↓h2, ↓reduceIte, ↓if_pos, ↓if_neg, impl_FlatPart.j0]
   ·by_cases cc : hi ≥ sumW f
    ·have dc : decide (hi ≥ sumW f) = true := decide_eq_true cc
     refine ⟨[], false, ⟨K1 + K3 + 1, fun k hk => ?_⟩, ⟨K2 + K4 + 1, fun k hk => ?_⟩, hnil⟩
     ·simp (disch := omega) only [spec_FlatPart.f, ↓h1, ↓b1, ↓reduceIte, ↓if_pos, ↓if_neg]
     ·obtain ⟨m, rfl⟩ : ∃ m, k = m + 1 := ⟨k - 1, by omega⟩
      simp (disch := omega) only [impl_FlatPart.f, ↓h2, ↓reduceIte, ↓if_neg, ↓w1, dc, impl_FlatPart.j0]
    ·have dc : decide (hi ≥ sumW f) = false := decide_eq_false cc
     obtain ⟨r, e1, c2, f2, l2⟩ := flatPart_ev f c1 s1 l1 lo (hi - lo + 1) (by omega) (by omega) (by omega)
     have ew1 : True → wrap64 (hi + 1) = hi + 1 := fun _ => wrap64_id (by omega) (by omega)
     have ew2 : True → wrap64 (wrap64 (hi - lo) + 1) = hi - lo + 1 := fun _ => by rw [wrap64_id (x := hi - lo) (by omega) (by omega), wrap64_id (by omega) (by omega)]
     rw [show lo + (hi - lo + 1) = hi + 1 from by omega] at f2
     obtain ⟨K5, r1⟩ := Ev.binds e1
     obtain ⟨K6, q1⟩ := Ev.binds (cloneFlat_ev r c2 (by omega))
     have hbl : (((flatL f).take (hi + 1).toNat).drop lo.toNat).length ≤ 8192 := by simp; omega
     have hform := l5Form_ev (((flatL f).take (hi + 1).toNat).drop lo.toNat) hbl r [] [] c2 (by rw [f2]; rfl) (by simp; omega)
     obtain ⟨K7, q3⟩ := Ev.binds (show Ev (fun k => spec_l5Form.f k (((flatL f).take (hi + 1).toNat).drop lo.toNat)) (r, decide ((r.length : Int) ≤ 2000)) from hform)
     have dr : decide ((r.length : Int) ≤ 2000) = true := decide_eq_true (by omega)
     refine ⟨r, true, ⟨K1 + K3 + K7 + 1, fun k hk => ?_⟩, ⟨K2 + K4 + K5 + K6 + 1, fun k hk => ?_⟩, ⟨by omega, fun y hy => (c2.seg y hy).up2⟩⟩
     ·simp (disch := first | omega | trivial) only [spec_FlatPart.f, ↓h1, ↓b1, ↓reduceIte, ↓if_pos, ↓if_neg, ew1, ↓q3, dr]
     ·obtain ⟨m, rfl⟩ : ∃ m, k = m + 1 := ⟨k - 1, by omega⟩
      simp (disch := first | omega | trivial) only [impl_FlatPart.f, ↓h2, ↓reduceIte, ↓if_neg, ↓w1, dc, impl_FlatPart.j0, Bool.false_eq_true, ew2, ↓r1, ↓q1]
-- SAYS: The program's FlatPart answers as the reference's FlatPart does, for all arguments.
theorem FnExactFlatPart (l0 : List S55) (l1 : List S59) (a2 : Int) (a3 : Int) (q0 : ∀ x ∈ l0, x.f0.size ≤ maxLen ∧ (Lit.int .i64 x.f1).wf = true) (hl0 : l0.length ≤ 9223372036854775807) (q1 : ∀ x ∈ l1, (Lit.int .i64 x.f0).wf = true ∧ (Lit.int .i64 x.f1).wf = true ∧ (Lit.int .i64 x.f2).wf = true ∧ (Lit.int .i64 x.f3.f0).wf = true ∧ (x.f3.f1.length ≤ 9223372036854775807 ∧ ∀ y0 ∈ x.f3.f1, (Lit.int .u64 y0).wf = true)) (hl1 : l1.length ≤ 9223372036854775807) (q2 : (Lit.int .i64 a2).wf = true) (q3 : (Lit.int .i64 a3).wf = true) : ∃ k, laws_FnExactFlatPart.f k l0 l1 a2 a3 = some true := by
 obtain ⟨r0, g0, hb0⟩ := sz_DeclS l0 1048576 (⟨Int.ofNat_le.2 (And.intro hl0 q0).1, fun y hy => in_Decl y ((And.intro hl0 q0).2 y hy)⟩) (by omega) (by omega)
 obtain ⟨Ks0, s0⟩ := Ev.binds (g0)
 rcases hb0 with hneg | ⟨p0, z0, u0⟩
 ·have c0 := eq_true hneg
  exact ⟨Ks0 + 1 + 1 + 1 + 1, by simp (disch := omega) only [laws_FnExactFlatPart.f, ↓s0, ↓reduceIte, c0]⟩
 have c0 := eq_false (show ¬ r0 < 0 by omega)
 obtain ⟨r1, g1, hb1⟩ := sz_SegS l1 r0 (⟨Int.ofNat_le.2 (And.intro hl1 q1).1, fun y hy => in_Seg y ((And.intro hl1 q1).2 y hy)⟩) (by omega) (by omega)
 obtain ⟨Ks1, s1⟩ := Ev.binds (g1)
 rcases hb1 with hneg | ⟨p1, z1, u1⟩
 ·have c1 := eq_true hneg
  exact ⟨Ks0 + Ks1 + 1 + 1 + 1 + 1, by simp (disch := omega) only [laws_FnExactFlatPart.f, ↓s0, ↓s1, ↓reduceIte, c0, c1]⟩
 have c1 := eq_false (show ¬ r1 < 0 by omega)
 have U0 : (((l0.map cv_Decl).length : Int) ≤ 1048576 ∧ ∀ y ∈ (l0.map cv_Decl), UpI_Decl 1048576 y) := ⟨by simpa using u0.1, fun y hy => by obtain ⟨z, hz, rfl⟩ := List.mem_map.1 hy; exact upcv_Decl _ z (u0.2 z hz)⟩
 have W0 : (∀ y ∈ (l0.map cv_Decl), WfI_Decl y) := (fun y hy => by obtain ⟨z, hz, rfl⟩ := List.mem_map.1 hy; exact wf_Decl z ((And.intro hl0 q0).2 z hz))
 have U1 : (((l1.map cv_Seg).length : Int) ≤ 1048576 ∧ ∀ y ∈ (l1.map cv_Seg), UpI_Seg 1048576 y) := ⟨by simpa using u1.1, fun y hy => by obtain ⟨z, hz, rfl⟩ := List.mem_map.1 hy; exact upcv_Seg _ z (u1.2 z hz)⟩
 have W1 : (∀ y ∈ (l1.map cv_Seg), WfI_Seg y) := (fun y hy => by obtain ⟨z, hz, rfl⟩ := List.mem_map.1 hy; exact wf_Seg z ((And.intro hl1 q1).2 z hz))
 have W2 : (-9223372036854775808 ≤ a2 ∧ a2 ≤ 9223372036854775807) := (wf_i64 q2)
 have W3 : (-9223372036854775808 ≤ a3 ∧ a3 ≤ 9223372036854775807) := (wf_i64 q3)
 obtain ⟨y0, y1, e1, e2, v0⟩ := flatPart_agree ((l0.map cv_Decl)) ((l1.map cv_Seg)) a2 a3 U0 W0 U1 W1 W2 W3
 obtain ⟨Kt0, t0⟩ := Ev.binds (to_DeclS l0 u0)
 obtain ⟨Kt1, t1⟩ := Ev.binds (to_SegS l1 u1)
 obtain ⟨Khs, hs⟩ := Ev.binds (e1)
 obtain ⟨Khi, hi⟩ := Ev.binds (e2)
 obtain ⟨Ke0_, e0_⟩ := Ev.binds (eq_DeclS ((l0.map cv_Decl)) U0)
 obtain ⟨Ke1_, e1_⟩ := Ev.binds (eq_SegS ((l1.map cv_Seg)) U1)
 obtain ⟨Kf0_, f0_⟩ := Ev.binds (eq_SegS y0 v0)
 obtain ⟨m0, n0_0, g0_, o0, w0⟩ := mark_DeclS ((l0.map cv_Decl)) U0 1 (by omega) (by omega)
 obtain ⟨Kk0_, k0_⟩ := Ev.binds (g0_)
 obtain ⟨m1, n1_0, g1_, o1, w1, _⟩ := mark_SegS ((l1.map cv_Seg)) U1 m0 (by omega) (by omega)
 obtain ⟨Kk1_, k1_⟩ := Ev.binds (g1_)
 have cm := eq_false (show ¬ m1 < 0 by omega)
 obtain ⟨M0, N0_0, G0_, O0, A0, H0_⟩ := mark_SegS y0 v0 1 (by omega) (by omega)
 obtain ⟨Kx0_, x0_⟩ := Ev.binds (G0_)
 obtain ⟨Kz0_, z0_⟩ := Ev.binds (H0_)
 have cn0 := eq_false (show ¬ M0 < 0 by omega)
 exact ⟨Ks0 + Ks1 + Kt0 + Kt1 + Khs + Khi + Ke0_ + Ke1_ + Kf0_ + Kk0_ + Kk1_ + Kx0_ + Kz0_ + 1 + 1 + 1 + 1, by simp (disch := omega) only [laws_FnExactFlatPart.f, ↓s0, ↓s1, ↓t0, ↓t1, ↓hs, ↓hi, ↓e0_, ↓e1_, ↓f0_, ↓k0_, ↓k1_, ↓x0_, ↓z0_, ↓reduceIte, c0, c1, cm, cn0, bne_self_eq_false, Bool.false_eq_true, Bool.not_true, Bool.not_false]⟩

end Go.Proofs.Ytjnmenadlnajeaa.Pure
